import PyProof.Rows.All
import Wide.All
import OpenK.AllK
import Wide.FinOn
import HandS.ForMost
import HandS.Flow
import HandS.HotCalls
import HandS.CallSlots
import HandS.Deep
import HandS.Ends
import HandS.EndBits
import HandS.TupAny
import HandS.IsInst
import KE.SortData
import KE.DataEq
import KE.DataCmp
import KE.DataIsa
import HandS.Conv
import HandS.TupMul
import HandS.Style
import HandS.Strs
import HandS.Text
import HandS.Iter
import KE.GoesEnum
import KE.GoesDict
import KE.GoesMore
import KE.GoesNew
import HandS.Zip
import KE.KDictWalk
import HandS.NoneIn
import KE.KDictCopyH
import HandS.Rev
import HandS.More
import KE.KDictSum
import KE.KDictList
import PyProof.ReprReads
import HandS.Hot
import HandS.ExcIs
import KE.GoesComp
import KE.KRevSl
import KE.DatumOrd
import PySem.Challenge.RW_laurelhall_k78_whole_lots_and_draws
set_option Elab.async false
set_option linter.all false
set_option maxRecDepth 100000
namespace DL
open PySem PySem.Spec PyProof.Rows L2

/-! ### data -/
abbrev D := PyData
/-- a slot: unset; data; a list or dict of the frame's own; one that the caller has handed in to be changed -/
inductive Sl where
  | un | sh (d : D) | ow (d : D) | io (d : D)
abbrev Sv := List Sl
inductive R (α : Type) where
  | ok (a : α) | exn (c : Str) (x : D) (s : Sv) | bad
def R.bind {α β : Type} (r : R α) (k : α → R β) : R β := match r with
  | .ok a => k a
  | .exn c x s => .exn c x s
  | .bad => .bad
@[simp] theorem R.ok_bind {α β : Type} (a : α) (k : α → R β) : (R.ok a).bind k = k a := (rfl)
@[simp] theorem R.exn_bind {α β : Type} (c : Str) (x : D) (s : Sv) (k : α → R β) : (R.exn c x s).bind k = .exn c x s := (rfl)
@[simp] theorem R.bad_bind {α β : Type} (k : α → R β) : (R.bad).bind k = .bad := (rfl)
def R.lift {α : Type} (o : Option α) (s : Sv) : R (α × Sv) := match o with
  | some d => .ok (d, s)
  | none => .bad
@[simp] theorem R.lift_some {α : Type} (d : α) (s : Sv) : R.lift (some d) s = .ok (d, s) := (rfl)
@[simp] theorem R.lift_none {α : Type} (s : Sv) : R.lift (none : Option α) s = .bad := (rfl)

/-! ### what data a value stands for -/
/-- the heap without the addresses O -/
def Fz (O : List Addr) (H : Hp) : Hp := fun b => if b ∈ O then none else H b
theorem Fz.in {O : List Addr} {H : Hp} {a : Addr} (h : a ∈ O) : Fz O H a = none := if_pos h
theorem Fz.out {O : List Addr} {H : Hp} {a : Addr} (h : a ∉ O) : Fz O H a = H a := if_neg h
theorem Fz.le (O : List Addr) (H : Hp) : Same (Fz O H) H := fun a o h => by
  by_cases ha : a ∈ O
  · rw [Fz.in ha] at h; cases h
  · rw [Fz.out ha] at h; exact h
theorem Fz.get {O : List Addr} {H : Hp} {a : Addr} {o : HO} (h : Fz O H a = some o) : a ∉ O ∧ H a = some o := by
  by_cases ha : a ∈ O
  · rw [Fz.in ha] at h; cases h
  · rw [Fz.out ha] at h; exact ⟨ha, h⟩
theorem Fz.mono {O O' : List Addr} {H H' : Hp} (hO : ∀ a, a ∈ O' → a ∈ O) (h : ∀ a o, a ∉ O → H a = some o → H' a = some o) : Same (Fz O H) (Fz O' H') := fun a o e => by
  obtain ⟨n, e⟩ := Fz.get e
  rw [Fz.out fun z => n (hO a z)]
  exact h a o n e
theorem Fz.same {O : List Addr} {H H' : Hp} (h : Same H H') : Same (Fz O H) (Fz O H') := Fz.mono (fun _ z => z) fun a o _ e => h a o e

/-- a dict's content: hash, key, value -/
abbrev Ent := Int × V × V
def DcOk (a : Addr) (es : List Ent) (h : Heap) : Prop := (a == sysModules) = false ∧ es.length ≤ sizeLine ∧ ∃ o xs ep, h.get? a = some o ∧ o.ExactDict ∧ o.data = .dict xs ep ∧
  Paired (fun (e : Ent) (x : DictEntry) => x.hash = e.1 ∧ RelV e.2.1 x.key ∧ RelV e.2.2 x.val) es xs.toList
def dcO (a : Addr) (es : List Ent) : HO := .ext (DcOk a es)

mutual
def hashD (w : World) : D → Int
  | .int i => hashInt i
  | .str x => hashStr w x
  | .tuple ds => reduceHash (Builtin.Tuple.tupleHashOf (hashL w ds))
  | .none => reduceHash 0xFCA86420
  | .bool true => 1
  | _ => 0
def hashL (w : World) : List D → List Int
  | [] => []
  | d :: ds => hashD w d :: hashL w ds
end

/-- a tuple, nothing hangs on it -/
def SqN (K : PySem.W.Frag) (H : Hp) (a : Addr) (xs : List V) : Prop := (∃ o, H a = some (.frz o (.tup xs)) ∧ o.dict = none) ∨
  ∃ (o : Obj) (its : Array Value) (n : Nat), K.lookup a = some o ∧ o.cls = .type "tuple" ∧ o.dict = none ∧ o.data = .seq its n ∧ its.size ≤ sizeLine ∧ Vals xs its.toList
theorem SqN.seq {K : PySem.W.Frag} {H : Hp} {a : Addr} {xs : List V} (h : SqN K H a xs) : SqT K H a xs := by
  rcases h with ⟨o, h, _⟩ | ⟨o, its, n, h1, h2, _, h3, h4, h5⟩
  · exact .inl (.inr ⟨o, h⟩)
  · exact .inr ⟨o, its, n, h1, h2, h3, h4, h5⟩
section
variable (K : PySem.W.Frag) (w : World) (H : Hp)
mutual
def Den : D → V → Prop
  | .none, v => v = .non
  | .bool b, v => v = .bl b
  | .int i, v => v = .int i
  | .str x, v => v = .str x
  | .tuple ds, v => ∃ a vs, v = .ref a ∧ SqN K H a vs ∧ DenL ds vs
  | .list ds, v => ∃ a vs, v = .ref a ∧ Rd H a (.lst vs) ∧ DenL ds vs
  | .dict kvs, v => ∃ a o es, v = .ref a ∧ H a = some (.frz o (dcO a es)) ∧ DenP kvs es
def DenL : List D → List V → Prop
  | [], vs => vs = []
  | d :: ds, vs => ∃ v r, vs = v :: r ∧ Den d v ∧ DenL ds r
def DenP : List (D × D) → List Ent → Prop
  | [], es => es = []
  | p :: ps, es => ∃ e r, es = e :: r ∧ DenQ p e ∧ DenP ps r
def DenQ : D × D → Ent → Prop
  | (k, d), e => e.1 = hashD w k ∧ Den k e.2.1 ∧ Den d e.2.2
end
/-- what a changeable object holds -/
def Cont (a : Addr) (u : HO) : D → Prop
  | .list ds => ∃ vs, u = .lst vs ∧ DenL K w H ds vs
  | .dict kvs => ∃ es, u = dcO a es ∧ DenP K w H kvs es
  | _ => False
end

section
variable {K : PySem.W.Frag} {w : World} {H H' : Hp}
theorem rd_mono {a : Addr} {u : HO} (e : Same H H') (h : Rd H a u) : Rd H' a u := by
  rcases h with h | ⟨o, h⟩
  · exact .inl (e _ _ h)
  · exact .inr ⟨o, e _ _ h⟩
theorem sqt_mono {a : Addr} {xs : List V} (e : Same H H') (h : SqT K H a xs) : SqT K H' a xs := by
  rcases h with (h | ⟨o, h⟩) | h
  · exact .inl (.inl (e _ _ h))
  · exact .inl (.inr ⟨o, e _ _ h⟩)
  · exact .inr h
theorem sqn_mono {a : Addr} {xs : List V} (e : Same H H') (h : SqN K H a xs) : SqN K H' a xs := h.imp (fun ⟨o, h1, h2⟩ => ⟨o, e _ _ h1, h2⟩) fun h => h
mutual
theorem Den.mono (e : Same H H') : ∀ (d : D) (v : V), Den K w H d v → Den K w H' d v
  | .none, _, h => h
  | .bool _, _, h => h
  | .int _, _, h => h
  | .str _, _, h => h
  | .tuple ds, _, ⟨a, vs, h1, h2, h3⟩ => ⟨a, vs, h1, sqn_mono e h2, DenL.mono e ds vs h3⟩
  | .list ds, _, ⟨a, vs, h1, h2, h3⟩ => ⟨a, vs, h1, rd_mono e h2, DenL.mono e ds vs h3⟩
  | .dict kvs, _, ⟨a, o, es, h1, h2, h3⟩ => ⟨a, o, es, h1, e _ _ h2, DenP.mono e kvs es h3⟩
theorem DenL.mono (e : Same H H') : ∀ (ds : List D) (vs : List V), DenL K w H ds vs → DenL K w H' ds vs
  | [], _, h => h
  | d :: ds, _, ⟨v, r, h1, h2, h3⟩ => ⟨v, r, h1, Den.mono e d v h2, DenL.mono e ds r h3⟩
theorem DenP.mono (e : Same H H') : ∀ (ds : List (D × D)) (vs : List Ent), DenP K w H ds vs → DenP K w H' ds vs
  | [], _, h => h
  | p :: ps, _, ⟨v, r, h1, h2, h3⟩ => ⟨v, r, h1, DenQ.mono e p v h2, DenP.mono e ps r h3⟩
theorem DenQ.mono (e : Same H H') : ∀ (p : D × D) (v : Ent), DenQ K w H p v → DenQ K w H' p v
  | (k, d), _, ⟨h1, h2, h3⟩ => ⟨h1, Den.mono e k _ h2, Den.mono e d _ h3⟩
end
theorem Cont.mono (e : Same H H') {a : Addr} {u : HO} : ∀ {d : D}, Cont K w H a u d → Cont K w H' a u d
  | .list ds, ⟨vs, h1, h2⟩ => ⟨vs, h1, DenL.mono e ds vs h2⟩
  | .dict kvs, ⟨es, h1, h2⟩ => ⟨es, h1, DenP.mono e kvs es h2⟩
theorem Cont.mut {a : Addr} {u : HO} : ∀ {d : D}, Cont K w H a u d → Mut (some u)
  | .list ds, ⟨vs, h1, h2⟩ => by subst h1; exact True.intro
  | .dict kvs, ⟨es, h1, h2⟩ => by subst h1; exact True.intro

theorem DenL.length : ∀ {ds : List D} {vs : List V}, DenL K w H ds vs → vs.length = ds.length
  | [], _, h => by cases (show _ = [] from h); rfl
  | d :: ds, _, ⟨v, r, h1, _, h3⟩ => by subst h1; simp [DenL.length h3]
theorem DenL.nil : DenL K w H [] [] := rfl
theorem DenL.cons {d : D} {ds : List D} {v : V} {vs : List V} (h : Den K w H d v) (t : DenL K w H ds vs) : DenL K w H (d :: ds) (v :: vs) := ⟨v, vs, rfl, h, t⟩
theorem DenL.append : ∀ {ds es : List D} {vs us : List V}, DenL K w H ds vs → DenL K w H es us → DenL K w H (ds ++ es) (vs ++ us)
  | [], _, _, _, h, t => by cases (show _ = [] from h); exact t
  | d :: ds, _, _, _, ⟨v, r, h1, h2, h3⟩, t => by subst h1; exact .cons h2 (DenL.append h3 t)
theorem DenL.get : ∀ {ds : List D} {vs : List V} {i : Nat} {d : D}, DenL K w H ds vs → ds[i]? = some d → ∃ v, vs[i]? = some v ∧ Den K w H d v
  | d :: ds, _, 0, _, ⟨v, r, h1, h2, _⟩, e => by subst h1; cases e; exact ⟨v, rfl, h2⟩
  | d :: ds, _, i + 1, _, ⟨v, r, h1, _, h3⟩, e => by subst h1; exact DenL.get (i := i) h3 e
theorem DenL.get' : ∀ {ds : List D} {vs : List V} {i : Nat} {v : V}, DenL K w H ds vs → vs[i]? = some v → ∃ d, ds[i]? = some d ∧ Den K w H d v
  | [], _, i, _, h, e => by cases (show _ = [] from h); simp at e
  | d :: ds, _, 0, _, ⟨v, r, h1, h2, _⟩, e => by subst h1; cases e; exact ⟨d, rfl, h2⟩
  | d :: ds, _, i + 1, _, ⟨v, r, h1, _, h3⟩, e => by subst h1; exact DenL.get' (i := i) h3 e
theorem DenL.take : ∀ (n : Nat) {ds : List D} {vs : List V}, DenL K w H ds vs → DenL K w H (ds.take n) (vs.take n)
  | 0, _, _, _ => rfl
  | n + 1, [], _, h => by cases (show _ = [] from h); exact rfl
  | n + 1, d :: ds, _, ⟨v, r, h1, h2, h3⟩ => by subst h1; exact .cons h2 (DenL.take n h3)
theorem DenL.drop : ∀ (n : Nat) {ds : List D} {vs : List V}, DenL K w H ds vs → DenL K w H (ds.drop n) (vs.drop n)
  | 0, _, _, h => h
  | n + 1, [], _, h => by cases (show _ = [] from h); exact rfl
  | n + 1, d :: ds, _, ⟨v, r, h1, h2, h3⟩ => by subst h1; exact DenL.drop n h3
theorem DenL.set : ∀ {ds : List D} {vs : List V} (i : Nat) {d : D} {v : V}, DenL K w H ds vs → Den K w H d v → DenL K w H (ds.set i d) (vs.set i v)
  | [], _, _, _, _, h, _ => by cases (show _ = [] from h); exact rfl
  | d :: ds, _, 0, _, _, ⟨v, r, h1, h2, h3⟩, q => by subst h1; exact .cons q h3
  | d :: ds, _, i + 1, _, _, ⟨v, r, h1, h2, h3⟩, q => by subst h1; exact .cons h2 (DenL.set i h3 q)
theorem DenL.erase : ∀ {ds : List D} {vs : List V} (i : Nat), DenL K w H ds vs → DenL K w H (ds.eraseIdx i) (vs.eraseIdx i)
  | [], _, _, h => by cases (show _ = [] from h); exact rfl
  | d :: ds, _, 0, ⟨v, r, h1, h2, h3⟩ => by subst h1; exact h3
  | d :: ds, _, i + 1, ⟨v, r, h1, h2, h3⟩ => by subst h1; exact .cons h2 (DenL.erase i h3)
theorem DenL.reverse : ∀ {ds : List D} {vs : List V}, DenL K w H ds vs → DenL K w H ds.reverse vs.reverse
  | [], _, h => by cases (show _ = [] from h); exact rfl
  | d :: ds, _, ⟨v, r, h1, h2, h3⟩ => by
    subst h1
    rw [List.reverse_cons, List.reverse_cons]
    exact DenL.append (DenL.reverse h3) (.cons h2 rfl)
end

/-! ### the state -/
structure Cn where
  B : List Addr
  H0 : Hp
  F0 : Hp
  ios : List (Nat × Addr)
def Owned (s : Sv) (i : Nat) : Prop := ∃ d, s[i]? = some (.ow d) ∨ s[i]? = some (.io d)
structure Rep (X : Cx) (C : Cn) (own : List Addr) (σ : L2.St) (H : Hp) (s : Sv) : Prop where
  len : σ.length = s.length
  kn : ∀ b, b ∈ own ++ C.B → ∃ o, H b = some o
  sh : ∀ (i : Nat) (d : D), s[i]? = some (.sh d) → ∃ v, σ[i]? = some (some v) ∧ Den X.K X.w (Fz (own ++ C.B) H) d v
  ow : ∀ (i : Nat) (d : D), s[i]? = some (.ow d) → ∃ a u, σ[i]? = some (some (.ref a)) ∧ a ∈ own ∧ H a = some u ∧ Cont X.K X.w (Fz (own ++ C.B) H) a u d
  io : ∀ (i : Nat) (d : D), s[i]? = some (.io d) → ∃ a u, σ[i]? = some (some (.ref a)) ∧ (i, a) ∈ C.ios ∧ a ∈ C.B ∧ H a = some u ∧ Cont X.K X.w (Fz (own ++ C.B) H) a u d
  ios : ∀ (i : Nat) (a : Addr), (i, a) ∈ C.ios → σ[i]? = some (some (.ref a)) ∧ ∃ d, s[i]? = some (.io d)
  uni : ∀ (i j : Nat) (a : Addr), Owned s i → Owned s j → σ[i]? = some (some (.ref a)) → σ[j]? = some (some (.ref a)) → i = j
  keep : ∀ b o, C.H0 b = some o → (∀ j, (j, b) ∉ C.ios) → H b = some o ∧ b ∉ own
  fz : Same C.F0 (Fz (own ++ C.B) H)
  apart : ∀ b, b ∈ own → b ∉ C.B

section
variable {X : Cx} {C : Cn} {own : List Addr} {σ : L2.St} {H H' H1 : Hp} {s : Sv}
theorem Rep.same (r : Rep X C own σ H s) (e : Same H H') : Rep X C own σ H' s where
  len := r.len
  kn := fun b hb => let ⟨o, h⟩ := r.kn b hb; ⟨o, e b o h⟩
  sh := fun i d h => let ⟨v, h1, h2⟩ := r.sh i d h; ⟨v, h1, Den.mono (Fz.same e) d v h2⟩
  ow := fun i d h => let ⟨a, u, h1, h2, h3, h4⟩ := r.ow i d h; ⟨a, u, h1, h2, e a u h3, h4.mono (Fz.same e)⟩
  io := fun i d h => let ⟨a, u, h1, h2, h3, h4, h5⟩ := r.io i d h; ⟨a, u, h1, h2, h3, e a u h4, h5.mono (Fz.same e)⟩
  ios := r.ios
  uni := r.uni
  keep := fun b o h h' => let ⟨h1, h2⟩ := r.keep b o h h'; ⟨e b o h1, h2⟩
  fz := r.fz.trans (Fz.same e)
  apart := r.apart
/-- a fresh object becomes the frame's own -/
theorem Rep.fresh {p : Addr} {o : HO} (r : Rep X C own σ H1 s) (n : H1 p = none) (e : Same H1 H') (hp : H' p = some o) : Rep X C (p :: own) σ H' s := by
  have nO : p ∉ own ++ C.B := fun z => by obtain ⟨u, h⟩ := r.kn p z; rw [n] at h; cases h
  have m : Same (Fz (own ++ C.B) H1) (Fz ((p :: own) ++ C.B) H') := fun a u h => by
    obtain ⟨h1, h2⟩ := Fz.get h
    have ne : a ≠ p := fun z => by rw [z, n] at h2; cases h2
    rw [Fz.out (by intro z; rcases List.mem_cons.mp z with z | z; exact ne z; exact h1 z)]
    exact e a u h2
  refine ⟨r.len, fun b hb => ?_, fun i d h => ?_, fun i d h => ?_, fun i d h => ?_, r.ios, r.uni, fun b u h h' => ?_, r.fz.trans m, fun b hb => ?_⟩
  · rcases List.mem_cons.mp hb with z | z
    · exact ⟨o, z ▸ hp⟩
    · obtain ⟨u, h⟩ := r.kn b z; exact ⟨u, e b u h⟩
  · obtain ⟨v, h1, h2⟩ := r.sh i d h
    exact ⟨v, h1, Den.mono m d v h2⟩
  · obtain ⟨a, u, h1, h2, h3, h4⟩ := r.ow i d h
    exact ⟨a, u, h1, List.mem_cons_of_mem _ h2, e a u h3, h4.mono m⟩
  · obtain ⟨a, u, h1, h2, h3, h4, h5⟩ := r.io i d h
    exact ⟨a, u, h1, h2, h3, e a u h4, h5.mono m⟩
  · obtain ⟨h1, h2⟩ := r.keep b u h h'
    refine ⟨e b u h1, fun z => ?_⟩
    rcases List.mem_cons.mp z with z | z
    · rw [z, n] at h1; cases h1
    · exact h2 z
  · rcases List.mem_cons.mp hb with z | z
    · exact fun q => nO (List.mem_append_right _ (z ▸ q))
    · exact r.apart b z
theorem Rep.new {p : Addr} (r : Rep X C own σ H s) (n : H p = none) : p ∉ own ++ C.B := fun z => by
  obtain ⟨u, h⟩ := r.kn p z; rw [n] at h; cases h
/-- the slot i is stored -/
theorem Rep.put {i : Nat} {d : D} {v : V} (r : Rep X C own σ H s) (hi : i < s.length) (hn : ∀ d, s[i]? ≠ some (.io d)) (hv : Den X.K X.w (Fz (own ++ C.B) H) d v) : Rep X C own (σ.set i (some v)) H (s.set i (.sh d)) := by
  have nio : ∀ a, (i, a) ∉ C.ios := fun a z => by obtain ⟨_, d, h⟩ := r.ios i a z; exact hn d h
  have ownOld : ∀ j, Owned (s.set i (.sh d)) j → j ≠ i ∧ Owned s j := fun j ⟨x, hx⟩ => by
    by_cases e : j = i
    · subst e; rw [List.getElem?_set_self hi] at hx; rcases hx with hx | hx <;> cases hx
    · rw [List.getElem?_set_ne (Ne.symm e)] at hx; exact ⟨e, x, hx⟩
  refine ⟨by simpa using r.len, r.kn, fun j d' h => ?_, fun j d' h => ?_, fun j d' h => ?_, fun j a h => ?_, fun j k a hj hk h1 h2 => ?_, r.keep, r.fz, r.apart⟩
  · by_cases e : j = i
    · subst e
      rw [List.getElem?_set_self hi] at h
      cases h
      exact ⟨v, by rw [List.getElem?_set_self (by rw [r.len]; exact hi)], hv⟩
    · rw [List.getElem?_set_ne (Ne.symm e)] at h
      obtain ⟨v', h1, h2⟩ := r.sh j d' h
      exact ⟨v', by rw [List.getElem?_set_ne (Ne.symm e)]; exact h1, h2⟩
  · have e : j ≠ i := fun e => by subst e; rw [List.getElem?_set_self hi] at h; cases h
    rw [List.getElem?_set_ne (Ne.symm e)] at h
    obtain ⟨a, u, h1, h2⟩ := r.ow j d' h
    exact ⟨a, u, by rw [List.getElem?_set_ne (Ne.symm e)]; exact h1, h2⟩
  · have e : j ≠ i := fun e => by subst e; rw [List.getElem?_set_self hi] at h; cases h
    rw [List.getElem?_set_ne (Ne.symm e)] at h
    obtain ⟨a, u, h1, h2⟩ := r.io j d' h
    exact ⟨a, u, by rw [List.getElem?_set_ne (Ne.symm e)]; exact h1, h2⟩
  · have e : j ≠ i := fun e => nio a (e ▸ h)
    rw [List.getElem?_set_ne (Ne.symm e), List.getElem?_set_ne (Ne.symm e)]
    exact r.ios j a h
  · obtain ⟨e1, o1⟩ := ownOld j hj
    obtain ⟨e2, o2⟩ := ownOld k hk
    rw [List.getElem?_set_ne (Ne.symm e1)] at h1
    rw [List.getElem?_set_ne (Ne.symm e2)] at h2
    exact r.uni j k a o1 o2 h1 h2
/-- .. is unset, whatever it holds -/
theorem Rep.kill {i : Nat} {x : Option V} (r : Rep X C own σ H s) (hi : i < s.length) (hn : ∀ d, s[i]? ≠ some (.io d)) : Rep X C own (σ.set i x) H (s.set i .un) := by
  have nio : ∀ a, (i, a) ∉ C.ios := fun a z => by obtain ⟨_, d, h⟩ := r.ios i a z; exact hn d h
  have ne : ∀ (j : Nat) (d' : Sl), (s.set i .un)[j]? = some d' → d' ≠ .un → j ≠ i := fun j d' h q e => by
    subst e; rw [List.getElem?_set_self hi] at h; cases h; exact q rfl
  have ownOld : ∀ j, Owned (s.set i .un) j → j ≠ i ∧ Owned s j := fun j ⟨x, hx⟩ => by
    have e : j ≠ i := by rcases hx with hx | hx <;> exact ne j _ hx (fun z => nomatch z)
    rw [List.getElem?_set_ne (Ne.symm e)] at hx; exact ⟨e, x, hx⟩
  refine ⟨by simpa using r.len, r.kn, fun j d' h => ?_, fun j d' h => ?_, fun j d' h => ?_, fun j a h => ?_, fun j k a hj hk h1 h2 => ?_, r.keep, r.fz, r.apart⟩
  · have e := ne j _ h (fun z => nomatch z)
    rw [List.getElem?_set_ne (Ne.symm e)] at h ⊢
    exact r.sh j d' h
  · have e := ne j _ h (fun z => nomatch z)
    rw [List.getElem?_set_ne (Ne.symm e)] at h
    obtain ⟨a, u, h1, h2⟩ := r.ow j d' h
    exact ⟨a, u, by rw [List.getElem?_set_ne (Ne.symm e)]; exact h1, h2⟩
  · have e := ne j _ h (fun z => nomatch z)
    rw [List.getElem?_set_ne (Ne.symm e)] at h
    obtain ⟨a, u, h1, h2⟩ := r.io j d' h
    exact ⟨a, u, by rw [List.getElem?_set_ne (Ne.symm e)]; exact h1, h2⟩
  · have e : j ≠ i := fun e => nio a (e ▸ h)
    rw [List.getElem?_set_ne (Ne.symm e), List.getElem?_set_ne (Ne.symm e)]
    exact r.ios j a h
  · obtain ⟨e1, o1⟩ := ownOld j hj
    obtain ⟨e2, o2⟩ := ownOld k hk
    rw [List.getElem?_set_ne (Ne.symm e1)] at h1
    rw [List.getElem?_set_ne (Ne.symm e2)] at h2
    exact r.uni j k a o1 o2 h1 h2
/-- no slot owns p -/
def NoSlot (σ : L2.St) (s : Sv) (p : Addr) : Prop := ∀ (i : Nat), Owned s i → σ[i]? ≠ some (some (.ref p))
theorem Rep.noslot {p : Addr} (r : Rep X C own σ H s) (n : H p = none) : NoSlot σ s p := fun j ⟨d', hd⟩ z => by
  rcases hd with hd | hd
  · obtain ⟨a, u, h1, h2, h3, _⟩ := r.ow j d' hd
    rw [z] at h1; cases h1; rw [n] at h3; cases h3
  · obtain ⟨a, u, h1, h2, h3, h4, _⟩ := r.io j d' hd
    rw [z] at h1; cases h1; rw [n] at h4; cases h4
/-- what no slot owns is given up -/
theorem Rep.unown {p : Addr} (r : Rep X C (p :: own) σ H s) (ns : NoSlot σ s p) : Rep X C own σ H s := by
  have m : Same (Fz ((p :: own) ++ C.B) H) (Fz (own ++ C.B) H) := Fz.mono (fun a h => List.mem_cons_of_mem _ h) fun _ _ _ e => e
  refine ⟨r.len, fun b hb => r.kn b (List.mem_cons_of_mem _ hb), fun i d h => ?_, fun i d h => ?_, fun i d h => ?_, r.ios, r.uni, fun b u h h' => ?_, r.fz.trans m, fun b hb => r.apart b (List.mem_cons_of_mem _ hb)⟩
  · obtain ⟨v, h1, h2⟩ := r.sh i d h
    exact ⟨v, h1, Den.mono m d v h2⟩
  · obtain ⟨a, u, h1, h2, h3, h4⟩ := r.ow i d h
    refine ⟨a, u, h1, ?_, h3, h4.mono m⟩
    rcases List.mem_cons.mp h2 with z | z
    · exact absurd (z ▸ h1) (ns i ⟨d, .inl h⟩)
    · exact z
  · obtain ⟨a, u, h1, h2, h3, h4, h5⟩ := r.io i d h
    exact ⟨a, u, h1, h2, h3, h4, h5.mono m⟩
  · obtain ⟨h1, h2⟩ := r.keep b u h h'
    exact ⟨h1, fun z => h2 (List.mem_cons_of_mem _ z)⟩
/-- a fresh object is stored as the frame's own -/
theorem Rep.putOwn {i : Nat} {d : D} {p : Addr} {u : HO} (r' : Rep X C (p :: own) σ H s) (nslot : NoSlot σ s p) (hp : H p = some u) (hc : Cont X.K X.w (Fz ((p :: own) ++ C.B) H) p u d) (hi : i < s.length) (hn : ∀ d, s[i]? ≠ some (.io d)) :
    Rep X C (p :: own) (σ.set i (some (.ref p))) H (s.set i (.ow d)) := by
  have nio : ∀ a, (i, a) ∉ C.ios := fun a z => by obtain ⟨_, d, h⟩ := r'.ios i a z; exact hn d h
  have ownOld : ∀ j, j ≠ i → Owned (s.set i (.ow d)) j → Owned s j := fun j e ⟨x, hx⟩ => by
    rw [List.getElem?_set_ne (Ne.symm e)] at hx; exact ⟨x, hx⟩
  refine ⟨by simpa using r'.len, r'.kn, fun j d' h => ?_, fun j d' h => ?_, fun j d' h => ?_, fun j a h => ?_, fun j k a hj hk h1 h2 => ?_, r'.keep, r'.fz, r'.apart⟩
  · have e : j ≠ i := fun e => by subst e; rw [List.getElem?_set_self hi] at h; cases h
    rw [List.getElem?_set_ne (Ne.symm e)] at h ⊢
    exact r'.sh j d' h
  · by_cases e : j = i
    · subst e
      rw [List.getElem?_set_self hi] at h; cases h
      exact ⟨p, u, by rw [List.getElem?_set_self (by rw [r'.len]; exact hi)], List.mem_cons_self, hp, hc⟩
    · rw [List.getElem?_set_ne (Ne.symm e)] at h
      obtain ⟨a, u, h1, h2⟩ := r'.ow j d' h
      exact ⟨a, u, by rw [List.getElem?_set_ne (Ne.symm e)]; exact h1, h2⟩
  · have e : j ≠ i := fun e => by subst e; rw [List.getElem?_set_self hi] at h; cases h
    rw [List.getElem?_set_ne (Ne.symm e)] at h
    obtain ⟨a, u, h1, h2⟩ := r'.io j d' h
    exact ⟨a, u, by rw [List.getElem?_set_ne (Ne.symm e)]; exact h1, h2⟩
  · have e : j ≠ i := fun e => nio a (e ▸ h)
    rw [List.getElem?_set_ne (Ne.symm e), List.getElem?_set_ne (Ne.symm e)]
    exact r'.ios j a h
  · by_cases e1 : j = i
    · by_cases e2 : k = i
      · rw [e1, e2]
      · subst e1
        rw [List.getElem?_set_self (by rw [r'.len]; exact hi)] at h1
        cases h1
        rw [List.getElem?_set_ne (Ne.symm e2)] at h2
        exact absurd h2 (nslot k (ownOld k e2 hk))
    · by_cases e2 : k = i
      · subst e2
        rw [List.getElem?_set_self (by rw [r'.len]; exact hi)] at h2
        cases h2
        rw [List.getElem?_set_ne (Ne.symm e1)] at h1
        exact absurd h1 (nslot j (ownOld j e1 hj))
      · rw [List.getElem?_set_ne (Ne.symm e1)] at h1
        rw [List.getElem?_set_ne (Ne.symm e2)] at h2
        exact r'.uni j k a (ownOld j e1 hj) (ownOld k e2 hk) h1 h2
/-- another ground -/
theorem Rep.ground {F : Hp} (r : Rep X C own σ H s) (h : Same F (Fz (own ++ C.B) H)) : Rep X { C with F0 := F } own σ H s :=
  ⟨r.len, r.kn, r.sh, r.ow, r.io, r.ios, r.uni, r.keep, h, r.apart⟩
theorem Rep.back {F : Hp} (r : Rep X { C with F0 := F } own σ H s) (h : Same C.F0 F) : Rep X C own σ H s :=
  ⟨r.len, r.kn, r.sh, r.ow, r.io, r.ios, r.uni, r.keep, h.trans r.fz, r.apart⟩
/-- what the slot i owns changes -/
theorem Rep.write {i : Nat} {a : Addr} {u : HO} {d : D} {x : Sl} (r : Rep X C own σ H s) (hs : (∃ d0, s[i]? = some (.ow d0)) ∧ x = .ow d ∨ (∃ d0, s[i]? = some (.io d0)) ∧ x = .io d) (ha : σ[i]? = some (some (.ref a)))
    (hc : Cont X.K X.w (Fz (own ++ C.B) H) a u d) : Rep X C own σ (upd H a u) (s.set i x) := by
  have hO : Owned s i := by rcases hs with ⟨⟨d0, h⟩, _⟩ | ⟨⟨d0, h⟩, _⟩; exact ⟨d0, .inl h⟩; exact ⟨d0, .inr h⟩
  have hx : ∃ q, s[i]? = some q := by rcases hs with ⟨⟨d0, h⟩, _⟩ | ⟨⟨d0, h⟩, _⟩ <;> exact ⟨_, h⟩
  have hi : i < s.length := by
    obtain ⟨q, h⟩ := hx
    exact (List.getElem?_eq_some_iff.mp h).1
  have hmem : a ∈ own ++ C.B := by
    rcases hs with ⟨⟨d0, h⟩, _⟩ | ⟨⟨d0, h⟩, _⟩
    · obtain ⟨b, _, h1, h2, _⟩ := r.ow i d0 h; rw [ha] at h1; cases h1; exact List.mem_append_left _ h2
    · obtain ⟨b, _, h1, _, h2, _⟩ := r.io i d0 h; rw [ha] at h1; cases h1; exact List.mem_append_right _ h2
  have fe : Fz (own ++ C.B) (upd H a u) = Fz (own ++ C.B) H := by
    funext b
    by_cases hb : b ∈ own ++ C.B
    · rw [Fz.in hb, Fz.in hb]
    · rw [Fz.out hb, Fz.out hb, upd_ne (show b ≠ a from fun z => hb (by rw [z]; exact hmem))]
  have other : ∀ j b, j ≠ i → Owned s j → σ[j]? = some (some (.ref b)) → b ≠ a := fun j b ne hj hb z => ne (r.uni j i a hj hO (z ▸ hb) ha)
  have ownI : ∀ j, Owned (s.set i x) j → Owned s j := fun j ⟨q, hq⟩ => by
    by_cases e : j = i
    · exact e ▸ hO
    · rw [List.getElem?_set_ne (Ne.symm e)] at hq; exact ⟨q, hq⟩
  refine ⟨by simpa using r.len, fun b hb => ?_, fun j d' h => ?_, fun j d' h => ?_, fun j d' h => ?_, fun j b h => ?_, fun j k b hj hk h1 h2 => r.uni j k b (ownI j hj) (ownI k hk) h1 h2, fun b o h h' => ?_, by rw [fe]; exact r.fz, r.apart⟩
  · by_cases e : b = a
    · subst e; exact ⟨u, upd_same⟩
    · obtain ⟨o, h⟩ := r.kn b hb; exact ⟨o, by rw [upd_ne e]; exact h⟩
  · have e : j ≠ i := fun e => by
      subst e; rw [List.getElem?_set_self hi] at h
      rcases hs with ⟨_, q⟩ | ⟨_, q⟩ <;> (rw [q] at h; cases h)
    rw [List.getElem?_set_ne (Ne.symm e)] at h
    rw [fe]
    exact r.sh j d' h
  · rw [fe]
    by_cases e : j = i
    · subst e
      rw [List.getElem?_set_self hi] at h
      rcases hs with ⟨⟨d0, h0⟩, q⟩ | ⟨_, q⟩
      · rw [q] at h; cases h
        obtain ⟨b, _, h1, h2, _⟩ := r.ow j d0 h0
        rw [ha] at h1; cases h1
        exact ⟨a, u, ha, h2, upd_same, hc⟩
      · rw [q] at h; cases h
    · rw [List.getElem?_set_ne (Ne.symm e)] at h
      obtain ⟨b, u', h1, h2, h3, h4⟩ := r.ow j d' h
      exact ⟨b, u', h1, h2, by rw [upd_ne (other j b e ⟨d', .inl h⟩ h1)]; exact h3, h4⟩
  · rw [fe]
    by_cases e : j = i
    · subst e
      rw [List.getElem?_set_self hi] at h
      rcases hs with ⟨_, q⟩ | ⟨⟨d0, h0⟩, q⟩
      · rw [q] at h; cases h
      · rw [q] at h; cases h
        obtain ⟨b, _, h1, h2, h3, _⟩ := r.io j d0 h0
        rw [ha] at h1; cases h1
        exact ⟨a, u, ha, h2, h3, upd_same, hc⟩
    · rw [List.getElem?_set_ne (Ne.symm e)] at h
      obtain ⟨b, u', h1, h2, h3, h4, h5⟩ := r.io j d' h
      exact ⟨b, u', h1, h2, h3, by rw [upd_ne (other j b e ⟨d', .inr h⟩ h1)]; exact h4, h5⟩
  · obtain ⟨h1, d1, h2⟩ := r.ios j b h
    refine ⟨h1, ?_⟩
    by_cases e : j = i
    · subst e
      rcases hs with ⟨⟨d0, h0⟩, q⟩ | ⟨_, q⟩
      · rw [h0] at h2; cases h2
      · exact ⟨d, by rw [List.getElem?_set_self hi, q]⟩
    · exact ⟨d1, by rw [List.getElem?_set_ne (Ne.symm e)]; exact h2⟩
  · obtain ⟨h1, h2⟩ := r.keep b o h h'
    refine ⟨?_, h2⟩
    rw [upd_ne]
    · exact h1
    · intro z
      subst z
      rcases hs with ⟨⟨d0, h0⟩, _⟩ | ⟨⟨d0, h0⟩, _⟩
      · obtain ⟨c, _, g1, g2, _⟩ := r.ow i d0 h0; rw [ha] at g1; cases g1; exact h2 g2
      · obtain ⟨c, _, g1, g2, _⟩ := r.io i d0 h0; rw [ha] at g1; cases g1; exact h' _ g2
end
end DL
set_option maxRecDepth 100000
namespace DL
open PySem PySem.Spec PyProof.Rows L2

/-! ### calls while nothing is being shown: no repr is under way -/
structure RoomG (k : Nat) (A : Around) : Prop where
  room : Room k A
  gd : A.guards = some []
theorem RoomG.down {k : Nat} {A : Around} (r : RoomG (k + 1) A) (env : Env) : RoomG k (A.deeper env) := ⟨r.room.deeper env, r.gd⟩
theorem RoomG.mono {j k : Nat} {A : Around} (r : RoomG k A) (h : j ≤ k) : RoomG j A := ⟨r.room.mono h, r.gd⟩
structure FnG (P : Program) (w : World) (K : PySem.W.Frag) (mg : Str → Option Value) (base : Heap) (CX : CXT) (k : Nat) (f : Addr) (fd : FuncData) (ps : List Str) (sp : Sp) : Prop where
  len : ∀ vs H Q E, sp vs H Q E → vs.length = ps.length
  run : ∀ (A : Around) (outer : List Env) (s : Shared) (H : Hp) (args : Args) (us : List Value) (vs : List V) (Q : VK) (E : XK), RoomG k A → Env0 P w K mg base A outer s H → BindsTo s fd args (ps.zip us) → Vals vs us → sp vs H Q E →
    codeAny (model P w) A (.call (.ref f) args) (CR CX outer P w H s Q E) s
section
variable {P : Program} {w : World} {K : PySem.W.Frag} {mg : Str → Option Value} {base : Heap} {CX : CXT} {k : Nat} {f : Addr} {ps : List Str} {sp : Sp}
theorem FnG.mono {j : Nat} {fd : FuncData} (F : FnG P w K mg base CX j f fd ps sp) (h : j ≤ k) : FnG P w K mg base CX k f fd ps sp :=
  ⟨F.len, fun A outer s H args us vs Q E hr => F.run A outer s H args us vs Q E (hr.mono h)⟩
/-- a def by its body -/
theorem fn_ofG {name qual : Str} {params : Arguments} {body : List Stmt} {scope : Scope} {dV kV doc pm cdv ct oc : Value} {an od : Option Addr} {osl : Array (Option Value)} {N : List Str}
    (lk : K.lookup f = some ⟨oc, od, .func (PySem.W.fnOf name qual params body scope dV kV doc pm an cdv ct), osl⟩) (hcd : PySem.W.codeIn K cdv qual = true) (S : FnScope N ps scope) (len : ∀ vs H Q E, sp vs H Q E → vs.length = ps.length)
    (hbody : ∀ (A : Around) (outer : List Env) (s : Shared) (H : Hp) (vs : List V) (Q : VK) (E : XK), RoomG k (A.deeper (envOfC qual scope s.heap.objs.size f cdv)) → sp vs H Q E →
      ∃ t, PSs (cxOf CX P w K mg base N qual scope f cdv A outer s H E) body t ∧ t { nx := fun _ H' => Q .non H', rt := Q } (start N vs) H) :
    FnG P w K mg base CX (k + 1) f (PySem.W.fnOf name qual params body scope dV kV doc pm an cdv ct) ps sp where
  len := len
  run := by
    intro A outer s H args us vs Q E hr e0 hb r hsp
    have kept : K.In s.heap := e0.mod.kin.keeps fun b o e => (e0.bs b o e).1
    have free : s.heap.NoLimit := e0.mod.nolimit.keeps fun b o e => (e0.bs b o e).1
    refine codeAny_call_function hr.room.depth (kept _ _ lk) rfl S.co S.gen rfl (PySem.W.codeRec_of kept hcd) (hb _ _ _ _ (wpAny_newFunctionEnv_cells S.kind ?_ ?_))
    · rintro ⟨y, z⟩ hy
      exact (S.par y (List.of_mem_zip hy).1).imp (fun q => q) fun q => ⟨q, PySem.W.cellsFrom_some _ _ _ (.inl q)⟩
    · rintro env rfl s1 x
      refine ⟨free.keeps x.toInCall.keep, codeAny_func ?_⟩
      obtain ⟨t, ht, hq⟩ := hbody A outer s H vs Q E (hr.down _) hsp
      refine wpAny_mono (ht.run [] s1 (start N vs) H _ (inv_start S hr.room.hd e0 (len _ _ _ _ hsp) r x) hq) (fun fl s2 g => ?_) fun _ _ g => g
      cases fl with
      | ret u => exact let ⟨v, _, H2, J, rv, q⟩ := g; ⟨v, H2, J.os, J.bare, J.base, J.hok, rv, q⟩
      | next => exact let ⟨_, H2, J, q⟩ := g; ⟨.non, H2, J.os, J.bare, J.base, J.hok, rfl, q⟩
      | brk => exact let ⟨_, _, _, q⟩ := g; q.elim
      | cont => exact let ⟨_, _, _, q⟩ := g; q.elim
end
section
variable {X : Cx} {CX : CXT} {k : Nat} {f : Addr} {fd : FuncData} {ps : List Str} {sp : Sp} {E : L2.St → XK} {x : Str} {p pos : Pos} {e : Expr} {es : List Expr} {t : TA}
/-- a def called by its name -/
theorem pe_callG (F : FnG X.prog X.w X.K X.mg X.base CX k f fd ps sp) (hr : RoomG k X.A) (hg : Gl X x) (hm : X.mg x = some (.ref f)) (hk : PySem.W.keepIn X.K (.ref f) = true) (hb : Binds X.K fd ps []) (hx : ∀ σ, PassesAt CX X σ (E σ))
    (ha : PA X (e :: es) t) (hdb : (x == ("__debug__" : Str)) = false := by decide) (he : starEach (e :: es) X.env = (false, eval e X.env) :: starEach es X.env := by rfl) (hpl : (backTo pos (starEach es X.env)).any (·.1) = false := by rfl) :
    PE X (.Call (.Name x p) (e :: es) [] pos) (tCallSD sp [] E t) where
  run := by
    intro pins s σ H Q I h
    refine wpAny_Call_Name_kw (ld_glob I hg hm (PySem.W.callWith_K (h₀ := X.base) I.ok.mod.kin hk (thn (ha.run pos pins s σ H _ I h) ?_) he hpl) hdb)
    rintro us s1 ⟨vs, H1, I1, r, q⟩
    have q : sp (vs ++ []) H1 Q (E σ) := q
    rw [List.append_nil] at q
    have hl : us.length = ps.length := r.length.symm.trans (F.len _ _ _ _ q)
    have bind := hb s1 us I1.kIn (by rw [List.append_nil]; exact hl)
    rw [List.append_nil] at bind
    refine ⟨I1.kIn, wpAny_call (codeAny_mono (F.run X.A X.stack s1 H1 ⟨us, []⟩ us vs Q (E σ) hr I1.env0 bind r q) fun z s2 g => ?_)⟩
    cases z with
    | error c => exact hx σ pins H1 s1 c s2 I1 g
    | ok fl => cases fl with
      | ret u => exact I1.after g
      | next => exact g.elim
      | brk => exact g.elim
      | cont => exact g.elim
end

/-! ### the law's own call -/
section
variable {P : Program} {w : World} {K : PySem.W.Frag} {mg mb : Str → Option Value} {CX : CXT} {k : Nat} {fa a : Addr} {fd : FuncData} {x : Str} {sp : Sp} {s₁ : Shared} {vs : List Value} {ns : List Int}
/-- from a heap H in which at most the script is tracked, and that locked -/
theorem law_at (KX : K.In s₁.heap) (hns : s₁.heap.Ns mainGlobals mg) (hb : s₁.heap.Ns builtinsNs mb) (hbb : ∀ x : Str, x ≠ "__name__" → mb x = bootBuiltins x) (hlim : s₁.heap.NoLimit) (hg : s₁.gens = #[])
    (ha : s₁.heap.get? a = some { cls := .type "list", data := .seq vs.toArray }) (hr : RoomG k callerA)
    (F : ∀ base : Heap, K.In base → base.Ns mainGlobals mg → FnG P w K mg base CX k fa fd [x] sp) (hbind : ∀ (s : Shared) (u : Value), BindsTo s fd ⟨[u], []⟩ [(x, u)])
    (hCX : ∀ H e s', CX [] H s₁ (fun _ _ _ => False) e s' → False) (H : Hp) (hO : Only H) (hsp : sp [.ref a] H (fun v _ => v = .bl true) fun _ _ _ => False)
    (ok : HOk P w H s₁.heap) (one : ∀ b, H b ≠ none → b = a) (out : H a ≠ none → K.lookup a = none) :
    codeAny (model P w) callerA (.call (.ref fa) ⟨[.ref a], []⟩) (fun r s' => r = .ok (.ret (.bool true)) ∧ OldK s₁.heap s'.heap ∧ s'.os = s₁.os ∧ AllBare s'.gens) s₁ := by
  have seen : ∀ {b : Addr} {o : Obj}, s₁.heap.get? b = some o → H b = none → (hidT s₁.heap H).get? b = some o := fun e n => hidT_get e n
  have dict : ∀ {b : Addr} {o : Obj} {es : Array DictEntry} {ep : Nat}, s₁.heap.get? b = some o → o.data = .dict es ep → H b = none := by
    intro b o es ep e d
    by_cases n : H b = none
    · exact n
    · rw [one b n, ha] at e
      cases e
      cases d
  have ns' : ∀ {b : Addr} {m : Str → Option Value}, s₁.heap.Ns b m → (hidT s₁.heap H).Ns b m := fun ⟨o, es, ep, e, d, r⟩ => ⟨o, es, ep, seen e (dict e d), d, r⟩
  have hK : K.In (hidT s₁.heap H) := by
    intro b o e
    by_cases n : H b = none
    · exact seen (KX b o e) n
    · have := out (one b n ▸ n)
      rw [one b n, this] at e
      cases e
  have env : Env0 P w K mg (hidT s₁.heap H) callerA [] s₁ H :=
    ⟨rfl, ⟨hK, ns' hns, ⟨mb, ns' hb, hbb⟩, let ⟨mc, h1, h2⟩ := hlim; ⟨mc, ns' h1, h2⟩⟩, fun b o e => of_hidT e, Nat.le_of_eq (hidT_size _ _), trivial, fun _ h => (List.not_mem_nil h).elim, ok, .of_eq hg⟩
  refine codeAny_mono ((F _ hK (ns' hns)).run callerA [] s₁ H ⟨[.ref a], []⟩ [.ref a] [.ref a] _ _ hr env (hbind s₁ (.ref a)) (.cons rfl .nil) hsp) ?_
  intro r s2 g
  rcases r with c | fl
  · exact (hCX H c s2 g).elim
  · rcases fl with _ | _ | _ | u
    · exact False.elim g
    · exact False.elim g
    · exact False.elim g
    · obtain ⟨v, H2, os, bare, un, ok2, rv, q⟩ := g
      cases (show v = .bl true from q)
      cases (show u = Value.bool true from rv)
      refine ⟨rfl, OldK.of_keep ?_, os, bare⟩
      intro b o e
      cases n : H b with
      | none => exact un.keep b o e n (fun h => (List.not_mem_nil h).elim) List.not_mem_nil
      | some u =>
        obtain ⟨ob, xs, z⟩ := (hO b).resolve_left (fun h => by rw [n] at h; cases h)
        have e1 := (ok b _ z).1
        have e2 := (ok2 b _ (un.frzs b ob _ z)).1
        rw [e1] at e
        cases e
        exact e2
theorem law_callG (KX : K.In s₁.heap) (hns : s₁.heap.Ns mainGlobals mg) (hb : s₁.heap.Ns builtinsNs mb) (hbb : ∀ x : Str, x ≠ "__name__" → mb x = bootBuiltins x) (hlim : s₁.heap.NoLimit) (hg : s₁.gens = #[])
    (ha : s₁.heap.get? a = some { cls := .type "list", data := .seq vs.toArray }) (hi : IntsAre vs ns) (hl : ns.length ≤ sizeLine) (hr : RoomG k callerA)
    (F : ∀ base : Heap, K.In base → base.Ns mainGlobals mg → FnG P w K mg base CX k fa fd [x] sp) (hbind : ∀ (s : Shared) (u : Value), BindsTo s fd ⟨[u], []⟩ [(x, u)])
    (hsp : ∀ H : Hp, Only H → SqL K H a (ns.map V.int) → sp [.ref a] H (fun v _ => v = .bl true) fun _ _ _ => False) (hCX : ∀ H e s', CX [] H s₁ (fun _ _ _ => False) e s' → False) :
    codeAny (model P w) callerA (.call (.ref fa) ⟨[.ref a], []⟩) (fun r s' => r = .ok (.ret (.bool true)) ∧ OldK s₁.heap s'.heap ∧ s'.os = s₁.os ∧ AllBare s'.gens) s₁ := by
  have rv := vals_ints hi
  cases hk : K.lookup a with
  | some o =>
    have e := KX a o hk
    rw [ha] at e
    cases e
    have none_only : Only (fun _ => none) := fun _ => .inl rfl
    exact law_at KX hns hb hbb hlim hg ha hr F hbind hCX (fun _ => none) none_only (hsp _ none_only (.inr ⟨_, vs.toArray, _, hk, rfl, rfl, rfl, by rw [List.size_toArray, hi.length]; exact hl, by simpa using rv⟩)) (fun b u z => nomatch (show (none : Option HO) = some u from z)) (fun b z => (z rfl).elim) fun z => (z rfl).elim
  | none =>
    have at_ : ∀ b, (fun b => if b = a then some (HO.frz { cls := .type "list", data := .seq vs.toArray } (.lst (ns.map V.int))) else none : Hp) b = if b = a then some (HO.frz { cls := .type "list", data := .seq vs.toArray } (.lst (ns.map V.int))) else none := fun _ => rfl
    revert at_
    generalize (fun b => if b = a then some (HO.frz { cls := .type "list", data := .seq vs.toArray } (.lst (ns.map V.int))) else none : Hp) = H
    intro at_
    have at_a := (at_ a).trans (if_pos rfl)
    have at_o : ∀ b, b ≠ a → H b = none := fun b n => (at_ b).trans (if_neg n)
    have only : Only H := fun b => by
      by_cases n : b = a
      · subst n; exact .inr ⟨_, _, at_a⟩
      · exact .inl (at_o b n)
    refine law_at KX hns hb hbb hlim hg ha hr F hbind hCX H only (hsp _ only (.inl (.inr ⟨_, at_a⟩))) (fun b u z => ?_) (fun b z => ?_) fun _ => hk
    · by_cases n : b = a
      · subst n
        rw [at_a] at z
        cases z
        exact ⟨ha, by rw [List.length_map]; exact hl, vs, _, rv, ha⟩
      · rw [at_o b n] at z; cases z
    · by_cases n : b = a
      · exact n
      · exact (z (at_o b n)).elim
end
/-- the goal that k_head leaves, from the law's promise -/
theorem walk_ofG {l : PySem.W.OpenLaw} {n k : Nat} {q : Program} {loose : List Str} {XP : (Str → Option Value) → Heap → Prop} {YP : World → Heap → Prop} {d : DefRec} {K : Params → PySem.W.Frag} {CX : World → CXT} {sp : World → Sp} {x : Str}
    (hn : l.most = some n) (hn2 : n ≤ sizeLine) (hdf : d.params.defaults = []) (hr : Room k callerA)
    (hY : ∀ (w : World) (h : Heap), YP w h → (K w.params).In h)
    (F : ∀ (w : World) (mg : Str → Option Value) (fa : Addr) (h : Heap), (K w.params).In h → h.Ns mainGlobals mg → mg d.name = some (.ref fa) →
      ∃ fd : FuncData, (∀ (s : Shared) (u : Value), BindsTo s fd ⟨[u], []⟩ [(x, u)]) ∧ ∀ base : Heap, (K w.params).In base → base.Ns mainGlobals mg → FnG l.prog w (K w.params) mg base (CX w) k fa fd [x] (sp w))
    (hsp : ∀ (w : World) (H : Hp) (a : Addr) (ns : List Int), ns.length ≤ n → Only H → SqL (K w.params) H a (ns.map V.int) → (∀ i ∈ ns, Builtin.Int.intBits i ≤ 1048576) → sp w [.ref a] H (fun v _ => v = .bl true) fun _ _ _ => False)
    (hCX : ∀ (w : World) (H : Hp) (s : Shared) (e : Value) (s' : Shared), CX w [] H s (fun _ _ _ => False) e s' → False) :
    PySem.W.WalkO q loose XP YP l.row.toRowW d [] (fun f vs => PySem.call f vs) := by
  refine Att.attach_callB hn hdf fun w s₀ s₁ mg mb fa o pm cd doc a vs ns G Y ho hd hcd hmg hobj hints hlen hbits hg => ?_
  obtain ⟨fd, hb, hF⟩ := F w mg fa _ (hY w _ Y) G.T.g hmg
  exact law_callG (hY w _ Y) G.T.g G.T.b G.T.builtins G.T.nolimit hg hobj hints (Nat.le_trans hlen hn2) ⟨hr, rfl⟩ hF hb (fun H hO hS => hsp w H a ns hlen hO hS hbits) fun H e s' => hCX w H s₁ e s'
end DL
set_option maxRecDepth 100000
namespace DL
open PySem PySem.Spec PyProof.Rows L2

/-! ### judgements -/
def Exc (X : Cx) (c : Str) (x : D) (cls : Value) (dd : Option Addr) (H : Hp) : Prop :=
  ∃ a, X.mg c = some (.ref a) ∧ cls = .ref a ∧ (x = PyData.none ∧ dd = none)
def Fin {α β : Type} (ρ : Hp → α → β → Prop) (X : Cx) (W : WX) (p : Bool) (C : Cn) (own : List Addr) (σ : L2.St) (H : Hp) (s : Sv) (r : R (α × Sv)) (Q : β → Hp → Prop) : Prop :=
  match r with
  | .ok z => ∀ v H', (p = true → Same H H' ∧ z.2 = s) → Same (Fz (own ++ C.B) H) (Fz (own ++ C.B) H') → Rep X C own σ H' z.2 → ρ (Fz (own ++ C.B) H') z.1 v → Q v H'
  | .exn c x s' => ∀ own' H' cls dd, Exc X c x cls dd H' → Rep X C own' σ H' s' → W cls dd σ H'
  | .bad => False
theorem Fin.bind {α β γ δ : Type} {ρ1 : Hp → α → β → Prop} {ρ2 : Hp → γ → δ → Prop} {X : Cx} {W : WX} {p1 p2 : Bool} {C : Cn} {own : List Addr} {σ : L2.St} {H : Hp} {s : Sv} {r : R (α × Sv)} {k : α × Sv → R (γ × Sv)} {Q : δ → Hp → Prop} {Q1 : β → Hp → Prop}
    (f : Fin ρ2 X W (p1 && p2) C own σ H s (r.bind k) Q)
    (h : ∀ z v H', r = .ok z → Rep X C own σ H' z.2 → ρ1 (Fz (own ++ C.B) H') z.1 v → Same (Fz (own ++ C.B) H) (Fz (own ++ C.B) H') → Fin ρ2 X W p2 C own σ H' z.2 (k z) Q → Q1 v H') : Fin ρ1 X W p1 C own σ H s r Q1 := by
  cases r with
  | ok z =>
    intro v H' hp hs hr hd
    refine h z v H' rfl hr hd hs ?_
    have f : Fin ρ2 X W (p1 && p2) C own σ H s (k z) Q := f
    revert f
    cases k z with
    | ok z2 => exact fun f v2 H2 hp2 hs2 hr2 hd2 => f v2 H2 (fun hpp => by
        have h12 := Bool.and_eq_true_iff.mp hpp
        obtain ⟨e1, e2⟩ := hp h12.1
        obtain ⟨e3, e4⟩ := hp2 h12.2
        exact ⟨e1.trans e3, e4.trans e2⟩) (hs.trans hs2) hr2 hd2
    | exn c x s' => exact fun f => f
    | bad => exact fun f => f
  | exn c x s' => exact f
  | bad => exact f
/-- nothing happens any more -/
theorem Fin.done {α β : Type} {ρ : Hp → α → β → Prop} {X : Cx} {W : WX} {p : Bool} {C : Cn} {own : List Addr} {σ : L2.St} {H H' : Hp} {s : Sv} {d : α} {v : β} {Q : β → Hp → Prop} (f : Fin ρ X W p C own σ H s (.ok (d, s)) Q) (r : Rep X C own σ H s) (e : Same H H') (hd : ρ (Fz (own ++ C.B) H') d v) : Q v H' :=
  f v H' (fun _ => ⟨e, rfl⟩) (Fz.same e) (r.same e) hd
theorem Fin.lift {α β : Type} {ρ : Hp → α → β → Prop} {X : Cx} {W : WX} {p : Bool} {C : Cn} {own : List Addr} {σ : L2.St} {H : Hp} {s : Sv} {o : Option α} {Q : β → Hp → Prop} (f : Fin ρ X W p C own σ H s (R.lift o s) Q) : ∃ d, o = some d ∧ Fin ρ X W p C own σ H s (.ok (d, s)) Q := by
  cases o with
  | none => exact f.elim
  | some d => exact ⟨d, rfl, f⟩
theorem Fin.weak {α β : Type} {ρ : Hp → α → β → Prop} {X : Cx} {W : WX} {p : Bool} {C : Cn} {own : List Addr} {σ : L2.St} {H : Hp} {s : Sv} {r : R (α × Sv)} {Q : β → Hp → Prop} (f : Fin ρ X W p C own σ H s r Q) : Fin ρ X W true C own σ H s r Q := by
  cases r with
  | ok z => exact fun v H' hp hs hr hd => f v H' (fun _ => hp rfl) hs hr hd
  | exn c x s' => exact f
  | bad => exact f

abbrev rhoD (X : Cx) (F : Hp) (d : D) (v : V) : Prop := Den X.K X.w F d v
abbrev rhoL (X : Cx) (F : Hp) (d : List D) (v : List V) : Prop := DenL X.K X.w F d v
abbrev rhoB (F : Hp) (a b : Bool) : Prop := b = a
abbrev Se := Sv → R (D × Sv)
abbrev St2 := Sv → R (Bool × Sv)
structure DX (X : Cx) (W : WX) (e : Expr) (p : Bool) (ε : Se) : Prop where
  ex : ∃ t : TE, PE X e t ∧ ∀ C own σ H s Q, Rep X C own σ H s → Fin (rhoD X) X W p C own σ H s (ε s) Q → t σ H Q
structure DT (X : Cx) (W : WX) (e : Expr) (p : Bool) (τ : St2) : Prop where
  ex : ∃ t : TT, PT X e t ∧ ∀ C own σ H s Q, Rep X C own σ H s → Fin rhoB X W p C own σ H s (τ s) Q → t σ H Q
structure DW (X : Cx) (W : WX) (e : Expr) (p : Bool) (τ : St2) : Prop where
  ex : ∃ t : TT, PW X e t ∧ ∀ C own σ H s Q, Rep X C own σ H s → Fin rhoB X W p C own σ H s (τ s) Q → t σ H Q
structure DA (X : Cx) (W : WX) (es : List Expr) (p : Bool) (ε : Sv → R (List D × Sv)) : Prop where
  ex : ∃ t : TA, PA X es t ∧ ∀ C own σ H s Q, Rep X C own σ H s → Fin (rhoL X) X W p C own σ H s (ε s) Q → t σ H Q

/-! ### values -/
def Known (O : List Addr) (H : Hp) : Prop := ∀ b, b ∈ O → ∃ o, H b = some o
def OpD (X : Cx) (f : Value → Value → Sem Value) (g : D → D → Option D) : Prop := ∃ r : R2, OpR X f r ∧ ∀ (O : List Addr) (H : Hp) (d1 d2 d : D) (x y : V) (Q : VK), Known O H → Den X.K X.w (Fz O H) d1 x → Den X.K X.w (Fz O H) d2 y → g d1 d2 = some d →
  (∀ v H', Same H H' → Den X.K X.w (Fz O H') d v → Q v H') → r x y H Q
def UnD (X : Cx) (f : Value → Sem Value) (g : D → Option D) : Prop := ∃ r : V → Hp → VK → Prop, UnR X f r ∧ ∀ (O : List Addr) (H : Hp) (d1 d : D) (x : V) (Q : VK), Known O H → Den X.K X.w (Fz O H) d1 x → g d1 = some d →
  (∀ v H', Same H H' → Den X.K X.w (Fz O H') d v → Q v H') → r x H Q
def CallD (X : Cx) (f : Value) (g : List D → Option D) : Prop := ∃ r : List V → Hp → VK → Prop, CallR X f r ∧ ∀ (O : List Addr) (H : Hp) (ds : List D) (d : D) (xs : List V) (Q : VK), Known O H → DenL X.K X.w (Fz O H) ds xs → g ds = some d →
  (∀ v H', Same H H' → Den X.K X.w (Fz O H') d v → Q v H') → r xs H Q

section
variable {X : Cx} {W : WX} {a b c e : Expr} {es : List Expr} {pos : Pos} {p pa pb pc : Bool} {εa εb εc : Se}

/-! ### expressions -/
def eVar (i : Nat) : Se := fun s => match s[i]? with
  | some (.sh d) => .ok (d, s)
  | _ => .bad
def eC (d : D) : Se := fun s => .ok (d, s)
def eOp (g : D → D → Option D) (ε1 ε2 : Se) : Se := fun s => (ε1 s).bind fun q => (ε2 q.2).bind fun z => R.lift (g q.1 z.1) z.2
def eUn (g : D → Option D) (ε1 : Se) : Se := fun s => (ε1 s).bind fun q => R.lift (g q.1) q.2
def eChain (g g' : D → D → Option D) (ε1 ε2 ε3 : Se) : Se := fun s => (ε1 s).bind fun q => (ε2 q.2).bind fun z => match g q.1 z.1 with
  | some (.bool true) => (ε3 z.2).bind fun y => R.lift (g' z.1 y.1) y.2
  | some (.bool false) => .ok (.bool false, z.2)
  | _ => .bad
def isBl : D → Option Bool
  | .bool b => some b
  | _ => none
@[simp] theorem isBl_bl (b : Bool) : isBl (.bool b) = some b := (rfl)
def cB (ε : Se) : St2 := fun s => (ε s).bind fun q => R.lift (isBl q.1) q.2
def cNot (τ : St2) : St2 := fun s => (τ s).bind fun q => .ok (!q.1, q.2)
def cAnd (τ τ' : St2) : St2 := fun s => (τ s).bind fun q => if q.1 then τ' q.2 else .ok (false, q.2)
def cOr (τ τ' : St2) : St2 := fun s => (τ s).bind fun q => if q.1 then .ok (true, q.2) else τ' q.2
def eIf (τ : St2) (ε1 ε2 : Se) : Se := fun s => (τ s).bind fun q => if q.1 then ε1 q.2 else ε2 q.2
def eAnd (ε1 ε2 : Se) : Se := fun s => (ε1 s).bind fun q => match q.1 with
  | .bool true => ε2 q.2
  | .bool false => .ok (.bool false, q.2)
  | _ => .bad
def eOr (ε1 ε2 : Se) : Se := fun s => (ε1 s).bind fun q => match q.1 with
  | .bool true => .ok (.bool true, q.2)
  | .bool false => ε2 q.2
  | _ => .bad
def eNot (ε : Se) : Se := eUn (fun d => match d with | .bool b => some (.bool !b) | _ => none) ε
def aNil : Sv → R (List D × Sv) := fun s => .ok ([], s)
def aCons (ε : Se) (α : Sv → R (List D × Sv)) : Sv → R (List D × Sv) := fun s => (ε s).bind fun q => (α q.2).bind fun z => .ok (q.1 :: z.1, z.2)
def eTup (α : Sv → R (List D × Sv)) : Se := fun s => (α s).bind fun q => if q.1.length ≤ 100000 then .ok (.tuple q.1, q.2) else .bad
def eCall (g : List D → Option D) (α : Sv → R (List D × Sv)) : Se := fun s => (α s).bind fun q => R.lift (g q.1) q.2
def eFn (m : List D → R D) (α : Sv → R (List D × Sv)) : Se := fun s => (α s).bind fun q => match m q.1 with
  | .ok d => .ok (d, q.2)
  | .exn c x _ => .exn c x q.2
  | .bad => .bad

theorem dx_var (i : Nat) {x : Str} {pos : Pos} (hN : X.N[i]? = some x := by rfl) (hv : Vis X.env.scope x := by first | exact Or.inl rfl | exact Or.inr (Or.inl rfl) | exact Or.inr (Or.inr rfl)) (hd : (x == ("__debug__" : Str)) = false := by decide)
    (hcd : (x == ("__classdict__" : Str)) = false := by decide) : DX X W (.Name x pos) true (eVar i) := by
  refine ⟨tVar i, pe_var hN hv hd hcd, fun C own σ H s Q r f => ?_⟩
  unfold eVar at f
  split at f
  · next d h =>
    obtain ⟨v, h1, h2⟩ := r.sh i d h
    exact ⟨v, h1, f.done r (Same.refl H) h2⟩
  · exact f.elim
theorem dx_cv {e : Expr} {v : V} {d : D} (he : PE X e (tC v)) (hd : ∀ F, Den X.K X.w F d v) : DX X W e true (eC d) :=
  ⟨_, he, fun C own σ H s Q r f => Fin.done f r (Same.refl H) (hd _)⟩
theorem dx_int {i : Int} {j : Nat} : DX X W (.Constant (.int i) j pos) true (eC (.int i)) := dx_cv pe_int fun _ => rfl
theorem dx_bl {k : Bool} {j : Nat} : DX X W (.Constant (.bool k) j pos) true (eC (.bool k)) := dx_cv pe_bl fun _ => rfl
theorem dx_non {j : Nat} : DX X W (.Constant .none j pos) true (eC .none) := dx_cv pe_non fun _ => rfl
theorem dx_str {x : Str} {j : Nat} : DX X W (.Constant (.str x) j pos) true (eC (.str x)) := dx_cv pe_str fun _ => rfl
theorem dx_glob {x : Str} {v : V} {d : D} {u : Value} (hm : X.mg x = some u) (r : RelV v u) (hd : ∀ F, Den X.K X.w F d v) (hg : Gl X x := by rfl) (hb : (x == ("__debug__" : Str)) = false := by decide) : DX X W (.Name x pos) true (eC d) :=
  dx_cv (pe_glob hg hm r hb) hd

theorem dx_op {op : Operator} {g : D → D → Option D} (ho : OpD X (binaryOp op) g) (ha : DX X W a pa εa) (hb : DX X W b pb εb) : DX X W (.BinOp a op b pos) (pa && (pb && true)) (eOp g εa εb) := by
  obtain ⟨r, hr, ho⟩ := ho
  obtain ⟨ta, ha, qa⟩ := ha
  obtain ⟨tb, hb, qb⟩ := hb
  refine ⟨_, pe_op hr ha hb, fun C own σ H s Q R0 f => qa C own σ H s _ R0 (f.bind fun z x H1 _ R1 d1 s1 f1 => qb C own σ H1 z.2 _ R1 (f1.bind fun y v H2 _ R2 d2 s2 f2 => ?_))⟩
  obtain ⟨d, e, f3⟩ := f2.lift
  exact ho _ H2 _ _ _ _ _ _ R2.kn (Den.mono s2 _ _ d1) d2 e fun v H' e h => f3.done R2 e h
theorem dx_cmp {op : CmpOp} {g : D → D → Option D} (ho : OpD X (compareOp op) g) (ha : DX X W a pa εa) (hb : DX X W b pb εb) (hm : behindInMarks op b = false := by first | exact nomark _ | with_unfolding_all rfl) : DX X W (.Compare a [op] [b] pos) (pa && (pb && true)) (eOp g εa εb) := by
  obtain ⟨r, hr, ho⟩ := ho
  obtain ⟨ta, ha, qa⟩ := ha
  obtain ⟨tb, hb, qb⟩ := hb
  refine ⟨_, pe_cmpR hr ha hb hm, fun C own σ H s Q R0 f => qa C own σ H s _ R0 (f.bind fun z x H1 _ R1 d1 s1 f1 => qb C own σ H1 z.2 _ R1 (f1.bind fun y v H2 _ R2 d2 s2 f2 => ?_))⟩
  obtain ⟨d, e, f3⟩ := f2.lift
  exact ho _ H2 _ _ _ _ _ _ R2.kn (Den.mono s2 _ _ d1) d2 e fun v H' e h => f3.done R2 e h
theorem dx_un {op : UnaryOp} {g : D → Option D} (ho : UnD X (unaryOp op) g) (ha : DX X W a pa εa) : DX X W (.UnaryOp op a pos) (pa && true) (eUn g εa) := by
  obtain ⟨r, hr, ho⟩ := ho
  obtain ⟨ta, ha, qa⟩ := ha
  refine ⟨_, pe_un hr ha, fun C own σ H s Q R0 f => qa C own σ H s _ R0 (f.bind fun z x H1 _ R1 d1 s1 f1 => ?_)⟩
  obtain ⟨d, e, f3⟩ := f1.lift
  exact ho _ H1 _ _ _ _ R1.kn d1 e fun v H' e h => f3.done R1 e h
theorem dx_chain {op op' : CmpOp} {g g' : D → D → Option D} (ho : OpD X (compareOp op) g) (ho' : OpD X (compareOp op') g') (ha : DX X W a pa εa) (hb : DX X W b pb εb) (hc : DX X W c true εc)
    (hm : lastMarks [op, op'] [b, c] = false := by with_unfolding_all rfl) : DX X W (.Compare a [op, op'] [b, c] pos) (pa && (pb && true)) (eChain g g' εa εb εc) := by
  obtain ⟨r, hr, ho⟩ := ho
  obtain ⟨r', hr', ho'⟩ := ho'
  obtain ⟨ta, ha, qa⟩ := ha
  obtain ⟨tb, hb, qb⟩ := hb
  obtain ⟨tc, hc, qc⟩ := hc
  refine ⟨_, pe_chain hr hr' ha hb hc hm, fun C own σ H s Q R0 f => qa C own σ H s _ R0 (f.bind fun z x H1 _ R1 d1 s1 f1 => qb C own σ H1 z.2 _ R1 (f1.bind fun y v H2 _ R2 d2 s2 f2 => ?_))⟩
  cases hg : g z.1 y.1 with
  | none => rw [hg] at f2; exact f2.elim
  | some d =>
    rw [hg] at f2
    refine ho _ H2 _ _ _ _ _ _ R2.kn (Den.mono s2 _ _ d1) d2 hg fun u H3 e h => ?_
    cases d with
    | bool k =>
      refine ⟨k, h, ?_⟩
      cases k with
      | true =>
        rw [if_pos rfl]
        have f2 : Fin (rhoD X) X W true C own σ H2 y.2 ((εc y.2).bind fun q => R.lift (g' y.1 q.1) q.2) Q := f2
        have R3 := R2.same e
        refine qc C own σ H3 y.2 _ R3 (Fin.bind (p2 := true) (ρ2 := rhoD X) (Q := Q) (k := fun q => R.lift (g' y.1 q.1) q.2) ?_ fun q w' H4 _ R4 d3 s4 f4 => ?_)
        · revert f2
          generalize ((εc y.2).bind fun q => R.lift (g' y.1 q.1) q.2) = rr
          intro f2
          cases rr with
          | ok z => exact fun v H' hp hs hr hd => f2 v H' (fun _ => ⟨e.trans (hp rfl).1, (hp rfl).2⟩) ((Fz.same e).trans hs) hr hd
          | exn c x s' => exact f2
          | bad => exact f2
        · obtain ⟨d, e4, f5⟩ := f4.lift
          exact ho' _ H4 _ _ _ _ _ _ R4.kn (Den.mono ((Fz.same e).trans s4) _ _ d2) d3 e4 fun v H' e h => f5.done R4 e h
      | false =>
        rw [if_neg Bool.false_ne_true]
        exact Fin.done f2 R2 e rfl
    | _ => exact f2.elim
theorem dx_if {τ : St2} (hc : DT X W c pc τ) (ha : DX X W a pa εa) (hb : DX X W b pb εb) : DX X W (.IfExp c a b pos) (pc && (pa && pb)) (eIf τ εa εb) := by
  obtain ⟨tc, hc, qc⟩ := hc
  obtain ⟨ta, ha, qa⟩ := ha
  obtain ⟨tb, hb, qb⟩ := hb
  refine ⟨_, pe_ifExp hc ha hb, fun C own σ H s Q R0 f => qc C own σ H s _ R0 (f.bind fun z k H1 _ R1 d1 s1 f1 => ?_)⟩
  have d1 : k = z.1 := d1
  subst d1
  have wk : ∀ {q : Bool} {r : R (D × Sv)}, ((pa && pb) = true → q = true) → Fin (rhoD X) X W (pa && pb) C own σ H1 z.2 r Q → Fin (rhoD X) X W q C own σ H1 z.2 r Q := fun {q r} hq f => by
    cases r with
    | ok y => exact fun v H' hp hs hr hd => f v H' (fun h => hp (hq h)) hs hr hd
    | exn c x s' => exact f
    | bad => exact f
  revert f1
  cases z.1 with
  | true =>
    intro f1
    rw [if_pos rfl]
    exact qa C own σ H1 z.2 _ R1 (wk (fun h => (Bool.and_eq_true_iff.mp h).1) f1)
  | false =>
    intro f1
    rw [if_neg Bool.false_ne_true]
    exact qb C own σ H1 z.2 _ R1 (wk (fun h => (Bool.and_eq_true_iff.mp h).2) f1)

/-! ### tests -/
theorem dt_val {τ : Se} (h : DX X W e p τ) (he : ∀ whole, isTrue e X.env whole = (do let v ← whole; standAt e.pos; holding [v] (truthy v)) := by intro _; rfl) : DT X W e (p && true) (cB τ) := by
  obtain ⟨t, h, q⟩ := h
  refine ⟨_, pt_val h he, fun C own σ H s Q R0 f => q C own σ H s _ R0 (f.bind fun z x H1 _ R1 d1 s1 f1 => ?_)⟩
  obtain ⟨k, e, f2⟩ := f1.lift
  cases hz : z.1 with
  | bool k' =>
    rw [hz] at e d1
    cases e
    exact ⟨_, d1, f2.done R1 (Same.refl H1) rfl⟩
  | _ => rw [hz] at e; cases e
theorem dt_cmp {op : CmpOp} {g : D → D → Option D} (ho : OpD X (compareOp op) g) (ha : DX X W a pa εa) (hb : DX X W b pb εb) (hm : behindInMarks op b = false := by first | exact nomark _ | with_unfolding_all rfl) : DT X W (.Compare a [op] [b] pos) ((pa && (pb && true)) && true) (cB (eOp g εa εb)) := by
  have hx := dx_cmp (pos := pos) ho ha hb hm
  obtain ⟨r, hr, ho⟩ := ho
  obtain ⟨ta, ha, qa⟩ := ha
  obtain ⟨tb, hb, qb⟩ := hb
  refine ⟨_, pt_cmpR hr ha hb hm, fun C own σ H s Q R0 f => ?_⟩
  have q : ∀ C own σ H s Q, Rep X C own σ H s → Fin (rhoD X) X W (pa && (pb && true)) C own σ H s (eOp g εa εb s) Q → tOp r ta tb σ H Q := fun C own σ H s Q R0 f => qa C own σ H s _ R0 (f.bind fun z x H1 _ R1 d1 s1 f1 => qb C own σ H1 z.2 _ R1 (f1.bind fun y v H2 _ R2 d2 s2 f2 => by
    obtain ⟨d, e, f3⟩ := f2.lift
    exact ho _ H2 _ _ _ _ _ _ R2.kn (Den.mono s2 _ _ d1) d2 e fun v H' e h => f3.done R2 e h))
  refine q C own σ H s _ R0 (f.bind fun z x H1 _ R1 d1 s1 f1 => ?_)
  obtain ⟨k, e, f2⟩ := f1.lift
  cases hz : z.1 with
  | bool k' =>
    rw [hz] at e d1
    cases e
    exact ⟨_, d1, f2.done R1 (Same.refl H1) rfl⟩
  | _ => rw [hz] at e; cases e
theorem dt_chain {op op' : CmpOp} {g g' : D → D → Option D} (ho : OpD X (compareOp op) g) (ho' : OpD X (compareOp op') g') (ha : DX X W a pa εa) (hb : DX X W b pb εb) (hc : DX X W c true εc)
    (hm : lastMarks [op, op'] [b, c] = false := by with_unfolding_all rfl) : DT X W (.Compare a [op, op'] [b, c] pos) ((pa && (pb && true)) && true) (cB (eChain g g' εa εb εc)) := by
  obtain ⟨r, hr, ho⟩ := ho
  obtain ⟨r', hr', ho'⟩ := ho'
  obtain ⟨ta, ha, qa⟩ := ha
  obtain ⟨tb, hb, qb⟩ := hb
  obtain ⟨tc, hc, qc⟩ := hc
  refine ⟨_, pt_chain hr hr' ha hb hc hm, fun C own σ H s Q R0 f => ?_⟩
  have q : ∀ C own σ H s Q, Rep X C own σ H s → Fin (rhoD X) X W (pa && (pb && true)) C own σ H s (eChain g g' εa εb εc s) Q → tChain r r' ta tb tc σ H Q := fun C own σ H s Q R0 f => qa C own σ H s _ R0 (f.bind fun z x H1 _ R1 d1 s1 f1 => qb C own σ H1 z.2 _ R1 (f1.bind fun y v H2 _ R2 d2 s2 f2 => by
    cases hg : g z.1 y.1 with
    | none => rw [hg] at f2; exact f2.elim
    | some d =>
      rw [hg] at f2
      refine ho _ H2 _ _ _ _ _ _ R2.kn (Den.mono s2 _ _ d1) d2 hg fun u H3 e h => ?_
      cases d with
      | bool k =>
        refine ⟨k, h, ?_⟩
        cases k with
        | true =>
          rw [if_pos rfl]
          have f2 : Fin (rhoD X) X W true C own σ H2 y.2 ((εc y.2).bind fun q => R.lift (g' y.1 q.1) q.2) Q := f2
          have R3 := R2.same e
          refine qc C own σ H3 y.2 _ R3 (Fin.bind (p2 := true) (ρ2 := rhoD X) (Q := Q) (k := fun q => R.lift (g' y.1 q.1) q.2) ?_ fun q w' H4 _ R4 d3 s4 f4 => ?_)
          · revert f2
            generalize ((εc y.2).bind fun q => R.lift (g' y.1 q.1) q.2) = rr
            intro f2
            cases rr with
            | ok z => exact fun v H' hp hs hr hd => f2 v H' (fun _ => ⟨e.trans (hp rfl).1, (hp rfl).2⟩) ((Fz.same e).trans hs) hr hd
            | exn c x s' => exact f2
            | bad => exact f2
          · obtain ⟨d, e4, f5⟩ := f4.lift
            exact ho' _ H4 _ _ _ _ _ _ R4.kn (Den.mono ((Fz.same e).trans s4) _ _ d2) d3 e4 fun v H' e h => f5.done R4 e h
        | false =>
          rw [if_neg Bool.false_ne_true]
          exact Fin.done f2 R2 e rfl
      | _ => exact f2.elim))
  refine q C own σ H s _ R0 (f.bind fun z x H1 _ R1 d1 s1 f1 => ?_)
  obtain ⟨k, e, f2⟩ := f1.lift
  cases hz : z.1 with
  | bool k' =>
    rw [hz] at e d1
    cases e
    exact ⟨_, d1, f2.done R1 (Same.refl H1) rfl⟩
  | _ => rw [hz] at e; cases e
theorem dt_not {τ : St2} (h : DT X W e p τ) : DT X W (.UnaryOp .Not e pos) (p && true) (cNot τ) := by
  obtain ⟨t, h, q⟩ := h
  refine ⟨_, pt_not h, fun C own σ H s Q R0 f => q C own σ H s _ R0 (f.bind fun z x H1 _ R1 d1 s1 f1 => ?_)⟩
  have d1 : x = z.1 := d1
  subst d1
  exact Fin.done f1 R1 (Same.refl H1) rfl
theorem dt_w {τ : St2} (h : DW X W e p τ) : DT X W e p τ := by
  obtain ⟨t, h, q⟩ := h
  exact ⟨t, h.pt, q⟩
theorem dw_and1 {τ : St2} (h : DT X W a p τ) : DW X W (.BoolOp .And [a] pos) p τ := by
  obtain ⟨t, h, q⟩ := h
  exact ⟨t, pw_and1 h, q⟩
theorem dw_or1 {τ : St2} (h : DT X W a p τ) : DW X W (.BoolOp .Or [a] pos) p τ := by
  obtain ⟨t, h, q⟩ := h
  exact ⟨t, pw_or1 h, q⟩
theorem dw_and {τ τ' : St2} {es : List Expr} (ha : DT X W a pa τ) (hb : DW X W (.BoolOp .And (b :: es) pos) pb τ') : DW X W (.BoolOp .And (a :: b :: es) pos) (pa && pb) (cAnd τ τ') := by
  obtain ⟨ta, ha, qa⟩ := ha
  obtain ⟨tb, hb, qb⟩ := hb
  refine ⟨_, pw_and ha hb, fun C own σ H s Q R0 f => qa C own σ H s _ R0 (f.bind fun z x H1 _ R1 d1 s1 f1 => ?_)⟩
  have d1 : x = z.1 := d1
  subst d1
  revert f1
  cases z.1 with
  | true => exact fun f1 => (if_pos rfl).symm ▸ qb C own σ H1 z.2 _ R1 f1
  | false => exact fun f1 => (if_neg Bool.false_ne_true).symm ▸ Fin.done f1 R1 (Same.refl H1) rfl
theorem dw_or {τ τ' : St2} {es : List Expr} (ha : DT X W a pa τ) (hb : DW X W (.BoolOp .Or (b :: es) pos) pb τ') : DW X W (.BoolOp .Or (a :: b :: es) pos) (pa && pb) (cOr τ τ') := by
  obtain ⟨ta, ha, qa⟩ := ha
  obtain ⟨tb, hb, qb⟩ := hb
  refine ⟨_, pw_or ha hb, fun C own σ H s Q R0 f => qa C own σ H s _ R0 (f.bind fun z x H1 _ R1 d1 s1 f1 => ?_)⟩
  have d1 : x = z.1 := d1
  subst d1
  revert f1
  cases z.1 with
  | true => exact fun f1 => (if_pos rfl).symm ▸ Fin.done f1 R1 (Same.refl H1) rfl
  | false => exact fun f1 => (if_neg Bool.false_ne_true).symm ▸ qb C own σ H1 z.2 _ R1 f1
/-! and, or, not as values -/
theorem dx_one {op} (h : DX X W a p εa) : DX X W (.BoolOp op [a] pos) p εa := by
  obtain ⟨t, h, q⟩ := h
  exact ⟨t, pe_one h, q⟩
theorem dx_and {es : List Expr} (ha : DX X W a pa εa) (hb : DX X W (.BoolOp .And (b :: es) pos) pb εb) : DX X W (.BoolOp .And (a :: b :: es) pos) (pa && pb) (eAnd εa εb) := by
  obtain ⟨ta, ha, qa⟩ := ha
  obtain ⟨tb, hb, qb⟩ := hb
  refine ⟨_, pe_and ha hb, fun C own σ H s Q R0 f => qa C own σ H s _ R0 (f.bind fun z x H1 _ R1 d1 s1 f1 => ?_)⟩
  revert f1 d1
  cases z.1 with
  | bool k =>
    intro d1 f1
    refine ⟨k, d1, ?_⟩
    cases k with
    | true => exact (if_pos rfl).symm ▸ qb C own σ H1 z.2 _ R1 f1
    | false => exact (if_neg Bool.false_ne_true).symm ▸ Fin.done f1 R1 (Same.refl H1) rfl
  | _ => exact fun _ f1 => f1.elim
theorem dx_or {es : List Expr} (ha : DX X W a pa εa) (hb : DX X W (.BoolOp .Or (b :: es) pos) pb εb) : DX X W (.BoolOp .Or (a :: b :: es) pos) (pa && pb) (eOr εa εb) := by
  obtain ⟨ta, ha, qa⟩ := ha
  obtain ⟨tb, hb, qb⟩ := hb
  refine ⟨_, pe_or ha hb, fun C own σ H s Q R0 f => qa C own σ H s _ R0 (f.bind fun z x H1 _ R1 d1 s1 f1 => ?_)⟩
  revert f1 d1
  cases z.1 with
  | bool k =>
    intro d1 f1
    refine ⟨k, d1, ?_⟩
    cases k with
    | true => exact (if_pos rfl).symm ▸ Fin.done f1 R1 (Same.refl H1) rfl
    | false => exact (if_neg Bool.false_ne_true).symm ▸ qb C own σ H1 z.2 _ R1 f1
  | _ => exact fun _ f1 => f1.elim
theorem dx_not (ha : DX X W a pa εa) : DX X W (.UnaryOp .Not a pos) (pa && true) (eNot εa) := by
  obtain ⟨ta, ha, qa⟩ := ha
  refine ⟨_, pe_not ha, fun C own σ H s Q R0 f => qa C own σ H s _ R0 (f.bind fun z x H1 _ R1 d1 s1 f1 => ?_)⟩
  obtain ⟨d, e, f2⟩ := f1.lift
  revert e d1
  cases z.1 with
  | bool k =>
    intro d1 e
    cases e
    exact ⟨k, d1, f2.done R1 (Same.refl H1) rfl⟩
  | _ => exact fun _ e => nomatch e

/-! ### argument lists, displays, calls -/
theorem da_nil : DA X W [] true aNil := ⟨_, pa_nil, fun C own σ H s Q r f => Fin.done f r (Same.refl H) rfl⟩
theorem da_cons {α : Sv → R (List D × Sv)} (he : DX X W e pa εa) (hr : DA X W es pb α) (hs : starEach (e :: es) X.env = (false, eval e X.env) :: starEach es X.env := by rfl) : DA X W (e :: es) (pa && (pb && true)) (aCons εa α) := by
  obtain ⟨ta, ha, qa⟩ := he
  obtain ⟨tb, hb, qb⟩ := hr
  refine ⟨_, pa_cons ha hb hs, fun C own σ H s Q R0 f => qa C own σ H s _ R0 (f.bind fun z x H1 _ R1 d1 s1 f1 => qb C own σ H1 z.2 _ R1 (f1.bind fun y v H2 _ R2 d2 s2 f2 => ?_))⟩
  exact Fin.done f2 R2 (Same.refl H2) (.cons (Den.mono s2 _ _ d1) d2)
theorem sz100 {n : Nat} (h : n ≤ 100000) : n ≤ sizeLine := Nat.le_trans h (by decide)
theorem same_new {H : Hp} {p : Addr} {o : HO} (h : H p = none) : Same H (upd H p o) := fun b x e => by
  rw [upd_ne (ne_of_none e h)]
  exact e
theorem sqn_new {K : PySem.W.Frag} {H : Hp} {p : Addr} {o : Obj} {xs : List V} (h : H p = some (.frz o (.tup xs))) (n : o.dict = none) : SqN K H p xs := .inl ⟨o, h, n⟩
/-- a new tuple -/
def NewT (H : Hp) (xs : List V) (Q : VK) : Prop := ∀ p o, H p = none → o.dict = none → Q (.ref p) (upd H p (.frz o (.tup xs)))
theorem Inv.ltup {X : Cx} {pins : List (Addr × Obj)} {σ : L2.St} {H : Hp} {s : Shared} {xs : List V} {us : List Value} {Q : VK} (I : L2.Inv X pins σ H s) (r : Vals xs us) (z : xs.length ≤ sizeLine) (q : NewT H xs Q) :
    EP X pins σ Q (.ref s.heap.objs.size) { s with heap := s.heap.push { cls := .type "tuple", data := .seq us.toArray } } :=
  ⟨.ref s.heap.objs.size, _, I.laid (t' := s.toks) (o := .frz { cls := .type "tuple", data := .seq us.toArray } (.tup xs)) (fun b u e => Heap.get?_push_of_some _ e) (Nat.le_refl _) ⟨Heap.get?_push_size _ rfl, z, us, r, IsTup.new _ _⟩, rfl, q _ _ (I.hok.fresh (Nat.le_refl _)) rfl⟩
def tTupN (t : TA) : TE := fun σ H Q => t σ H fun xs H1 => xs.length ≤ sizeLine ∧ NewT H1 xs Q
theorem pe_tupN {x1} {t : TA} (h : PA X es t) : PE X (.Tuple es x1 pos) (tTupN t) := by
  refine ⟨fun pins s σ H Q I hq => ?_⟩
  exact wpAny_Tuple_spliced (thn (h.run pos pins s σ H _ I hq) fun us s1 ⟨xs, H1, I1, r, z, q⟩ => ⟨by rw [← r.length]; exact z, Inv.ltup I1 r z q⟩)
theorem dx_tup {α : Sv → R (List D × Sv)} {x1} (h : DA X W es p α) : DX X W (.Tuple es x1 pos) (p && true) (eTup α) := by
  obtain ⟨t, h, q⟩ := h
  refine ⟨_, pe_tupN h, fun C own σ H s Q R0 f => q C own σ H s _ R0 (f.bind fun z x H1 _ R1 d1 s1 f1 => ?_)⟩
  by_cases hl : z.1.length ≤ 100000
  · rw [if_pos hl] at f1
    refine ⟨sz100 (by rw [d1.length]; exact hl), fun q o hq ho => Fin.done f1 R1 (same_new hq) ⟨q, x, rfl, sqn_new ?_ ho, DenL.mono (Fz.same (same_new hq)) _ _ d1⟩⟩
    rw [Fz.out (R1.new hq)]
    exact upd_same
  · rw [if_neg hl] at f1
    exact f1.elim
theorem dx_callB {g : List D → Option D} {x : Str} {id : String} {p0 : Pos} {α : Sv → R (List D × Sv)} (hc : CallD X (.builtin id) g) (hm : X.mg x = none) (hv : bootBuiltins x = some (.builtin id)) (ha : DA X W (e :: es) p α) (hg : Gl X x := by rfl) (hn : x ≠ "__name__" := by decide) (hdb : (x == ("__debug__" : Str)) = false := by decide)
    (he : starEach (e :: es) X.env = (false, eval e X.env) :: starEach es X.env := by rfl) (hpl : (backTo pos (starEach es X.env)).any (·.1) = false := by rfl) : DX X W (.Call (.Name x p0) (e :: es) [] pos) (p && true) (eCall g α) := by
  obtain ⟨r, hr, hc⟩ := hc
  obtain ⟨t, h, q⟩ := ha
  refine ⟨_, pe_callB hr hg hm hv h hn hdb he hpl, fun C own σ H s Q R0 f => q C own σ H s _ R0 (f.bind fun z x H1 _ R1 d1 s1 f1 => ?_)⟩
  obtain ⟨d, e, f2⟩ := f1.lift
  exact hc _ H1 _ _ _ _ R1.kn d1 e fun v H' e h => f2.done R1 e h
theorem dx_callTy {g : List D → Option D} {x : Str} {T : String} {p0 : Pos} {α : Sv → R (List D × Sv)} (hc : CallD X (.type T) g) (hm : X.mg x = none) (hv : bootBuiltins x = some (.type T)) (ha : DA X W (e :: es) p α) (hg : Gl X x := by rfl) (hn : x ≠ "__name__" := by decide) (hdb : (x == ("__debug__" : Str)) = false := by decide)
    (he : starEach (e :: es) X.env = (false, eval e X.env) :: starEach es X.env := by rfl) (hpl : (backTo pos (starEach es X.env)).any (·.1) = false := by rfl) : DX X W (.Call (.Name x p0) (e :: es) [] pos) (p && true) (eCall g α) := by
  obtain ⟨r, hr, hc⟩ := hc
  obtain ⟨t, h, q⟩ := ha
  refine ⟨_, pe_callTy hr hg hm hv h hn hdb he hpl, fun C own σ H s Q R0 f => q C own σ H s _ R0 (f.bind fun z x H1 _ R1 d1 s1 f1 => ?_)⟩
  obtain ⟨d, e, f2⟩ := f1.lift
  exact hc _ H1 _ _ _ _ R1.kn d1 e fun v H' e h => f2.done R1 e h

/-! ### a def's promise -/
def spD (K : PySem.W.Frag) (w : World) (mg : Str → Option Value) (n : Nat) (m : List D → R D) : Sp := fun vs H Q E => ∃ O ds, Known O H ∧ vs.length = n ∧ DenL K w (Fz O H) ds vs ∧ match m ds with
  | .ok d => ∀ v H', Same H H' → Den K w (Fz O H') d v → Q v H'
  | .exn c x _ => ∀ cls dd H', (∃ a, mg c = some (.ref a) ∧ cls = .ref a ∧ (x = PyData.none ∧ dd = none)) → Same H H' → E cls dd H'
  | .bad => False
theorem dx_fn {n k : Nat} {f : Addr} {fd : FuncData} {ps : List Str} {x : Str} {p0 : Pos} {m : List D → R D} {α : Sv → R (List D × Sv)} (F : FnG X.prog X.w X.K X.mg X.base (L2N.CX X.prog X.w) k f fd ps (spD X.K X.w X.mg n m)) (hr : RoomG k X.A) (tk : L2N.Takes X W) (hm : X.mg x = some (.ref f)) (hk : PySem.W.keepIn X.K (.ref f) = true) (hb : Binds X.K fd ps [])
    (hl : es.length + 1 = n) (ha : DA X W (e :: es) p α) (hlen : ∀ s z, α s = .ok z → z.1.length = es.length + 1) (hg : Gl X x := by rfl) (hdb : (x == ("__debug__" : Str)) = false := by decide) (he : starEach (e :: es) X.env = (false, eval e X.env) :: starEach es X.env := by rfl) (hpl : (backTo pos (starEach es X.env)).any (·.1) = false := by rfl) :
    DX X W (.Call (.Name x p0) (e :: es) [] pos) (p && true) (eFn m α) := by
  obtain ⟨t, h, q⟩ := ha
  refine ⟨_, pe_callG (E := fun σ => WE W σ) F hr hg hm hk hb (fun σ => L2N.passAt tk σ) h hdb he hpl, fun C own σ H s Q R0 f => q C own σ H s _ R0 (f.bind fun z vs H1 hz R1 d1 s1 f1 => ?_)⟩
  refine ⟨own ++ C.B, z.1, R1.kn, ?_, ?_, ?_⟩
  · rw [List.append_nil, d1.length, hlen s z hz, hl]
  · rw [List.append_nil]; exact d1
  · revert f1
    cases m z.1 with
    | ok d => exact fun f1 v H' e h => Fin.done f1 R1 e h
    | exn c x s' => exact fun f1 cls dd H' hx e => f1 own H' cls dd hx (R1.same e)
    | bad => exact fun f1 => f1.elim
end
end DL
set_option maxRecDepth 100000
namespace DL
open PySem PySem.Spec PyProof.Rows L2

/-! ### statements -/
inductive Out where
  | nx (s : Sv) | rt (d : D) (s : Sv) | rf (d : D) (s : Sv) | bk (s : Sv) | ct (s : Sv)
def FinS (X : Cx) (W : WX) (C : Cn) (r : R Out) (D : Ends) : Prop := match r with
  | .ok (.nx s) => ∀ own σ H, Rep X C own σ H s → D.nx σ H
  | .ok (.bk s) => ∀ own σ H, Rep X C own σ H s → D.bk σ H
  | .ok (.ct s) => ∀ own σ H, Rep X C own σ H s → D.ct σ H
  | .ok (.rt d s) => ∀ own σ H v, Rep X C own σ H s → Den X.K X.w (Fz (own ++ C.B) H) d v → D.rt v H
  | .ok (.rf d s) => ∀ own σ H p u, Rep X C (p :: own) σ H s → C.H0 p = none → H p = some u → Cont X.K X.w (Fz ((p :: own) ++ C.B) H) p u d → D.rt (.ref p) H
  | .exn c x s => ∀ own σ H cls dd, Exc X c x cls dd H → Rep X C own σ H s → W cls dd σ H
  | .bad => False
abbrev Ss := Sv → R Out
structure DS (X : Cx) (W : WX) (b : List Stmt) (ς : Ss) : Prop where
  ex : ∃ t : TS, PSs X b t ∧ ∀ C own σ H s D, Rep X C own σ H s → FinS X W C (ς s) D → t D σ H
structure D1 (X : Cx) (W : WX) (b : Stmt) (ς : Ss) : Prop where
  ex : ∃ t : TS, PS X b t ∧ ∀ C own σ H s D, Rep X C own σ H s → FinS X W C (ς s) D → t D σ H
/-- behind an expression -/
theorem FinS.bind {α β : Type} {ρ : Hp → α → β → Prop} {X : Cx} {W : WX} {p : Bool} {C : Cn} {own : List Addr} {σ : L2.St} {H : Hp} {s : Sv} {r : R (α × Sv)} {k : α × Sv → R Out} {D : Ends} {Q1 : β → Hp → Prop}
    (f : FinS X W C (r.bind k) D) (h : ∀ z v H', r = .ok z → Rep X C own σ H' z.2 → ρ (Fz (own ++ C.B) H') z.1 v → (p = true → Same H H' ∧ z.2 = s) → FinS X W C (k z) D → Q1 v H') : Fin ρ X W p C own σ H s r Q1 := by
  cases r with
  | ok z => exact fun v H' hp hs hr hd => h z v H' rfl hr hd hp f
  | exn c x s' => exact fun own' H' cls dd hx hr => f own' σ H' cls dd hx hr
  | bad => exact f

def sNext : Ss := fun s => .ok (.nx s)
def sSeq (a b : Ss) : Ss := fun s => (a s).bind fun o => match o with
  | .nx s' => b s'
  | o => .ok o
def put (s : Sv) (i : Nat) (x : Sl) : Option Sv := match s[i]? with
  | none => none
  | some (.io _) => none
  | some _ => some (s.set i x)
def R.opt {α β : Type} (o : Option α) (k : α → R β) : R β := match o with
  | some a => k a
  | none => .bad
@[simp] theorem R.opt_some {α β : Type} (a : α) (k : α → R β) : R.opt (some a) k = k a := (rfl)
@[simp] theorem R.opt_none {α β : Type} (k : α → R β) : R.opt none k = .bad := (rfl)
def sSet (i : Nat) (ε : Se) : Ss := fun s => (ε s).bind fun q => R.opt (put q.2 i (.sh q.1)) fun s' => .ok (.nx s')
def sIf (τ : St2) (a b : Ss) : Ss := fun s => (τ s).bind fun q => if q.1 then a q.2 else b q.2
def sRet (ε : Se) : Ss := fun s => (ε s).bind fun q => .ok (.rt q.1 q.2)
def sRetN : Ss := fun s => .ok (.rt .none s)
def sDrop (ε : Se) : Ss := fun s => (ε s).bind fun q => .ok (.nx q.2)
def sBrk : Ss := fun s => .ok (.bk s)
def sCnt : Ss := fun s => .ok (.ct s)
def sRaise (c : Str) : Ss := fun s => .exn c .none s
def sAug (g : D → D → Option D) (i : Nat) (ε : Se) : Ss := fun s => match s[i]? with
  | some (.sh d0) => (ε s).bind fun q => R.opt (g d0 q.1) fun d => R.opt (put q.2 i (.sh d)) fun s' => .ok (.nx s')
  | _ => .bad
/-- a ghost: the slot i is forgotten -/
def sKill (i : Nat) (a : Ss) : Ss := fun s => R.opt (put s i .un) a
/-- a ghost: what the slot i owns is owned no more -/
def thaw (s : Sv) (i : Nat) : Option Sv := match s[i]? with
  | some (.ow d) => some (s.set i (.sh d))
  | _ => none
def sFrz (i : Nat) (a : Ss) : Ss := fun s => R.opt (thaw s i) a

theorem put_some {s s' : Sv} {i : Nat} {x : Sl} (h : put s i x = some s') : i < s.length ∧ (∀ d, s[i]? ≠ some (.io d)) ∧ s' = s.set i x := by
  unfold put at h
  split at h
  · cases h
  · cases h
  · next y hy hz =>
    cases h
    exact ⟨(List.getElem?_eq_some_iff.mp hz).1, fun d q => hy d (by rw [hz] at q; exact Option.some.inj q), rfl⟩
theorem R.opt_ok {α β : Type} {o : Option α} {k : α → R β} {P : R β → Prop} (hb : ¬ P .bad) (h : P (R.opt o k)) : ∃ a, o = some a ∧ P (k a) := by
  cases o with
  | none => exact absurd h hb
  | some a => exact ⟨a, rfl, h⟩

section
variable {X : Cx} {W : WX} {a b c e : Expr} {es : List Expr} {st : Stmt} {rest sts1 sts2 : List Stmt} {pos : Pos} {p pa pb pc : Bool} {εa εb ε : Se} {ς ς1 ς2 : Ss} {τ : St2}
theorem ds_nil : DS X W [] sNext := ⟨_, pss_nil, fun C own σ H s D r f => f own σ H r⟩
theorem ds_cons (h1 : D1 X W st ς1) (h2 : DS X W rest ς2) : DS X W (st :: rest) (sSeq ς1 ς2) := by
  obtain ⟨t, h1, q1⟩ := h1
  obtain ⟨u, h2, q2⟩ := h2
  refine ⟨_, pss_cons h1 h2, fun C own σ H s D r f => q1 C own σ H s _ r ?_⟩
  unfold sSeq at f
  revert f
  cases ς1 s with
  | ok o => cases o with
    | nx s' => exact fun f own' σ' H' r' => q2 C own' σ' H' s' D r' f
    | rt d s' => exact fun f => f
    | rf d s' => exact fun f => f
    | bk s' => exact fun f => f
    | ct s' => exact fun f => f
  | exn c x s' => exact fun f => f
  | bad => exact fun f => f
theorem ds_last (h1 : D1 X W st ς) : DS X W [st] ς := by
  obtain ⟨t, h1, q1⟩ := h1
  exact ⟨t, pss_one h1, q1⟩
theorem d1_doc {x j pos pos'} : D1 X W (.Expr (.Constant (.str x) j pos) pos') sNext := ⟨_, ps_doc, fun C own σ H s D r f => f own σ H r⟩
theorem d1_pass : D1 X W (.Pass pos) sNext := ⟨_, ps_pass, fun C own σ H s D r f => f own σ H r⟩
theorem d1_brk : D1 X W (.Break pos) sBrk := ⟨_, ps_break, fun C own σ H s D r f => f own σ H r⟩
theorem d1_cnt : D1 X W (.Continue pos) sCnt := ⟨_, ps_continue, fun C own σ H s D r f => f own σ H r⟩
theorem FinS.opt {α : Type} {C : Cn} {o : Option α} {k : α → R Out} {D : Ends} (f : FinS X W C (R.opt o k) D) : ∃ x, o = some x ∧ FinS X W C (k x) D := R.opt_ok (P := fun r => FinS X W C r D) (fun h => h) f
theorem d1_set (i : Nat) {x : Str} {pos' : Pos} (he : DX X W e p ε) (hN : X.N.Nodup) (hi : X.N[i]? = some x := by rfl) (hx : Loc X.env.scope x := by first | exact Or.inl rfl | exact Or.inr rfl) (hs : swapsWith e (some (.Name x pos')) pos.line X.env = pure false := by rfl) (hf : X.fn x = true ∨ X.env.scope.names.lookup x = some .local := by first | exact .inl rfl | exact .inr rfl | assumption) :
    D1 X W (.Assign [.Name x pos'] e pos) (sSet i ε) := by
  obtain ⟨t, he, q⟩ := he
  refine ⟨_, ps_set hN hi hx he hs hf, fun C own σ H s D r f => q C own σ H s _ r (FinS.bind f fun z v H1 _ R1 d1 _ f1 => ?_)⟩
  obtain ⟨s', h1, f2⟩ := f1.opt
  obtain ⟨g1, g2, rfl⟩ := put_some h1
  exact f2 own _ H1 (R1.put g1 g2 d1)
theorem set_read {t : TE} {i : Nat} (q : ∀ C own σ H s Q, Rep X C own σ H s → Fin (rhoD X) X W p C own σ H s (ε s) Q → t σ H Q) (C : Cn) (own : List Addr) (σ : L2.St) (H : Hp) (s : Sv) (D : Ends) (r : Rep X C own σ H s) (f : FinS X W C (sSet i ε s) D) : tAsg t (gName i) D σ H := by
  refine q C own σ H s _ r (FinS.bind f fun z v H1 _ R1 d1 _ f1 => ?_)
  obtain ⟨s', h1, f2⟩ := f1.opt
  obtain ⟨g1, g2, rfl⟩ := put_some h1
  exact f2 own _ H1 (R1.put g1 g2 d1)
theorem d1_if {τ : St2} (hc : DT X W c pc τ) (h1 : DS X W sts1 ς1) (h2 : DS X W sts2 ς2) : D1 X W (.If c sts1 sts2 pos) (sIf τ ς1 ς2) := by
  obtain ⟨tc, hc, qc⟩ := hc
  obtain ⟨t, h1, q1⟩ := h1
  obtain ⟨u, h2, q2⟩ := h2
  refine ⟨_, ps_if hc h1 h2, fun C own σ H s D r f => qc C own σ H s _ r (FinS.bind f fun z k H1 _ R1 d1 _ f1 => ?_)⟩
  have d1 : k = z.1 := d1
  subst d1
  revert f1
  cases z.1 with
  | true => exact fun f1 => (if_pos rfl).symm ▸ q1 C own σ H1 z.2 D R1 f1
  | false => exact fun f1 => (if_neg Bool.false_ne_true).symm ▸ q2 C own σ H1 z.2 D R1 f1
theorem d1_ret (he : DX X W e p ε) : D1 X W (.Return (some e) pos) (sRet ε) := by
  obtain ⟨t, he, q⟩ := he
  exact ⟨_, ps_ret he, fun C own σ H s D r f => q C own σ H s _ r (FinS.bind f fun z v H1 _ R1 d1 _ f1 => f1 own σ H1 v R1 d1)⟩
theorem d1_retN : D1 X W (.Return none pos) sRetN := ⟨_, ps_retN, fun C own σ H s D r f => f own σ H .non r rfl⟩
theorem d1_expr (he : DX X W e p ε) (hs : swapsWith e none pos.line X.env = pure false := by rfl) : D1 X W (.Expr e pos) (sDrop ε) := by
  obtain ⟨t, he, q⟩ := he
  exact ⟨_, ps_expr he hs, fun C own σ H s D r f => q C own σ H s _ r (FinS.bind f fun z v H1 _ R1 d1 _ f1 => f1 own σ H1 R1)⟩
theorem d1_raise {C : Addr} {bmB : List Value} {B newId initId : String} {x m : Str} {j : Nat} {p1 p2 p3 : Pos} (hc : X.calm = true) (tk : L2N.Takes X W) (F : ExcBaseFacts B newId initId bmB) (q : PySem.W.excIn X.K C bmB newId = true) (gC : X.mg x = some (.ref C)) (kC : PySem.W.keepIn X.K (.ref C) = true) (r : Raises X (.ref C)) (hg : Gl X x := by rfl)
    (hdb : (x == ("__debug__" : Str)) = false := by decide) : D1 X W (.Raise (some (.Call (.Name x p1) [.Constant (.str m) j p2] [] p3)) none pos) (sRaise x) :=
  ⟨_, L2N.ps_raise hc tk (L2N.pmk_own F q gC kC r hg hdb), fun Cc own σ H s D r f => f own σ H (.ref C) none ⟨C, gC, rfl, rfl, rfl⟩ r⟩

/-- x op= e at a name -/
def IpD (X : Cx) (op : Operator) (g : D → D → Option D) : Prop := ∃ t : TIp, PIp X op t ∧ ∀ (O : List Addr) (H : Hp) (d1 d2 d : D) (x y : V) (Q : VK), Known O H → Den X.K X.w (Fz O H) d1 x → Den X.K X.w (Fz O H) d2 y → g d1 d2 = some d →
  (∀ v H', Same H H' → Den X.K X.w (Fz O H') d v → Q v H') → t x y H Q
theorem d1_aug (i : Nat) {x : Str} {op : Operator} {g : D → D → Option D} {pos' : Pos} (ho : IpD X op g) (he : DX X W e p ε) (hN : X.N.Nodup) (hi : X.N[i]? = some x := by rfl) (hx : Loc X.env.scope x := by first | exact Or.inl rfl | exact Or.inr rfl) (hf : X.fn x = true ∨ X.env.scope.names.lookup x = some .local := by first | exact .inl rfl | exact .inr rfl | assumption) :
    D1 X W (.AugAssign (.Name x pos') op e pos) (sAug g i ε) := by
  obtain ⟨t, ho, qo⟩ := ho
  obtain ⟨te, he, q⟩ := he
  refine ⟨_, ps_aug hN hi hx he ho hf, fun C own σ H s D r f => ?_⟩
  unfold sAug at f
  split at f
  · next d0 h0 =>
    obtain ⟨v0, h1, h2⟩ := r.sh i d0 h0
    refine ⟨v0, h1, q C own σ H s _ r ?_⟩
    have key : ∀ (rr : R (DL.D × Sv)), FinS X W C (rr.bind fun q => R.opt (g d0 q.1) fun d => R.opt (put q.2 i (.sh d)) fun s' => .ok (.nx s')) D → Fin (rhoD X) X W p C own σ H s rr fun y H1 => t v0 y H1 fun z H2 => D.nx (σ.set i (some z)) H2 := fun rr f => by
      cases rr with
      | ok z =>
        intro v H' hp hs hr hd
        obtain ⟨d, e1, f1⟩ := FinS.opt f
        obtain ⟨s', e2, f2⟩ := FinS.opt f1
        obtain ⟨g1, g2, rfl⟩ := put_some e2
        exact qo _ H' _ _ _ _ _ _ hr.kn (Den.mono hs _ _ h2) hd e1 fun v2 H2 e3 h3 => f2 own _ H2 ((hr.same e3).put g1 g2 h3)
      | exn c x s' => exact fun own' H' cls dd hx hr => f own' σ H' cls dd hx hr
      | bad => exact f
    exact key _ f
  · exact f.elim

/-! ghosts -/
theorem ds_kill (i : Nat) (h : DS X W rest ς) : DS X W rest (sKill i ς) := by
  obtain ⟨t, h, q⟩ := h
  refine ⟨t, h, fun C own σ H s D r f => ?_⟩
  obtain ⟨s', h1, f1⟩ := FinS.opt f
  obtain ⟨g1, g2, rfl⟩ := put_some h1
  have e : σ.set i (σ[i]'(by rw [r.len]; exact g1)) = σ := List.set_getElem_self _
  have r2 := r.kill (x := σ[i]'(by rw [r.len]; exact g1)) g1 g2
  rw [e] at r2
  exact q C own σ H _ D r2 f1
end

/-! ### loops -/
/-- what is walked: the items -/
def ItOk (X : Cx) (F1 : Hp) (ds : List D) (J : It) : Prop := ∀ (i : Nat) (O : List Addr) (H : Hp), Known O H → Same F1 (Fz O H) →
  (i < ds.length → J.go i H ∧ ∀ x H', J.yld i H x H' → Same H H' ∧ ∃ d, ds[i]? = some d ∧ Den X.K X.w (Fz O H') d x) ∧ (ds.length ≤ i → J.stop i H)
structure DI (X : Cx) (W : WX) (tg e : Expr) (p : Bool) (ι : Sv → R (List D × Sv)) : Prop where
  ex : ∃ t : TI, PI X tg e t ∧ ∀ C own σ H s Q, Rep X C own σ H s → Fin (ItOk X) X W p C own σ H s (ι s) Q → t σ H Q
/-- all but the slots js is kept -/
def But (js : List Nat) (σ σ' : L2.St) : Prop := σ'.length = σ.length ∧ ∀ j, j ∉ js → σ'[j]? = σ[j]?
theorem But.refl {js : List Nat} {σ : L2.St} : But js σ σ := ⟨rfl, fun _ _ => rfl⟩
theorem But.trans {js ks : List Nat} {σ σ' σ2 : L2.St} (a : But js σ σ') (b : But ks σ' σ2) : But (js ++ ks) σ σ2 := ⟨b.1.trans a.1, fun j hj => (b.2 j fun z => hj (List.mem_append_right _ z)).trans (a.2 j fun z => hj (List.mem_append_left _ z))⟩
structure DG (X : Cx) (tg : Expr) (js : List Nat) (γ : D → Sv → Option Sv) : Prop where
  ex : ∃ g : TG, PG X tg g ∧ ∀ C own σ H s d v s' Q, Rep X C own σ H s → Den X.K X.w (Fz (own ++ C.B) H) d v → γ d s = some s' → (∀ σ', But js σ σ' → Rep X C own σ' H s' → Q σ' H) → g v σ H Q
def forGo (γ : D → Sv → Option Sv) (b : Ss) : List D → Ss
  | [], s => .ok (.nx s)
  | x :: xs, s => R.opt (γ x s) fun s1 => (b s1).bind fun o => match o with
    | .nx s2 => forGo γ b xs s2
    | .ct s2 => forGo γ b xs s2
    | .bk s2 => .ok (.nx s2)
    | o => .ok o
def sFor (γ : D → Sv → Option Sv) (ι : Sv → R (List D × Sv)) (b : Ss) : Ss := fun s => (ι s).bind fun q => forGo γ b q.1 q.2
def whileGo (τ : St2) (b : Ss) : Nat → Ss
  | 0, _ => .bad
  | n + 1, s => (τ s).bind fun q => if q.1 then (b q.2).bind fun o => match o with
    | .nx s2 => whileGo τ b n s2
    | .ct s2 => whileGo τ b n s2
    | .bk s2 => .ok (.nx s2)
    | o => .ok o
    else .ok (.nx q.2)
def sWhile (n : Sv → Nat) (τ : St2) (b : Ss) : Ss := fun s => whileGo τ b (n s) s

section
variable {X : Cx} {W : WX} {c e tg : Expr} {js ks : List Nat} {st : Stmt} {rest body : List Stmt} {pos : Pos} {p pc : Bool} {ς : Ss} {τ : St2} {γ : D → Sv → Option Sv} {ι : Sv → R (List D × Sv)}
/-- another ground: what is wanted stays -/
theorem FinS.ground {C : Cn} {F : Hp} {r : R Out} {D : Ends} (h : Same C.F0 F) (f : FinS X W C r D) : FinS X W { C with F0 := F } r D := by
  cases r with
  | ok o => cases o with
    | nx s => exact fun own σ H r => f own σ H (r.back h)
    | bk s => exact fun own σ H r => f own σ H (r.back h)
    | ct s => exact fun own σ H r => f own σ H (r.back h)
    | rt d s => exact fun own σ H v r => f own σ H v (r.back h)
    | rf d s => exact fun own σ H p u r => f own σ H p u (r.back h)
  | exn c x s => exact fun own σ H cls dd hx r => f own σ H cls dd hx (r.back h)
  | bad => exact f
theorem d1_for (hp : PassesOwn (model X.prog X.w) X.A X.env X.xe) (hc : X.calm = true) (hi : DI X W tg e p ι) (hg : DG X tg js γ) (hb : DS X W body ς)
    (hs : ∀ x, foldedSetIterable e X.env x = pure x := by intro _; rfl) : D1 X W (.For tg e body [] pos) (sFor γ ι ς) := by
  obtain ⟨wi, hi, qi⟩ := hi
  obtain ⟨g, hg, qg⟩ := hg
  obtain ⟨tb, hb, qb⟩ := hb
  refine ⟨_, ps_for hp hc hi hg hb hs, fun C own σ H s D r f => qi C own σ H s _ r (FinS.bind f fun z J H1 _ R1 d1 _ f1 => ?_)⟩
  have hF : Same C.F0 (Fz (own ++ C.B) H1) := R1.fz
  have d1 : ItOk X (Fz (own ++ C.B) H1) z.1 J := d1
  generalize hF1 : Fz (own ++ C.B) H1 = F1 at d1 hF
  have f1 : FinS X W { C with F0 := F1 } (forGo γ ς z.1 z.2) D := f1.ground hF
  refine ⟨fun i m σ' H' => ∃ own' s', Rep X { C with F0 := F1 } own' σ' H' s' ∧ m = z.1.length - i ∧ i ≤ z.1.length ∧ FinS X W { C with F0 := F1 } (forGo γ ς (z.1.drop i) s') D,
    ⟨z.1.length, own, z.2, R1.ground (by rw [← hF1]; exact Same.refl _), by omega, Nat.zero_le _, f1⟩, ?_⟩
  rintro i m σ' H' ⟨own', s', R', rfl, hi', f'⟩
  obtain ⟨go, stop⟩ := d1 i (own' ++ C.B) H' R'.kn R'.fz
  by_cases hlt : i < z.1.length
  · obtain ⟨go, yl⟩ := go hlt
    refine .inr ⟨go, fun σ2 H2 => ∃ m', m' < z.1.length - i ∧ ∃ own' s', Rep X { C with F0 := F1 } own' σ2 H2 s' ∧ m' = z.1.length - (i + 1) ∧ i + 1 ≤ z.1.length ∧ FinS X W { C with F0 := F1 } (forGo γ ς (z.1.drop (i + 1)) s') D, fun _ _ h => h, fun x H2 y => ?_⟩
    obtain ⟨sm, d, hd, hx⟩ := yl x H2 y
    have e1 : z.1.drop i = d :: z.1.drop (i + 1) := by
      rw [List.drop_eq_getElem_cons hlt]
      have q := List.getElem?_eq_getElem hlt
      rw [hd] at q
      rw [← Option.some.inj q]
    rw [e1] at f'
    obtain ⟨s1, hs1, f2⟩ := FinS.opt f'
    refine qg { C with F0 := F1 } own' σ' H2 s' d x s1 _ (R'.same sm) hx hs1 fun σ2 _ R2 => qb { C with F0 := F1 } own' σ2 H2 s1 _ R2 ?_
    revert f2
    cases ς s1 with
    | ok o => cases o with
      | nx s2 => exact fun f2 own2 σ3 H3 R3 => ⟨z.1.length - (i + 1), by omega, own2, s2, R3, rfl, hlt, f2⟩
      | ct s2 => exact fun f2 own2 σ3 H3 R3 => ⟨z.1.length - (i + 1), by omega, own2, s2, R3, rfl, hlt, f2⟩
      | bk s2 => exact fun f2 => f2
      | rt d s2 => exact fun f2 => f2
      | rf d s2 => exact fun f2 => f2
    | exn c x s2 => exact fun f2 => f2
    | bad => exact fun f2 => f2
  · refine .inl ⟨stop (by omega), ?_⟩
    rw [List.drop_of_length_le (by omega)] at f'
    exact f' own' σ' H' R'
theorem d1_while (n : Sv → Nat) (hp : PassesOwn (model X.prog X.w) X.A X.env X.xe) (hc : DT X W c pc τ) (hb : DS X W body ς) : D1 X W (.While c body [] pos) (sWhile n τ ς) := by
  obtain ⟨tc, hc, qc⟩ := hc
  obtain ⟨tb, hb, qb⟩ := hb
  refine ⟨_, ps_while hp hc hb, fun C own σ H s D r f => ?_⟩
  refine ⟨fun m σ' H' => ∃ own' s', Rep X C own' σ' H' s' ∧ FinS X W C (whileGo τ ς m s') D, ⟨n s, own, s, r, f⟩, ?_⟩
  rintro m σ' H' ⟨own', s', R', f'⟩
  cases m with
  | zero => exact f'.elim
  | succ m =>
    refine qc C own' σ' H' s' _ R' (FinS.bind f' fun z k H1 _ R1 d1 _ f1 => ?_)
    have d1 : k = z.1 := d1
    subst d1
    revert f1
    cases z.1 with
    | false => exact fun f1 => (if_neg Bool.false_ne_true).symm ▸ f1 own' σ' H1 R1
    | true =>
      intro f1
      rw [if_pos rfl]
      have f1 : FinS X W C ((ς z.2).bind fun o => match o with
        | .nx s2 => whileGo τ ς m s2
        | .ct s2 => whileGo τ ς m s2
        | .bk s2 => .ok (.nx s2)
        | o => .ok o) D := f1
      refine ⟨fun σ2 H2 => ∃ m', m' < m + 1 ∧ ∃ own' s', Rep X C own' σ2 H2 s' ∧ FinS X W C (whileGo τ ς m' s') D, fun _ _ h => h, qb C own' σ' H1 z.2 _ R1 ?_⟩
      revert f1
      cases ς z.2 with
      | ok o => cases o with
        | nx s2 => exact fun f2 own2 σ3 H3 R3 => ⟨m, by omega, own2, s2, R3, f2⟩
        | ct s2 => exact fun f2 own2 σ3 H3 R3 => ⟨m, by omega, own2, s2, R3, f2⟩
        | bk s2 => exact fun f2 => f2
        | rt d s2 => exact fun f2 => f2
        | rf d s2 => exact fun f2 => f2
      | exn c x s2 => exact fun f2 => f2
      | bad => exact fun f2 => f2

/-! targets -/
def gVar (i : Nat) : D → Sv → Option Sv := fun d s => put s i (.sh d)
theorem dg_var (i : Nat) {x : Str} (hN : X.N.Nodup) (hi : X.N[i]? = some x := by rfl) (hx : Loc X.env.scope x := by first | exact Or.inl rfl | exact Or.inr rfl) (hf : X.fn x = true ∨ X.env.scope.names.lookup x = some .local := by first | exact .inl rfl | exact .inr rfl | assumption) : DG X (.Name x pos) [i] (gVar i) :=
  ⟨_, pg_name hN hi hx hf, fun C own σ H s d v s' Q r hd hs k => by
    obtain ⟨g1, g2, rfl⟩ := put_some hs
    exact k _ ⟨by simp, fun j hj => by rw [List.getElem?_set_ne (fun z => hj (by simp [z]))]⟩ (r.put g1 g2 hd)⟩
structure DGs (X : Cx) (ts : List Expr) (js : List Nat) (γ : List D → Sv → Option Sv) : Prop where
  ex : ∃ g : TGs, PGs X ts g ∧ ∀ C own σ H s d v s' Q, Rep X C own σ H s → DenL X.K X.w (Fz (own ++ C.B) H) d v → γ d s = some s' → (∀ σ', But js σ σ' → Rep X C own σ' H s' → Q σ' H) → g v σ H Q
def gsNil : List D → Sv → Option Sv := fun ds s => match ds with
  | [] => some s
  | _ => none
def gsCons (γ : D → Sv → Option Sv) (δ : List D → Sv → Option Sv) : List D → Sv → Option Sv := fun ds s => match ds with
  | d :: r => (γ d s).bind fun s' => δ r s'
  | [] => none
def gTupD (n : Nat) (δ : List D → Sv → Option Sv) : D → Sv → Option Sv := fun d s => match d with
  | .tuple ds => if ds.length = n then δ ds s else none
  | _ => none
theorem dgs_nil : DGs X [] [] gsNil := ⟨_, pgs_nil, fun C own σ H s d v s' Q r hd hs k => by
  cases d with
  | nil => cases hs; exact ⟨hd, k σ But.refl r⟩
  | cons _ _ => cases hs⟩
theorem dgs_cons {t : Expr} {ts : List Expr} {δ : List D → Sv → Option Sv} (h1 : DG X t js γ) (h2 : DGs X ts ks δ) (hst : (assignEach (t :: ts) X.env).map (·.2) = assign t X.env :: (assignEach ts X.env).map (·.2) := by rfl) : DGs X (t :: ts) (js ++ ks) (gsCons γ δ) := by
  obtain ⟨g, h1, q1⟩ := h1
  obtain ⟨u, h2, q2⟩ := h2
  refine ⟨_, pgs_cons h1 h2 hst, fun C own σ H s d v s' Q r hd hs k => ?_⟩
  cases d with
  | nil => cases hs
  | cons d ds =>
    obtain ⟨v1, r1, e, hd1, hd2⟩ := hd
    obtain ⟨s1, e1, e2⟩ := Option.bind_eq_some_iff.mp hs
    exact ⟨v1, r1, e, q1 C own σ H s d v1 s1 _ r hd1 e1 fun σ' b' R' => q2 C own σ' H s1 ds r1 s' Q R' hd2 e2 fun σ2 b2 R2 => k σ2 (b'.trans b2) R2⟩
theorem dg_tup {ts : List Expr} {δ : List D → Sv → Option Sv} {n k : Nat} (hc : X.calm = true) (h : DGs X ts js δ) (hn : (assignEach ts X.env).length = n := by rfl) (hst : (assignEach ts X.env).findIdx? (·.1) = none := by rfl) : DG X (.Tuple ts k pos) js (gTupD n δ) := by
  obtain ⟨g, h, q⟩ := h
  refine ⟨_, pg_tup hc h hn hst, fun C own σ H s d v s' Q r hd hs kk => ?_⟩
  cases d with
  | tuple ds =>
    obtain ⟨a, vs, e, h1, h2⟩ := hd
    have hs : (if ds.length = n then δ ds s else none) = some s' := hs
    by_cases hl : ds.length = n
    · rw [if_pos hl] at hs
      exact ⟨a, vs, e, sqt_mono (Fz.le _ _) h1.seq, by rw [h2.length]; exact hl, q C own σ H s ds vs s' Q r h2 hs kk⟩
    · rw [if_neg hl] at hs; cases hs
  | _ => cases hs
end

/-! ### fresh lists and dicts -/
def FinF (X : Cx) (W : WX) (p : Bool) (C : Cn) (own : List Addr) (σ : L2.St) (H : Hp) (s : Sv) (r : R (D × Sv)) (Q : VK) : Prop := match r with
  | .ok z => ∀ q u H', (p = true → Same H H' ∧ z.2 = s) → Same (Fz (own ++ C.B) H) (Fz ((q :: own) ++ C.B) H') → Rep X C (q :: own) σ H' z.2 → NoSlot σ z.2 q → H q = none → q ∉ own ++ C.B → H' q = some u → Cont X.K X.w (Fz ((q :: own) ++ C.B) H') q u z.1 → Q (.ref q) H'
  | .exn c x s' => ∀ own' H' cls dd, Exc X c x cls dd H' → Rep X C own' σ H' s' → W cls dd σ H'
  | .bad => False
structure DF (X : Cx) (W : WX) (e : Expr) (p : Bool) (ε : Se) : Prop where
  ex : ∃ t : TE, PE X e t ∧ ∀ C own σ H s Q, Rep X C own σ H s → FinF X W p C own σ H s (ε s) Q → t σ H Q
theorem Rep.free_back {X : Cx} {C : Cn} {own : List Addr} {σ : L2.St} {H H' : Hp} {s : Sv} {q : Addr} (r : Rep X C own σ H' s) (e : Same (Fz (own ++ C.B) H) (Fz (own ++ C.B) H')) (n : H' q = none) : H q = none := by
  by_cases hq : q ∈ own ++ C.B
  · obtain ⟨o, h⟩ := r.kn q hq
    rw [n] at h; cases h
  · cases h : H q with
    | none => rfl
    | some o =>
      have := (Fz.get (e q o (by rw [Fz.out hq]; exact h))).2
      rw [n] at this; cases this
theorem FinF.bind {α β : Type} {ρ1 : Hp → α → β → Prop} {X : Cx} {W : WX} {p1 p2 : Bool} {C : Cn} {own : List Addr} {σ : L2.St} {H : Hp} {s : Sv} {r : R (α × Sv)} {k : α × Sv → R (D × Sv)} {Q : VK} {Q1 : β → Hp → Prop}
    (f : FinF X W (p1 && p2) C own σ H s (r.bind k) Q)
    (h : ∀ z v H', r = .ok z → Rep X C own σ H' z.2 → ρ1 (Fz (own ++ C.B) H') z.1 v → Same (Fz (own ++ C.B) H) (Fz (own ++ C.B) H') → FinF X W p2 C own σ H' z.2 (k z) Q → Q1 v H') : Fin ρ1 X W p1 C own σ H s r Q1 := by
  cases r with
  | ok z =>
    intro v H' hp hs hr hd
    refine h z v H' rfl hr hd hs ?_
    have f : FinF X W (p1 && p2) C own σ H s (k z) Q := f
    revert f
    cases k z with
    | ok z2 => exact fun f q u H2 hp2 hs2 hr2 hn2 h02 => f q u H2 (fun hpp => by
        have h12 := Bool.and_eq_true_iff.mp hpp
        obtain ⟨e1, e2⟩ := hp h12.1
        obtain ⟨e3, e4⟩ := hp2 h12.2
        exact ⟨e1.trans e3, e4.trans e2⟩) (hs.trans hs2) hr2 hn2 (hr.free_back hs h02)
    | exn c x s' => exact fun f => f
    | bad => exact fun f => f
  | exn c x s' => exact f
  | bad => exact f
theorem FinF.lift {X : Cx} {W : WX} {p : Bool} {C : Cn} {own : List Addr} {σ : L2.St} {H : Hp} {s : Sv} {o : Option D} {Q : VK} (f : FinF X W p C own σ H s (R.lift o s) Q) : ∃ d, o = some d ∧ FinF X W p C own σ H s (.ok (d, s)) Q := by
  cases o with
  | none => exact f.elim
  | some d => exact ⟨d, rfl, f⟩
theorem Rep.h0 {X : Cx} {C : Cn} {own : List Addr} {σ : L2.St} {H : Hp} {s : Sv} {q : Addr} (r : Rep X C own σ H s) (n : H q = none) : C.H0 q = none := by
  cases h0 : C.H0 q with
  | none => rfl
  | some o =>
    have nio : ∀ j, (j, q) ∉ C.ios := fun j z => by
      obtain ⟨h1, d', h2⟩ := r.ios j q z
      obtain ⟨a, u', g1, g2, g3, g4, _⟩ := r.io j d' h2
      rw [h1] at g1; cases g1; rw [n] at g4; cases g4
    obtain ⟨h1, _⟩ := r.keep q o h0 nio
    rw [n] at h1; cases h1
/-- the object is made last -/
theorem FinF.made {X : Cx} {W : WX} {p : Bool} {C : Cn} {own : List Addr} {σ : L2.St} {H H' : Hp} {s : Sv} {d : D} {q : Addr} {u : HO} {Q : VK} (f : FinF X W p C own σ H s (.ok (d, s)) Q) (r : Rep X C own σ H s) (n : H q = none) (e : Same H H') (hq : H' q = some u)
    (hc : Cont X.K X.w (Fz (own ++ C.B) H) q u d) : Q (.ref q) H' := by
  have nO := r.new n
  have m : Same (Fz (own ++ C.B) H) (Fz ((q :: own) ++ C.B) H') := fun a u h => by
    obtain ⟨h1, h2⟩ := Fz.get h
    have ne : a ≠ q := fun z => by rw [z, n] at h2; cases h2
    rw [Fz.out (by intro z; rcases List.mem_cons.mp z with z | z; exact ne z; exact h1 z)]
    exact e a u h2
  exact f q u H' (fun _ => ⟨e, rfl⟩) m (r.fresh n e hq) (r.noslot n) n nO hq (hc.mono m)
/-- a fresh list as data -/
def isLst : D → Bool
  | .list _ => true
  | _ => false
def eFz (ε : Se) : Se := fun s => (ε s).bind fun q => if isLst q.1 then .ok q else .bad
section
variable {X : Cx} {W : WX} {a b c e tg : Expr} {es : List Expr} {st : Stmt} {rest body : List Stmt} {pos : Pos} {p pa pb pc : Bool} {ε εa εb : Se} {ς : Ss}
theorem fz_read {t : TE} (q : ∀ C own σ H s Q, Rep X C own σ H s → FinF X W p C own σ H s (ε s) Q → t σ H Q) (C : Cn) (own : List Addr) (σ : L2.St) (H : Hp) (s : Sv) (Q : VK) (r : Rep X C own σ H s) (f : Fin (rhoD X) X W p C own σ H s (eFz ε s) Q) : t σ H Q := by
  refine q C own σ H s Q r ?_
  unfold eFz at f
  revert f
  cases ε s with
  | exn c x s' => exact fun f => f
  | bad => exact fun f => f
  | ok z =>
    obtain ⟨d, s1⟩ := z
    cases d with
    | list ds =>
      intro f q u H' hp hs hr hn h0 nO hq hc
      obtain ⟨vs, rfl, hd⟩ := hc
      have m : Same (Fz ((q :: own) ++ C.B) H') (Fz (own ++ C.B) H') := Fz.mono (fun a h => List.mem_cons_of_mem _ h) fun _ _ _ e => e
      refine f (.ref q) H' hp (hs.trans m) (hr.unown hn) ⟨q, vs, rfl, .inl ?_, DenL.mono m _ _ hd⟩
      rw [Fz.out nO]; exact hq
    | _ => exact fun f => f.elim
theorem dx_fz (h : DF X W e p ε) : DX X W e p (eFz ε) := by
  obtain ⟨t, h, q⟩ := h
  exact ⟨t, h, fz_read q⟩
/-- a new list or dict for the slot i -/
def sSetF (i : Nat) (ε : Se) : Ss := fun s => (ε s).bind fun q => R.opt (put q.2 i (.ow q.1)) fun s' => .ok (.nx s')
def sRetF (ε : Se) : Ss := fun s => (ε s).bind fun q => .ok (.rf q.1 q.2)
theorem FinS.bindF {C : Cn} {own : List Addr} {σ : L2.St} {H : Hp} {s : Sv} {r : R (DL.D × Sv)} {k : DL.D × Sv → R Out} {D : Ends} {Q1 : VK} (f : FinS X W C (r.bind k) D)
    (h : ∀ z q u H', r = .ok z → Rep X C (q :: own) σ H' z.2 → NoSlot σ z.2 q → H q = none → H' q = some u → Cont X.K X.w (Fz ((q :: own) ++ C.B) H') q u z.1 → FinS X W C (k z) D → Q1 (.ref q) H') : FinF X W p C own σ H s r Q1 := by
  cases r with
  | ok z => exact fun q u H' _ _ hr hn h0 _ hq hc => h z q u H' rfl hr hn h0 hq hc f
  | exn c x s' => exact fun own' H' cls dd hx hr => f own' σ H' cls dd hx hr
  | bad => exact f
theorem d1_setF (i : Nat) {x : Str} {pos' : Pos} (he : DF X W e p ε) (hN : X.N.Nodup) (hi : X.N[i]? = some x := by rfl) (hx : Loc X.env.scope x := by first | exact Or.inl rfl | exact Or.inr rfl) (hs : swapsWith e (some (.Name x pos')) pos.line X.env = pure false := by rfl) (hf : X.fn x = true ∨ X.env.scope.names.lookup x = some .local := by first | exact .inl rfl | exact .inr rfl | assumption) :
    D1 X W (.Assign [.Name x pos'] e pos) (sSetF i ε) := by
  obtain ⟨t, he, q⟩ := he
  refine ⟨_, ps_set hN hi hx he hs hf, fun C own σ H s D r f => q C own σ H s _ r (FinS.bindF f fun z q u H1 _ R1 n1 h0 hq hc f1 => ?_)⟩
  obtain ⟨s', h1, f2⟩ := f1.opt
  obtain ⟨g1, g2, rfl⟩ := put_some h1
  exact f2 _ _ H1 (R1.putOwn n1 hq hc g1 g2)
theorem d1_retF (he : DF X W e p ε) : D1 X W (.Return (some e) pos) (sRetF ε) := by
  obtain ⟨t, he, q⟩ := he
  exact ⟨_, ps_ret he, fun C own σ H s D r f => q C own σ H s _ r (FinS.bindF f fun z q u H1 _ R1 n1 h0 hq hc f1 => f1 own σ H1 q u R1 (r.h0 h0) hq hc)⟩
/-- return of an owned slot -/
def sRetO (i : Nat) : Ss := fun s => match s[i]? with
  | some (.ow d) => .ok (.rf d (s.set i .un))
  | _ => .bad
def eLst (α : Sv → R (List D × Sv)) : Se := fun s => (α s).bind fun q => if q.1.length ≤ 100000 then .ok (.list q.1, q.2) else .bad
theorem df_lst {α : Sv → R (List D × Sv)} (h : DA X W es p α) : DF X W (.List es pos) (p && true) (eLst α) := by
  obtain ⟨t, h, q⟩ := h
  refine ⟨_, pe_lst h, fun C own σ H s Q R0 f => q C own σ H s _ R0 (FinF.bind f fun z x H1 _ R1 d1 s1 f1 => ?_)⟩
  by_cases hl : z.1.length ≤ 100000
  · rw [if_pos hl] at f1
    exact ⟨sz100 (by rw [d1.length]; exact hl), fun q hq => f1.made R1 hq (same_new hq) upd_same ⟨x, rfl, d1⟩⟩
  · rw [if_neg hl] at f1
    exact f1.elim
/-- a call of a built-in that makes a list (a dict) -/
def CallF (X : Cx) (f : Value) (g : List D → Option D) : Prop := ∃ r : List V → Hp → VK → Prop, CallR X f r ∧ ∀ (O : List Addr) (H : Hp) (ds : List D) (d : D) (xs : List V) (Q : VK), Known O H → DenL X.K X.w (Fz O H) ds xs → g ds = some d →
  (∀ q u H', H q = none → Same H H' → H' q = some u → Cont X.K X.w (Fz O H) q u d → Q (.ref q) H') → r xs H Q
def OpF (X : Cx) (f : Value → Value → Sem Value) (g : D → D → Option D) : Prop := ∃ r : R2, OpR X f r ∧ ∀ (O : List Addr) (H : Hp) (d1 d2 d : D) (x y : V) (Q : VK), Known O H → Den X.K X.w (Fz O H) d1 x → Den X.K X.w (Fz O H) d2 y → g d1 d2 = some d →
  (∀ q u H', H q = none → Same H H' → H' q = some u → Cont X.K X.w (Fz O H) q u d → Q (.ref q) H') → r x y H Q
theorem df_callB {g : List D → Option D} {x : Str} {id : String} {p0 : Pos} {α : Sv → R (List D × Sv)} (hc : CallF X (.builtin id) g) (hm : X.mg x = none) (hv : bootBuiltins x = some (.builtin id)) (ha : DA X W (e :: es) p α) (hg : Gl X x := by rfl) (hn : x ≠ "__name__" := by decide) (hdb : (x == ("__debug__" : Str)) = false := by decide)
    (he : starEach (e :: es) X.env = (false, eval e X.env) :: starEach es X.env := by rfl) (hpl : (backTo pos (starEach es X.env)).any (·.1) = false := by rfl) : DF X W (.Call (.Name x p0) (e :: es) [] pos) (p && true) (eCall g α) := by
  obtain ⟨r, hr, hc⟩ := hc
  obtain ⟨t, h, q⟩ := ha
  refine ⟨_, pe_callB hr hg hm hv h hn hdb he hpl, fun C own σ H s Q R0 f => q C own σ H s _ R0 (FinF.bind f fun z x H1 _ R1 d1 s1 f1 => ?_)⟩
  obtain ⟨d, e, f2⟩ := f1.lift
  exact hc _ H1 _ _ _ _ R1.kn d1 e fun q u H' hq e hu hc => f2.made R1 hq e hu hc
theorem df_callTy {g : List D → Option D} {x : Str} {T : String} {p0 : Pos} {α : Sv → R (List D × Sv)} (hc : CallF X (.type T) g) (hm : X.mg x = none) (hv : bootBuiltins x = some (.type T)) (ha : DA X W (e :: es) p α) (hg : Gl X x := by rfl) (hn : x ≠ "__name__" := by decide) (hdb : (x == ("__debug__" : Str)) = false := by decide)
    (he : starEach (e :: es) X.env = (false, eval e X.env) :: starEach es X.env := by rfl) (hpl : (backTo pos (starEach es X.env)).any (·.1) = false := by rfl) : DF X W (.Call (.Name x p0) (e :: es) [] pos) (p && true) (eCall g α) := by
  obtain ⟨r, hr, hc⟩ := hc
  obtain ⟨t, h, q⟩ := ha
  refine ⟨_, pe_callTy hr hg hm hv h hn hdb he hpl, fun C own σ H s Q R0 f => q C own σ H s _ R0 (FinF.bind f fun z x H1 _ R1 d1 s1 f1 => ?_)⟩
  obtain ⟨d, e, f2⟩ := f1.lift
  exact hc _ H1 _ _ _ _ R1.kn d1 e fun q u H' hq e hu hc => f2.made R1 hq e hu hc
theorem df_op {op : Operator} {g : D → D → Option D} (ho : OpF X (binaryOp op) g) (ha : DX X W a pa εa) (hb : DX X W b pb εb) : DF X W (.BinOp a op b pos) (pa && (pb && true)) (eOp g εa εb) := by
  obtain ⟨r, hr, ho⟩ := ho
  obtain ⟨ta, ha, qa⟩ := ha
  obtain ⟨tb, hb, qb⟩ := hb
  refine ⟨_, pe_op hr ha hb, fun C own σ H s Q R0 f => qa C own σ H s _ R0 (FinF.bind f fun z x H1 _ R1 d1 s1 f1 => qb C own σ H1 z.2 _ R1 (FinF.bind f1 fun y v H2 _ R2 d2 s2 f2 => ?_))⟩
  obtain ⟨d, e, f3⟩ := f2.lift
  exact ho _ H2 _ _ _ _ _ _ R2.kn (Den.mono s2 _ _ d1) d2 e fun q u H' hq e hu hc => f3.made R2 hq e hu hc
end
end DL
set_option maxRecDepth 100000
namespace DL
open PySem PySem.Spec PyProof.Rows L2

/-! ### defs -/
def entry (n : Nat) (ss : List Sl) : Sv := ss ++ List.replicate (n - ss.length) .un
def callD (n : Nat) (ς : Ss) (ds : List D) : R D := match ς (entry n (ds.map .sh)) with
  | .ok (.rt d _) => .ok d
  | .ok (.nx _) => .ok .none
  | .exn c x _ => .exn c x []
  | _ => .bad
def callF (n : Nat) (ς : Ss) (ds : List D) : R D := match ς (entry n (ds.map .sh)) with
  | .ok (.rf d _) => .ok d
  | .exn c x _ => .exn c x []
  | _ => .bad
/-- the first argument is changed -/
def ioAt : Sv → Option D
  | .io d :: _ => some d
  | _ => none
def callI (n : Nat) (ς : Ss) (d0 : D) (ds : List D) : R (D × D) := match ς (entry n (.io d0 :: ds.map .sh)) with
  | .ok (.rt d s) => R.opt (ioAt s) fun d1 => .ok (d, d1)
  | .ok (.nx s) => R.opt (ioAt s) fun d1 => .ok (.none, d1)
  | _ => .bad
/-- the same, a fresh list or dict is handed back -/
def callIF (n : Nat) (ς : Ss) (d0 : D) (ds : List D) : R (D × D) := match ς (entry n (.io d0 :: ds.map .sh)) with
  | .ok (.rf d s) => R.opt (ioAt s) fun d1 => .ok (d, d1)
  | _ => .bad
def spF (K : PySem.W.Frag) (w : World) (mg : Str → Option Value) (n : Nat) (m : List D → R D) : Sp := fun vs H Q E => ∃ O ds, Known O H ∧ vs.length = n ∧ DenL K w (Fz O H) ds vs ∧ match m ds with
  | .ok d => ∀ p u H', H p = none → Same H H' → H' p = some u → Cont K w (Fz (p :: O) H') p u d → Q (.ref p) H'
  | .exn c x _ => ∀ cls dd H', (∃ a, mg c = some (.ref a) ∧ cls = .ref a ∧ (x = PyData.none ∧ dd = none)) → Same H H' → E cls dd H'
  | .bad => False
/-- all but a is kept -/
def SameBut (a : Addr) (H H' : Hp) : Prop := ∀ b o, b ≠ a → H b = some o → H' b = some o
def spI (K : PySem.W.Frag) (w : World) (mg : Str → Option Value) (n : Nat) (m : D → List D → R (D × D)) : Sp := fun vs H Q _ => ∃ O a u d0 ds r, Known O H ∧ vs = .ref a :: r ∧ vs.length = n ∧ a ∈ O ∧ H a = some u ∧ Cont K w (Fz O H) a u d0 ∧ DenL K w (Fz O H) ds r ∧ match m d0 ds with
  | .ok z => ∀ v u' H', SameBut a H H' → H' a = some u' → Cont K w (Fz O H') a u' z.2 → Den K w (Fz O H') z.1 v → Q v H'
  | _ => False
def spIF (K : PySem.W.Frag) (w : World) (mg : Str → Option Value) (n : Nat) (m : D → List D → R (D × D)) : Sp := fun vs H Q _ => ∃ O a u d0 ds r, Known O H ∧ vs = .ref a :: r ∧ vs.length = n ∧ a ∈ O ∧ H a = some u ∧ Cont K w (Fz O H) a u d0 ∧ DenL K w (Fz O H) ds r ∧ match m d0 ds with
  | .ok z => ∀ p u' up H', SameBut a H H' → H' a = some u' → Cont K w (Fz (p :: O) H') a u' z.2 → H p = none → H' p = some up → Cont K w (Fz (p :: O) H') p up z.1 → Q (.ref p) H'
  | _ => False

section
variable {P : Program} {w : World} {K : PySem.W.Frag} {mg : Str → Option Value} {base : Heap}
theorem okN {x qual : Str} {st : Stmt} {f : Addr} {fd : FuncData} {N ps : List Str} {k : Nat} {sp : Sp} (F : Fun K x qual st f fd) (S : FnScope N ps (defScope st)) (len : ∀ vs H Q E, sp vs H Q E → vs.length = ps.length)
    (hbody : ∀ (cdv : Value) (A : Around) (outer : List Env) (s : Shared) (H : Hp) (vs : List V) (Q : VK) (E : XK), RoomG k (A.deeper (envOfC qual (defScope st) s.heap.objs.size f cdv)) → sp vs H Q E →
      ∃ t, PSs (cxOf (L2N.CX P w) P w K mg base N qual (defScope st) f cdv A outer s H E) (defBody st) t ∧ t { nx := fun _ H' => Q .non H', rt := Q } (start N vs) H) : FnG P w K mg base (L2N.CX P w) (k + 1) f fd ps sp := by
  obtain ⟨oc, od, kV, doc, pm, an, cdv, ct, osl, rfl, lk, hcd⟩ := F.ex
  exact fn_ofG lk hcd S len fun A outer s H vs Q E hr hsp => hbody cdv A outer s H vs Q E hr hsp
abbrev wD (E : XK) : WX := fun cls d _ H => E cls d H
theorem takesN {N : List Str} {qual : Str} {scope : Scope} {f : Addr} {cd : Value} {A : Around} {outer : List Env} {s : Shared} {H : Hp} {E : XK} : L2N.Takes (cxOf (L2N.CX P w) P w K mg base N qual scope f cd A outer s H E) (wD E) := L2N.takes_of rfl rfl rfl rfl
theorem passesN {N : List Str} {qual : Str} {scope : Scope} {f : Addr} {cd : Value} {A : Around} {outer : List Env} {s : Shared} {H : Hp} {E : XK} : PassesOwn (model P w) (cxOf (L2N.CX P w) P w K mg base N qual scope f cd A outer s H E).A (cxOf (L2N.CX P w) P w K mg base N qual scope f cd A outer s H E).env (cxOf (L2N.CX P w) P w K mg base N qual scope f cd A outer s H E).xe := passes_of rfl
theorem startlen {N : List Str} {vs : List V} (h : vs.length ≤ N.length) : (start N vs).length = N.length := by
  unfold L2.start
  rw [List.length_append, List.length_map, List.length_replicate]
  omega
theorem entrylen {n : Nat} {ss : List Sl} (h : ss.length ≤ n) : (entry n ss).length = n := by
  unfold entry
  rw [List.length_append, List.length_replicate]
  omega
theorem startget {N : List Str} {vs : List V} {i : Nat} {v : V} (h : vs[i]? = some v) : (start N vs)[i]? = some (some v) := by
  unfold L2.start
  have hi := (List.getElem?_eq_some_iff.mp h).1
  rw [List.getElem?_append_left (by rw [List.length_map]; exact hi), List.getElem?_map, h]
  rfl
theorem entryget {n : Nat} {ss : List Sl} {i : Nat} {x : Sl} (h : (entry n ss)[i]? = some x) (hx : x ≠ .un) : ss[i]? = some x := by
  unfold entry at h
  by_cases hi : i < ss.length
  · rw [List.getElem?_append_left hi] at h; exact h
  · rw [List.getElem?_append_right (by omega), List.getElem?_replicate] at h
    split at h
    · cases h; exact absurd rfl hx
    · cases h
theorem ps_le {N ps : List Str} {sc : Scope} (S : FnScope N ps sc) : ps.length ≤ N.length := by
  have := congrArg List.length S.pre
  rw [List.length_take] at this
  omega
theorem rep_in {X : Cx} {N : List Str} {O : List Addr} {H : Hp} {ds : List D} {vs : List V} (hk : Known O H) (hd : DenL X.K X.w (Fz O H) ds vs) (hl : vs.length ≤ N.length) : Rep X ⟨O, H, Fz O H, []⟩ [] (start N vs) H (entry N.length (ds.map .sh)) := by
  have hl2 : (ds.map Sl.sh).length ≤ N.length := by rw [List.length_map, ← hd.length]; exact hl
  have no : ∀ {i : Nat} {x : Sl}, (entry N.length (ds.map Sl.sh))[i]? = some x → x ≠ .un → ∃ d, ds[i]? = some d ∧ x = Sl.sh d := fun {i x} h hx => by
    have q := entryget h hx
    rw [List.getElem?_map] at q
    obtain ⟨d, h1, h2⟩ := Option.map_eq_some_iff.mp q
    exact ⟨d, h1, h2.symm⟩
  refine ⟨by rw [startlen hl, entrylen hl2], fun b hb => hk b hb, fun i d h => ?_, fun i d h => ?_, fun i d h => ?_, fun i a h => (nomatch h), fun i j a ⟨d, h⟩ => ?_, fun b o h _ => ⟨h, fun z => nomatch z⟩, Same.refl _, fun b h => nomatch h⟩
  · obtain ⟨d', h1, h2⟩ := no h (fun z => nomatch z)
    cases h2
    obtain ⟨v, h3, h4⟩ := hd.get h1
    exact ⟨v, startget h3, h4⟩
  · obtain ⟨d', h1, h2⟩ := no h (fun z => nomatch z); cases h2
  · obtain ⟨d', h1, h2⟩ := no h (fun z => nomatch z); cases h2
  · rcases h with h | h <;> (obtain ⟨d', h1, h2⟩ := no h (fun z => nomatch z); cases h2)
theorem rep_out {X : Cx} {O own : List Addr} {H H' F : Hp} {σ : L2.St} {s : Sv} (r : Rep X ⟨O, H, F, []⟩ own σ H' s) : Same H H' := fun b o h => (r.keep b o h fun j z => nomatch z).1
theorem fz_out {O own : List Addr} {H : Hp} : Same (Fz (own ++ O) H) (Fz O H) := Fz.mono (fun _ h => List.mem_append_right _ h) fun _ _ _ e => e

theorem fnD {x qual : Str} {st : Stmt} {f : Addr} {fd : FuncData} {N ps : List Str} {k n : Nat} {ς : Ss} {m : List D → R D} (F : Fun K x qual st f fd) (S : FnScope N ps (defScope st)) (hn : ps.length = n) (hm : ∀ ds, m ds = callD N.length ς ds)
    (hb : ∀ (cdv : Value) (A : Around) (outer : List Env) (s : Shared) (H : Hp) (E : XK), RoomG k (A.deeper (envOfC qual (defScope st) s.heap.objs.size f cdv)) →
      DS (cxOf (L2N.CX P w) P w K mg base N qual (defScope st) f cdv A outer s H E) (wD E) (defBody st) ς) : FnG P w K mg base (L2N.CX P w) (k + 1) f fd ps (spD K w mg n m) := by
  refine okN F S (fun vs H Q E h => ?_) (fun cdv A outer s H vs Q E hr h => ?_)
  · obtain ⟨O, ds, _, hl, _⟩ := h
    rw [hl, hn]
  · obtain ⟨O, ds, hk, hl, hd, hq⟩ := h
    obtain ⟨t, ht, q⟩ := hb cdv A outer s H E hr
    have hle : vs.length ≤ N.length := by rw [hl, ← hn]; exact ps_le S
    have R0 := rep_in (X := cxOf (L2N.CX P w) P w K mg base N qual (defScope st) f cdv A outer s H E) (N := N) hk hd hle
    refine ⟨t, ht, q _ _ _ _ _ _ R0 ?_⟩
    rw [hm] at hq
    unfold callD at hq
    revert hq
    cases ς (entry N.length (ds.map .sh)) with
    | ok o => cases o with
      | nx s' => exact fun hq own σ H' r => hq .non H' (rep_out r) rfl
      | rt d s' => exact fun hq own σ H' v r hv => hq v H' (rep_out r) (Den.mono fz_out _ _ hv)
      | rf d s' => exact fun hq => hq.elim
      | bk s' => exact fun hq => hq.elim
      | ct s' => exact fun hq => hq.elim
    | exn c x s' => exact fun hq own σ H' cls dd hx r => hq cls dd H' hx (rep_out r)
    | bad => exact fun hq => hq
theorem fnF {x qual : Str} {st : Stmt} {f : Addr} {fd : FuncData} {N ps : List Str} {k n : Nat} {ς : Ss} {m : List D → R D} (F : Fun K x qual st f fd) (S : FnScope N ps (defScope st)) (hn : ps.length = n) (hm : ∀ ds, m ds = callF N.length ς ds)
    (hb : ∀ (cdv : Value) (A : Around) (outer : List Env) (s : Shared) (H : Hp) (E : XK), RoomG k (A.deeper (envOfC qual (defScope st) s.heap.objs.size f cdv)) →
      DS (cxOf (L2N.CX P w) P w K mg base N qual (defScope st) f cdv A outer s H E) (wD E) (defBody st) ς) : FnG P w K mg base (L2N.CX P w) (k + 1) f fd ps (spF K w mg n m) := by
  refine okN F S (fun vs H Q E h => ?_) (fun cdv A outer s H vs Q E hr h => ?_)
  · obtain ⟨O, ds, _, hl, _⟩ := h
    rw [hl, hn]
  · obtain ⟨O, ds, hk, hl, hd, hq⟩ := h
    obtain ⟨t, ht, q⟩ := hb cdv A outer s H E hr
    have hle : vs.length ≤ N.length := by rw [hl, ← hn]; exact ps_le S
    have R0 := rep_in (X := cxOf (L2N.CX P w) P w K mg base N qual (defScope st) f cdv A outer s H E) (N := N) hk hd hle
    refine ⟨t, ht, q _ _ _ _ _ _ R0 ?_⟩
    rw [hm] at hq
    unfold callF at hq
    revert hq
    cases ς (entry N.length (ds.map .sh)) with
    | ok o => cases o with
      | nx s' => exact fun hq => hq.elim
      | rt d s' => exact fun hq => hq.elim
      | rf d s' => exact fun hq own σ H' p u r h0 hp hc => hq p u H' h0 (rep_out r) hp (hc.mono (Fz.mono (fun a h => by
          rcases List.mem_cons.mp h with z | z
          · exact List.mem_cons.mpr (.inl z)
          · exact List.mem_cons.mpr (.inr (List.mem_append_right _ z))) fun _ _ _ e => e))
      | bk s' => exact fun hq => hq.elim
      | ct s' => exact fun hq => hq.elim
    | exn c x s' => exact fun hq own σ H' cls dd hx r => hq cls dd H' hx (rep_out r)
    | bad => exact fun hq => hq
theorem rep_io {X : Cx} {N : List Str} {O : List Addr} {H : Hp} {ds : List D} {vs : List V} {a : Addr} {u : HO} {d0 : D} (hk : Known O H) (ha : a ∈ O) (hu : H a = some u) (hc : Cont X.K X.w (Fz O H) a u d0) (hd : DenL X.K X.w (Fz O H) ds vs) (hl : vs.length + 1 ≤ N.length) :
    Rep X ⟨O, H, Fz O H, [(0, a)]⟩ [] (start N (.ref a :: vs)) H (entry N.length (.io d0 :: ds.map .sh)) := by
  have hl2 : (Sl.io d0 :: ds.map Sl.sh).length ≤ N.length := by rw [List.length_cons, List.length_map, ← hd.length]; exact hl
  have no : ∀ {i : Nat} {x : Sl}, (entry N.length (.io d0 :: ds.map Sl.sh))[i]? = some x → x ≠ .un → (i = 0 ∧ x = Sl.io d0) ∨ ∃ j d, i = j + 1 ∧ ds[j]? = some d ∧ x = Sl.sh d := fun {i x} h hx => by
    have q := entryget h hx
    cases i with
    | zero => exact .inl ⟨rfl, (Option.some.inj q).symm⟩
    | succ j =>
      rw [List.getElem?_cons_succ, List.getElem?_map] at q
      obtain ⟨d, h1, h2⟩ := Option.map_eq_some_iff.mp q
      exact .inr ⟨j, d, rfl, h1, h2.symm⟩
  have g0 : (start N (.ref a :: vs))[0]? = some (some (.ref a)) := startget rfl
  refine ⟨by rw [startlen (by rw [List.length_cons]; exact hl), entrylen hl2], fun b hb => hk b hb, fun i d h => ?_, fun i d h => ?_, fun i d h => ?_, fun i b h => ?_, fun i j b ⟨d, h⟩ ⟨d', h'⟩ _ _ => ?_, fun b o h _ => ⟨h, fun z => nomatch z⟩, Same.refl _, fun b h => nomatch h⟩
  · rcases no h (fun z => nomatch z) with ⟨_, z⟩ | ⟨j, d', e, h1, h2⟩
    · cases z
    · subst e
      cases h2
      obtain ⟨v, h3, h4⟩ := hd.get h1
      exact ⟨v, startget (by rw [List.getElem?_cons_succ]; exact h3), h4⟩
  · rcases no h (fun z => nomatch z) with ⟨_, z⟩ | ⟨j, d', e, h1, h2⟩
    · cases z
    · cases h2
  · rcases no h (fun z => nomatch z) with ⟨e, z⟩ | ⟨j, d', e, h1, h2⟩
    · cases z; subst e
      exact ⟨a, u, g0, List.mem_cons_self, ha, hu, hc⟩
    · cases h2
  · have e : (i, b) = (0, a) := List.mem_singleton.mp h
    cases e
    refine ⟨g0, d0, ?_⟩
    unfold entry
    rfl
  · have z0 : ∀ {i : Nat} {d : D}, ((entry N.length (.io d0 :: ds.map Sl.sh))[i]? = some (.ow d) ∨ (entry N.length (.io d0 :: ds.map Sl.sh))[i]? = some (.io d)) → i = 0 := fun {i d} h => by
      rcases h with h | h <;> (rcases no h (fun z => nomatch z) with ⟨e, z⟩ | ⟨j, d', e, h1, h2⟩)
      · exact e
      · cases h2
      · exact e
      · cases h2
    rw [z0 h, z0 h']
theorem io_out {X : Cx} {O own : List Addr} {a : Addr} {H H' F : Hp} {σ : L2.St} {s : Sv} {d1 : D} (r : Rep X ⟨O, H, F, [(0, a)]⟩ own σ H' s) (h : ioAt s = some d1) : SameBut a H H' ∧ ∃ u, H' a = some u ∧ Cont X.K X.w (Fz (own ++ O) H') a u d1 := by
  refine ⟨fun b o ne h => (r.keep b o h fun j z => ne (Prod.mk.inj (List.mem_singleton.mp z)).2).1, ?_⟩
  have hs : s[0]? = some (.io d1) := by
    unfold ioAt at h
    split at h
    · cases h; rfl
    · cases h
  obtain ⟨b, u, h1, h2, _, h4, h5⟩ := r.io 0 d1 hs
  have e : b = a := (Prod.mk.inj (List.mem_singleton.mp h2)).2
  subst e
  exact ⟨u, h4, h5⟩
theorem fnI {x qual : Str} {st : Stmt} {f : Addr} {fd : FuncData} {N ps : List Str} {k n : Nat} {ς : Ss} {m : D → List D → R (D × D)} (F : Fun K x qual st f fd) (S : FnScope N ps (defScope st)) (hn : ps.length = n) (hm : ∀ d0 ds, m d0 ds = callI N.length ς d0 ds)
    (hb : ∀ (cdv : Value) (A : Around) (outer : List Env) (s : Shared) (H : Hp) (E : XK), RoomG k (A.deeper (envOfC qual (defScope st) s.heap.objs.size f cdv)) →
      DS (cxOf (L2N.CX P w) P w K mg base N qual (defScope st) f cdv A outer s H E) (fun _ _ _ _ => False) (defBody st) ς) : FnG P w K mg base (L2N.CX P w) (k + 1) f fd ps (spI K w mg n m) := by
  refine okN F S (fun vs H Q E h => ?_) (fun cdv A outer s H vs Q E hr h => ?_)
  · obtain ⟨O, a, u, d0, ds, r, _, _, hl, _⟩ := h
    rw [hl, hn]
  · obtain ⟨O, a, u, d0, ds, r, hk, rfl, hl, haO, hu, hc, hd, hq⟩ := h
    obtain ⟨t, ht, q⟩ := hb cdv A outer s H E hr
    have hle : r.length + 1 ≤ N.length := by
      rw [List.length_cons] at hl
      rw [hl, ← hn]; exact ps_le S
    have R0 := rep_io (X := cxOf (L2N.CX P w) P w K mg base N qual (defScope st) f cdv A outer s H E) (N := N) hk haO hu hc hd hle
    refine ⟨t, ht, q _ _ _ _ _ _ R0 ?_⟩
    rw [hm] at hq
    unfold callI at hq
    revert hq
    cases ς (entry N.length (.io d0 :: ds.map .sh)) with
    | ok o => cases o with
      | nx s' =>
        intro hq own σ H' r
        revert hq
        show (match R.opt (ioAt s') fun d1 => R.ok (PyData.none, d1) with | .ok z => _ | _ => False) → _
        cases e : ioAt s' with
        | none => exact fun hq => hq.elim
        | some d1 =>
          intro hq
          obtain ⟨h1, u', h2, h3⟩ := io_out r e
          exact hq .non u' H' h1 h2 (h3.mono fz_out) rfl
      | rt d s' =>
        intro hq own σ H' v r hv
        revert hq
        show (match R.opt (ioAt s') fun d1 => R.ok (d, d1) with | .ok z => _ | _ => False) → _
        cases e : ioAt s' with
        | none => exact fun hq => hq.elim
        | some d1 =>
          intro hq
          obtain ⟨h1, u', h2, h3⟩ := io_out r e
          exact hq v u' H' h1 h2 (h3.mono fz_out) (Den.mono fz_out _ _ hv)
      | rf d s' => exact fun hq => hq.elim
      | bk s' => exact fun hq => hq.elim
      | ct s' => exact fun hq => hq.elim
    | exn c x s' => exact fun hq => hq.elim
    | bad => exact fun hq => hq.elim
theorem fnIF {x qual : Str} {st : Stmt} {f : Addr} {fd : FuncData} {N ps : List Str} {k n : Nat} {ς : Ss} {m : D → List D → R (D × D)} (F : Fun K x qual st f fd) (S : FnScope N ps (defScope st)) (hn : ps.length = n) (hm : ∀ d0 ds, m d0 ds = callIF N.length ς d0 ds)
    (hb : ∀ (cdv : Value) (A : Around) (outer : List Env) (s : Shared) (H : Hp) (E : XK), RoomG k (A.deeper (envOfC qual (defScope st) s.heap.objs.size f cdv)) →
      DS (cxOf (L2N.CX P w) P w K mg base N qual (defScope st) f cdv A outer s H E) (fun _ _ _ _ => False) (defBody st) ς) : FnG P w K mg base (L2N.CX P w) (k + 1) f fd ps (spIF K w mg n m) := by
  refine okN F S (fun vs H Q E h => ?_) (fun cdv A outer s H vs Q E hr h => ?_)
  · obtain ⟨O, a, u, d0, ds, r, _, _, hl, _⟩ := h
    rw [hl, hn]
  · obtain ⟨O, a, u, d0, ds, r, hk, rfl, hl, haO, hu, hc, hd, hq⟩ := h
    obtain ⟨t, ht, q⟩ := hb cdv A outer s H E hr
    have hle : r.length + 1 ≤ N.length := by
      rw [List.length_cons] at hl
      rw [hl, ← hn]; exact ps_le S
    have R0 := rep_io (X := cxOf (L2N.CX P w) P w K mg base N qual (defScope st) f cdv A outer s H E) (N := N) hk haO hu hc hd hle
    refine ⟨t, ht, q _ _ _ _ _ _ R0 ?_⟩
    rw [hm] at hq
    unfold callIF at hq
    revert hq
    cases ς (entry N.length (.io d0 :: ds.map .sh)) with
    | ok o => cases o with
      | nx s' => exact fun hq => hq.elim
      | rt d s' => exact fun hq => hq.elim
      | rf d s' =>
        intro hq own σ H' p up r h0 hp hcp
        revert hq
        show (match R.opt (ioAt s') fun d1 => R.ok (d, d1) with | .ok z => _ | _ => False) → _
        cases e : ioAt s' with
        | none => exact fun hq => hq.elim
        | some d1 =>
          intro hq
          obtain ⟨h1, u', h2, h3⟩ := io_out r e
          have m : Same (Fz ((p :: own) ++ O) H') (Fz (p :: O) H') := Fz.mono (fun a h => by
            rcases List.mem_cons.mp h with z | z
            · exact List.mem_cons.mpr (.inl z)
            · exact List.mem_cons.mpr (.inr (List.mem_append_right _ z))) fun _ _ _ e => e
          exact hq p u' up H' h1 h2 (h3.mono m) h0 hp (hcp.mono m)
      | bk s' => exact fun hq => hq.elim
      | ct s' => exact fun hq => hq.elim
    | exn c x s' => exact fun hq => hq.elim
    | bad => exact fun hq => hq.elim
end
end DL
set_option maxRecDepth 100000
namespace DL
open PySem PySem.Spec PyProof.Rows L2

/-! ### ghosts: an owned object is frozen for good, or lent -/
section
variable {X : Cx} {C C' : Cn} {own : List Addr} {σ : L2.St} {H H' : Hp} {s : Sv} {i : Nat} {a : Addr} {u : HO} {d : D} {od : Obj}
abbrev less (own : List Addr) (a : Addr) : List Addr := own.filter fun b => decide (b ≠ a)
theorem less_mem {own : List Addr} {a b : Addr} : b ∈ less own a ↔ b ∈ own ∧ b ≠ a := by
  unfold less
  rw [List.mem_filter]
  exact ⟨fun ⟨h1, h2⟩ => ⟨h1, of_decide_eq_true h2⟩, fun ⟨h1, h2⟩ => ⟨h1, decide_eq_true h2⟩⟩
theorem Cont.den {K : PySem.W.Frag} {w : World} {F : Hp} {a : Addr} {u : HO} {o : Obj} : ∀ {d : D}, Cont K w F a u d → F a = some (.frz o u) → Den K w F d (.ref a)
  | .list ds, ⟨vs, h1, h2⟩, e => ⟨a, vs, rfl, .inr ⟨o, h1 ▸ e⟩, h2⟩
  | .dict kvs, ⟨es, h1, h2⟩, e => ⟨a, o, es, rfl, h1 ▸ e, h2⟩
theorem Rep.own1 (r : Rep X C own σ H s) (hs : s[i]? = some (.ow d) ∨ s[i]? = some (.io d)) : ∃ a u, σ[i]? = some (some (.ref a)) ∧ a ∈ own ++ C.B ∧ H a = some u ∧ Cont X.K X.w (Fz (own ++ C.B) H) a u d := by
  rcases hs with h | h
  · obtain ⟨a, u, h1, h2, h3, h4⟩ := r.ow i d h
    exact ⟨a, u, h1, List.mem_append_left _ h2, h3, h4⟩
  · obtain ⟨a, u, h1, _, h2, h3, h4⟩ := r.io i d h
    exact ⟨a, u, h1, List.mem_append_right _ h2, h3, h4⟩
/-- a is locked, the slot i holds data now -/
theorem Rep.froz (r : Rep X C own σ H s) (hs : s[i]? = some (.ow d) ∨ s[i]? = some (.io d)) (ha : σ[i]? = some (some (.ref a))) (hu : H a = some u) (hO : a ∈ own ++ C.B) (hc : Cont X.K X.w (Fz (own ++ C.B) H) a u d)
    (hB : ∀ b, b ∈ C'.B ↔ b ∈ C.B ∧ b ≠ a) (hi : ∀ j b, (j, b) ∈ C'.ios → (j, b) ∈ C.ios ∧ j ≠ i) (hi2 : ∀ j b, (j, b) ∈ C.ios → j ≠ i → (j, b) ∈ C'.ios) (hk : ∀ b o, C'.H0 b = some o → (∀ j, (j, b) ∉ C'.ios) → (C.H0 b = some o ∧ (∀ j, (j, b) ∉ C.ios)) ∧ b ≠ a) (hF : Same C'.F0 C.F0) :
    Rep X C' (less own a) σ (upd H a (.frz od u)) (s.set i (.sh d)) := by
  have hlt : i < s.length := by rcases hs with h | h <;> exact (List.getElem?_eq_some_iff.mp h).1
  have hOi : Owned s i := ⟨d, hs⟩
  have mem : ∀ b, b ∈ less own a ++ C'.B ↔ b ∈ own ++ C.B ∧ b ≠ a := fun b => by
    rw [List.mem_append, List.mem_append, less_mem, hB]
    constructor
    · rintro (⟨h1, h2⟩ | ⟨h1, h2⟩)
      · exact ⟨.inl h1, h2⟩
      · exact ⟨.inr h1, h2⟩
    · rintro ⟨h1 | h1, h2⟩
      · exact .inl ⟨h1, h2⟩
      · exact .inr ⟨h1, h2⟩
  have m : Same (Fz (own ++ C.B) H) (Fz (less own a ++ C'.B) (upd H a (.frz od u))) := Fz.mono (fun b h => ((mem b).mp h).1) fun b o h e => by
    rw [upd_ne (show b ≠ a from fun z => h (z ▸ hO))]
    exact e
  have fa : Fz (less own a ++ C'.B) (upd H a (.frz od u)) a = some (.frz od u) := by
    rw [Fz.out fun z => ((mem a).mp z).2 rfl, upd_same]
  have ne : ∀ j b, j ≠ i → Owned s j → σ[j]? = some (some (.ref b)) → b ≠ a := fun j b hj ho hb z => hj (r.uni j i a ho hOi (z ▸ hb) ha)
  have back : ∀ (j : Nat) (x : Sl), (s.set i (.sh d))[j]? = some x → (∀ e, x ≠ .sh e) → j ≠ i ∧ s[j]? = some x := fun j x h hx => by
    have e : j ≠ i := fun e => by subst e; rw [List.getElem?_set_self hlt] at h; cases h; exact hx d rfl
    rw [List.getElem?_set_ne (Ne.symm e)] at h
    exact ⟨e, h⟩
  have ownB : ∀ j, Owned (s.set i (.sh d)) j → j ≠ i ∧ Owned s j := fun j ⟨x, hx⟩ => by
    rcases hx with hx | hx
    · obtain ⟨e, h⟩ := back j _ hx (fun _ z => nomatch z); exact ⟨e, x, .inl h⟩
    · obtain ⟨e, h⟩ := back j _ hx (fun _ z => nomatch z); exact ⟨e, x, .inr h⟩
  refine ⟨by simpa using r.len, fun b hb => ?_, fun j d' h => ?_, fun j d' h => ?_, fun j d' h => ?_, fun j b h => ?_, fun j k b hj hk' h1 h2 => r.uni j k b (ownB j hj).2 (ownB k hk').2 h1 h2, fun b o h h' => ?_, (hF.trans r.fz).trans m, fun b hb hB' => r.apart b (less_mem.mp hb).1 ((hB b).mp hB').1⟩
  · obtain ⟨h1, h2⟩ := (mem b).mp hb
    obtain ⟨o, h⟩ := r.kn b h1
    exact ⟨o, by rw [upd_ne h2]; exact h⟩
  · by_cases e : j = i
    · subst e
      rw [List.getElem?_set_self hlt] at h
      cases h
      exact ⟨.ref a, ha, (hc.mono m).den fa⟩
    · rw [List.getElem?_set_ne (Ne.symm e)] at h
      obtain ⟨v, h1, h2⟩ := r.sh j d' h
      exact ⟨v, h1, Den.mono m d' v h2⟩
  · obtain ⟨e, h⟩ := back j _ h (fun _ z => nomatch z)
    obtain ⟨b, u', h1, h2, h3, h4⟩ := r.ow j d' h
    have nb := ne j b e ⟨d', .inl h⟩ h1
    exact ⟨b, u', h1, less_mem.mpr ⟨h2, nb⟩, by rw [upd_ne nb]; exact h3, h4.mono m⟩
  · obtain ⟨e, h⟩ := back j _ h (fun _ z => nomatch z)
    obtain ⟨b, u', h1, h2, h3, h4, h5⟩ := r.io j d' h
    have nb := ne j b e ⟨d', .inr h⟩ h1
    exact ⟨b, u', h1, hi2 j b h2 e, (hB b).mpr ⟨h3, nb⟩, by rw [upd_ne nb]; exact h4, h5.mono m⟩
  · obtain ⟨h1, h2⟩ := hi j b h
    obtain ⟨h3, d', h4⟩ := r.ios j b h1
    exact ⟨h3, d', by rw [List.getElem?_set_ne (Ne.symm h2)]; exact h4⟩
  · obtain ⟨⟨h1, h2⟩, h3⟩ := hk b o h h'
    obtain ⟨h4, h5⟩ := r.keep b o h1 h2
    exact ⟨by rw [upd_ne h3]; exact h4, fun z => h5 (less_mem.mp z).1⟩
theorem thaw_some {s s' : Sv} {i : Nat} (h : thaw s i = some s') : ∃ d, s[i]? = some (.ow d) ∧ s' = s.set i (.sh d) := by
  unfold thaw at h
  split at h
  · next d hd => cases h; exact ⟨d, hd, rfl⟩
  · cases h
end
section
variable {X : Cx} {W : WX} {e : Expr} {sts : List Stmt} {p : Bool} {ε : Se} {ς : Ss}
theorem pss_frz {t : TS} (h : PSs X sts t) : PSs X sts (fun D σ H => ∃ a u, H a = some u ∧ Mut (some u) ∧ ∀ od, t D σ (upd H a (.frz od u))) := by
  refine ⟨fun pins s σ H D I hw => ?_⟩
  obtain ⟨a, u, h1, mu, k⟩ := hw
  obtain ⟨od, I'⟩ := I.lock h1 mu
  exact h.run pins s σ _ D I' (k od)
theorem ds_frz (i : Nat) (h : DS X W sts ς) : DS X W sts (sFrz i ς) := by
  obtain ⟨t, h, q⟩ := h
  refine ⟨_, pss_frz h, fun C own σ H s D r f => ?_⟩
  obtain ⟨s', h1, f1⟩ := FinS.opt f
  obtain ⟨d, h2, rfl⟩ := thaw_some h1
  obtain ⟨a, u, g1, g2, g3, g4⟩ := r.ow i d h2
  refine ⟨a, u, g3, g4.mut, fun od => q C (less own a) σ _ _ D ?_ f1⟩
  refine r.froz (C' := C) (.inl h2) g1 g3 (List.mem_append_left _ g2) g4 (fun b => ⟨fun h => ⟨h, fun z => r.apart a g2 (z ▸ h)⟩, fun h => h.1⟩) (fun j b h => ⟨h, fun z => ?_⟩) (fun j b h _ => h) (fun b o h h' => ⟨⟨h, h'⟩, fun z => ?_⟩) (Same.refl _)
  · obtain ⟨_, d', h3⟩ := r.ios j b h
    rw [z, h2] at h3; cases h3
  · exact (r.keep b o h h').2 (z ▸ g2)

/-- no list and no dict in it -/
def flat : D → Bool
  | .none | .bool _ | .int _ | .str _ => true
  | .tuple ds => flatL ds
  | .list _ | .dict _ => false
where flatL : List D → Bool
  | [] => true
  | d :: ds => flat d && flatL ds
mutual
theorem Den.flat {K : PySem.W.Frag} {w : World} {F F' : Hp} (h : ∀ a o, F a = some o → Mut (some o) ∨ (∃ od u, o = .frz od u ∧ Mut (some u)) ∨ F' a = some o) : ∀ (d : D) (v : V), DL.flat d = true → Den K w F d v → Den K w F' d v
  | .none, _, _, q => q
  | .bool _, _, _, q => q
  | .int _, _, _, q => q
  | .str _, _, _, q => q
  | .tuple ds, _, f, ⟨a, vs, h1, h2, h3⟩ => ⟨a, vs, h1, by
      rcases h2 with ⟨o, h2, e⟩ | h2
      · rcases h _ _ h2 with z | ⟨od, u, z, m⟩ | z
        · exact z.elim
        · cases z; exact m.elim
        · exact .inl ⟨o, z, e⟩
      · exact .inr h2, DenL.flat h ds vs (by unfold DL.flat at f; exact f) h3⟩
  | .list _, _, f, _ => by unfold DL.flat at f; cases f
  | .dict _, _, f, _ => by unfold DL.flat at f; cases f
theorem DenL.flat {K : PySem.W.Frag} {w : World} {F F' : Hp} (h : ∀ a o, F a = some o → Mut (some o) ∨ (∃ od u, o = .frz od u ∧ Mut (some u)) ∨ F' a = some o) : ∀ (ds : List D) (vs : List V), flat.flatL ds = true → DenL K w F ds vs → DenL K w F' ds vs
  | [], _, _, q => q
  | d :: ds, _, f, ⟨v, r, h1, h2, h3⟩ => by
    unfold flat.flatL at f
    obtain ⟨f1, f2⟩ := Bool.and_eq_true_iff.mp f
    exact ⟨v, r, h1, Den.flat h d v f1 h2, DenL.flat h ds r f2 h3⟩
end
def ownAt (s : Sv) (i : Nat) : Option D := match s[i]? with
  | some (.ow d) => some d
  | some (.io d) => some d
  | _ => none
theorem ownAt_some {s : Sv} {i : Nat} {d : D} (h : ownAt s i = some d) : s[i]? = some (.ow d) ∨ s[i]? = some (.io d) := by
  unfold ownAt at h
  split at h
  · next d' hd => cases h; exact .inl hd
  · next d' hd => cases h; exact .inr hd
  · cases h
/-- e, the object of the slot i read as data meanwhile -/
def eLend (i : Nat) (ε : Se) : Se := fun s => R.opt (ownAt s i) fun d0 => match ε (s.set i (.sh d0)) with
  | .ok q => if flat q.1 then .ok (q.1, s) else .bad
  | _ => .bad
theorem Fin.opt {α β γ : Type} {ρ : Hp → α → β → Prop} {p : Bool} {C : Cn} {own : List Addr} {σ : L2.St} {H : Hp} {s : Sv} {o : Option γ} {k : γ → R (α × Sv)} {Q : β → Hp → Prop} (f : Fin ρ X W p C own σ H s (R.opt o k) Q) : ∃ x, o = some x ∧ Fin ρ X W p C own σ H s (k x) Q := R.opt_ok (P := fun r => Fin ρ X W p C own σ H s r Q) (fun h => h) f
theorem FinF.opt {γ : Type} {p : Bool} {C : Cn} {own : List Addr} {σ : L2.St} {H : Hp} {s : Sv} {o : Option γ} {k : γ → R (D × Sv)} {Q : VK} (f : FinF X W p C own σ H s (R.opt o k) Q) : ∃ x, o = some x ∧ FinF X W p C own σ H s (k x) Q := R.opt_ok (P := fun r => FinF X W p C own σ H s r Q) (fun h => h) f
abbrev lentC (C : Cn) (i : Nat) (a : Addr) : Cn := ⟨less C.B a, fun _ => none, fun _ => none, C.ios.filter fun q => decide (q.1 ≠ i)⟩
theorem Rep.lent {C : Cn} {own : List Addr} {σ : L2.St} {H : Hp} {s : Sv} {i : Nat} {d : D} {a : Addr} {u : HO} {od : Obj} (r : Rep X C own σ H s) (hs : s[i]? = some (.ow d) ∨ s[i]? = some (.io d)) (ha : σ[i]? = some (some (.ref a))) (hu : H a = some u) (hO : a ∈ own ++ C.B) (hc : Cont X.K X.w (Fz (own ++ C.B) H) a u d) :
    Rep X (lentC C i a) (less own a) σ (upd H a (.frz od u)) (s.set i (.sh d)) := by
  refine r.froz hs ha hu hO hc (fun b => less_mem) (fun j b h => ?_) (fun j b h h' => ?_) (fun b o h => nomatch h) (fun b o h => nomatch h)
  · obtain ⟨h1, h2⟩ := List.mem_filter.mp h
    exact ⟨h1, of_decide_eq_true h2⟩
  · exact List.mem_filter.mpr ⟨h, decide_eq_true h'⟩
/-- behind a loan -/
theorem lent_back {C : Cn} {own : List Addr} {H H' : Hp} {a : Addr} {u : HO} {od : Obj} (hu : H a = some u) (mu : Mut (some u)) (hO : a ∈ own ++ C.B) (e : Same (upd H a (.frz od u)) H') :
    H' a = some (.frz od u) ∧ Same H (upd H' a u) ∧ ∀ b o, Fz (less own a ++ less C.B a) H' b = some o → Mut (some o) ∨ (∃ od u, o = .frz od u ∧ Mut (some u)) ∨ Fz (own ++ C.B) (upd H' a u) b = some o := by
  have h1 := e a _ upd_same
  refine ⟨h1, fun b o h => ?_, fun b o h => ?_⟩
  · by_cases z : b = a
    · subst z; rw [hu] at h; cases h; exact upd_same
    · rw [upd_ne z]; exact e b o (by rw [upd_ne z]; exact h)
  · obtain ⟨h2, h3⟩ := Fz.get h
    by_cases z : b = a
    · subst z
      rw [h1] at h3; cases h3
      exact .inr (.inl ⟨od, u, rfl, mu⟩)
    · refine .inr (.inr ?_)
      have nb : b ∉ own ++ C.B := fun q => h2 (by
        rcases List.mem_append.mp q with q | q
        · exact List.mem_append_left _ (less_mem.mpr ⟨q, z⟩)
        · exact List.mem_append_right _ (less_mem.mpr ⟨q, z⟩))
      rw [Fz.out nb, upd_ne z]
      exact h3
theorem dx_lend (i : Nat) (h : DX X W e true ε) : DX X W e true (eLend i ε) := by
  obtain ⟨t, h, q⟩ := h
  refine ⟨_, pe_lock h, fun C own σ H s Q r f => ?_⟩
  obtain ⟨d0, h0, f1⟩ := Fin.opt f
  have hs := ownAt_some h0
  obtain ⟨a, u, h1, h2, h3, h4⟩ := r.own1 hs
  refine ⟨a, u, h3, h4.mut, fun od => q (lentC C i a) (less own a) σ _ _ _ (r.lent hs h1 h3 h2 h4) ?_⟩
  revert f1
  cases ε (s.set i (.sh d0)) with
  | ok z =>
    intro f1 v H' hp _ _ hd
    have f1 : Fin (rhoD X) X W true C own σ H s (if flat z.1 then .ok (z.1, s) else .bad) Q := f1
    obtain ⟨e1, _⟩ := hp rfl
    obtain ⟨g1, g2, g3⟩ := lent_back h3 h4.mut h2 e1
    refine ⟨g1, ?_⟩
    by_cases hf : flat z.1 = true
    · rw [if_pos hf] at f1
      exact Fin.done f1 r g2 (Den.flat g3 _ _ hf hd)
    · rw [if_neg hf] at f1
      exact f1.elim
  | exn c x s' => exact fun f1 => f1.elim
  | bad => exact fun f1 => f1.elim
theorem fz_fresh {O : List Addr} {H H' : Hp} {q : Addr} (n : H q = none) (e : Same H H') : Same (Fz O H) (Fz (q :: O) H') := fun a u h => by
  obtain ⟨h1, h2⟩ := Fz.get h
  have ne : a ≠ q := fun z => by rw [z, n] at h2; cases h2
  rw [Fz.out (by intro z; rcases List.mem_cons.mp z with z | z; exact ne z; exact h1 z)]
  exact e a u h2
/-- the same, a fresh list comes -/
def eLendF (i : Nat) (ε : Se) : Se := fun s => R.opt (ownAt s i) fun d0 => match ε (s.set i (.sh d0)) with
  | .ok q => (match q.1 with
    | .list ds => if flat.flatL ds then .ok (.list ds, s) else .bad
    | _ => .bad)
  | _ => .bad
theorem df_lend (i : Nat) (h : DF X W e true ε) : DF X W e true (eLendF i ε) := by
  obtain ⟨t, h, q⟩ := h
  refine ⟨_, pe_lock h, fun C own σ H s Q r f => ?_⟩
  obtain ⟨d0, h0, f1⟩ := FinF.opt f
  have hs := ownAt_some h0
  obtain ⟨a, u, h1, h2, h3, h4⟩ := r.own1 hs
  refine ⟨a, u, h3, h4.mut, fun od => q (lentC C i a) (less own a) σ _ _ _ (r.lent hs h1 h3 h2 h4) ?_⟩
  revert f1
  cases ε (s.set i (.sh d0)) with
  | ok z =>
    intro f1 p up H' hp _ r' _ h00 hn hup hc
    obtain ⟨e1, _⟩ := hp rfl
    obtain ⟨g1, g2, g3⟩ := lent_back h3 h4.mut h2 e1
    refine ⟨g1, ?_⟩
    obtain ⟨z1, z2⟩ := z
    cases z1 with
    | list ds =>
      have f1 : FinF X W true C own σ H s (if flat.flatL ds then .ok (.list ds, s) else .bad) Q := f1
      by_cases hf : flat.flatL ds = true
      · rw [if_pos hf] at f1
        obtain ⟨vs, rfl, hd⟩ := hc
        have hpa : p ≠ a := fun z => by
          rw [z, g1] at hup; cases hup
        have hp0 : H p = none := by rw [upd_ne hpa] at h00; exact h00
        have hup' : upd H' a u p = some (.lst vs) := by rw [upd_ne hpa]; exact hup
        refine f1 p (.lst vs) (upd H' a u) (fun _ => ⟨g2, rfl⟩) (fz_fresh hp0 g2) (r.fresh hp0 g2 hup') (r.noslot hp0) hp0 (r.new hp0) hup' ⟨vs, rfl, DenL.flat (fun b o hb => ?_) ds vs hf hd⟩
        obtain ⟨n1, n2⟩ := Fz.get hb
        have nb : b ≠ p := fun z => n1 (z ▸ List.mem_cons_self)
        rcases g3 b o ((Fz.out fun z => n1 (List.mem_cons_of_mem _ z)).trans n2) with g | g | g
        · exact .inl g
        · exact .inr (.inl g)
        · obtain ⟨k1, k2⟩ := Fz.get g
          refine .inr (.inr ((Fz.out fun z => ?_).trans k2))
          rcases List.mem_cons.mp z with z | z
          · exact nb z
          · exact k1 z
      · rw [if_neg hf] at f1
        exact f1.elim
    | _ => exact False.elim f1
  | exn c x s' => exact fun f1 => f1.elim
  | bad => exact fun f1 => f1.elim
end
end DL
set_option maxRecDepth 100000
namespace DL
open PySem PySem.Spec PyProof.Rows L2

theorem PE.or {X : Cx} {e : Expr} {t t' : TE} (h : PE X e t) (h' : PE X e t') : PE X e (fun σ H Q => t σ H Q ∨ t' σ H Q) := ⟨fun pins s σ H Q I q => q.elim (h.run pins s σ H Q I) (h'.run pins s σ H Q I)⟩
theorem PI.or {X : Cx} {tg e : Expr} {t t' : TI} (h : PI X tg e t) (h' : PI X tg e t') : PI X tg e (fun σ H Q => t σ H Q ∨ t' σ H Q) := ⟨fun pins s σ H Q I q => q.elim (h.run pins s σ H Q I) (h'.run pins s σ H Q I)⟩
theorem takes0N {X : Cx} : L2N.Takes X (fun _ _ _ _ => False) := fun _ _ x => by
  obtain ⟨_, _, _, _, _, _, _, _, _, _, _, _, _, _, _, _, z⟩ := x
  exact z.elim
/-- another context of the same text -/
theorem Rep.to {X Y : Cx} {C : Cn} {own : List Addr} {σ : L2.St} {H : Hp} {s : Sv} (r : Rep X C own σ H s) (hK : Y.K = X.K) (hw : Y.w = X.w) : Rep Y C own σ H s :=
  ⟨r.len, r.kn, fun i d h => by rw [hK, hw]; exact r.sh i d h, fun i d h => by rw [hK, hw]; exact r.ow i d h, fun i d h => by rw [hK, hw]; exact r.io i d h, r.ios, r.uni, r.keep, r.fz, r.apart⟩

/-! ### defs that change their first argument, that hand back fresh things -/
def setOwn (s : Sv) (i : Nat) (d : D) : Sv := match s[i]? with
  | some (.io _) => s.set i (.io d)
  | _ => s.set i (.ow d)
section
variable {X : Cx} {C : Cn} {own : List Addr} {σ : L2.St} {H H' : Hp} {s : Sv} {i : Nat} {a : Addr} {u u' : HO} {d d0 : D}
theorem Rep.chg (r : Rep X C own σ H s) (h0 : ownAt s i = some d0) (ha : σ[i]? = some (some (.ref a))) (hc : Cont X.K X.w (Fz (own ++ C.B) H) a u' d) : Rep X C own σ (upd H a u') (setOwn s i d) := by
  have hs := ownAt_some h0
  unfold setOwn
  rcases hs with h | h
  · rw [h]
    exact r.write (.inl ⟨⟨d0, h⟩, rfl⟩) ha hc
  · rw [h]
    exact r.write (.inr ⟨⟨d0, h⟩, rfl⟩) ha hc
theorem setOwn_owned {j : Nat} (h0 : ownAt s i = some d0) (h : Owned (setOwn s i d) j) : Owned s j := by
  by_cases e : j = i
  · subst e; exact ⟨d0, ownAt_some h0⟩
  · obtain ⟨x, hx⟩ := h
    unfold setOwn at hx
    have : (setOwn s i d)[j]? = s[j]? := by
      unfold setOwn
      split <;> rw [List.getElem?_set_ne (Ne.symm e)]
    refine ⟨x, ?_⟩
    unfold setOwn at this
    rw [this] at hx
    exact hx
theorem mid_same (hu : H a = some u) (sb : SameBut a H H') : Same H (fun b => if b = a then H a else H' b) := fun b o h => by
  show (if b = a then H a else H' b) = some o
  by_cases e : b = a
  · rw [if_pos e, ← e]; exact h
  · rw [if_neg e]; exact sb b o e h
theorem mid_upd (hu' : H' a = some u') : upd (fun b => if b = a then H a else H' b) a u' = H' := by
  funext b
  by_cases e : b = a
  · subst e; rw [upd_same, hu']
  · rw [upd_ne e]; exact if_neg e
theorem mid_fz {O : List Addr} (hO : a ∈ O) : Fz O (fun b => if b = a then H a else H' b) = Fz O H' := by
  funext b
  by_cases hb : b ∈ O
  · rw [Fz.in hb, Fz.in hb]
  · rw [Fz.out hb, Fz.out hb]
    exact if_neg fun (e : b = a) => hb (by rw [e]; exact hO)
theorem Rep.called (r : Rep X C own σ H s) (h0 : ownAt s i = some d0) (ha : σ[i]? = some (some (.ref a))) (hO : a ∈ own ++ C.B) (hu : H a = some u) (sb : SameBut a H H') (hu' : H' a = some u') (hc : Cont X.K X.w (Fz (own ++ C.B) H') a u' d) : Rep X C own σ H' (setOwn s i d) := by
  have r2 := r.same (mid_same hu sb)
  have r3 := r2.chg (u' := u') (d := d) h0 ha (by rw [mid_fz hO]; exact hc)
  rw [mid_upd hu'] at r3
  exact r3
theorem Rep.calledF {p : Addr} {up : HO} (r : Rep X C own σ H s) (h0 : ownAt s i = some d0) (ha : σ[i]? = some (some (.ref a))) (hO : a ∈ own ++ C.B) (hu : H a = some u) (sb : SameBut a H H') (hu' : H' a = some u') (hc : Cont X.K X.w (Fz ((p :: own) ++ C.B) H') a u' d) (n : H p = none) (hp : H' p = some up) :
    Rep X C (p :: own) σ H' (setOwn s i d) := by
  have pa : p ≠ a := fun z => by rw [z, hu] at n; cases n
  have r2 := r.fresh (p := p) (o := up) n (mid_same hu sb) (by show (if p = a then H a else H' p) = _; rw [if_neg pa]; exact hp)
  have r3 := r2.chg (u' := u') (d := d) h0 ha (by rw [mid_fz (show a ∈ (p :: own) ++ C.B from List.mem_cons_of_mem _ hO)]; exact hc)
  rw [mid_upd hu'] at r3
  exact r3
theorem same_fz {O : List Addr} (hO : a ∈ O) (sb : SameBut a H H') : Same (Fz O H) (Fz O H') := Fz.mono (fun _ h => h) fun b o h e => sb b o (fun z => h (z ▸ hO)) e
end
def eFnI (i : Nat) (m : D → List D → R (D × D)) (α : Sv → R (List D × Sv)) : Se := fun s => R.opt (ownAt s i) fun _ => (α s).bind fun q => R.opt (ownAt q.2 i) fun d0 => match m d0 q.1 with
  | .ok z => .ok (z.1, setOwn q.2 i z.2)
  | _ => .bad
section
variable {X : Cx} {W : WX} {e : Expr} {es : List Expr} {pos : Pos} {p : Bool} {n k : Nat} {f : Addr} {fd : FuncData} {ps : List Str} {x : Str} {p0 : Pos}
theorem dx_fnI (i : Nat) {y : Str} {py : Pos} {m : D → List D → R (D × D)} {α : Sv → R (List D × Sv)} (F : FnG X.prog X.w X.K X.mg X.base (L2N.CX X.prog X.w) k f fd ps (spI X.K X.w X.mg n m)) (hr : RoomG k X.A) (tk : L2N.Takes X W) (hm : X.mg x = some (.ref f)) (hk : PySem.W.keepIn X.K (.ref f) = true) (hb : Binds X.K fd ps [])
    (hl : es.length + 1 = n) (ha : DA X W es p α) (hlen : ∀ s z, α s = .ok z → z.1.length = es.length) (hN : X.N[i]? = some y := by rfl) (hv : Vis X.env.scope y := by first | exact Or.inl rfl | exact Or.inr (Or.inl rfl) | exact Or.inr (Or.inr rfl)) (hd : (y == ("__debug__" : Str)) = false := by decide)
    (hcd : (y == ("__classdict__" : Str)) = false := by decide) (hg : Gl X x := by rfl) (hdb : (x == ("__debug__" : Str)) = false := by decide) (he : starEach (.Name y py :: es) X.env = (false, eval (.Name y py) X.env) :: starEach es X.env := by rfl) (hpl : (backTo pos (starEach es X.env)).any (·.1) = false := by rfl) :
    DX X W (.Call (.Name x p0) (.Name y py :: es) [] pos) false (eFnI i m α) := by
  obtain ⟨t, h, q⟩ := ha
  refine ⟨_, pe_callG (E := fun σ => WE W σ) F hr hg hm hk hb (fun σ => L2N.passAt tk σ) (pa_cons (pe_var hN hv hd hcd) h he) hdb he hpl, fun C own σ H s Q R0 f => ?_⟩
  obtain ⟨d0, h0, f⟩ := f.opt
  obtain ⟨a, u, g1, g2, g3, g4⟩ := R0.own1 (ownAt_some h0)
  refine ⟨.ref a, g1, q C own σ H s _ R0 (Fin.bind (p2 := false) (ρ2 := rhoD X) (Q := Q) (by rw [Bool.and_false]; exact f) fun z vs H1 hz R1 d1 s1 f1 => ?_)⟩
  obtain ⟨d2, h2, f2⟩ := f1.opt
  obtain ⟨a', u1, k1, k2, k3, k4⟩ := R1.own1 (ownAt_some h2)
  rw [g1] at k1
  cases k1
  refine ⟨own ++ C.B, a, u1, d2, z.1, vs ++ [], R1.kn, rfl, ?_, k2, k3, k4, by rw [List.append_nil]; exact d1, ?_⟩
  · show ((V.ref a :: vs) ++ []).length = n
    rw [List.append_nil, List.length_cons, d1.length, hlen s z hz, hl]
  · revert f2
    cases m d2 z.1 with
    | ok y => exact fun f2 v u' H' sb hu' hc hv => f2 v H' (fun z => nomatch z) (same_fz k2 sb) (R1.called h2 g1 k2 k3 sb hu' hc) hv
    | exn c x s' => exact fun f2 => f2.elim
    | bad => exact fun f2 => f2.elim
theorem df_fnI (i : Nat) {y : Str} {py : Pos} {m : D → List D → R (D × D)} {α : Sv → R (List D × Sv)} (F : FnG X.prog X.w X.K X.mg X.base (L2N.CX X.prog X.w) k f fd ps (spIF X.K X.w X.mg n m)) (hr : RoomG k X.A) (tk : L2N.Takes X W) (hm : X.mg x = some (.ref f)) (hk : PySem.W.keepIn X.K (.ref f) = true) (hb : Binds X.K fd ps [])
    (hl : es.length + 1 = n) (ha : DA X W es p α) (hlen : ∀ s z, α s = .ok z → z.1.length = es.length) (hN : X.N[i]? = some y := by rfl) (hv : Vis X.env.scope y := by first | exact Or.inl rfl | exact Or.inr (Or.inl rfl) | exact Or.inr (Or.inr rfl)) (hd : (y == ("__debug__" : Str)) = false := by decide)
    (hcd : (y == ("__classdict__" : Str)) = false := by decide) (hg : Gl X x := by rfl) (hdb : (x == ("__debug__" : Str)) = false := by decide) (he : starEach (.Name y py :: es) X.env = (false, eval (.Name y py) X.env) :: starEach es X.env := by rfl) (hpl : (backTo pos (starEach es X.env)).any (·.1) = false := by rfl) :
    DF X W (.Call (.Name x p0) (.Name y py :: es) [] pos) false (eFnI i m α) := by
  obtain ⟨t, h, q⟩ := ha
  refine ⟨_, pe_callG (E := fun σ => WE W σ) F hr hg hm hk hb (fun σ => L2N.passAt tk σ) (pa_cons (pe_var hN hv hd hcd) h he) hdb he hpl, fun C own σ H s Q R0 f => ?_⟩
  obtain ⟨d0, h0, f⟩ := f.opt
  obtain ⟨a, u, g1, g2, g3, g4⟩ := R0.own1 (ownAt_some h0)
  refine ⟨.ref a, g1, q C own σ H s _ R0 (FinF.bind (p2 := false) (Q := Q) (by rw [Bool.and_false]; exact f) fun z vs H1 hz R1 d1 s1 f1 => ?_)⟩
  obtain ⟨d2, h2, f2⟩ := f1.opt
  obtain ⟨a', u1, k1, k2, k3, k4⟩ := R1.own1 (ownAt_some h2)
  rw [g1] at k1
  cases k1
  refine ⟨own ++ C.B, a, u1, d2, z.1, vs ++ [], R1.kn, rfl, ?_, k2, k3, k4, by rw [List.append_nil]; exact d1, ?_⟩
  · show ((V.ref a :: vs) ++ []).length = n
    rw [List.append_nil, List.length_cons, d1.length, hlen s z hz, hl]
  · revert f2
    cases m d2 z.1 with
    | ok y =>
      intro f2 q u' up H' sb hu' hc n hp hcp
      refine f2 q up H' (fun z => nomatch z) (fun b o h => ?_) (R1.calledF h2 g1 k2 k3 sb hu' hc n hp) (fun j hj => R1.noslot n j (setOwn_owned h2 hj)) n (R1.new n) hp hcp
      obtain ⟨h1, h2⟩ := Fz.get h
      have ne : b ≠ q := fun z => by rw [z, n] at h2; cases h2
      rw [Fz.out (by intro z; rcases List.mem_cons.mp z with z | z; exact ne z; exact h1 z)]
      exact sb b o (fun z => h1 (z ▸ k2)) h2
    | exn c x s' => exact fun f2 => f2.elim
    | bad => exact fun f2 => f2.elim
theorem df_fn {m : List D → R D} {α : Sv → R (List D × Sv)} (F : FnG X.prog X.w X.K X.mg X.base (L2N.CX X.prog X.w) k f fd ps (spF X.K X.w X.mg n m)) (hr : RoomG k X.A) (tk : L2N.Takes X W) (hm : X.mg x = some (.ref f)) (hk : PySem.W.keepIn X.K (.ref f) = true) (hb : Binds X.K fd ps [])
    (hl : es.length + 1 = n) (ha : DA X W (e :: es) p α) (hlen : ∀ s z, α s = .ok z → z.1.length = es.length + 1) (hg : Gl X x := by rfl) (hdb : (x == ("__debug__" : Str)) = false := by decide) (he : starEach (e :: es) X.env = (false, eval e X.env) :: starEach es X.env := by rfl) (hpl : (backTo pos (starEach es X.env)).any (·.1) = false := by rfl) :
    DF X W (.Call (.Name x p0) (e :: es) [] pos) (p && true) (eFn m α) := by
  obtain ⟨t, h, q⟩ := ha
  refine ⟨_, pe_callG (E := fun σ => WE W σ) F hr hg hm hk hb (fun σ => L2N.passAt tk σ) h hdb he hpl, fun C own σ H s Q R0 f => q C own σ H s _ R0 (FinF.bind f fun z vs H1 hz R1 d1 s1 f1 => ?_)⟩
  refine ⟨own ++ C.B, z.1, R1.kn, ?_, ?_, ?_⟩
  · rw [List.append_nil, d1.length, hlen s z hz, hl]
  · rw [List.append_nil]; exact d1
  · revert f1
    cases m z.1 with
    | ok d => exact fun f1 p u H' n e hp hc => f1 p u H' (fun _ => ⟨e, rfl⟩) (fz_fresh n e) (R1.fresh n e hp) (R1.noslot n) n (R1.new n) hp hc
    | exn c x s' => exact fun f1 cls dd H' hx e => f1 own H' cls dd hx (R1.same e)
    | bad => exact fun f1 => f1.elim
end
end DL
set_option maxRecDepth 100000
namespace DL
open PySem PySem.Spec PyProof.Rows L2

/-! ### comprehensions -/
def wipeO (s : Sv) : List Nat → Option Sv
  | [] => some s
  | v :: vs => (wipeO s vs).bind fun s' => put s' v .un
theorem wipe_get {σ : L2.St} : ∀ (vs : List Nat) (j : Nat), j ∉ vs → (wipe σ vs)[j]? = σ[j]?
  | [], _, _ => rfl
  | v :: vs, j, h => by
    show ((wipe σ vs).set v none)[j]? = _
    rw [List.getElem?_set_ne (fun z => h (by simp [z]))]
    exact wipe_get vs j fun z => h (List.mem_cons_of_mem _ z)
theorem wipe_at {σ : L2.St} : ∀ (vs : List Nat) (j : Nat), j ∈ vs → j < σ.length → (wipe σ vs)[j]? = some none
  | v :: vs, j, h, hj => by
    show ((wipe σ vs).set v none)[j]? = _
    by_cases e : v = j
    · subst e
      rw [List.getElem?_set_self (by rw [wipe_length]; exact hj)]
    · rw [List.getElem?_set_ne e]
      rcases List.mem_cons.mp h with z | z
      · exact absurd z.symm e
      · exact wipe_at vs j z hj
theorem wipe_but {σ σ' : L2.St} {js vs : List Nat} (h : But js (wipe σ vs) σ') (hj : ∀ j, j ∈ js → j ∈ vs) : wipe σ' vs = wipe σ vs := by
  apply List.ext_getElem?
  intro j
  have hl : σ'.length = σ.length := by rw [h.1, wipe_length]
  by_cases hm : j ∈ vs
  · by_cases hlt : j < σ.length
    · rw [wipe_at vs j hm hlt, wipe_at vs j hm (by rw [hl]; exact hlt)]
    · rw [List.getElem?_eq_none (by rw [wipe_length]; omega), List.getElem?_eq_none (by rw [wipe_length]; omega)]
  · rw [wipe_get vs j hm, h.2 j (fun z => hm (hj j z))]
section
variable {X : Cx} {C : Cn} {own : List Addr} {σ : L2.St} {H H' : Hp} {s s' : Sv}
theorem Rep.wipe (r : Rep X C own σ H s) : ∀ (vs : List Nat) (s' : Sv), wipeO s vs = some s' → Rep X C own (wipe σ vs) H s' ∧ ∀ v, v ∈ vs → s'[v]? = some .un
  | [], s', h => by cases h; exact ⟨r, fun v z => nomatch z⟩
  | v :: vs, s', h => by
    obtain ⟨s1, h1, h2⟩ := Option.bind_eq_some_iff.mp h
    obtain ⟨r1, u1⟩ := Rep.wipe r vs s1 h1
    obtain ⟨g1, g2, rfl⟩ := put_some h2
    refine ⟨r1.kill g1 g2, fun x hx => ?_⟩
    by_cases e : v = x
    · subst e; rw [List.getElem?_set_self g1]
    · rw [List.getElem?_set_ne e]
      rcases List.mem_cons.mp hx with z | z
      · exact absurd z.symm e
      · exact u1 x z
theorem wipeO_un {s s' : Sv} : ∀ (vs : List Nat) (s' : Sv), wipeO s vs = some s' → ∀ v, v ∈ vs → s'[v]? = some .un
  | [], _, _, v, z => nomatch z
  | v :: vs, s', h, x, hx => by
    obtain ⟨s1, h1, h2⟩ := Option.bind_eq_some_iff.mp h
    obtain ⟨g1, g2, rfl⟩ := put_some h2
    by_cases e : v = x
    · subst e; rw [List.getElem?_set_self g1]
    · rw [List.getElem?_set_ne e]
      rcases List.mem_cons.mp hx with z | z
      · exact absurd z.symm e
      · exact wipeO_un (s := s) (s' := s1) vs s1 h1 x z
/-- the slots vs are unset: what they hold does not matter -/
theorem Rep.slots {σ' : L2.St} (r : Rep X C own σ' H s) (hl : σ.length = σ'.length) (h : ∀ (j : Nat) (x : Sl), s[j]? = some x → x ≠ .un → σ[j]? = σ'[j]?) : Rep X C own σ H s where
  len := by rw [hl]; exact r.len
  kn := r.kn
  sh := fun i d q => by rw [h i _ q (fun z => nomatch z)]; exact r.sh i d q
  ow := fun i d q => by rw [h i _ q (fun z => nomatch z)]; exact r.ow i d q
  io := fun i d q => by rw [h i _ q (fun z => nomatch z)]; exact r.io i d q
  ios := fun i a q => by
    obtain ⟨h1, d, h2⟩ := r.ios i a q
    rw [h i _ h2 (fun z => nomatch z)]
    exact ⟨h1, d, h2⟩
  uni := fun i j a hi hj h1 h2 => by
    have oi : σ[i]? = σ'[i]? := by obtain ⟨d, q | q⟩ := hi <;> exact h i _ q (fun z => nomatch z)
    have oj : σ[j]? = σ'[j]? := by obtain ⟨d, q | q⟩ := hj <;> exact h j _ q (fun z => nomatch z)
    exact r.uni i j a hi hj (by rw [← oi]; exact h1) (by rw [← oj]; exact h2)
  keep := r.keep
  fz := r.fz
  apart := r.apart
end
def compGo (γ : D → Sv → Option Sv) (τ : St2) (ε : Se) (vs : List Nat) : List D → Sv → List D → R (List D × Sv)
  | [], s, acc => .ok (acc, s)
  | x :: xs, s, acc => R.opt (γ x s) fun s1 => (τ s1).bind fun b => if b.1 then (ε b.2).bind fun q => if acc.length < 100000 then R.opt (wipeO q.2 vs) fun s2 => compGo γ τ ε vs xs s2 (acc ++ [q.1]) else .bad
    else R.opt (wipeO b.2 vs) fun s2 => compGo γ τ ε vs xs s2 acc
def R.calm {α : Type} : R α → R α
  | .ok a => .ok a
  | _ => .bad
@[simp] theorem R.calm_ok {α : Type} (a : α) : R.calm (.ok a) = .ok a := (rfl)
def eComp (γ : D → Sv → Option Sv) (ι : Sv → R (List D × Sv)) (τ : St2) (ε : Se) (vs : List Nat) : Se := fun s => (ι s).bind fun q => R.opt (wipeO q.2 vs) fun s1 => (compGo γ τ ε vs q.1 s1 []).calm.bind fun z => .ok (.list z.1, z.2)
abbrev W0 : WX := fun _ _ _ _ => False
/-- the tests of a comprehension -/
structure DTs (X : Cx) (W : WX) (es : List Expr) (p : Bool) (τ : St2) : Prop where
  ex : ∃ t : TT, PTs X es t ∧ ∀ C own σ H s Q, Rep X C own σ H s → Fin rhoB X W p C own σ H s (τ s) Q → t σ H Q
def cYes : St2 := fun s => .ok (true, s)
theorem dts_nil {X : Cx} {W : WX} : DTs X W [] true cYes := ⟨_, pts_nil, fun C own σ H s Q r f => Fin.done f r (Same.refl H) rfl⟩
theorem dts_one {X : Cx} {W : WX} {e : Expr} {p : Bool} {τ : St2} (h : DT X W e p τ) : DTs X W [e] p τ := by
  obtain ⟨t, h, q⟩ := h
  exact ⟨_, pts_one h, q⟩
/-- the list in the making, at D -/
abbrev compC (C : Cn) (D : Addr) (F : Hp) (xs : List V) : Cn := ⟨D :: C.B, fun b => if b = D then some (.lst xs) else C.H0 b, F, C.ios⟩
section
variable {X : Cx} {C : Cn} {own : List Addr} {σ : L2.St} {H H1 H' : Hp} {s : Sv} {Da : Addr} {xs ys : List V} {F : Hp}
theorem comp_mem {b : Addr} : b ∈ own ++ (Da :: C.B) ↔ b = Da ∨ b ∈ own ++ C.B := by
  rw [List.mem_append, List.mem_append, List.mem_cons]
  constructor
  · rintro (h | h | h)
    · exact .inr (.inl h)
    · exact .inl h
    · exact .inr (.inr h)
  · rintro (h | h | h)
    · exact .inr (.inl h)
    · exact .inl h
    · exact .inr (.inr h)
theorem comp_fz : Fz (own ++ (Da :: C.B)) H = Fz ((Da :: own) ++ C.B) H := by
  funext b
  have e : b ∈ own ++ (Da :: C.B) ↔ b ∈ (Da :: own) ++ C.B := by rw [comp_mem, List.cons_append, List.mem_cons]
  by_cases h : b ∈ own ++ (Da :: C.B)
  · rw [Fz.in h, Fz.in (e.mp h)]
  · rw [Fz.out h, Fz.out fun z => h (e.mpr z)]
/-- the list is begun -/
theorem Rep.begin (r : Rep X C own σ H1 s) (n : H1 Da = none) : Rep X (compC C Da (Fz (own ++ C.B) H1) []) own σ (upd H1 Da (.lst [])) s := by
  have nO := r.new n
  have m : Same (Fz (own ++ C.B) H1) (Fz (own ++ (Da :: C.B)) (upd H1 Da (.lst []))) := by rw [comp_fz]; exact fz_fresh n (same_new n)
  refine ⟨r.len, fun b hb => ?_, fun i d h => ?_, fun i d h => ?_, fun i d h => ?_, r.ios, r.uni, fun b o h h' => ?_, m, fun b hb hB => ?_⟩
  · rcases comp_mem.mp hb with z | z
    · exact ⟨_, by rw [z]; exact upd_same⟩
    · obtain ⟨o, h⟩ := r.kn b z; exact ⟨o, same_new n b o h⟩
  · obtain ⟨v, h1, h2⟩ := r.sh i d h; exact ⟨v, h1, Den.mono m d v h2⟩
  · obtain ⟨a, u, h1, h2, h3, h4⟩ := r.ow i d h; exact ⟨a, u, h1, h2, same_new n a u h3, h4.mono m⟩
  · obtain ⟨a, u, h1, h2, h3, h4, h5⟩ := r.io i d h; exact ⟨a, u, h1, h2, List.mem_cons_of_mem _ h3, same_new n a u h4, h5.mono m⟩
  · by_cases e : b = Da
    · subst e
      have h : (if b = b then some (HO.lst []) else C.H0 b) = some o := h
      rw [if_pos rfl] at h
      cases h
      exact ⟨upd_same, fun z => nO (List.mem_append_left _ z)⟩
    · have h : (if b = Da then some (HO.lst []) else C.H0 b) = some o := h
      rw [if_neg e] at h
      obtain ⟨h1, h2⟩ := r.keep b o h h'
      exact ⟨by rw [upd_ne e]; exact h1, h2⟩
  · rcases List.mem_cons.mp hB with z | z
    · exact nO (List.mem_append_left _ (z ▸ hb))
    · exact r.apart b hb z
/-- .. it is what it was -/
theorem Rep.stays (r : Rep X (compC C Da F xs) own σ H s) (nio : ∀ j, (j, Da) ∉ C.ios) : H Da = some (.lst xs) ∧ Da ∉ own := r.keep Da _ (if_pos rfl) nio
/-- .. it grows -/
theorem Rep.grow (r : Rep X (compC C Da F xs) own σ H s) (nio : ∀ j, (j, Da) ∉ C.ios) : Rep X (compC C Da F ys) own σ (upd H Da (.lst ys)) s := by
  obtain ⟨hD, nO⟩ := r.stays nio
  have fe : Fz (own ++ (Da :: C.B)) (upd H Da (.lst ys)) = Fz (own ++ (Da :: C.B)) H := by
    funext b
    by_cases hb : b ∈ own ++ (Da :: C.B)
    · rw [Fz.in hb, Fz.in hb]
    · rw [Fz.out hb, Fz.out hb, upd_ne (show b ≠ Da from fun z => hb (comp_mem.mpr (.inl z)))]
  refine ⟨r.len, fun b hb => ?_, fun i d h => ?_, fun i d h => ?_, fun i d h => ?_, r.ios, r.uni, fun b o h h' => ?_, by show Same F (Fz (own ++ (Da :: C.B)) (upd H Da (.lst ys))); rw [fe]; exact r.fz, r.apart⟩
  · by_cases e : b = Da
    · exact ⟨_, by rw [e]; exact upd_same⟩
    · obtain ⟨o, h⟩ := r.kn b hb; exact ⟨o, by rw [upd_ne e]; exact h⟩
  · show ∃ v, _ ∧ Den X.K X.w (Fz (own ++ (Da :: C.B)) (upd H Da (.lst ys))) d v
    rw [fe]; exact r.sh i d h
  · obtain ⟨a, u, h1, h2, h3, h4⟩ := r.ow i d h
    exact ⟨a, u, h1, h2, by rw [upd_ne (show a ≠ Da from fun z => nO (z ▸ h2))]; exact h3, by show Cont X.K X.w (Fz (own ++ (Da :: C.B)) (upd H Da (.lst ys))) a u d; rw [fe]; exact h4⟩
  · obtain ⟨a, u, h1, h2, h3, h4, h5⟩ := r.io i d h
    exact ⟨a, u, h1, h2, h3, by rw [upd_ne (show a ≠ Da from fun z => nio i (z ▸ h2))]; exact h4, by show Cont X.K X.w (Fz (own ++ (Da :: C.B)) (upd H Da (.lst ys))) a u d; rw [fe]; exact h5⟩
  · by_cases e : b = Da
    · subst e
      have h : (if b = b then some (HO.lst ys) else C.H0 b) = some o := h
      rw [if_pos rfl] at h
      cases h
      exact ⟨upd_same, nO⟩
    · have h : (if b = Da then some (HO.lst ys) else C.H0 b) = some o := h
      rw [if_neg e] at h
      have h' : ∀ j, (j, b) ∉ C.ios := h'
      obtain ⟨h1, h2⟩ := r.keep b o (by show (if b = Da then some (HO.lst xs) else C.H0 b) = some o; rw [if_neg e]; exact h) h'
      exact ⟨by rw [upd_ne e]; exact h1, h2⟩
/-- .. it is made: the frame's own -/
theorem Rep.ended (r : Rep X (compC C Da F xs) own σ H s) (nio : ∀ j, (j, Da) ∉ C.ios) (nB : Da ∉ C.B) (h0 : C.H0 Da = none) (hF : Same C.F0 F) : Rep X C (Da :: own) σ H s ∧ NoSlot σ s Da := by
  obtain ⟨hD, nO⟩ := r.stays nio
  have fe : Fz (own ++ (Da :: C.B)) H = Fz ((Da :: own) ++ C.B) H := comp_fz
  refine ⟨⟨r.len, fun b hb => r.kn b ?_, fun i d h => ?_, fun i d h => ?_, fun i d h => ?_, r.ios, r.uni, fun b o h h' => ?_, ?_, fun b hb hB => ?_⟩, fun i hi q => ?_⟩
  · rcases List.mem_cons.mp hb with z | z
    · exact comp_mem.mpr (.inl z)
    · exact comp_mem.mpr (.inr z)
  · rw [← fe]; exact r.sh i d h
  · obtain ⟨a, u, h1, h2, h3, h4⟩ := r.ow i d h
    exact ⟨a, u, h1, List.mem_cons_of_mem _ h2, h3, by rw [← fe]; exact h4⟩
  · obtain ⟨a, u, h1, h2, h3, h4, h5⟩ := r.io i d h
    refine ⟨a, u, h1, h2, ?_, h4, by rw [← fe]; exact h5⟩
    rcases List.mem_cons.mp h3 with z | z
    · exact absurd (z ▸ h2) (nio i)
    · exact z
  · have ne : b ≠ Da := fun z => by rw [z, h0] at h; cases h
    obtain ⟨h1, h2⟩ := r.keep b o (by show (if b = Da then some (HO.lst xs) else C.H0 b) = some o; rw [if_neg ne]; exact h) h'
    refine ⟨h1, fun z => ?_⟩
    rcases List.mem_cons.mp z with z | z
    · exact ne z
    · exact h2 z
  · rw [← fe]; exact hF.trans r.fz
  · rcases List.mem_cons.mp hb with z | z
    · exact nB (z ▸ hB)
    · exact r.apart b z (List.mem_cons_of_mem _ hB)
  · obtain ⟨d, h | h⟩ := hi
    · obtain ⟨a, u, h1, h2, _⟩ := r.ow i d h
      rw [q] at h1; cases h1; exact nO h2
    · obtain ⟨a, u, h1, h2, _⟩ := r.io i d h
      rw [q] at h1; cases h1; exact nio i h2
theorem Rep.noio (r : Rep X C own σ H s) (n : H Da = none) : ∀ j, (j, Da) ∉ C.ios := fun j z => by
  obtain ⟨h1, d', h2⟩ := r.ios j Da z
  obtain ⟨a, u', g1, g2, g3, g4, _⟩ := r.io j d' h2
  rw [h1] at g1; cases g1; rw [n] at g4; cases g4
end
section
variable {X : Cx} {W : WX} {elt tg iter : Expr} {ifs : List Expr} {scope : Scope} {own : List (Str × Nat)} {pos : Pos} {p pt pe : Bool} {js : List Nat} {γ : D → Sv → Option Sv} {ι : Sv → R (List D × Sv)} {τ : St2} {ε : Se}
theorem comp_read {wi : TI} {g : TG} {tt : TT} {te : TE} {vs : List Nat} (hj : ∀ j, j ∈ js → j ∈ vs)
    (qi : ∀ C own σ H s Q, Rep X C own σ H s → Fin (ItOk X) X W p C own σ H s (ι s) Q → wi σ H Q)
    (qg : ∀ C own σ H s d v s' Q, Rep X C own σ H s → Den X.K X.w (Fz (own ++ C.B) H) d v → γ d s = some s' → (∀ σ', But js σ σ' → Rep X C own σ' H s' → Q σ' H) → g v σ H Q)
    (qt : ∀ C own σ H s Q, Rep X C own σ H s → Fin rhoB X W0 pt C own σ H s (τ s) Q → tt σ H Q)
    (qe : ∀ C own σ H s Q, Rep X C own σ H s → Fin (rhoD X) X W0 pe C own σ H s (ε s) Q → te σ H Q)
    (C : Cn) (own : List Addr) (σ : L2.St) (H : Hp) (s : Sv) (Q : VK) (R0 : Rep X C own σ H s) (f : FinF X W false C own σ H s (eComp γ ι τ ε vs s) Q) : tLc wi g tt te vs σ H Q := by
  refine qi C own σ H s _ R0 (FinF.bind (p2 := false) (by rw [Bool.and_false]; exact f) fun z J H1 _ R1 d1 sF f1 => ?_)
  intro Da nD
  have d1 : ItOk X (Fz (own ++ C.B) H1) z.1 J := d1
  obtain ⟨s1, hw, f2⟩ := f1.opt
  obtain ⟨Rw, hun⟩ := R1.wipe vs s1 hw
  have nio := R1.noio nD
  generalize hF1 : Fz (own ++ C.B) H1 = F1 at d1
  have hF : Same C.F0 F1 := by rw [← hF1]; exact R1.fz
  -- what is wanted at the end
  let End : R (List D × Sv) → Prop := fun r => match r with
    | .ok y => ∀ H' xs, Rep X (compC C Da F1 xs) own (wipe σ vs) H' y.2 → (∀ v, v ∈ vs → y.2[v]? = some .un) → DenL X.K X.w (Fz (own ++ (Da :: C.B)) H') y.1 xs → Q (.ref Da) H'
    | _ => False
  have fin : End (compGo γ τ ε vs z.1 s1 []) := by
    revert f2
    show FinF X W false C own σ H1 z.2 ((compGo γ τ ε vs z.1 s1 []).calm.bind fun y => .ok (.list y.1, y.2)) Q → _
    cases compGo γ τ ε vs z.1 s1 [] with
    | ok y =>
      intro f2 H' xs r hu hd
      have hl : σ.length = (wipe σ vs).length := (wipe_length σ vs).symm
      have r' := r.slots (σ := σ) hl fun j x hx hne => by
        by_cases hm : j ∈ vs
        · rw [hu j hm] at hx; cases hx; exact absurd rfl hne
        · rw [wipe_get vs j hm]
      obtain ⟨hD, _⟩ := r'.stays nio
      obtain ⟨re, ns⟩ := r'.ended nio (fun z => R1.new nD (List.mem_append_right _ z)) (R1.h0 nD) hF
      refine f2 Da (.lst xs) H' (fun z => nomatch z) ?_ re ns nD (R1.new nD) hD ⟨xs, rfl, by rw [← comp_fz]; exact hd⟩
      rw [← comp_fz, hF1]
      exact r'.fz
    | exn c x s' => exact fun f2 => f2.elim
    | bad => exact fun f2 => f2.elim
  refine ⟨fun i m H' => ∃ s' acc xs, Rep X (compC C Da F1 xs) own (wipe σ vs) H' s' ∧ (∀ v, v ∈ vs → s'[v]? = some .un) ∧ DenL X.K X.w (Fz (own ++ (Da :: C.B)) H') acc xs ∧ m = z.1.length - i ∧ i ≤ z.1.length ∧ End (compGo γ τ ε vs (z.1.drop i) s' acc),
    ⟨z.1.length, s1, [], [], ?_, hun, rfl, by omega, Nat.zero_le _, fin⟩, ?_⟩
  · rw [← hF1]
    exact Rw.begin nD
  · rintro i m H' ⟨s', acc, xs, R', hu', hd', rfl, hi', f'⟩
    obtain ⟨go, stop⟩ := d1 i (own ++ (Da :: C.B)) H' R'.kn R'.fz
    by_cases hlt : i < z.1.length
    · obtain ⟨go, yl⟩ := go hlt
      refine .inr ⟨go, fun H2 => ∃ m', m' < z.1.length - i ∧ ∃ s' acc xs, Rep X (compC C Da F1 xs) own (wipe σ vs) H2 s' ∧ (∀ v, v ∈ vs → s'[v]? = some .un) ∧ DenL X.K X.w (Fz (own ++ (Da :: C.B)) H2) acc xs ∧ m' = z.1.length - (i + 1) ∧ i + 1 ≤ z.1.length ∧ End (compGo γ τ ε vs (z.1.drop (i + 1)) s' acc),
        fun _ h => h, fun x H2 y => ?_⟩
      obtain ⟨sm, d, hd, hx⟩ := yl x H2 y
      have e1 : z.1.drop i = d :: z.1.drop (i + 1) := by
        rw [List.drop_eq_getElem_cons hlt]
        have q := List.getElem?_eq_getElem hlt
        rw [hd] at q
        rw [← Option.some.inj q]
      rw [e1] at f'
      obtain ⟨s2, hs2, f2⟩ := R.opt_ok (P := End) (fun h => h) f'
      refine qg _ own _ H2 s' d x s2 _ (R'.same sm) hx hs2 fun σ2 hb R2 => ⟨wipe_but hb hj, ?_⟩
      have hwp : wipe σ2 vs = wipe σ vs := wipe_but hb hj
      refine qt _ own σ2 H2 s2 _ R2 ?_
      revert f2
      cases τ s2 with
      | exn c x s' => exact fun f2 => f2.elim
      | bad => exact fun f2 => f2.elim
      | ok b =>
        intro f2 k H3 _ s3 R3 hk
        have hk : k = b.1 := hk
        subst hk
        have f2 : End (if b.1 = true then (ε b.2).bind fun q => if acc.length < 100000 then R.opt (wipeO q.2 vs) fun s2 => compGo γ τ ε vs (z.1.drop (i + 1)) s2 (acc ++ [q.1]) else .bad
          else R.opt (wipeO b.2 vs) fun s2 => compGo γ τ ε vs (z.1.drop (i + 1)) s2 acc) := f2
        have hd3 : DenL X.K X.w (Fz (own ++ (Da :: C.B)) H3) acc xs := DenL.mono ((Fz.same sm).trans s3) _ _ hd'
        by_cases hb1 : b.1 = true
        · rw [if_pos hb1] at f2 ⊢
          refine qe _ own σ2 H3 b.2 _ R3 ?_
          revert f2
          cases ε b.2 with
          | exn c x s' => exact fun f2 => f2.elim
          | bad => exact fun f2 => f2.elim
          | ok q =>
            intro f2 v H4 _ s4 R4 hv
            have f2 : End (if acc.length < 100000 then R.opt (wipeO q.2 vs) fun s2 => compGo γ τ ε vs (z.1.drop (i + 1)) s2 (acc ++ [q.1]) else .bad) := f2
            by_cases hlen : acc.length < 100000
            · rw [if_pos hlen] at f2
              obtain ⟨s5, hw5, f3⟩ := R.opt_ok (P := End) (fun h => h) f2
              obtain ⟨R5, hu5⟩ := R4.wipe vs s5 hw5
              rw [hwp] at R5
              obtain ⟨hD4, nO4⟩ := R5.stays nio
              have hd4 : DenL X.K X.w (Fz (own ++ (Da :: C.B)) H4) (acc ++ [q.1]) (xs ++ [v]) := (DenL.mono s4 _ _ hd3).append (.cons hv rfl)
              refine ⟨xs, hD4, Nat.lt_of_lt_of_le (by rw [hd'.length]; exact hlen) (sz100 (Nat.le_refl _)), z.1.length - (i + 1), by omega, s5, acc ++ [q.1], xs ++ [v], R5.grow nio, hu5, ?_, rfl, hlt, f3⟩
              have fe : Fz (own ++ (Da :: C.B)) (upd H4 Da (.lst (xs ++ [v]))) = Fz (own ++ (Da :: C.B)) H4 := by
                funext b
                by_cases hb : b ∈ own ++ (Da :: C.B)
                · rw [Fz.in hb, Fz.in hb]
                · rw [Fz.out hb, Fz.out hb, upd_ne (show b ≠ Da from fun z => hb (comp_mem.mpr (.inl z)))]
              rw [fe]
              exact hd4
            · rw [if_neg hlen] at f2
              exact f2.elim
        · rw [if_neg hb1] at f2 ⊢
          obtain ⟨s5, hw5, f3⟩ := R.opt_ok (P := End) (fun h => h) f2
          obtain ⟨R5, hu5⟩ := R3.wipe vs s5 hw5
          rw [hwp] at R5
          exact ⟨z.1.length - (i + 1), by omega, s5, acc, xs, R5, hu5, hd3, rfl, hlt, f3⟩
    · refine .inl ⟨stop (by omega), ?_⟩
      rw [List.drop_of_length_le (by omega)] at f'
      exact f' H' xs R' hu' hd'
/-! the readings that the functions tell, whatever the block's own state -/
structure Like (X Y : Cx) : Prop where
  K : Y.K = X.K
  w : Y.w = X.w
  mg : Y.mg = X.mg
theorem Fin.to {α β : Type} {ρ ρ' : Hp → α → β → Prop} {X Y : Cx} (l : Like X Y) (hρ : ∀ F a b, ρ' F a b → ρ F a b) {W : WX} {p : Bool} {C : Cn} {own : List Addr} {σ : L2.St} {H : Hp} {s : Sv} {r : R (α × Sv)} {Q : β → Hp → Prop} (f : Fin ρ X W p C own σ H s r Q) : Fin ρ' Y W p C own σ H s r Q := by
  cases r with
  | ok z => exact fun v H' h1 h2 h3 h4 => f v H' h1 h2 (h3.to l.K.symm l.w.symm) (hρ _ _ _ h4)
  | exn c x s' => exact fun own' H' cls dd ⟨a, h1, h2, h3⟩ h4 => f own' H' cls dd ⟨a, by rw [← l.mg]; exact h1, h2, h3⟩ (h4.to l.K.symm l.w.symm)
  | bad => exact f
def gCan (X : Cx) (js : List Nat) (γ : D → Sv → Option Sv) : TG := fun v σ H Q => ∃ C own s d s', Rep X C own σ H s ∧ Den X.K X.w (Fz (own ++ C.B) H) d v ∧ γ d s = some s' ∧ ∀ σ', But js σ σ' → Rep X C own σ' H s' → Q σ' H
def tCan (X : Cx) (W : WX) (p : Bool) (ε : Se) : TE := fun σ H Q => ∃ C own s, Rep X C own σ H s ∧ Fin (rhoD X) X W p C own σ H s (ε s) Q
def cCan (X : Cx) (W : WX) (p : Bool) (τ : St2) : TT := fun σ H Q => ∃ C own s, Rep X C own σ H s ∧ Fin rhoB X W p C own σ H s (τ s) Q
theorem pg_can {X Y : Cx} (l : Like X Y) {tg : Expr} (h : DG Y tg js γ) : PG Y tg (gCan X js γ) := by
  obtain ⟨g, h, q⟩ := h
  refine ⟨fun pins s σ H v u Q I r hw => h.run pins s σ H v u Q I r ?_⟩
  obtain ⟨C, own, s', d, s2, h1, h2, h3, h4⟩ := hw
  exact q C own σ H s' d v s2 Q (h1.to l.K l.w) (by rw [l.K, l.w]; exact h2) h3 fun σ' b r => h4 σ' b (r.to l.K.symm l.w.symm)
theorem pe_can {X Y : Cx} (l : Like X Y) {e : Expr} {W : WX} (h : DX Y W e p ε) : PE Y e (tCan X W p ε) := by
  obtain ⟨t, h, q⟩ := h
  refine ⟨fun pins s σ H Q I hw => h.run pins s σ H Q I ?_⟩
  obtain ⟨C, own, s', h1, h2⟩ := hw
  exact q C own σ H s' Q (h1.to l.K l.w) (h2.to l fun F a b h => by show Den X.K X.w F a b; rw [← l.K, ← l.w]; exact h)
theorem pts_can {X Y : Cx} (l : Like X Y) {es : List Expr} {W : WX} (h : DTs Y W es p τ) : PTs Y es (cCan X W p τ) := by
  obtain ⟨t, h, q⟩ := h
  refine ⟨fun pins s σ H Q I hw => h.run pins s σ H Q I ?_⟩
  obtain ⟨C, own, s', h1, h2⟩ := hw
  exact q C own σ H s' Q (h1.to l.K l.w) (h2.to l fun F a b h => h)
/-- [elt for tg in iter if ..] -/
theorem df_comp (hc : X.calm = true) (hN : X.N.Nodup) (hi : DI X W tg iter p ι) (ok : BlkOk X.N X.env.scope scope own) (hj : ∀ j, j ∈ js → j ∈ own.map (·.2))
    (hg : ∀ (s : Shared) (H : Hp) (C : Addr) (cl : List (Str × Addr)) (fp : List Addr), DG (X.blk s H scope (compEnvC scope cl C X.env) fp) tg js γ)
    (ht : ∀ (s : Shared) (H : Hp) (C : Addr) (cl : List (Str × Addr)) (fp : List Addr), DTs (X.blk s H scope (compEnvC scope cl C X.env) fp) W0 ifs pt τ)
    (he : ∀ (s : Shared) (H : Hp) (C : Addr) (cl : List (Str × Addr)) (fp : List Addr), DX (X.blk s H scope (compEnvC scope cl C X.env) fp) W0 elt pe ε)
    (hs : ∀ x, foldedSetIterable iter X.env x = pure x := by intro _; rfl) : DF X W (.ListComp elt [⟨tg, iter, ifs, 0⟩] scope pos) false (eComp γ ι τ ε (own.map (·.2))) := by
  obtain ⟨wi, hi, qi⟩ := hi
  refine ⟨_, pe_lc hc hN hi ok (fun s H C cl fp => pg_can (X := X) (Y := X.blk s H scope (compEnvC scope cl C X.env) fp) ⟨rfl, rfl, rfl⟩ (hg s H C cl fp)) (fun s H C cl fp => pts_can (X := X) (Y := X.blk s H scope (compEnvC scope cl C X.env) fp) ⟨rfl, rfl, rfl⟩ (ht s H C cl fp)) (fun s H C cl fp => pe_can (X := X) (Y := X.blk s H scope (compEnvC scope cl C X.env) fp) ⟨rfl, rfl, rfl⟩ (he s H C cl fp)) hs, ?_⟩
  exact comp_read hj qi (fun C own σ H s d v s' Q r h1 h2 h3 => ⟨C, own, s, d, s', r, h1, h2, h3⟩) (fun C own σ H s Q r f => ⟨C, own, s, r, f⟩) (fun C own σ H s Q r f => ⟨C, own, s, r, f⟩)
/-- name = [..] on one line -/
theorem d1_setComp (i : Nat) {y : Str} {py : Pos} {spos : Pos} (hc : X.calm = true) (hN : X.N.Nodup) (hi : DI X W tg iter p ι) (ok : BlkOk X.N X.env.scope scope own) (hj : ∀ j, j ∈ js → j ∈ own.map (·.2))
    (hg : ∀ (s : Shared) (H : Hp) (C : Addr) (cl : List (Str × Addr)) (fp : List Addr), DG (X.blk s H scope (compEnvC scope cl C X.env) fp) tg js γ)
    (ht : ∀ (s : Shared) (H : Hp) (C : Addr) (cl : List (Str × Addr)) (fp : List Addr), DTs (X.blk s H scope (compEnvC scope cl C X.env) fp) W0 ifs pt τ)
    (he : ∀ (s : Shared) (H : Hp) (C : Addr) (cl : List (Str × Addr)) (fp : List Addr), DX (X.blk s H scope (compEnvC scope cl C X.env) fp) W0 elt pe ε)
    (hy : X.N[i]? = some y := by rfl) (hyl : X.env.scope.names.lookup y = some .local := by rfl) (hsw : swapsWith (.ListComp elt [⟨tg, iter, ifs, 0⟩] scope pos) (some (.Name y py)) spos.line X.env = pure true := by exact sw_true rfl rfl rfl (by decide +kernel))
    (hs : ∀ x, foldedSetIterable iter X.env x = pure x := by intro _; rfl) : D1 X W (.Assign [.Name y py] (.ListComp elt [⟨tg, iter, ifs, 0⟩] scope pos) spos) (sSet i (eFz (eComp γ ι τ ε (own.map (·.2))))) := by
  obtain ⟨wi, hi, qi⟩ := hi
  refine ⟨_, ps_setLc hc hN hy hyl hsw hi ok (fun s H C cl fp => pg_can (X := X) (Y := X.blk s H scope (compEnvC scope cl C X.env) fp) ⟨rfl, rfl, rfl⟩ (hg s H C cl fp)) (fun s H C cl fp => pts_can (X := X) (Y := X.blk s H scope (compEnvC scope cl C X.env) fp) ⟨rfl, rfl, rfl⟩ (ht s H C cl fp)) (fun s H C cl fp => pe_can (X := X) (Y := X.blk s H scope (compEnvC scope cl C X.env) fp) ⟨rfl, rfl, rfl⟩ (he s H C cl fp)) hs, ?_⟩
  exact set_read (fz_read (comp_read hj qi (fun C own σ H s d v s' Q r h1 h2 h3 => ⟨C, own, s, d, s', r, h1, h2, h3⟩) (fun C own σ H s Q r f => ⟨C, own, s, r, f⟩) (fun C own σ H s Q r f => ⟨C, own, s, r, f⟩)))
end
end DL
set_option maxRecDepth 100000
namespace DL
open PySem PySem.Spec PyProof.Rows L2

/-! ### data in the heap -/
section
variable {X : Cx} {pins : List (Addr × Obj)} {σ : L2.St} {H : Hp} {s : Shared}
theorem paired_keys {es : List Ent} {xs : List DictEntry} (r : Paired (fun (e : Ent) (x : DictEntry) => x.hash = e.1 ∧ RelV e.2.1 x.key ∧ RelV e.2.2 x.val) es xs) : Vals (es.map (·.2.1)) (xs.map (·.key)) ∧ Vals (es.map (·.2.2)) (xs.map (·.val)) := by
  induction r with
  | nil => exact ⟨.nil, .nil⟩
  | cons h _ ih => exact ⟨.cons h.2.1 ih.1, .cons h.2.2 ih.2⟩
mutual
theorem Den.reads (I : Inv X pins σ H s) : ∀ (d : D) (v : V) (u : Value), Den X.K X.w H d v → RelV v u → ∃ as, Reads s.heap u d as
  | .none, v, u, h, r => by cases (show v = .non from h); cases r; exact ⟨_, .none⟩
  | .bool b, v, u, h, r => by cases (show v = .bl b from h); cases r; exact ⟨_, .bool b⟩
  | .int i, v, u, h, r => by cases (show v = .int i from h); obtain ⟨t, rfl⟩ := r; exact ⟨_, .int i t⟩
  | .str x, v, u, h, r => by cases (show v = .str x from h); obtain ⟨t, rfl⟩ := r; exact ⟨_, .str x t⟩
  | .list ds, v, u, ⟨a, vs, e, hs, hd⟩, r => by
    subst e
    cases r
    obtain ⟨its, rv, ⟨o, n, ho, hc, _, ht⟩, _⟩ := I.list (.inl hs)
    obtain ⟨as, hr⟩ := DenL.reads I ds vs its hd rv
    exact ⟨_, .list ho hc ht hr⟩
  | .tuple ds, v, u, ⟨a, vs, e, hs, hd⟩, r => by
    subst e
    cases r
    obtain ⟨its, rv, ⟨o, ho, hc, n, ht⟩, _⟩ := I.tuple hs.seq
    obtain ⟨as, hr⟩ := DenL.reads I ds vs its hd rv
    exact ⟨_, .tuple ho hc ht hr⟩
  | .dict kvs, v, u, ⟨a, o, es, e, hs, hd⟩, r => by
    subst e
    cases r
    obtain ⟨_, ⟨_, _, ob, xs, ep, ho, hx, hdat, rel⟩, _⟩ := I.hok a _ hs
    obtain ⟨r1, r2⟩ := paired_keys rel
    obtain ⟨as, bs, q1, q2⟩ := DenP.reads I kvs es _ _ hd r1 r2
    exact ⟨_, .dict ho hx.1 hdat q1 q2⟩
theorem DenL.reads (I : Inv X pins σ H s) : ∀ (ds : List D) (vs : List V) (us : List Value), DenL X.K X.w H ds vs → Vals vs us → ∃ as, ReadsAll s.heap us ds as
  | [], vs, us, h, r => by cases (show vs = [] from h); cases r; exact ⟨_, .nil⟩
  | d :: ds, vs, us, ⟨v, t, e, h1, h2⟩, r => by
    subst e
    cases r with
    | cons r1 r2 =>
      obtain ⟨as, q1⟩ := Den.reads I d _ _ h1 r1
      obtain ⟨bs, q2⟩ := DenL.reads I ds _ _ h2 r2
      exact ⟨_, .cons q1 q2⟩
theorem DenP.reads (I : Inv X pins σ H s) : ∀ (ds : List (D × D)) (es : List Ent) (ks vs : List Value), DenP X.K X.w H ds es → Vals (es.map (·.2.1)) ks → Vals (es.map (·.2.2)) vs → ∃ as bs, ReadsAll s.heap ks (ds.map (·.1)) as ∧ ReadsAll s.heap vs (ds.map (·.2)) bs
  | [], es, ks, vs, h, r1, r2 => by cases (show es = [] from h); cases r1; cases r2; exact ⟨_, _, .nil, .nil⟩
  | p :: ds, es, ks, vs, ⟨e, t, h0, h1, h2⟩, r1, r2 => by
    subst h0
    cases r1 with
    | cons r1 r1' =>
      cases r2 with
      | cons r2 r2' =>
        obtain ⟨as, bs, q1, q2⟩ := DenP.reads I ds _ _ _ h2 r1' r2'
        obtain ⟨as', bs', q3, q4⟩ := DenQ.reads I p e _ _ h1 r1 r2
        exact ⟨_, _, .cons q3 q1, .cons q4 q2⟩
theorem DenQ.reads (I : Inv X pins σ H s) : ∀ (p : D × D) (e : Ent) (k v : Value), DenQ X.K X.w H p e → RelV e.2.1 k → RelV e.2.2 v → ∃ as bs, Reads s.heap k p.1 as ∧ Reads s.heap v p.2 bs
  | (k, d), e, ku, vu, ⟨_, h2, h3⟩, r1, r2 => by
    obtain ⟨as, q1⟩ := Den.reads I k _ _ h2 r1
    obtain ⟨bs, q2⟩ := Den.reads I d _ _ h3 r2
    exact ⟨as, bs, q1, q2⟩
end
end

/-! ### comparisons of data -/
def deep (d : D) : Bool := d.plain && decide (d.depth ≤ 60)
def eqG (d e : D) : Option D := if deep d && deep e then some (.bool (PyData.eqv d e)) else none
def neG (d e : D) : Option D := if deep d && deep e then some (.bool (!PyData.eqv d e)) else none
section
variable {X : Cx}
theorem deep_plain {d : D} (h : deep d = true) : d.plain = true := (Bool.and_eq_true_iff.mp h).1
theorem deep_depth {d : D} (h : deep d = true) : d.depth ≤ 60 := of_decide_eq_true (Bool.and_eq_true_iff.mp h).2
/-- an operation whose answer is a truth value, by the data -/
theorem opB {f : Value → Value → Sem Value} {g : D → D → Option D} (h : ∀ (s : Shared) (d e : D) (v u : Value) (as bs : List Addr) (b : D) (Q : Value → Shared → Prop), Reads s.heap v d as → Reads s.heap u e bs → g d e = some b → (∀ k, b = .bool k → Q (.bool k) s) → wpAny (model X.prog X.w) X.A (f v u) Q X.xe s)
    (hg : ∀ d e b, g d e = some b → ∃ k, b = .bool k) : OpD X f g := by
  refine ⟨fun x y H Q => ∃ d e k, Den X.K X.w H d x ∧ Den X.K X.w H e y ∧ g d e = some (.bool k) ∧ Q (.bl k) H, fun pins s σ H x y v u Q I rx ry ⟨d, e, k, h1, h2, h3, q⟩ => ?_, fun O H d1 d2 d x y Q hk h1 h2 h3 q => ?_⟩
  · obtain ⟨as, r1⟩ := Den.reads I d x v h1 rx
    obtain ⟨bs, r2⟩ := Den.reads I e y u h2 ry
    exact h s d e v u as bs _ _ r1 r2 h3 fun k' e' => by cases e'; exact ⟨.bl k, H, I, rfl, q⟩
  · obtain ⟨k, rfl⟩ := hg _ _ _ h3
    exact ⟨d1, d2, k, Den.mono (Fz.le _ _) _ _ h1, Den.mono (Fz.le _ _) _ _ h2, h3, q _ H (Same.refl H) rfl⟩
theorem ite_some {α : Type} {c : Bool} {x y : α} (h : (if c then some x else none) = some y) : c = true ∧ x = y := by
  cases c with
  | true => exact ⟨rfl, Option.some.inj h⟩
  | false => cases h
theorem min_depth {X : Cx} {d e : D} (hu : X.A.units + 128 < cLine) (h : d.depth ≤ 60) : X.A.units + min d.depth e.depth < cLine := by
  have : min d.depth e.depth ≤ d.depth := Nat.min_le_left _ _
  omega
theorem op_eqG (hu : X.A.units + 128 < cLine) : OpD X (compareOp .Eq) eqG := opB (fun s d e v u as bs b Q r1 r2 hb q => by
    obtain ⟨h, hb⟩ := ite_some hb
    obtain ⟨h1, h2⟩ := Bool.and_eq_true_iff.mp h
    subst hb
    exact PySem.SeqAt.eq_plain r1 r2 (deep_plain h1) (deep_plain h2) (min_depth hu (deep_depth h1)) (q _ rfl)) fun d e b h => ⟨_, (ite_some h).2.symm⟩
theorem op_neG (hu : X.A.units + 128 < cLine) : OpD X (compareOp .NotEq) neG := opB (fun s d e v u as bs b Q r1 r2 hb q => by
    obtain ⟨h, hb⟩ := ite_some hb
    obtain ⟨h1, h2⟩ := Bool.and_eq_true_iff.mp h
    subst hb
    exact PySem.SeqAt.ne_plain r1 r2 (deep_plain h1) (deep_plain h2) (min_depth hu (deep_depth h1)) (q _ rfl)) fun d e b h => ⟨_, (ite_some h).2.symm⟩
/-- alike data, not None -/
def ordOk (d e : D) : Bool := PySem.W.alike d e && !(match d with | .none => true | _ => false) && decide (d.depth ≤ 60)
theorem ordOk_of {d e : D} (h : ordOk d e = true) : PySem.W.alike d e = true ∧ d ≠ .none ∧ d.depth ≤ 60 := by
  unfold ordOk at h
  obtain ⟨h1, h3⟩ := Bool.and_eq_true_iff.mp h
  obtain ⟨h1, h2⟩ := Bool.and_eq_true_iff.mp h1
  refine ⟨h1, fun z => ?_, of_decide_eq_true h3⟩
  subst z
  exact Bool.false_ne_true h2
def ltG (d e : D) : Option D := if ordOk d e then some (.bool (PySem.W.dataLt d e)) else none
def gtG (d e : D) : Option D := if ordOk d e then some (.bool (PySem.W.dataLt e d)) else none
def leG (d e : D) : Option D := if ordOk d e then some (.bool (!PySem.W.dataLt e d)) else none
def geG (d e : D) : Option D := if ordOk d e then some (.bool (!PySem.W.dataLt d e)) else none
theorem op_ltG (hu : X.A.units + 128 < cLine) : OpD X (compareOp .Lt) ltG := opB (fun s d e v u as bs b Q r1 r2 hb q => by
    obtain ⟨h, hb⟩ := ite_some hb
    obtain ⟨h1, h2, h3⟩ := ordOk_of h
    subst hb
    exact PySem.W.lt_data r1 r2 h1 h2 (min_depth hu h3) (q _ rfl)) fun d e b h => ⟨_, (ite_some h).2.symm⟩
theorem op_gtG (hu : X.A.units + 128 < cLine) : OpD X (compareOp .Gt) gtG := opB (fun s d e v u as bs b Q r1 r2 hb q => by
    obtain ⟨h, hb⟩ := ite_some hb
    obtain ⟨h1, h2, h3⟩ := ordOk_of h
    subst hb
    exact PySem.W.gt_data r1 r2 h1 h2 (min_depth hu h3) (q _ rfl)) fun d e b h => ⟨_, (ite_some h).2.symm⟩
theorem op_leG (hu : X.A.units + 128 < cLine) : OpD X (compareOp .LtE) leG := opB (fun s d e v u as bs b Q r1 r2 hb q => by
    obtain ⟨h, hb⟩ := ite_some hb
    obtain ⟨h1, h2, h3⟩ := ordOk_of h
    subst hb
    exact PySem.W.le_data r1 r2 h1 h2 (min_depth hu h3) (q _ rfl)) fun d e b h => ⟨_, (ite_some h).2.symm⟩
theorem op_geG (hu : X.A.units + 128 < cLine) : OpD X (compareOp .GtE) geG := opB (fun s d e v u as bs b Q r1 r2 hb q => by
    obtain ⟨h, hb⟩ := ite_some hb
    obtain ⟨h1, h2, h3⟩ := ordOk_of h
    subst hb
    exact PySem.W.ge_data r1 r2 h1 h2 (min_depth hu h3) (q _ rfl)) fun d e b h => ⟨_, (ite_some h).2.symm⟩
/-- in, not in: lists, tuples, a sign in a text, keys of a dict -/
def inG (d e : D) : Option D := match e with
  | .list ds => if deep d && PyData.plainAll ds then some (.bool (ds.any fun y => PyData.eqv y d)) else none
  | .tuple ds => if deep d && PyData.plainAll ds then some (.bool (ds.any fun y => PyData.eqv y d)) else none
  | _ => none
def notG (o : Option D) : Option D := match o with
  | some (.bool b) => some (.bool !b)
  | _ => none
def nnG (d e : D) : Option D := notG (inG d e)
theorem in_depth {X : Cx} {d : D} {n : Nat} (hu : X.A.units + 128 < cLine) (h : d.depth ≤ 60) : X.A.units + 1 + min n d.depth < cLine := by
  have : min n d.depth ≤ d.depth := Nat.min_le_right _ _
  omega
theorem inG_bool {d e b : D} (h : inG d e = some b) : ∃ k, b = .bool k := by
  unfold inG at h
  split at h
  · exact ⟨_, (ite_some h).2.symm⟩
  · exact ⟨_, (ite_some h).2.symm⟩
  · cases h
theorem op_inSeq (hu : X.A.units + 128 < cLine) : OpD X (compareOp .In) inG := opB (fun s d e v u as bs b Q r1 r2 hb q => by
    unfold inG at hb
    split at hb
    · obtain ⟨h, hb⟩ := ite_some hb
      obtain ⟨h1, h2⟩ := Bool.and_eq_true_iff.mp h
      subst hb
      exact PySem.SeqAt.in_list_data r2 r1 h2 (deep_plain h1) (in_depth hu (deep_depth h1)) (q _ rfl)
    · obtain ⟨h, hb⟩ := ite_some hb
      obtain ⟨h1, h2⟩ := Bool.and_eq_true_iff.mp h
      subst hb
      exact PySem.SeqAt.in_tuple_data r2 r1 h2 (deep_plain h1) (in_depth hu (deep_depth h1)) (q _ rfl)
    · cases hb) fun d e b h => inG_bool h
theorem nnG_bool {d e b : D} (h : nnG d e = some b) : ∃ k, b = .bool k := by
  unfold nnG notG at h
  split at h
  · cases h; exact ⟨_, rfl⟩
  · cases h
theorem op_notInSeq (hu : X.A.units + 128 < cLine) : OpD X (compareOp .NotIn) nnG := opB (fun s d e v u as bs b Q r1 r2 hb q => by
    cases e with
    | list ds =>
      have hb : notG (if (deep d && PyData.plainAll ds) = true then some (.bool (ds.any fun y => PyData.eqv y d)) else none) = some b := hb
      by_cases h : (deep d && PyData.plainAll ds) = true
      · rw [if_pos h] at hb
        obtain ⟨h1, h2⟩ := Bool.and_eq_true_iff.mp h
        cases hb
        exact PySem.SeqAt.notIn_list_data r2 r1 h2 (deep_plain h1) (in_depth hu (deep_depth h1)) (q _ rfl)
      · rw [if_neg h] at hb; cases hb
    | tuple ds =>
      have hb : notG (if (deep d && PyData.plainAll ds) = true then some (.bool (ds.any fun y => PyData.eqv y d)) else none) = some b := hb
      by_cases h : (deep d && PyData.plainAll ds) = true
      · rw [if_pos h] at hb
        obtain ⟨h1, h2⟩ := Bool.and_eq_true_iff.mp h
        cases hb
        exact PySem.SeqAt.notIn_tuple_data r2 r1 h2 (deep_plain h1) (in_depth hu (deep_depth h1)) (q _ rfl)
      · rw [if_neg h] at hb; cases hb
    | _ => cases hb) fun d e b h => nnG_bool h
def orG (g g' : D → D → Option D) (d e : D) : Option D := match g d e with
  | some x => some x
  | none => g' d e
/-- two rules for one operation -/
theorem OpD.or {f : Value → Value → Sem Value} {g g' : D → D → Option D} (h : OpD X f g) (h' : OpD X f g') : OpD X f (orG g g') := by
  obtain ⟨r, h1, h2⟩ := h
  obtain ⟨r', h1', h2'⟩ := h'
  refine ⟨_, h1.or h1', fun O H d1 d2 d x y Q hk a b e q => ?_⟩
  unfold orG at e
  cases hg : g d1 d2 with
  | some z =>
    rw [hg] at e
    cases e
    exact .inl (h2 O H d1 d2 _ x y Q hk a b hg q)
  | none =>
    rw [hg] at e
    exact .inr (h2' O H d1 d2 d x y Q hk a b e q)
theorem OpD.congr {f : Value → Value → Sem Value} {g g' : D → D → Option D} (h : OpD X f g) (e : ∀ a b d, g' a b = some d → g a b = some d) : OpD X f g' := by
  obtain ⟨r, h1, h2⟩ := h
  exact ⟨r, h1, fun O H d1 d2 d x y Q hk a b ee q => h2 O H d1 d2 d x y Q hk a b (e _ _ _ ee) q⟩
theorem den_int {F : Hp} {K : PySem.W.Frag} {w : World} {i : Int} {v : V} (h : Den K w F (.int i) v) : v = .int i := h
/-- ints -/
theorem opI {f : Value → Value → Sem Value} {C : Int → Int → Prop} [DecidableRel C] {k : Int → Int → Int} (h : OpR X f (rI C fun i j => .int (k i j))) : OpD X f (fun d e => match d, e with | .int i, .int j => if C i j then some (.int (k i j)) else none | _, _ => none) := by
  refine ⟨_, h, fun O H d1 d2 d x y Q hk a b e q => ?_⟩
  dsimp only at e
  split at e
  · next i j =>
    by_cases hc : C i j
    · rw [if_pos hc] at e
      cases e
      exact ⟨i, j, a, b, hc, q _ H (Same.refl H) rfl⟩
    · rw [if_neg hc] at e; cases e
  · cases e
theorem opI0 {f : Value → Value → Sem Value} {k : Int → Int → Int} (h : OpR X f (rI0 fun i j => .int (k i j))) : OpD X f (fun d e => match d, e with | .int i, .int j => some (.int (k i j)) | _, _ => none) := by
  refine ⟨_, h, fun O H d1 d2 d x y Q hk a b e q => ?_⟩
  dsimp only at e
  split at e
  · next i j =>
    cases e
    exact ⟨i, j, a, b, q _ H (Same.refl H) rfl⟩
  · cases e
def subG (d e : D) : Option D := match d, e with
  | .int i, .int j => some (.int (i - j))
  | _, _ => none
theorem op_subG : OpD X (binaryOp .Sub) subG := (opI0 op_sub).congr fun a b d h => by
  unfold subG at h
  exact h
instance : DecidableRel CMul := fun i j => inferInstanceAs (Decidable ((-(2 ^ 64) < i ∧ i < 2 ^ 64) ∨ (-(2 ^ 64) < j ∧ j < 2 ^ 64)))
instance : DecidableRel CDiv := fun i j => inferInstanceAs (Decidable (0 < j ∧ j < 1073741824))
instance : DecidableRel CPow := fun i j => inferInstanceAs (Decidable (0 ≤ j ∧ j ≤ 1000000 ∧ i.natAbs < 2 ^ 64))
def divG (d e : D) : Option D := match d, e with
  | .int i, .int j => if CDiv i j then some (.int (i / j)) else none
  | _, _ => none
theorem op_divG : OpD X (binaryOp .FloorDiv) divG := (opI op_fdiv).congr fun a b d h => by
  unfold divG at h
  exact h
def modG (d e : D) : Option D := match d, e with
  | .int i, .int j => if 0 < j then some (.int (i % j)) else none
  | _, _ => none
theorem op_modG : OpD X (binaryOp .Mod) modG := (opI (C := fun _ j => 0 < j) op_mod).congr fun a b d h => by
  unfold modG at h
  exact h
def powG (d e : D) : Option D := match d, e with
  | .int i, .int j => if CPow i j then some (.int (i ^ j.toNat)) else none
  | _, _ => none
theorem op_powG : OpD X (binaryOp .Pow) powG := (opI op_pow).congr fun a b d h => by
  unfold powG at h
  exact h
/-- a fresh list as data -/
theorem OpF.toD {f : Value → Value → Sem Value} {g : D → D → Option D} (h : OpF X f g) (hl : ∀ d e z, g d e = some z → ∃ ds, z = .list ds) : OpD X f g := by
  obtain ⟨r, h1, h2⟩ := h
  refine ⟨r, h1, fun O H d1 d2 d x y Q hk a b e q => h2 O H d1 d2 d x y Q hk a b e fun p u H' n sm hp hc => ?_⟩
  obtain ⟨ds, rfl⟩ := hl _ _ _ e
  obtain ⟨vs, rfl, hd⟩ := hc
  have nO : p ∉ O := fun z => by obtain ⟨o, ho⟩ := hk p z; rw [n] at ho; cases ho
  exact q (.ref p) H' sm ⟨p, vs, rfl, .inl (by rw [Fz.out nO]; exact hp), DenL.mono (Fz.same sm) _ _ hd⟩
def catG (d e : D) : Option D := match d, e with
  | .list a, .list b => if a.length + b.length ≤ 100000 then some (.list (a ++ b)) else none
  | _, _ => none
theorem rd_obj {pins : List (Addr × Obj)} {σ : L2.St} {H : Hp} {s : Shared} {a : Addr} {xs : List V} (I : Inv X pins σ H s) (h : Rd H a (.lst xs)) : ∃ its n, Vals xs its ∧ s.heap.get? a = some { cls := .type "list", data := .seq its.toArray n } := by
  obtain ⟨_, its, n, r, e⟩ := h.ok I.hok
  exact ⟨its, n, r, e⟩
theorem op_catL : OpR X (binaryOp .Add) (fun x y H Q => ∃ l b xs zs, x = .ref l ∧ y = .ref b ∧ Rd H l (.lst xs) ∧ Rd H b (.lst zs) ∧ xs.length + zs.length ≤ sizeLine ∧ ∀ p, H p = none → Q (.ref p) (upd H p (.lst (xs ++ zs)))) := by
  intro pins s σ H x y v u Q I rx ry h
  obtain ⟨l, b, xs, zs, rfl, rfl, hH, hB, hz, q⟩ := h
  cases rx
  cases ry
  obtain ⟨its, n, r, e⟩ := rd_obj I hH
  obtain ⟨its2, n2, r2, e2⟩ := rd_obj I hB
  have q1 := r.length
  have q2 := r2.length
  refine PySem.P.add_list e e2 ?_ (by rw [List.size_toArray, List.size_toArray, ← q1, ← q2]; exact hz)
  have ea : its.toArray ++ its2.toArray = (its ++ its2).toArray := by simp
  rw [ea]
  exact ⟨.ref _, _, I.lnew (t' := s.toks) (r.append r2) (by rw [List.length_append]; exact hz), rfl, q _ I.fresh⟩
theorem op_catG : OpF X (binaryOp .Add) catG := by
  refine ⟨_, op_catL, fun O H d1 d2 d x y Q hk a b e q => ?_⟩
  unfold catG at e
  split at e
  · next da db =>
    by_cases hl : da.length + db.length ≤ 100000
    · rw [if_pos hl] at e
      cases e
      obtain ⟨l, xs, e1, h1, h2⟩ := a
      obtain ⟨m, ys, e2, h3, h4⟩ := b
      exact ⟨l, m, xs, ys, e1, e2, rd_mono (Fz.le _ _) h1, rd_mono (Fz.le _ _) h3, sz100 (by rw [h2.length, h4.length]; exact hl), fun p hp => q p _ _ hp (same_new hp) upd_same ⟨_, rfl, h2.append h4⟩⟩
    · rw [if_neg hl] at e; cases e
  · cases e
def addG (d e : D) : Option D := match d, e with
  | .int i, .int j => some (.int (i + j))
  | .str x, .str y => if x.length + y.length ≤ 100000 then some (.str (x ++ y)) else none
  | .list a, .list b => if a.length + b.length ≤ 100000 then some (.list (a ++ b)) else none
  | .tuple a, .tuple b => if a.length + b.length ≤ 100000 then some (.tuple (a ++ b)) else none
  | _, _ => none
theorem op_addS : OpD X (binaryOp .Add) (fun d e => match d, e with | .str x, .str y => if x.length + y.length ≤ 100000 then some (.str (x ++ y)) else none | _, _ => none) := by
  refine ⟨_, op_add_str, fun O H d1 d2 d x y Q hk a b e q => ?_⟩
  dsimp only at e
  split at e
  · next i j =>
    by_cases hl : i.length + j.length ≤ 100000
    · rw [if_pos hl] at e
      cases e
      exact ⟨i, j, a, b, sz100 hl, q _ H (Same.refl H) rfl⟩
    · rw [if_neg hl] at e; cases e
  · cases e
def rCatN (K : PySem.W.Frag) : R2 := fun x y H Q => ∃ a b xs ys, x = .ref a ∧ y = .ref b ∧ SqT K H a xs ∧ SqT K H b ys ∧ xs.length + ys.length ≤ sizeLine ∧
  (xs = [] → Q (.ref b) H) ∧ (xs ≠ [] → ys = [] → Q (.ref a) H) ∧ (xs ≠ [] → ys ≠ [] → NewT H (xs ++ ys) Q)
theorem op_catN : OpR X (binaryOp .Add) (rCatN X.K) := by
  intro pins s σ H x y v u Q I rx ry h
  obtain ⟨a, b, xs, ys, rfl, rfl, ha, hb, hz, q0, q1, q2⟩ := h
  cases rx
  cases ry
  obtain ⟨its, r1, p1, _⟩ := I.tuple ha
  obtain ⟨its2, r2, p2, _⟩ := I.tuple hb
  by_cases hx : xs = []
  · subst hx
    cases r1
    exact cat_tup0 p1 p2 ⟨.ref b, H, I, rfl, q0 rfl⟩
  · refine HT.cat_tup p1 p2 (fun z => hx (r1.nil_iff.mp z)) (fun z => ⟨.ref a, H, I, rfl, q1 hx (r2.nil_iff.mp z)⟩) (fun z => ?_) (by rw [← r1.length, ← r2.length]; exact hz)
    exact Inv.ltup I (r1.append r2) (by rw [List.length_append]; exact hz) (q2 hx fun w => z (r2.nil_iff.mpr w))
theorem op_addT : OpD X (binaryOp .Add) (fun d e => match d, e with | .tuple a, .tuple b => if a.length + b.length ≤ 100000 then some (.tuple (a ++ b)) else none | _, _ => none) := by
  refine ⟨_, op_catN, fun O H d1 d2 d x y Q hk a b e q => ?_⟩
  dsimp only at e
  split at e
  · next da db =>
    by_cases hl : da.length + db.length ≤ 100000
    · rw [if_pos hl] at e
      cases e
      obtain ⟨l, xs, e1, h1, h2⟩ := a
      obtain ⟨m, ys, e2, h3, h4⟩ := b
      refine ⟨l, m, xs, ys, e1, e2, sqt_mono (Fz.le _ _) h1.seq, sqt_mono (Fz.le _ _) h3.seq, sz100 (by rw [h2.length, h4.length]; exact hl), fun z => ?_, fun _ z => ?_, fun _ _ p o hp ho => ?_⟩
      · subst z
        have : da = [] := List.eq_nil_of_length_eq_zero (by rw [← h2.length]; rfl)
        subst this
        exact q _ H (Same.refl H) ⟨m, ys, rfl, h3, h4⟩
      · subst z
        have : db = [] := List.eq_nil_of_length_eq_zero (by rw [← h4.length]; rfl)
        subst this
        rw [List.append_nil] at q
        exact q _ H (Same.refl H) ⟨l, xs, rfl, h1, h2⟩
      · have nO : p ∉ O := fun z => by obtain ⟨o, ho⟩ := hk p z; rw [hp] at ho; cases ho
        exact q _ _ (same_new hp) ⟨p, _, rfl, sqn_new (by rw [Fz.out nO]; exact upd_same) ho, DenL.mono (Fz.same (same_new hp)) _ _ (h2.append h4)⟩
    · rw [if_neg hl] at e; cases e
  · cases e
theorem catG_list {d e z : D} (h : catG d e = some z) : ∃ ds, z = .list ds := by
  unfold catG at h
  split at h
  · split at h
    · cases h; exact ⟨_, rfl⟩
    · cases h
  · cases h
theorem op_addG : OpD X (binaryOp .Add) addG := ((opI0 op_add).or (op_addS.or ((op_catG.toD fun d e z h => catG_list h).or op_addT))).congr fun a b d h => by
  unfold addG at h
  split at h
  · exact h
  · unfold orG; dsimp only; rw [h]
  · unfold orG catG; dsimp only; rw [h]
  · unfold orG catG; dsimp only; rw [h]
  · cases h
end
end DL
set_option maxRecDepth 100000
namespace DL
open PySem PySem.Spec PyProof.Rows L2

/-! ### calls of built-ins -/
section
variable {X : Cx}
theorem CallR.or {f : Value} {r r' : List V → Hp → VK → Prop} (h : CallR X f r) (h' : CallR X f r') : CallR X f (fun xs H Q => r xs H Q ∨ r' xs H Q) := fun pins s σ H xs us Q I rx q => q.elim (h pins s σ H xs us Q I rx) (h' pins s σ H xs us Q I rx)
def orL (g g' : List D → Option D) (ds : List D) : Option D := match g ds with
  | some x => some x
  | none => g' ds
theorem CallD.or {f : Value} {g g' : List D → Option D} (h : CallD X f g) (h' : CallD X f g') : CallD X f (orL g g') := by
  obtain ⟨r, h1, h2⟩ := h
  obtain ⟨r', h1', h2'⟩ := h'
  refine ⟨_, CallR.or h1 h1', fun O H ds d xs Q hk a e q => ?_⟩
  unfold orL at e
  cases hg : g ds with
  | some z =>
    rw [hg] at e
    cases e
    exact .inl (h2 O H ds _ xs Q hk a hg q)
  | none =>
    rw [hg] at e
    exact .inr (h2' O H ds d xs Q hk a e q)
theorem CallD.congr {f : Value} {g g' : List D → Option D} (h : CallD X f g) (e : ∀ a d, g' a = some d → g a = some d) : CallD X f g' := by
  obtain ⟨r, h1, h2⟩ := h
  exact ⟨r, h1, fun O H ds d xs Q hk a ee q => h2 O H ds d xs Q hk a (e _ _ ee) q⟩
theorem CallF.or {f : Value} {g g' : List D → Option D} (h : CallF X f g) (h' : CallF X f g') : CallF X f (orL g g') := by
  obtain ⟨r, h1, h2⟩ := h
  obtain ⟨r', h1', h2'⟩ := h'
  refine ⟨_, CallR.or h1 h1', fun O H ds d xs Q hk a e q => ?_⟩
  unfold orL at e
  cases hg : g ds with
  | some z =>
    rw [hg] at e
    cases e
    exact .inl (h2 O H ds _ xs Q hk a hg q)
  | none =>
    rw [hg] at e
    exact .inr (h2' O H ds d xs Q hk a e q)
theorem CallF.congr {f : Value} {g g' : List D → Option D} (h : CallF X f g) (e : ∀ a d, g' a = some d → g a = some d) : CallF X f g' := by
  obtain ⟨r, h1, h2⟩ := h
  exact ⟨r, h1, fun O H ds d xs Q hk a ee q => h2 O H ds d xs Q hk a (e _ _ ee) q⟩
/-- one argument, by its data -/
theorem call1 {f : Value} {g : D → Option D} (h : ∀ (s : Shared) (d : D) (v : Value) (as : List Addr) (b : D) (Q : Value → Shared → Prop), Reads s.heap v d as → g d = some b → (∀ k tk, b = .bool k → Q (.bool k) { s with toks := tk }) → wpAny (model X.prog X.w) X.A (call f [v]) Q X.xe s)
    (hg : ∀ d b, g d = some b → ∃ k, b = .bool k) : CallD X f (fun ds => match ds with | [d] => g d | _ => none) := by
  refine ⟨fun xs H Q => ∃ x d k, xs = [x] ∧ Den X.K X.w H d x ∧ g d = some (.bool k) ∧ Q (.bl k) H, fun pins s σ H xs us Q I rx ⟨x, d, k, h0, h1, h3, q⟩ => ?_, fun O H ds d xs Q hk a e q => ?_⟩
  · subst h0
    obtain ⟨u, rfl, r1⟩ := vals1 rx
    obtain ⟨as, r1⟩ := Den.reads I d x u h1 r1
    exact h s d u as _ _ r1 h3 fun k' tk e' => by cases e'; exact ⟨.bl k, H, I.kept (h' := s.heap) (t' := tk) fun _ _ z => z, rfl, q⟩
  · dsimp only at e
    split at e
    · next d1 =>
      obtain ⟨x, r, e1, h1, h2⟩ := a
      cases (show r = [] from h2)
      obtain ⟨k, rfl⟩ := hg _ _ e
      exact ⟨x, d1, k, e1, Den.mono (Fz.le _ _) _ _ h1, e, q _ H (Same.refl H) rfl⟩
    · cases e
theorem den1 {K : PySem.W.Frag} {w : World} {F : Hp} {d : D} {xs : List V} (h : DenL K w F [d] xs) : ∃ x, xs = [x] ∧ Den K w F d x := by
  obtain ⟨x, r, e, h1, h2⟩ := h
  cases (show r = [] from h2)
  exact ⟨x, e, h1⟩
/-! len -/
def lenG : List D → Option D
  | [.list ds] => some (.int ds.length)
  | [.tuple ds] => some (.int ds.length)
  | [.str x] => if x.length ≤ 100000 then some (.int x.length) else none
  | _ => none
theorem call_lenG : CallD X (.builtin "len") lenG := by
  refine ⟨_, CallR.or call_len_seq call_len_str, fun O H ds d xs Q hk a e q => ?_⟩
  unfold lenG at e
  split at e
  · obtain ⟨x, rfl, p, ys, rfl, h1, h2⟩ := den1 a
    cases e
    refine .inl ⟨p, ys, rfl, .inl (.inl (rd_mono (Fz.le _ _) h1)), ?_⟩
    rw [h2.length]
    exact q _ H (Same.refl H) rfl
  · obtain ⟨x, rfl, p, ys, rfl, h1, h2⟩ := den1 a
    cases e
    refine .inl ⟨p, ys, rfl, .inr (sqt_mono (Fz.le _ _) h1.seq), ?_⟩
    rw [h2.length]
    exact q _ H (Same.refl H) rfl
  · next z =>
    obtain ⟨x, rfl, h1⟩ := den1 a
    cases (show x = .str z from h1)
    by_cases hl : z.length ≤ 100000
    · rw [if_pos hl] at e
      cases e
      exact .inr ⟨z, rfl, sz100 hl, q _ H (Same.refl H) rfl⟩
    · rw [if_neg hl] at e; cases e
  · cases e
def absG : List D → Option D
  | [.int i] => some (.int (if i < 0 then -i else i))
  | _ => none
theorem call_absG : CallD X (.builtin "abs") absG := by
  refine ⟨_, call_abs, fun O H ds d xs Q hk a e q => ?_⟩
  unfold absG at e
  split at e
  · next i =>
    obtain ⟨x, rfl, h1⟩ := den1 a
    cases (show x = .int i from h1)
    cases e
    exact ⟨i, rfl, q _ H (Same.refl H) rfl⟩
  · cases e
def intG : List D → Option D
  | [.int i] => some (.int i)
  | [.bool k] => some (.int (if k then 1 else 0))
  | _ => none
theorem call_intG : CallD X (.type "int") intG := by
  refine ⟨_, call_int1, fun O H ds d xs Q hk a e q => ?_⟩
  unfold intG at e
  split at e
  · next i =>
    obtain ⟨x, rfl, h1⟩ := den1 a
    cases (show x = .int i from h1)
    cases e
    exact .inl ⟨i, rfl, q _ H (Same.refl H) rfl⟩
  · next k =>
    obtain ⟨x, rfl, h1⟩ := den1 a
    cases (show x = .bl k from h1)
    cases e
    exact .inr ⟨k, rfl, q _ H (Same.refl H) rfl⟩
  · cases e
def strG : List D → Option D
  | [.int i] => if i.natAbs.log2 < 1920 then some (.str (toString i)) else none
  | _ => none
theorem call_strG : CallD X (.type "str") strG := by
  refine ⟨_, call_str_int, fun O H ds d xs Q hk a e q => ?_⟩
  unfold strG at e
  split at e
  · next i =>
    obtain ⟨x, rfl, h1⟩ := den1 a
    cases (show x = .int i from h1)
    by_cases hl : i.natAbs.log2 < 1920
    · rw [if_pos hl] at e
      cases e
      exact ⟨i, rfl, hl, q _ H (Same.refl H) rfl⟩
    · rw [if_neg hl] at e; cases e
  · cases e
/-! list, tuple -/
def listG : List D → Option D
  | [.list ds] => some (.list ds)
  | [.tuple ds] => some (.list ds)
  | _ => none
theorem call_listG : CallF X (.type "list") listG := by
  refine ⟨_, call_list_of, fun O H ds d xs Q hk a e q => ?_⟩
  unfold listG at e
  split at e
  · obtain ⟨x, rfl, p, ys, rfl, h1, h2⟩ := den1 a
    cases e
    exact ⟨p, ys, rfl, .inl (.inl (rd_mono (Fz.le _ _) h1)), fun l hl => q l _ _ hl (same_new hl) upd_same ⟨ys, rfl, h2⟩⟩
  · obtain ⟨x, rfl, p, ys, rfl, h1, h2⟩ := den1 a
    cases e
    exact ⟨p, ys, rfl, .inr (sqt_mono (Fz.le _ _) h1.seq), fun l hl => q l _ _ hl (same_new hl) upd_same ⟨ys, rfl, h2⟩⟩
  · cases e
def tupleG : List D → Option D
  | [.list ds] => some (.tuple ds)
  | [.tuple ds] => some (.tuple ds)
  | _ => none
theorem new_out {O : List Addr} {H : Hp} {p : Addr} (hk : Known O H) (n : H p = none) : p ∉ O := fun z => by
  obtain ⟨o, ho⟩ := hk p z
  rw [n] at ho; cases ho
theorem call_tuple_ofN : CallR X (.type "tuple") (fun xs H Q => ∃ p ys, xs = [.ref p] ∧ ((SqL X.K H p ys ∧ NewT H ys Q) ∨ (SqT X.K H p ys ∧ Q (.ref p) H))) := by
  intro pins s σ H xs us Q I r h
  obtain ⟨p, ys, rfl, h⟩ := h
  obtain ⟨u, rfl, rx⟩ := vals1 r
  cases rx
  rcases h with ⟨hq, q⟩ | ⟨hq, q⟩
  · obtain ⟨its, r', pl, hz⟩ := I.list hq
    have hlen := r'.length
    refine call_tuple_list pl.isList (fun h' kp => ?_) (by simp only [List.size_toArray] <;> omega)
    have I1 : Inv X pins σ H { s with heap := h' } := I.kept (t' := s.toks) kp
    exact Inv.ltup I1 r' hz q
  · obtain ⟨its, r', pl, hz⟩ := I.tuple hq
    exact call_tuple_same pl ⟨.ref p, H, I, rfl, q⟩
theorem call_tupleG : CallD X (.type "tuple") tupleG := by
  refine ⟨_, call_tuple_ofN, fun O H ds d xs Q hk a e q => ?_⟩
  unfold tupleG at e
  split at e
  · obtain ⟨x, rfl, p, ys, rfl, h1, h2⟩ := den1 a
    cases e
    refine ⟨p, ys, rfl, .inl ⟨.inl (rd_mono (Fz.le _ _) h1), fun l o hl ho => q _ _ (same_new hl) ⟨l, ys, rfl, sqn_new ?_ ho, DenL.mono (Fz.same (same_new hl)) _ _ h2⟩⟩⟩
    rw [Fz.out (new_out hk hl)]
    exact upd_same
  · obtain ⟨x, rfl, p, ys, rfl, h1, h2⟩ := den1 a
    cases e
    exact ⟨p, ys, rfl,   .inr ⟨sqt_mono (Fz.le _ _) h1.seq, q _ H (Same.refl H) ⟨p, ys, rfl, h1, h2⟩⟩⟩
  · cases e
/-! sum, all of written lists -/
def intsOf : List D → Option (List Int)
  | [] => some []
  | .int i :: ds => (intsOf ds).map (i :: ·)
  | _ => none
theorem intsOf_some {K : PySem.W.Frag} {w : World} {F : Hp} : ∀ {ds : List D} {ns : List Int} {vs : List V}, intsOf ds = some ns → DenL K w F ds vs → vs = ns.map V.int
  | [], _, _, h, hd => by cases h; exact hd
  | .int i :: ds, ns, _, h, ⟨v, r, e, h1, h2⟩ => by
    obtain ⟨ms, h3, h4⟩ := Option.map_eq_some_iff.mp h
    cases (show v = .int i from h1)
    rw [e, ← h4, intsOf_some h3 h2]
    rfl
def sumG : List D → Option D
  | [.list ds] => (intsOf ds).map fun ns => .int ns.sum
  | _ => none
theorem call_sumG (hc : X.calm = true) : CallD X (.builtin "sum") sumG := by
  refine ⟨_, cr_sum hc, fun O H ds d xs Q hk a e q => ?_⟩
  unfold sumG at e
  split at e
  · obtain ⟨x, rfl, p, ys, rfl, h1, h2⟩ := den1 a
    obtain ⟨ns, h3, h4⟩ := Option.map_eq_some_iff.mp e
    cases h4
    refine ⟨p, ns, rfl, .inl ?_, q _ H (Same.refl H) rfl⟩
    rw [← intsOf_some h3 h2]
    exact rd_mono (Fz.le _ _) h1
  · cases e
def boolsOf : List D → Option (List Bool)
  | [] => some []
  | .bool b :: ds => (boolsOf ds).map (b :: ·)
  | _ => none
theorem boolsOf_some {K : PySem.W.Frag} {w : World} {F : Hp} : ∀ {ds : List D} {ns : List Bool} {vs : List V}, boolsOf ds = some ns → DenL K w F ds vs → vs = ns.map V.bl
  | [], _, _, h, hd => by cases h; exact hd
  | .bool i :: ds, ns, _, h, ⟨v, r, e, h1, h2⟩ => by
    obtain ⟨ms, h3, h4⟩ := Option.map_eq_some_iff.mp h
    cases (show v = .bl i from h1)
    rw [e, ← h4, boolsOf_some h3 h2]
    rfl
def allG : List D → Option D
  | [.list ds] => (boolsOf ds).map fun bs => .bool (bs.all id)
  | _ => none
theorem call_allG (hc : X.calm = true) : CallD X (.builtin "all") allG := by
  refine ⟨_, cr_all hc, fun O H ds d xs Q hk a e q => ?_⟩
  unfold allG at e
  split at e
  · obtain ⟨x, rfl, p, ys, rfl, h1, h2⟩ := den1 a
    obtain ⟨ns, h3, h4⟩ := Option.map_eq_some_iff.mp e
    cases h4
    refine ⟨p, ns, rfl, .inl ?_, q _ H (Same.refl H) rfl⟩
    rw [← boolsOf_some h3 h2]
    exact rd_mono (Fz.le _ _) h1
  · cases e
/-! isinstance(e, T), T a built-in type -/
def isT (T : String) (d : D) : Option Bool := match T with
  | "str" => some d.isStr
  | "int" => some d.isInt
  | "bool" => some d.isBool
  | "tuple" => some d.isTuple
  | "list" => some d.isList
  | "dict" => some d.isDict
  | _ => none
def eIsT (T : String) (ε : Se) : Se := fun s => (ε s).bind fun q => R.lift ((isT T q.1).map .bool) q.2
theorem isT_data {T : String} {s : Shared} {d : D} {v : Value} {as : List Addr} {b : Bool} {Q : Value → Shared → Prop} {A : Around} {E : Value → Shared → Prop} {P : Program} {w : World} (r : Reads s.heap v d as) (h : isT T d = some b) (q : ∀ tk, Q (.bool b) { s with toks := tk }) : wpAny (model P w) A (call (.builtin "isinstance") [v, .type T]) Q E s := by
  unfold isT at h
  split at h
  · cases h; exact PySem.W.isinstance_str_data r fun tk _ => q tk
  · cases h; exact PySem.W.isinstance_int_data r fun tk _ => q tk
  · cases h; exact PySem.W.isinstance_bool_data r fun tk _ => q tk
  · cases h; exact PySem.W.isinstance_tuple_data r fun tk _ => q tk
  · cases h; exact PySem.W.isinstance_list_data r fun tk _ => q tk
  · cases h; exact PySem.W.isinstance_dict_data r fun tk _ => q tk
  · cases h
theorem call_isT (T : String) : CallR X (.builtin "isinstance") (fun xs H Q => ∃ x d b, xs = [x, .ty T] ∧ Den X.K X.w H d x ∧ isT T d = some b ∧ Q (.bl b) H) := by
  intro pins s σ H xs us Q I rx ⟨x, d, b, h0, h1, h2, q⟩
  subst h0
  cases rx with
  | cons r1 r2 =>
    cases r2 with
    | cons r2 r3 =>
      cases r3
      cases r2
      obtain ⟨as, r1⟩ := Den.reads I d x _ h1 r1
      exact isT_data r1 h2 fun tk => ⟨.bl b, H, I.kept (h' := s.heap) (t' := tk) fun _ _ z => z, rfl, q⟩
theorem dx_isi {W : WX} {e : Expr} {p : Bool} {ε : Se} {T x : Str} {Ts : String} {p0 pT pos : Pos} (he : DX X W e p ε) (hm : X.mg "isinstance" = none) (hmT : X.mg T = none) (hvT : bootBuiltins T = some (.type Ts)) (hg : Gl X "isinstance" := by rfl) (hgT : Gl X T := by rfl) (hnT : T ≠ "__name__" := by decide) (hdT : (T == ("__debug__" : Str)) = false := by decide)
    (he1 : starEach [e, .Name T pT] X.env = (false, eval e X.env) :: starEach [.Name T pT] X.env := by rfl) (he2 : starEach [.Name T pT] X.env = (false, eval (.Name T pT) X.env) :: starEach [] X.env := by rfl) (hpl : (backTo pos (starEach [.Name T pT] X.env)).any (·.1) = false := by rfl) :
    DX X W (.Call (.Name "isinstance" p0) [e, .Name T pT] [] pos) (p && true) (eIsT Ts ε) := by
  obtain ⟨t, h, q⟩ := he
  refine ⟨_, pe_callB (call_isT Ts) hg hm (by decide +kernel) (pa_cons h (pa_cons (pe_bltn (v := .ty Ts) hgT hmT hvT rfl hnT hdT) pa_nil he2) he1) (by decide) (by decide) he1 hpl, fun C own σ H s Q R0 f => q C own σ H s _ R0 (f.bind fun z x H1 _ R1 d1 s1 f1 => ?_)⟩
  obtain ⟨d, e, f2⟩ := f1.lift
  obtain ⟨b, e1, e2⟩ := Option.map_eq_some_iff.mp e
  subst e2
  exact ⟨x, z.1, b, rfl, Den.mono (Fz.le _ _) _ _ d1, e1, f2.done R1 (Same.refl H1) rfl⟩
end
end DL
set_option maxRecDepth 100000
namespace DL
open PySem PySem.Spec PyProof.Rows L2

/-! ### sorted -/
section
variable {prog : Program} {w : World} {A : Around} {E : Value → Shared → Prop} {s : Shared}
open PySem.W in
/-- sorted of a list or a tuple whose items are alike data -/
theorem sorted_seq {β : Type} {enc : β → PyData} {l : Addr} {T : String} {o : Obj} {n : Nat} {vs : List Value} {bs : List β} {R : Value → β → Prop} {Q : Value → Shared → Prop} (hT : T = "list" ∨ T = "tuple") (ho : s.heap.get? l = some o) (hc : o.cls = .type T) (hd : o.data = .seq vs.toArray n)
    (e : EachIs R vs bs) (er : EachIs (fun v b => ∃ as, Reads s.heap v (enc b) as) vs bs) (hal : AllAlike (bs.map enc)) (hk : Sortable (bs.map enc)) (hL : bs.length ≤ sizeLine) (hu : ∀ b, b ∈ bs → A.units + 2 + (enc b).depth < cLine)
    (h : ∀ (out : List Value) (p : Addr) (h1 h' : Heap), (∀ b o, s.heap.get? b = some o → h1.get? b = some o) → h1.objs.size ≤ p → (∀ b o, h1.get? b = some o → h'.get? b = some o) → EachIs R out (bs.mergeSort (dataLe false enc)) → (∃ ep, h'.get? p = some (seqObj "list" out.toArray ep)) → Q (.ref p) { s with heap := h' }) :
    wpAny (model prog w) A (call (.builtin "sorted") [.ref l]) Q E s := by
  have hLv : vs.length ≤ sizeLine := by rw [e.length]; exact hL
  refine call_function_entry_kw kind_sorted plain_sorted entry_sorted (args_sorted1 _) ?_
  unfold Builtin.«sorted»
  refine wpAny_bind (m := checkCount "sorted" 1 1 _) (wpAny_pure ?_)
  refine wpAny_bind (wpAny_collect_seq l hT ho hc hd (fun h1 k1 => ?_) (by rw [List.size_toArray]; exact hLv))
  refine wpAny_bind (wpAny_newList ?_ hLv)
  have hat : (h1.push (seqObj "list" vs.toArray 0)).get? h1.objs.size = some (seqObj "list" vs.toArray 0) := Heap.get?_push_size _ rfl
  refine wpAny_bind (wpAny_holding (wpAny_call_entry_kw slot_list_sort ⟨_, hat, rfl⟩ entry_list_sort ?body (args_list_sort _)))
  have k2 : ∀ b o, s.heap.get? b = some o → (sortingHeap (h1.push (seqObj "list" vs.toArray 0)) h1.objs.size vs).get? b = some o := fun b o hb => by
    have hb1 := k1 b o hb
    have hlt := Heap.lt_size hb1
    rw [sortingHeap_old (Nat.ne_of_lt hlt) (Heap.get?_push_of_some _ hb1)]
  have er' : EachIs (fun v b => ∃ as, Reads (sortingHeap (h1.push (seqObj "list" vs.toArray 0)) h1.objs.size vs) v (enc b) as) vs bs := er.mono fun _ _ ⟨as, r⟩ => ⟨as, PyProof.Rows.Reads.keeps k2 r⟩
  have S := SortsAt.data (prog := prog) (w := w) (A := A.in1.in1) (s := { s with heap := sortingHeap (h1.push (seqObj "list" vs.toArray 0)) h1.objs.size vs }) (each_map (R := fun v d => ∃ as, Reads (sortingHeap (h1.push (seqObj "list" vs.toArray 0)) h1.objs.size vs) v d as) enc er') hal hk (bound_map hu)
  refine list_sort_vals (s := { s with heap := h1.push (seqObj "list" vs.toArray 0) }) hat S hLv ⟨_, rfl, wpAny_pure ⟨_, rfl, ?_⟩⟩
  refine h _ h1.objs.size h1 _ k1 (Nat.le_refl _) (fun b o hb1 => ?_) (sortVals_data false e er' hal) (sortedHeap_at hat)
  have hlt := Heap.lt_size hb1
  rw [sortedHeap_old (Nat.ne_of_lt hlt) (Heap.lt_size (Heap.get?_push_of_some _ hb1)), Heap.get?_push_of_some _ hb1]
end

/-- the data can be sorted -/
def sortable (ds : List D) : Bool := ds.all (fun d => ds.all fun e => PySem.W.alike d e) && (ds.all (fun d => match d with | .tuple (_ :: _) => true | _ => false) || ds.all (fun d => match d with | .none => false | .tuple _ => false | _ => true)) && ds.all (fun d => decide (d.depth ≤ 60)) && decide (ds.length ≤ 100000)
def sortD (ds : List D) : List D := ds.mergeSort (PySem.W.dataLe false id)
def sortedG : List D → Option D
  | [.list ds] => if sortable ds then some (.list (sortD ds)) else none
  | [.tuple ds] => if sortable ds then some (.list (sortD ds)) else none
  | _ => none
theorem sortable_of {ds : List D} (h : sortable ds = true) : PySem.W.AllAlike ds ∧ PySem.W.Sortable ds ∧ (∀ d, d ∈ ds → d.depth ≤ 60) ∧ ds.length ≤ 100000 := by
  unfold sortable at h
  obtain ⟨h, h4⟩ := Bool.and_eq_true_iff.mp h
  obtain ⟨h, h3⟩ := Bool.and_eq_true_iff.mp h
  obtain ⟨h1, h2⟩ := Bool.and_eq_true_iff.mp h
  refine ⟨fun d hd e he => List.all_eq_true.mp (List.all_eq_true.mp h1 d hd) e he, ?_, fun d hd => of_decide_eq_true (List.all_eq_true.mp h3 d hd), of_decide_eq_true h4⟩
  rcases Bool.or_eq_true_iff.mp h2 with h | h
  · refine .inl fun d hd => ?_
    have q := List.all_eq_true.mp h d hd
    cases d with
    | tuple xs => cases xs with
      | nil => cases q
      | cons x r => exact ⟨x, r, rfl⟩
    | _ => cases q
  · refine .inr fun d hd => ?_
    have q := List.all_eq_true.mp h d hd
    cases d with
    | none => cases q
    | tuple xs => cases q
    | _ => exact ⟨fun z => (nomatch z), fun xs z => (nomatch z)⟩
section
variable {X : Cx}
theorem zip_maps {ds : List D} {xs : List V} (hl : xs.length = ds.length) : (xs.zip ds).map (·.1) = xs ∧ (xs.zip ds).map (·.2) = ds := ⟨List.map_fst_zip (by omega), List.map_snd_zip (by omega)⟩
theorem each_vals {bs : List (V × D)} : ∀ {us : List Value}, Vals (bs.map (·.1)) us → PySem.W.EachIs (fun u (b : V × D) => RelV b.1 u) us bs := by
  induction bs with
  | nil => intro us h; cases h; exact .nil
  | cons b bs ih =>
    intro us h
    cases h with
    | cons h1 h2 => exact .cons h1 (ih h2)
theorem vals_each {bs : List (V × D)} {us : List Value} (h : PySem.W.EachIs (fun u (b : V × D) => RelV b.1 u) us bs) : Vals (bs.map (·.1)) us := by
  induction h with
  | nil => exact .nil
  | cons h1 _ ih => exact .cons h1 ih
theorem zip_mem {K : PySem.W.Frag} {w : World} {F : Hp} : ∀ {ds : List D} {xs : List V}, DenL K w F ds xs → ∀ b, b ∈ xs.zip ds → Den K w F b.2 b.1
  | [], _, h, b, hb => by cases (show _ = [] from h); cases hb
  | d :: ds, _, ⟨v, r, e, h1, h2⟩, b, hb => by
    subst e
    rcases List.mem_cons.mp hb with z | z
    · subst z; exact h1
    · exact zip_mem h2 b z
theorem denL_of {K : PySem.W.Frag} {w : World} {F : Hp} : ∀ {bs : List (V × D)}, (∀ b, b ∈ bs → Den K w F b.2 b.1) → DenL K w F (bs.map (·.2)) (bs.map (·.1))
  | [], _ => rfl
  | b :: bs, h => .cons (h b List.mem_cons_self) (denL_of fun c hc => h c (List.mem_cons_of_mem _ hc))
theorem call_sortedG (hu : X.A.units + 128 < cLine) : CallF X (.builtin "sorted") sortedG := by
  refine ⟨fun ys H Q => ∃ a ds xs, ys = [.ref a] ∧ (Rd H a (.lst xs) ∨ SqT X.K H a xs) ∧ DenL X.K X.w H ds xs ∧ sortable ds = true ∧ ∀ p, H p = none → Q (.ref p) (upd H p (.lst (((xs.zip ds).mergeSort (PySem.W.dataLe false (·.2))).map (·.1)))),
    fun pins s σ H ys us Q I rx ⟨a, ds, xs, h0, h1, h2, h3, q⟩ => ?_, fun O H ds d xs Q hk a e q => ?_⟩
  · subst h0
    obtain ⟨u, rfl, r1⟩ := vals1 rx
    cases r1
    obtain ⟨g1, g2, g3, g4⟩ := sortable_of h3
    have hl := h2.length
    obtain ⟨m1, m2⟩ := zip_maps hl
    have key : ∀ (T : String) (o : Obj) (n : Nat) (its : List Value), (T = "list" ∨ T = "tuple") → Vals xs its → s.heap.get? a = some o → o.cls = .type T → o.data = .seq its.toArray n → wpAny (model X.prog X.w) X.A (call (.builtin "sorted") [.ref a]) (EP X pins σ Q) X.xe s := by
      intro T o n its hT rv ho hc hd
      have ev : PySem.W.EachIs (fun u (b : V × D) => RelV b.1 u ∧ b ∈ xs.zip ds) its (xs.zip ds) := PySem.W.each_mem (each_vals (by rw [m1]; exact rv))
      refine sorted_seq (enc := fun b : V × D => b.2) (bs := xs.zip ds) (R := fun u (b : V × D) => RelV b.1 u) hT ho hc hd (ev.mono fun _ _ z => z.1) (ev.mono fun u b ⟨z1, z2⟩ => Den.reads I b.2 b.1 u (zip_mem h2 b z2) z1) (by rw [m2]; exact g1) (by rw [m2]; exact g2) ?_ (fun b hb => ?_) fun out p h1 h' k1 hp k2 eo ⟨ep, hep⟩ => ?_
      · rw [List.length_zip, hl, Nat.min_self]; exact sz100 g4
      · have : b.2 ∈ ds := by rw [← m2]; exact List.mem_map_of_mem (f := fun b : V × D => b.2) hb
        have := g3 _ this
        omega
      · have I1 := I.kept (h' := h1) (t' := s.toks) k1
        have hn : H p = none := I1.hok.fresh hp
        refine ⟨.ref p, _, I1.laid (t' := s.toks) (o := .lst (((xs.zip ds).mergeSort (PySem.W.dataLe false (·.2))).map (·.1))) k2 hp ⟨?_, out, ep, vals_each eo, hep⟩, rfl, q p hn⟩
        rw [List.length_map, List.length_mergeSort, List.length_zip, hl, Nat.min_self]
        exact sz100 g4
    rcases h1 with h1 | h1
    · obtain ⟨its, n, rv, ho⟩ := rd_obj I h1
      exact key "list" _ n its (.inl rfl) rv ho rfl rfl
    · obtain ⟨its, rv, ⟨o, ho, hc, n, hd⟩, _⟩ := I.tuple h1
      exact key "tuple" o n its (.inr rfl) rv ho hc hd
  · have fin : ∀ (as : List D) (ys : List V) (x : Addr), DenL X.K X.w (Fz O H) as ys → sortable as = true → d = .list (sortD as) → ∀ p, H p = none → Q (.ref p) (upd H p (.lst (((ys.zip as).mergeSort (PySem.W.dataLe false (·.2))).map (·.1)))) := by
      intro as ys x hd hs e p hp
      subst e
      refine q p _ _ hp (same_new hp) upd_same ⟨_, rfl, ?_⟩
      have hl := hd.length
      obtain ⟨m1, m2⟩ := zip_maps hl
      have e2 : ((ys.zip as).mergeSort (PySem.W.dataLe false (·.2))).map (·.2) = sortD as := by
        have t := PySem.W.sort_maps (r := PySem.W.dataLe false (fun b : V × D => b.2)) (s := PySem.W.dataLe false id) (fun b : V × D => b.2) (l := ys.zip as) (fun _ _ _ _ => rfl)
        rw [m2] at t
        exact t
      rw [← e2]
      exact denL_of fun b hb => zip_mem hd b (List.mem_mergeSort.mp hb)
    unfold sortedG at e
    split at e
    · next as =>
      obtain ⟨x, rfl, p, ys, rfl, h1, h2⟩ := den1 a
      obtain ⟨hs, e⟩ := ite_some e
      exact ⟨p, as, ys, rfl, .inl (rd_mono (Fz.le _ _) h1), DenL.mono (Fz.le _ _) _ _ h2, hs, fin as ys p h2 hs e.symm⟩
    · next as =>
      obtain ⟨x, rfl, p, ys, rfl, h1, h2⟩ := den1 a
      obtain ⟨hs, e⟩ := ite_some e
      exact ⟨p, as, ys, rfl, .inr (sqt_mono (Fz.le _ _) h1.seq), DenL.mono (Fz.le _ _) _ _ h2, hs, fin as ys p h2 hs e.symm⟩
    · cases e

/-! ### subscripts, slices -/
def ixG (d e : D) : Option D := match d, e with
  | .list ds, .int i => atI ds i
  | .tuple ds, .int i => atI ds i
  | .str x, .int i => if x.length ≤ 100000 then (atI x.cps.toList i).map fun c => .str ⟨#[c]⟩ else none
  | _, _ => none
theorem atI_den {K : PySem.W.Frag} {w : World} {F : Hp} {ds : List D} {xs : List V} {i : Int} {d : D} (h : DenL K w F ds xs) (e : atI ds i = some d) : ∃ v, atI xs i = some v ∧ Den K w F d v := by
  unfold atI at e ⊢
  rw [h.length]
  cases hn : ixN ds.length i with
  | none => rw [hn] at e; cases e
  | some j =>
    rw [hn] at e
    exact h.get e
theorem dx_ix {W : WX} {a b : Expr} {pa pb : Bool} {εa εb : Se} {pos : Pos} (ha : DX X W a pa εa) (hb : DX X W b pb εb) (hs : PlainIx b := by exact fun _ _ => rfl) : DX X W (.Subscript a b pos) (pa && (pb && true)) (eOp ixG εa εb) := by
  obtain ⟨ta, ha, qa⟩ := ha
  obtain ⟨tb, hb, qb⟩ := hb
  refine ⟨_, pe_ix ix_seq ha hb hs, fun C own σ H s Q R0 f => qa C own σ H s _ R0 (f.bind fun z x H1 _ R1 d1 s1 f1 => qb C own σ H1 z.2 _ R1 (f1.bind fun y v H2 _ R2 d2 s2 f2 => ?_))⟩
  obtain ⟨d, e, f3⟩ := f2.lift
  have key : ∀ a1 b1 : D, Den X.K X.w (Fz (own ++ C.B) H2) a1 x → Den X.K X.w (Fz (own ++ C.B) H2) b1 v → ixG a1 b1 = some d → rIx X.K x v H2 Q := by
    intro a1 b1
    unfold ixG
    split
    · next ds i =>
      intro ⟨p, xs, e1, h1, h2⟩ d2 e
      obtain ⟨u, g1, g2⟩ := atI_den h2 e
      exact .inl ⟨p, xs, i, u, e1, d2, .inl (rd_mono (Fz.le _ _) h1), g1, f3.done R2 (Same.refl H2) g2⟩
    · next ds i =>
      intro ⟨p, xs, e1, h1, h2⟩ d2 e
      obtain ⟨u, g1, g2⟩ := atI_den h2 e
      exact .inr (.inl ⟨p, xs, i, u, e1, d2, sqt_mono (Fz.le _ _) h1.seq, g1, f3.done R2 (Same.refl H2) g2⟩)
    · next t i =>
      intro d1 d2 e
      by_cases hl : t.length ≤ 100000
      · rw [if_pos hl] at e
        obtain ⟨c, g1, g2⟩ := Option.map_eq_some_iff.mp e
        subst g2
        exact .inr (.inr ⟨t, i, c, d1, d2, sz100 hl, g1, f3.done R2 (Same.refl H2) rfl⟩)
      · rw [if_neg hl] at e; cases e
    · intro _ _ e; cases e
  exact key _ _ (Den.mono s2 _ _ d1) d2 e
/-- a part of a slice -/
structure DO (X : Cx) (W : WX) (e : Option Expr) (p : Bool) (ο : Sv → R (Option Int × Sv)) : Prop where
  ex : ∃ t : TO, PO X e t ∧ ∀ C own σ H s Q, Rep X C own σ H s → Fin (fun _ (a b : Option Int) => b = a) X W p C own σ H s (ο s) Q → t σ H Q
def oNo : Sv → R (Option Int × Sv) := fun s => .ok (none, s)
def oInt (ε : Se) : Sv → R (Option Int × Sv) := fun s => (ε s).bind fun q => match q.1 with
  | .int i => .ok (some i, q.2)
  | _ => .bad
theorem do_no {W : WX} : DO X W none true oNo := ⟨_, po_none, fun C own σ H s Q r f => Fin.done f r (Same.refl H) rfl⟩
theorem do_int {W : WX} {e : Expr} {p : Bool} {ε : Se} (h : DX X W e p ε) : DO X W (some e) (p && true) (oInt ε) := by
  obtain ⟨t, h, q⟩ := h
  refine ⟨_, po_some h, fun C own σ H s Q r f => q C own σ H s _ r (f.bind fun z x H1 _ R1 d1 s1 f1 => ?_)⟩
  revert f1 d1
  cases z.1 with
  | int i => exact fun d1 f1 => ⟨i, d1, Fin.done f1 R1 (Same.refl H1) rfl⟩
  | _ => exact fun _ f1 => f1.elim
def cutD (xs : List D) (lo hi : Option Int) : List D := (xs.drop (HT.sIx xs.length 0 lo)).take (HT.sIx xs.length xs.length hi - HT.sIx xs.length 0 lo)
theorem cut_den {K : PySem.W.Frag} {w : World} {F : Hp} {ds : List D} {xs : List V} {lo hi : Option Int} (h : DenL K w F ds xs) : DenL K w F (cutD ds lo hi) (cutV xs lo hi) := by
  unfold cutD cutV
  rw [h.length]
  exact (h.drop _).take _
def slG (d : D) (lo hi : Option Int) : Option D := match d with
  | .list ds => some (.list (cutD ds lo hi))
  | .tuple ds => some (.tuple (cutD ds lo hi))
  | .str x => if x.length ≤ 100000 then some (.str (cutS x lo hi)) else none
  | _ => none
def rSlN (K : PySem.W.Frag) : V → Option Int → Option Int → Hp → VK → Prop := fun x lo hi H Q => ∃ a xs, x = .ref a ∧ SqT K H a xs ∧
  (HT.sIx xs.length 0 lo = 0 ∧ HT.sIx xs.length xs.length hi = xs.length → Q (.ref a) H) ∧ (¬ (HT.sIx xs.length 0 lo = 0 ∧ HT.sIx xs.length xs.length hi = xs.length) → NewT H (cutV xs lo hi) Q)
theorem sl_tupN : SlR X (rSlN X.K) := by
  intro pins s σ H x v vl vu lo hi sl Q I rx hs pl pu h
  obtain ⟨a, xs, rfl, hx, q1, q2⟩ := h
  cases rx
  obtain ⟨its, r, ht, hz⟩ := I.tuple hx
  have hlen : its.toArray.size = xs.length := by rw [List.size_toArray]; exact r.length.symm
  refine ⟨"tuple", _, PyProof.Rows.slot_tuple_getitem.lookup, ht.typeIs, ?_⟩
  by_cases hw : HT.sIx xs.length 0 lo = 0 ∧ HT.sIx xs.length xs.length hi = xs.length
  · exact getItem_tuple_whole ht hs pl pu (by rw [hlen]; exact hw) ⟨.ref a, H, I, rfl, q1 hw⟩
  · refine HT.getItem_tuple_cut ht hs pl pu (by rw [hlen]; exact hw) ?_ (by rw [hlen]; exact hz)
    rw [hlen]
    exact Inv.ltup I ((r.drop (HT.sIx xs.length 0 lo)).take (HT.sIx xs.length xs.length hi - HT.sIx xs.length 0 lo)) (Nat.le_trans (cutV_length xs lo hi) hz) (q2 hw)
def eSl (ε : Se) (ο ο' : Sv → R (Option Int × Sv)) : Se := fun s => (ε s).bind fun q => (ο q.2).bind fun l => (ο' l.2).bind fun u => R.lift (slG q.1 l.1 u.1) u.2
theorem dx_sl {W : WX} {a : Expr} {lo hi : Option Expr} {pa pl ph : Bool} {εa : Se} {ο ο' : Sv → R (Option Int × Sv)} {pos p2 : Pos} (ha : DX X W a pa εa) (hl : DO X W lo pl ο) (hh : DO X W hi ph ο') : DX X W (.Subscript a (.Slice lo hi none p2) pos) (pa && (pl && (ph && true))) (eSl εa ο ο') := by
  obtain ⟨ta, ha, qa⟩ := ha
  obtain ⟨tl, hl, ql⟩ := hl
  obtain ⟨th, hh, qh⟩ := hh
  refine ⟨_, pe_slice (sl_list.or (sl_tupN.or sl_str)) ha hl hh, fun C own σ H s Q R0 f => qa C own σ H s _ R0 (f.bind fun z x H1 _ R1 d1 s1 f1 => ql C own σ H1 z.2 _ R1 (f1.bind fun l lv H2 _ R2 d2 s2 f2 => qh C own σ H2 l.2 _ R2 (f2.bind fun u uv H3 _ R3 d3 s3 f3 => ?_)))⟩
  have d2 : lv = l.1 := d2
  have d3 : uv = u.1 := d3
  subst d2 d3
  obtain ⟨d, e, f4⟩ := f3.lift
  have d1 := Den.mono (s2.trans s3) _ _ d1
  revert e d1
  generalize z.1 = a1
  unfold slG
  split
  · next ds =>
    intro e ⟨p, xs, e1, h1, h2⟩
    cases e
    refine .inl ⟨p, xs, e1, .inl (rd_mono (Fz.le _ _) h1), fun q hq => f4.done R3 (same_new hq) ⟨q, _, rfl, .inl ?_, DenL.mono (Fz.same (same_new hq)) _ _ (cut_den h2)⟩⟩
    rw [Fz.out (R3.new hq)]; exact upd_same
  · next ds =>
    intro e ⟨p, xs, e1, h1, h2⟩
    cases e
    have hlen := h2.length
    refine .inr (.inl ⟨p, xs, e1, sqt_mono (Fz.le _ _) h1.seq, fun hw => ?_, fun hw q o hq ho => f4.done R3 (same_new hq) ⟨q, _, rfl, sqn_new ?_ ho, DenL.mono (Fz.same (same_new hq)) _ _ (cut_den h2)⟩⟩)
    · have e2 : cutD ds l.1 u.1 = ds := by
        unfold cutD
        rw [← hlen, hw.1, hw.2, List.drop_zero, Nat.sub_zero, hlen, List.take_length]
      rw [e2] at f4
      exact f4.done R3 (Same.refl H3) ⟨p, xs, rfl, h1, h2⟩
    · rw [Fz.out (R3.new hq)]; exact upd_same
  · next t =>
    intro e d1
    by_cases hl : t.length ≤ 100000
    · rw [if_pos hl] at e
      cases e
      exact .inr (.inr ⟨t, d1, sz100 hl, f4.done R3 (Same.refl H3) rfl⟩)
    · rw [if_neg hl] at e; cases e
  · intro e; cases e
/-! ### what is walked -/
def seqOf : D → Option (List D)
  | .list ds => some ds
  | .tuple ds => some ds
  | .str x => some (x.cps.toList.map fun c => .str ⟨#[c]⟩)
  | _ => none
def iSeq (ε : Se) : Sv → R (List D × Sv) := fun s => (ε s).bind fun q => R.lift (seqOf q.1) q.2
theorem di_seq {W : WX} {tg e : Expr} {p : Bool} {ε : Se} (h : DX X W e p ε) : DI X W tg e (p && true) (iSeq ε) := by
  obtain ⟨t, h, q⟩ := h
  refine ⟨_, PI.or (pi_list h) (PI.or (pi_tup h) (pi_str h)), fun C own σ H s Q R0 f => ?_⟩
  have key : ∀ (ds : List D) (d : D) (s' : Sv), ε s = .ok (d, s') → seqOf d = some ds → ∀ J H' v, (p = true → Same H H' ∧ s' = s) → Same (Fz (own ++ C.B) H) (Fz (own ++ C.B) H') → Rep X C own σ H' s' → ItOk X (Fz (own ++ C.B) H') ds J → Den X.K X.w (Fz (own ++ C.B) H') d v → Q J H' := by
    intro ds d s' h1 h2 J H' v hp hs hr hi _
    unfold iSeq at f
    rw [h1, R.ok_bind] at f
    have f : Fin (ItOk X) X W (p && true) C own σ H s (R.lift (seqOf d) s') Q := f
    rw [h2] at f
    exact f J H' (fun hh => hp (Bool.and_eq_true_iff.mp hh).1) hs hr hi
  have keyE : ∀ c x s', ε s = .exn c x s' → Fin (ItOk X) X W (p && true) C own σ H s (R.exn c x s') Q := by
    intro c x s' h1
    unfold iSeq at f
    rw [h1] at f
    exact f
  have keyB : ε s ≠ .bad := fun h1 => by
    unfold iSeq at f
    rw [h1] at f
    exact f
  have keyN : ∀ d s', ε s = .ok (d, s') → seqOf d ≠ none := fun d s' h1 h2 => by
    unfold iSeq at f
    rw [h1, R.ok_bind] at f
    have f : Fin (ItOk X) X W (p && true) C own σ H s (R.lift (seqOf d) s') Q := f
    rw [h2] at f
    exact f
  cases hz : ε s with
  | bad => exact absurd hz keyB
  | exn c x s' =>
    refine .inl (q C own σ H s _ R0 ?_)
    rw [hz]
    exact keyE c x s' hz
  | ok z =>
    obtain ⟨d, s'⟩ := z
    cases d with
    | list ds =>
      refine .inl (q C own σ H s _ R0 ?_)
      rw [hz]
      intro v H' hp hs hr hd
      have hd0 := hd
      obtain ⟨a, xs, e1, h1, h2⟩ := hd
      refine ⟨a, e1, ⟨xs, .inl (rd_mono (Fz.le _ _) h1)⟩, key ds _ _ hz rfl _ _ v hp hs hr (fun i O H2 hk hF => ⟨fun hi => ?_, fun hi => ?_⟩) hd0⟩
      · have hS : SqL X.K H2 a xs := .inl (rd_mono (hF.trans (Fz.le _ _)) h1)
        have hx : xs[i]? = some (xs[i]'(by rw [h2.length]; exact hi)) := List.getElem?_eq_getElem _
        refine ⟨⟨xs, _, hS, hx⟩, fun x H3 ⟨e3, h3⟩ => ?_⟩
        obtain ⟨d, g1, g2⟩ := h2.get' (h3 xs hS)
        subst e3
        exact ⟨Same.refl _, d, g1, Den.mono hF _ _ g2⟩
      · exact ⟨xs, .inl (rd_mono (hF.trans (Fz.le _ _)) h1), by rw [h2.length]; exact hi⟩
    | tuple ds =>
      refine .inr (.inl (q C own σ H s _ R0 ?_))
      rw [hz]
      intro v H' hp hs hr hd
      have hd0 := hd
      obtain ⟨a, xs, e1, h1, h2⟩ := hd
      refine ⟨a, e1, ⟨xs, sqt_mono (Fz.le _ _) h1.seq⟩, key ds _ _ hz rfl _ _ v hp hs hr (fun i O H2 hk hF => ⟨fun hi => ?_, fun hi => ?_⟩) hd0⟩
      · have hS : SqT X.K H2 a xs := sqt_mono (hF.trans (Fz.le _ _)) h1.seq
        have hx : xs[i]? = some (xs[i]'(by rw [h2.length]; exact hi)) := List.getElem?_eq_getElem _
        refine ⟨⟨xs, _, hS, hx⟩, fun x H3 ⟨e3, h3⟩ => ?_⟩
        obtain ⟨d, g1, g2⟩ := h2.get' (h3 xs hS)
        subst e3
        exact ⟨Same.refl _, d, g1, Den.mono hF _ _ g2⟩
      · exact ⟨xs, sqt_mono (hF.trans (Fz.le _ _)) h1.seq, by rw [h2.length]; exact hi⟩
    | str t =>
      refine .inr (.inr (q C own σ H s _ R0 ?_))
      rw [hz]
      intro v H' hp hs hr hd
      have hd0 := hd
      refine ⟨t, hd, key _ _ _ hz rfl _ _ v hp hs hr (fun i O H2 hk hF => ⟨fun hi => ?_, fun hi => ?_⟩) hd0⟩
      · rw [List.length_map] at hi
        refine ⟨(by show i < t.cps.size; simpa using hi), fun x H3 ⟨e3, c, h3, h4⟩ => ?_⟩
        subst e3
        exact ⟨Same.refl _, .str ⟨#[c]⟩, by rw [List.getElem?_map, Array.getElem?_toList, h3]; rfl, h4⟩
      · rw [List.length_map] at hi
        show t.cps.size ≤ i
        simpa using hi
    | _ => exact absurd rfl (keyN _ _ hz)
def rangeD (lo hi : Int) : List D := (List.range (hi - lo).toNat).map fun i => .int (lo + (i : Nat))
def smallI (i : Int) : Bool := decide (-(2 ^ 62) ≤ i ∧ i < 2 ^ 62)
def rngG : List D → Option (List D)
  | [.int j] => if smallI j then some (rangeD 0 j) else none
  | [.int i, .int j] => if smallI i && smallI j then some (rangeD i j) else none
  | _ => none
def iRng (α : Sv → R (List D × Sv)) : Sv → R (List D × Sv) := fun s => (α s).bind fun q => R.lift (rngG q.1) q.2
theorem it_range {F : Hp} {lo : Int} {n : Nat} : ItOk X F ((List.range n).map fun i => .int (lo + (i : Nat))) (Itr lo n) := fun i O H hk hF => ⟨fun hi => by
  rw [List.length_map, List.length_range] at hi
  refine ⟨hi, fun x H' ⟨e1, e2⟩ => ?_⟩
  subst e1
  exact ⟨Same.refl _, .int (lo + (i : Nat)), by rw [List.getElem?_map, List.getElem?_range hi]; rfl, e2⟩, fun hi => by
  rw [List.length_map, List.length_range] at hi
  exact hi⟩
theorem smallI_of {i : Int} (h : smallI i = true) : -(2 ^ 62) ≤ i ∧ i < 2 ^ 62 := of_decide_eq_true h
theorem di_range1 {W : WX} {tg a : Expr} {p : Bool} {α : Sv → R (List D × Sv)} {p0 pos : Pos} (hm : X.mg "range" = none) (h : DA X W [a] p α) (hg : Gl X "range" := by rfl) (hs : starEach [a] X.env = [(false, eval a X.env)] := by rfl) (hl : ∀ s z, α s = .ok z → z.1.length = 1) : DI X W tg (.Call (.Name "range" p0) [a] [] pos) (p && true) (iRng α) := by
  obtain ⟨t, h, q⟩ := h
  refine ⟨_, pi_range1 hg hm h hs, fun C own σ H s Q R0 f => q C own σ H s _ R0 (f.bind fun z xs H1 hz R1 d1 s1 f1 => ?_)⟩
  obtain ⟨ds, e, f2⟩ := f1.lift
  have hl1 := hl s z hz
  revert d1 e
  show DenL X.K X.w _ z.1 xs → rngG z.1 = some ds → _
  match z.1, hl1 with
  | [d], _ =>
    intro d1 e
    obtain ⟨x, rfl, dx⟩ := den1 d1
    cases d with
    | int j =>
      obtain ⟨hs, e⟩ := ite_some e
      obtain ⟨h1, h2⟩ := smallI_of hs
      subst e
      refine ⟨j, by rw [show x = .int j from dx], h1, h2, f2.done R1 (Same.refl H1) ?_⟩
      have := it_range (X := X) (F := Fz (own ++ C.B) H1) (lo := 0) (n := j.toNat)
      unfold rangeD
      rw [Int.sub_zero]
      exact this
    | _ => cases e
theorem di_range2 {W : WX} {tg a b : Expr} {p : Bool} {α : Sv → R (List D × Sv)} {p0 pos : Pos} (hm : X.mg "range" = none) (h : DA X W [a, b] p α) (hl : ∀ s z, α s = .ok z → z.1.length = 2) (hg : Gl X "range" := by rfl) (hs : starEach [a, b] X.env = [(false, eval a X.env), (false, eval b X.env)] := by rfl) (hs2 : starEach [b] X.env = [(false, eval b X.env)] := by rfl) : DI X W tg (.Call (.Name "range" p0) [a, b] [] pos) (p && true) (iRng α) := by
  obtain ⟨t, h, q⟩ := h
  refine ⟨_, pi_range2 hg hm h hs hs2, fun C own σ H s Q R0 f => q C own σ H s _ R0 (f.bind fun z xs H1 hz R1 d1 s1 f1 => ?_)⟩
  obtain ⟨ds, e, f2⟩ := f1.lift
  have hl1 := hl s z hz
  revert d1 e
  show DenL X.K X.w _ z.1 xs → rngG z.1 = some ds → _
  match z.1, hl1 with
  | [d, d'], _ =>
    intro d1 e
    obtain ⟨x, r, rfl, d1, d2⟩ := d1
    obtain ⟨y, rfl, dy⟩ := den1 d2
    cases d with
    | int i => cases d' with
      | int j =>
        obtain ⟨hs, e⟩ := ite_some e
        obtain ⟨ha, hb⟩ := Bool.and_eq_true_iff.mp hs
        obtain ⟨h1, h2⟩ := smallI_of ha
        obtain ⟨h3, h4⟩ := smallI_of hb
        subst e
        refine ⟨i, j, by rw [show x = .int i from d1, show y = .int j from dy], ⟨h1, h2, h3, h4⟩, f2.done R1 (Same.refl H1) ?_⟩
        exact it_range (X := X) (F := Fz (own ++ C.B) H1) (lo := i) (n := (j - i).toNat)
      | _ => cases e
    | _ => cases e
end
end DL
set_option maxRecDepth 100000
namespace DL
open PySem PySem.Spec PyProof.Rows L2

/-! ### methods of a built-in type's thing -/
def tyG (X : Cx) (T : String) (x : V) (H : Hp) : Prop := ∀ (pins : List (Addr × Obj)) (σ : L2.St) (s : Shared) (v : Value), Inv X pins σ H s → RelV x v → s.TypeIs v T ∧ ∀ a, v = .ref a → ∃ ob, s.heap.get? a = some ob ∧ ob.dict = none
def tyN : D → String
  | .none => "NoneType"
  | .bool _ => "bool"
  | .int _ => "int"
  | .str _ => "str"
  | .tuple _ => "tuple"
  | .list _ => "list"
  | .dict _ => "dict"
section
variable {X : Cx}
theorem tyG_lst {H : Hp} {a : Addr} {xs : List V} (h : Rd H a (.lst xs)) : tyG X "list" (.ref a) H := fun pins σ s v I r => tyV_is I r (show tyV X.K "list" (.ref a) H from .inl ⟨rfl, xs, .inl h⟩)
theorem dc_ty {pins : List (Addr × Obj)} {σ : L2.St} {H : Hp} {s : Shared} {a : Addr} {es : List Ent} (I : Inv X pins σ H s) (h : Rd H a (dcO a es)) : DcOk a es s.heap := by
  rcases h with h | ⟨o, h⟩
  · exact (I.hok a _ h).1
  · exact (I.hok a _ h).2.1
theorem tyG_dc {H : Hp} {a : Addr} {es : List Ent} (h : Rd H a (dcO a es)) : tyG X "dict" (.ref a) H := fun pins σ s v I r => by
  cases r
  obtain ⟨_, _, o, xs, ep, ho, hx, _⟩ := dc_ty I h
  refine ⟨⟨o, ho, hx.1⟩, fun b e => ?_⟩
  cases e
  exact ⟨o, ho, hx.2.1⟩
theorem tyG_tup {H : Hp} {a : Addr} {xs : List V} (h : SqN X.K H a xs) : tyG X "tuple" (.ref a) H := fun pins σ s v I r => by
  cases r
  rcases h with ⟨o, h, hn⟩ | ⟨o, its, n, h1, h2, h3, _⟩
  · obtain ⟨ho, _, its, _, ⟨o', ho', hc, _⟩⟩ := I.hok a _ h
    rw [ho] at ho'
    cases ho'
    exact ⟨⟨o, ho, hc⟩, fun b e => by cases e; exact ⟨o, ho, hn⟩⟩
  · exact ⟨⟨o, I.kIn a o h1, h2⟩, fun b e => by cases e; exact ⟨o, I.kIn _ o h1, h3⟩⟩
theorem tyG_den {O : List Addr} {H : Hp} : ∀ {d : D} {v : V}, Den X.K X.w (Fz O H) d v → (∀ b, d ≠ .bool b) → d ≠ .none → tyG X (tyN d) v H
  | .none, _, _, _, hn => absurd rfl hn
  | .bool b, _, _, hb, _ => absurd rfl (hb b)
  | .int i, v, h, _, _ => by cases (show v = .int i from h); exact fun pins σ s v I r => tyV_is I r (show tyV X.K "int" (.int i) H from rfl)
  | .str i, v, h, _, _ => by cases (show v = .str i from h); exact fun pins σ s v I r => tyV_is I r (show tyV X.K "str" (.str i) H from rfl)
  | .tuple ds, v, ⟨a, vs, e, h, _⟩, _, _ => by subst e; exact tyG_tup (sqn_mono (Fz.le _ _) h)
  | .list ds, v, ⟨a, vs, e, h, _⟩, _, _ => by subst e; exact tyG_lst (rd_mono (Fz.le _ _) h)
  | .dict kvs, v, ⟨a, o, es, e, h, _⟩, _, _ => by subst e; exact tyG_dc (.inr ⟨o, Fz.le _ _ _ _ h⟩)
theorem tyG_cont {F H : Hp} {a : Addr} {u : HO} (hu : H a = some u) : ∀ {d : D}, Cont X.K X.w F a u d → tyG X (tyN d) (.ref a) H
  | .list ds, ⟨vs, e, _⟩ => tyG_lst (.inl (e ▸ hu))
  | .dict kvs, ⟨es, e, _⟩ => tyG_dc (.inl (e ▸ hu))

def tBMG (X : Cx) (T : String) (r : V → List V → Hp → VK → Prop) (to : TE) (t : TA) : TE := fun σ H Q => to σ H fun x H1 => tyG X T x H1 ∧ t σ H1 fun xs H2 => r x xs H2 Q
def tBMG0 (X : Cx) (T : String) (r : V → List V → Hp → VK → Prop) (to : TE) : TE := fun σ H Q => to σ H fun x H1 => tyG X T x H1 ∧ r x [] H1 Q
section
variable {o e : Expr} {es : List Expr} {to : TE} {t : TA} {name : Str} {apos cpos : Pos} {T id : String} {r : V → List V → Hp → VK → Prop}
theorem pe_bmG0 (pa : PlainAttrs T) (slot : Slot T name id) (hty : typeOf (.builtin id) = pure (.type "method_descriptor")) (hm : MtR X id r) (ho : PE X o to)
    (hbase : attributeBase o name X.env (eval o X.env) = eval o X.env := by rfl) (hline : (apos.endLine == cpos.line) = true := by rfl) : PE X (.Call (.Attribute o name apos) [] [] cpos) (tBMG0 X T r to) := by
  refine ⟨fun pins s σ H Q I h => ?_⟩
  refine wpAny_Call_method0_late hbase hline (thn (ho.run pins s σ H _ I h) fun v s1 ⟨x, H1, I1, r1, ty, q1⟩ => ?_)
  obtain ⟨h1, h2⟩ := ty _ _ _ _ I1 r1
  exact ⟨T, id, pa, slot, hty, h1, h2, Calls.callWith_builtin rfl (PySem.evalArgs_none (hm pins s1 σ H1 x [] v [] Q I1 r1 .nil q1))⟩
theorem pe_bmG (pa : PlainAttrs T) (slot : Slot T name id) (hty : typeOf (.builtin id) = pure (.type "method_descriptor")) (hm : MtR X id r) (ho : PE X o to) (ha : PA X (e :: es) t)
    (hbase : attributeBase o name X.env (eval o X.env) = eval o X.env := by rfl)
    (hfew : ((backTo cpos (starEach (e :: es) X.env)).all (fun x => !x.1) && (backToKw cpos (keywordEach [] X.env)).all (fun x => x.1.isSome)
      && decide ((e :: es).length + ([] : List Keyword).length + (if ([] : List Keyword).isEmpty then 0 else 1) < 30)) = true := by rfl)
    (hline : (apos.endLine == cpos.line) = true := by rfl) (hs : starEach (e :: es) X.env = (false, eval e X.env) :: starEach es X.env := by rfl) (hplain : (backTo cpos (starEach es X.env)).any (·.1) = false := by rfl) :
    PE X (.Call (.Attribute o name apos) (e :: es) [] cpos) (tBMG X T r to t) := by
  refine ⟨fun pins s σ H Q I h => ?_⟩
  refine wpAny_Call_method_late hbase hfew hline rfl (thn (ho.run pins s σ H _ I h) fun v s1 ⟨x, H1, I1, r1, ty, q1⟩ => ?_)
  obtain ⟨h1, h2⟩ := ty _ _ _ _ I1 r1
  refine ⟨T, id, pa, slot, hty, h1, h2, ?_⟩
  have hA := ha.run cpos pins s1 σ H1 _ I1 q1
  rw [hs] at hA ⊢
  refine Calls.callWith_builtin (by show (false || (backTo cpos (starEach es X.env)).any (·.1)) = false; rw [hplain] <;> rfl) (Calls.evalArgs_plain ?_)
  exact thn hA fun us s2 ⟨vs, H2, I2, r2, q2⟩ => hm pins s2 σ H2 x vs v us Q I2 r1 r2 q2
end

/-- a method that reads -/
def MethD (X : Cx) (id T : String) (g : D → List D → Option D) : Prop := ∃ r, MtR X id r ∧ ∀ (O : List Addr) (H : Hp) (d0 : D) (ds : List D) (d : D) (v : V) (vs : List V) (Q : VK), Known O H → Den X.K X.w (Fz O H) d0 v → DenL X.K X.w (Fz O H) ds vs → g d0 ds = some d →
  (∀ v' H', Same H H' → Den X.K X.w (Fz O H') d v' → Q v' H') → r v vs H Q
/-- a method that changes its thing -/
def MethI (X : Cx) (id T : String) (g : D → List D → Option (D × D)) : Prop := ∃ r, MtR X id r ∧ ∀ (O : List Addr) (H : Hp) (a : Addr) (u : HO) (d0 : D) (ds : List D) (d d' : D) (vs : List V) (Q : VK), Known O H → a ∈ O → H a = some u → Cont X.K X.w (Fz O H) a u d0 → DenL X.K X.w (Fz O H) ds vs →
  g d0 ds = some (d, d') → (∀ v' u', Cont X.K X.w (Fz O H) a u' d' → Den X.K X.w (Fz O H) d v' → Q v' (upd H a u')) → r (.ref a) vs H Q
def eMeth (T : String) (g : D → List D → Option D) (ε : Se) (α : Sv → R (List D × Sv)) : Se := fun s => (ε s).bind fun q => if tyN q.1 = T then (α q.2).bind fun z => R.lift (g q.1 z.1) z.2 else .bad
def eMethI (T : String) (i : Nat) (g : D → List D → Option (D × D)) (α : Sv → R (List D × Sv)) : Se := fun s => R.opt (ownAt s i) fun d => if tyN d = T then (α s).bind fun z => R.opt (ownAt z.2 i) fun d0 => R.opt (g d0 z.1) fun y => .ok (y.1, setOwn z.2 i y.2) else .bad
section
variable {W : WX} {e a : Expr} {es : List Expr} {name : Str} {apos cpos : Pos} {T id : String} {pa pb : Bool} {εa : Se} {α : Sv → R (List D × Sv)}
theorem fin_if {α β : Type} {ρ : Hp → α → β → Prop} {p : Bool} {C : Cn} {own : List Addr} {σ : L2.St} {H : Hp} {s : Sv} {c : Prop} [Decidable c] {k : R (α × Sv)} {Q : β → Hp → Prop} (f : Fin ρ X W p C own σ H s (if c then k else .bad) Q) : c ∧ Fin ρ X W p C own σ H s k Q := by
  by_cases h : c
  · rw [if_pos h] at f; exact ⟨h, f⟩
  · rw [if_neg h] at f; exact f.elim
theorem tyN_ok {d : D} {T : String} (h : tyN d = T) (h1 : T ≠ "bool") (h2 : T ≠ "NoneType") : (∀ b, d ≠ .bool b) ∧ d ≠ .none :=
  ⟨fun b e => h1 (by rw [← h, e]; rfl), fun e => h2 (by rw [← h, e]; rfl)⟩
theorem dx_meth {g : D → List D → Option D} (hm : MethD X id T g) (pat : PlainAttrs T) (slot : Slot T name id) (hty : typeOf (.builtin id) = pure (.type "method_descriptor")) (ha : DX X W a pa εa) (hb : DA X W (e :: es) pb α)
    (hT1 : T ≠ "bool" := by decide) (hT2 : T ≠ "NoneType" := by decide)
    (hbase : attributeBase a name X.env (eval a X.env) = eval a X.env := by rfl)
    (hfew : ((backTo cpos (starEach (e :: es) X.env)).all (fun x => !x.1) && (backToKw cpos (keywordEach [] X.env)).all (fun x => x.1.isSome)
      && decide ((e :: es).length + ([] : List Keyword).length + (if ([] : List Keyword).isEmpty then 0 else 1) < 30)) = true := by rfl)
    (hline : (apos.endLine == cpos.line) = true := by rfl) (hs : starEach (e :: es) X.env = (false, eval e X.env) :: starEach es X.env := by rfl) (hplain : (backTo cpos (starEach es X.env)).any (·.1) = false := by rfl) :
    DX X W (.Call (.Attribute a name apos) (e :: es) [] cpos) (pa && (pb && true)) (eMeth T g εa α) := by
  obtain ⟨r, hr, hm⟩ := hm
  obtain ⟨ta, ha, qa⟩ := ha
  obtain ⟨tb, hb, qb⟩ := hb
  refine ⟨_, pe_bmG pat slot hty hr ha hb hbase hfew hline hs hplain, fun C own σ H s Q R0 f => qa C own σ H s _ R0 (f.bind fun z x H1 _ R1 d1 s1 f1 => ?_)⟩
  obtain ⟨hT, f1⟩ := fin_if f1
  obtain ⟨n1, n2⟩ := tyN_ok hT hT1 hT2
  refine ⟨hT ▸ tyG_den d1 n1 n2, qb C own σ H1 z.2 _ R1 (f1.bind fun y v H2 _ R2 d2 s2 f2 => ?_)⟩
  obtain ⟨d, e, f3⟩ := f2.lift
  exact hm _ H2 _ _ _ _ _ _ R2.kn (Den.mono s2 _ _ d1) d2 e fun v H' e h => f3.done R2 e h
theorem dx_meth0 {g : D → List D → Option D} (hm : MethD X id T g) (pat : PlainAttrs T) (slot : Slot T name id) (hty : typeOf (.builtin id) = pure (.type "method_descriptor")) (ha : DX X W a pa εa)
    (hT1 : T ≠ "bool" := by decide) (hT2 : T ≠ "NoneType" := by decide)
    (hbase : attributeBase a name X.env (eval a X.env) = eval a X.env := by rfl) (hline : (apos.endLine == cpos.line) = true := by rfl) :
    DX X W (.Call (.Attribute a name apos) [] [] cpos) (pa && true) (eMeth T g εa aNil) := by
  obtain ⟨r, hr, hm⟩ := hm
  obtain ⟨ta, ha, qa⟩ := ha
  refine ⟨_, pe_bmG0 pat slot hty hr ha hbase hline, fun C own σ H s Q R0 f => qa C own σ H s _ R0 (f.bind fun z x H1 _ R1 d1 s1 f1 => ?_)⟩
  obtain ⟨hT, f1⟩ := fin_if f1
  obtain ⟨n1, n2⟩ := tyN_ok hT hT1 hT2
  refine ⟨hT ▸ tyG_den d1 n1 n2, ?_⟩
  have f1 : Fin (rhoD X) X W true C own σ H1 z.2 (R.lift (g z.1 []) z.2) Q := f1
  obtain ⟨d, e, f3⟩ := f1.lift
  exact hm _ H1 _ _ _ _ _ _ R1.kn d1 (show DenL X.K X.w _ [] [] from rfl) e fun v H' e h => f3.done R1 e h
theorem dx_methI (i : Nat) {y : Str} {py : Pos} {g : D → List D → Option (D × D)} (hm : MethI X id T g) (pat : PlainAttrs T) (slot : Slot T name id) (hty : typeOf (.builtin id) = pure (.type "method_descriptor")) (hb : DA X W (e :: es) pb α)
    (hN : X.N[i]? = some y := by rfl) (hv : Vis X.env.scope y := by first | exact Or.inl rfl | exact Or.inr (Or.inl rfl) | exact Or.inr (Or.inr rfl)) (hd : (y == ("__debug__" : Str)) = false := by decide)
    (hcd : (y == ("__classdict__" : Str)) = false := by decide)
    (hbase : attributeBase (.Name y py) name X.env (eval (.Name y py) X.env) = eval (.Name y py) X.env := by rfl)
    (hfew : ((backTo cpos (starEach (e :: es) X.env)).all (fun x => !x.1) && (backToKw cpos (keywordEach [] X.env)).all (fun x => x.1.isSome)
      && decide ((e :: es).length + ([] : List Keyword).length + (if ([] : List Keyword).isEmpty then 0 else 1) < 30)) = true := by rfl)
    (hline : (apos.endLine == cpos.line) = true := by rfl) (hs : starEach (e :: es) X.env = (false, eval e X.env) :: starEach es X.env := by rfl) (hplain : (backTo cpos (starEach es X.env)).any (·.1) = false := by rfl) :
    DX X W (.Call (.Attribute (.Name y py) name apos) (e :: es) [] cpos) false (eMethI T i g α) := by
  obtain ⟨r, hr, hm⟩ := hm
  obtain ⟨tb, hb, qb⟩ := hb
  refine ⟨_, pe_bmG pat slot hty hr (pe_var hN hv hd hcd) hb hbase hfew hline hs hplain, fun C own σ H s Q R0 f => ?_⟩
  obtain ⟨d0, h0, f⟩ := f.opt
  obtain ⟨a, u, g1, g2, g3, g4⟩ := R0.own1 (ownAt_some h0)
  obtain ⟨hT, f⟩ := fin_if f
  refine ⟨.ref a, g1, hT ▸ tyG_cont g3 g4, qb C own σ H s _ R0 (Fin.bind (p2 := false) (ρ2 := rhoD X) (Q := Q) (by rw [Bool.and_false]; exact f) fun z vs H1 hz R1 d1 s1 f1 => ?_)⟩
  obtain ⟨d2, h2, f2⟩ := f1.opt
  obtain ⟨a', u1, k1, k2, k3, k4⟩ := R1.own1 (ownAt_some h2)
  rw [g1] at k1
  cases k1
  obtain ⟨w, hw, f3⟩ := f2.opt
  refine hm _ H1 a u1 d2 z.1 w.1 w.2 vs Q R1.kn k2 k3 k4 d1 hw fun v' u' hc hd => ?_
  have e1 : Same (Fz (own ++ C.B) H1) (Fz (own ++ C.B) (upd H1 a u')) := Fz.mono (fun _ h => h) fun b o hb e => by rw [upd_ne (show b ≠ a from fun z => hb (z ▸ k2))]; exact e
  exact f3 v' _ (fun z => nomatch z) e1 (R1.chg h2 g1 hc) (Den.mono e1 _ _ hd)
theorem dx_methI0 (i : Nat) {y : Str} {py : Pos} {g : D → List D → Option (D × D)} (hm : MethI X id T g) (pat : PlainAttrs T) (slot : Slot T name id) (hty : typeOf (.builtin id) = pure (.type "method_descriptor"))
    (hN : X.N[i]? = some y := by rfl) (hv : Vis X.env.scope y := by first | exact Or.inl rfl | exact Or.inr (Or.inl rfl) | exact Or.inr (Or.inr rfl)) (hd : (y == ("__debug__" : Str)) = false := by decide)
    (hcd : (y == ("__classdict__" : Str)) = false := by decide)
    (hbase : attributeBase (.Name y py) name X.env (eval (.Name y py) X.env) = eval (.Name y py) X.env := by rfl) (hline : (apos.endLine == cpos.line) = true := by rfl) :
    DX X W (.Call (.Attribute (.Name y py) name apos) [] [] cpos) false (eMethI T i g aNil) := by
  obtain ⟨r, hr, hm⟩ := hm
  refine ⟨_, pe_bmG0 pat slot hty hr (pe_var hN hv hd hcd) hbase hline, fun C own σ H s Q R0 f => ?_⟩
  obtain ⟨d0, h0, f⟩ := f.opt
  obtain ⟨a, u, g1, g2, g3, g4⟩ := R0.own1 (ownAt_some h0)
  obtain ⟨hT, f⟩ := fin_if f
  refine ⟨.ref a, g1, hT ▸ tyG_cont g3 g4, ?_⟩
  have f : Fin (rhoD X) X W false C own σ H s (R.opt (ownAt s i) fun d0 => R.opt (g d0 []) fun y => .ok (y.1, setOwn s i y.2)) Q := f
  obtain ⟨d2, h2, f2⟩ := f.opt
  obtain ⟨w, hw, f3⟩ := f2.opt
  rw [h0] at h2
  cases h2
  refine hm _ H a u d0 [] w.1 w.2 [] Q R0.kn g2 g3 g4 rfl hw fun v' u' hc hd => ?_
  have e1 : Same (Fz (own ++ C.B) H) (Fz (own ++ C.B) (upd H a u')) := Fz.mono (fun _ h => h) fun b o hb e => by rw [upd_ne (show b ≠ a from fun z => hb (z ▸ g2))]; exact e
  exact f3 v' _ (fun z => nomatch z) e1 (R0.chg h0 g1 hc) (Den.mono e1 _ _ hd)
end

/-! ### the methods of lists -/
def appG : D → List D → Option (D × D)
  | .list ds, [d] => if ds.length < 100000 then some (.none, .list (ds ++ [d])) else none
  | _, _ => none
theorem m_append : MethI X "list.append" "list" appG := by
  refine ⟨rAppend, mt_append, fun O H a u d0 ds d d' vs Q hk hO hu hc hd e q => ?_⟩
  unfold appG at e
  split at e
  · next xs y =>
    obtain ⟨vs', rfl, hx⟩ := hc
    obtain ⟨v, rfl, hv⟩ := den1 hd
    by_cases hl : xs.length < 100000
    · rw [if_pos hl] at e
      cases e
      exact ⟨a, vs', v, rfl, rfl, hu, Nat.lt_of_lt_of_le (by rw [hx.length]; exact hl) (sz100 (Nat.le_refl _)), q _ _ ⟨_, rfl, hx.append (.cons hv .nil)⟩ rfl⟩
    · rw [if_neg hl] at e; cases e
  · cases e
def popG : D → List D → Option (D × D)
  | .list ds, [] => ds.getLast?.map fun d => (d, .list ds.dropLast)
  | .list ds, [.int i] => if -(2 ^ 63) ≤ i ∧ i < 2 ^ 63 then (seqIndex? i ds.length).bind fun k => ds[k]?.map fun d => (d, .list (ds.eraseIdx k)) else none
  | _, _ => none
theorem DenL.dropLast {K : PySem.W.Frag} {w : World} {F : Hp} {ds : List D} {vs : List V} (h : DenL K w F ds vs) : DenL K w F ds.dropLast vs.dropLast := by
  rw [List.dropLast_eq_take, List.dropLast_eq_take, h.length]
  exact h.take _
theorem MtR.or {id : String} {r r' : V → List V → Hp → VK → Prop} (h : MtR X id r) (h' : MtR X id r') : MtR X id fun x xs H Q => r x xs H Q ∨ r' x xs H Q := fun pins s σ H x xs v us Q I a b q => q.elim (h pins s σ H x xs v us Q I a b) (h' pins s σ H x xs v us Q I a b)
theorem m_pop : MethI X "list.pop" "list" popG := by
  refine ⟨_, MtR.or mt_pop mt_popAt, fun O H a u d0 ds d d' vs Q hk hO hu hc hd e q => ?_⟩
  unfold popG at e
  split at e
  · next xs =>
    obtain ⟨vs', rfl, hx⟩ := hc
    cases (show vs = [] from hd)
    obtain ⟨y, h1, h2⟩ := Option.map_eq_some_iff.mp e
    cases h2
    rw [List.getLast?_eq_getElem?] at h1
    obtain ⟨v, h3, h4⟩ := hx.get h1
    exact .inl ⟨a, vs', v, rfl, rfl, hu, by rw [hx.length]; exact h3, q _ _ ⟨_, rfl, hx.dropLast⟩ h4⟩
  · next xs i =>
    obtain ⟨vs', rfl, hx⟩ := hc
    obtain ⟨v, rfl, hv⟩ := den1 hd
    cases (show v = .int i from hv)
    by_cases hi : -(2 ^ 63) ≤ i ∧ i < 2 ^ 63
    · rw [if_pos hi] at e
      obtain ⟨k, h1, h2⟩ := Option.bind_eq_some_iff.mp e
      obtain ⟨y, h3, h4⟩ := Option.map_eq_some_iff.mp h2
      cases h4
      obtain ⟨v, h5, h6⟩ := hx.get h3
      exact .inr ⟨a, vs', i, k, v, rfl, rfl, hu, hi.1, hi.2, by rw [hx.length]; exact h1, h5, q _ _ ⟨_, rfl, hx.erase _⟩ h6⟩
    · rw [if_neg hi] at e; cases e
  · cases e
end
end DL
set_option maxRecDepth 100000
namespace DL
open PySem PySem.Spec PyProof.Rows L2
section
variable {X : Cx}

/-! ### index, count -/
def lay (d : D) : Bool := d.canLay0 && decide (d.depth ≤ 60)
def idxG : D → List D → Option D
  | .list ds, [d] => if PyData.canLayAll0 ds && lay d && decide (ds.length ≤ 100000) then (ds.findIdx? fun z => PyData.eqv z d).map fun (j : Nat) => PyData.int (j : Int) else none
  | .tuple ds, [d] => if PyData.canLayAll0 ds && lay d && decide (ds.length ≤ 100000) then (ds.findIdx? fun z => PyData.eqv z d).map fun (j : Nat) => PyData.int (j : Int) else none
  | _, _ => none
def cntG : D → List D → Option D
  | .list ds, [d] => if PyData.canLayAll0 ds && lay d then some (.int ((ds.countP fun z => PyData.eqv z d : Nat) : Int)) else none
  | .tuple ds, [d] => if PyData.canLayAll0 ds && lay d then some (.int ((ds.countP fun z => PyData.eqv z d : Nat) : Int)) else none
  | _, _ => none
section
variable {pins : List (Addr × Obj)} {σ : L2.St} {H : Hp} {s : Shared}
/-- the items of a list or tuple as data -/
theorem seq_items {T : String} (I : Inv X pins σ H s) {a : Addr} {ds : List D} (h : (T = "list" ∧ Den X.K X.w H (.list ds) (.ref a)) ∨ (T = "tuple" ∧ Den X.K X.w H (.tuple ds) (.ref a))) :
    ∃ (its : List Value) (n : Nat) (dd : Option Addr) (sl : Array (Option Value)) (as : List Addr), s.heap.get? a = some { cls := .type T, dict := dd, data := .seq its.toArray n, slots := sl } ∧ ReadsAll s.heap its ds as ∧ its.length = ds.length := by
  rcases h with ⟨rfl, b, vs, e, hs, hd⟩ | ⟨rfl, b, vs, e, hs, hd⟩
  · cases e
    obtain ⟨its, rv, ⟨⟨cls, dd, data, sls⟩, n, ho, hc, hdn, hdt⟩, hlen⟩ := I.list (.inl hs)
    simp only at hc hdt
    subst hc hdt
    obtain ⟨as, h4⟩ := DenL.reads I ds vs its hd rv
    exact ⟨its, n, dd, sls, as, ho, h4, by rw [← rv.length, hd.length]⟩
  · cases e
    obtain ⟨its, rv, ⟨⟨cls, dd, data, sls⟩, ho, hc, n, hdt⟩, hlen⟩ := I.tuple hs.seq
    simp only at hc hdt
    subst hc hdt
    obtain ⟨as, h4⟩ := DenL.reads I ds vs its hd rv
    exact ⟨its, n, dd, sls, as, ho, h4, by rw [← rv.length, hd.length]⟩
end
theorem lay_of {d : D} (h : lay d = true) : d.canLay0 = true ∧ d.depth ≤ 60 := ⟨(Bool.and_eq_true_iff.mp h).1, of_decide_eq_true (Bool.and_eq_true_iff.mp h).2⟩
theorem readOf_at {h : Heap} {its : List Value} {ds : List D} {as : List Addr} (hxs : PyData.canLayAll0 ds = true) (r : ReadsAll h its ds as) : ∀ (m : Nat) (hm : m < its.toArray.size) (z : D), ds[m]? = some z → SeqAt.readOf h its.toArray[m] = z := by
  intro m hm z hz
  have hml : m < its.length := by simpa using hm
  rw [← SeqAt.readsAll_map ds its as hxs r, List.getElem?_map, List.getElem?_eq_getElem hml] at hz
  have e1 : SeqAt.readOf h its[m] = z := Option.some.inj (show some (SeqAt.readOf h its[m]) = some z from hz)
  simpa using e1
def rIdxS (X : Cx) (T : String) : V → List V → Hp → VK → Prop := fun x xs H Q => ∃ (a : Addr) (y : V) (d : D) (ds : List D) (j : Nat), x = .ref a ∧ xs = [y] ∧ ((T = "list" ∧ Den X.K X.w H (.list ds) x) ∨ (T = "tuple" ∧ Den X.K X.w H (.tuple ds) x)) ∧ Den X.K X.w H d y ∧
  PyData.canLayAll0 ds = true ∧ lay d = true ∧ ds.length ≤ 100000 ∧ ds.findIdx? (fun z => PyData.eqv z d) = some j ∧ Q (.int (j : Nat)) H
theorem findIdx_some {ds : List D} {p : D → Bool} {j : Nat} (h : ds.findIdx? p = some j) : ∃ z, ds[j]? = some z ∧ p z = true ∧ ∀ m z', m < j → ds[m]? = some z' → p z' = false := by
  obtain ⟨h1, h2, h3⟩ := List.findIdx?_eq_some_iff_getElem.mp h
  refine ⟨ds[j], List.getElem?_eq_getElem h1, h2, fun m z' hm hz => ?_⟩
  obtain ⟨hm', e⟩ := List.getElem?_eq_some_iff.mp hz
  have := h3 m hm
  rw [e] at this
  simpa using this
theorem mt_indexS (hu : X.A.units + 128 < cLine) : MtR X "list.index" (rIdxS X "list") := by
  intro pins s σ H x xs v us Q I rx rxs h
  obtain ⟨a, y, d, ds, j, rfl, rfl, hl, hy, hxs, hd, hlen, hj, q⟩ := h
  cases rx
  obtain ⟨uy, rfl, ry⟩ := rxs.one
  obtain ⟨bs, r1⟩ := Den.reads I d y uy hy ry
  obtain ⟨its, n, dd, sl, as, ho, h4, hn⟩ := seq_items I hl
  obtain ⟨z, hz, hzj, hno⟩ := findIdx_some hj
  have hjd : j < ds.length := (List.getElem?_eq_some_iff.mp hz).1
  have hj' : j < its.toArray.size := by rw [List.size_toArray, hn]; exact hjd
  have at_ := readOf_at hxs h4
  refine call_meets PySem.F.slot_list_index ⟨_, ho, rfl⟩ PySem.F.entry_list_index (PySem.F.args_list_index_2 _ _)
    (SeqAt.list_indexAt a its.toArray n dd sl uy (fun u => PyData.eqv (SeqAt.readOf s.heap u) d) j hj' (by omega) ?_ ?_) ⟨ho, SeqAt.items_eqAt (vs := its.toArray) (show ReadsAll s.heap its.toArray.toList ds as from h4) r1 hxs (lay_of hd).1 (in_depth hu (lay_of hd).2), ?_⟩
  · show PyData.eqv (SeqAt.readOf s.heap its.toArray[j]) d = true
    rw [at_ j hj' z hz]
    exact hzj
  · intro m hm hmj
    have hmd : m < ds.length := by omega
    have hz' : ds[m]? = some ds[m] := List.getElem?_eq_getElem hmd
    show PyData.eqv (SeqAt.readOf s.heap its.toArray[m]) d = false
    rw [at_ m hm _ hz']
    exact hno m _ hmj hz'
  · exact ⟨.int (j : Nat), H, I.tok _, ⟨_, rfl⟩, q⟩
theorem mt_tindexS (hu : X.A.units + 128 < cLine) : MtR X "tuple.index" (rIdxS X "tuple") := by
  intro pins s σ H x xs v us Q I rx rxs h
  obtain ⟨a, y, d, ds, j, rfl, rfl, hl, hy, hxs, hd, hlen, hj, q⟩ := h
  cases rx
  obtain ⟨uy, rfl, ry⟩ := rxs.one
  obtain ⟨bs, r1⟩ := Den.reads I d y uy hy ry
  obtain ⟨its, n, dd, sl, as, ho, h4, hn⟩ := seq_items I hl
  obtain ⟨z, hz, hzj, hno⟩ := findIdx_some hj
  have hjd : j < ds.length := (List.getElem?_eq_some_iff.mp hz).1
  have hj' : j < its.toArray.size := by rw [List.size_toArray, hn]; exact hjd
  have at_ := readOf_at hxs h4
  refine call_meets PySem.F.slot_tuple_index ⟨_, ho, rfl⟩ PySem.F.entry_tuple_index (PySem.F.args_tuple_index_2 _ _)
    (TI.tuple_indexAt a its.toArray n dd sl uy (fun u => PyData.eqv (SeqAt.readOf s.heap u) d) j hj' ?_ ?_) ⟨ho, SeqAt.items_eqAt (vs := its.toArray) (show ReadsAll s.heap its.toArray.toList ds as from h4) r1 hxs (lay_of hd).1 (in_depth hu (lay_of hd).2), ?_⟩
  · show PyData.eqv (SeqAt.readOf s.heap its.toArray[j]) d = true
    rw [at_ j hj' z hz]
    exact hzj
  · intro m hm hmj
    have hmd : m < ds.length := by omega
    have hz' : ds[m]? = some ds[m] := List.getElem?_eq_getElem hmd
    show PyData.eqv (SeqAt.readOf s.heap its.toArray[m]) d = false
    rw [at_ m hm _ hz']
    exact hno m _ hmj hz'
  · exact ⟨.int (j : Nat), H, I.tok _, ⟨_, rfl⟩, q⟩
def rCntS (X : Cx) (T : String) : V → List V → Hp → VK → Prop := fun x xs H Q => ∃ (a : Addr) (y : V) (d : D) (ds : List D), x = .ref a ∧ xs = [y] ∧ ((T = "list" ∧ Den X.K X.w H (.list ds) x) ∨ (T = "tuple" ∧ Den X.K X.w H (.tuple ds) x)) ∧ Den X.K X.w H d y ∧
  PyData.canLayAll0 ds = true ∧ lay d = true ∧ Q (.int ((ds.countP fun z => PyData.eqv z d : Nat) : Int)) H
theorem countP_reads {h : Heap} {its : List Value} {ds : List D} {as : List Addr} {d : D} (hxs : PyData.canLayAll0 ds = true) (r : ReadsAll h its ds as) : its.countP (fun u => PyData.eqv (SeqAt.readOf h u) d) = ds.countP fun z => PyData.eqv z d := by
  rw [← SeqAt.readsAll_map ds its as hxs r, List.countP_map]
  rfl
theorem mt_countS (hu : X.A.units + 128 < cLine) : MtR X "list.count" (rCntS X "list") := by
  intro pins s σ H x xs v us Q I rx rxs h
  obtain ⟨a, y, d, ds, rfl, rfl, hl, hy, hxs, hd, q⟩ := h
  cases rx
  obtain ⟨uy, rfl, ry⟩ := rxs.one
  obtain ⟨bs, r1⟩ := Den.reads I d y uy hy ry
  obtain ⟨its, n, dd, sl, as, ho, h4, hn⟩ := seq_items I hl
  refine call_meets PySem.F.slot_list_count ⟨_, ho, rfl⟩ PySem.F.entry_list_count (PySem.F.args_list_count_2 _ _)
    (SeqAt.list_countAt a its.toArray n dd sl uy (fun u => PyData.eqv (SeqAt.readOf s.heap u) d)) ⟨ho, SeqAt.items_eqAt (vs := its.toArray) (show ReadsAll s.heap its.toArray.toList ds as from h4) r1 hxs (lay_of hd).1 (in_depth hu (lay_of hd).2), ?_⟩
  refine ⟨.int ((ds.countP fun z => PyData.eqv z d : Nat) : Int), H, I.tok _, ⟨s.toks, ?_⟩, q⟩
  rw [← countP_reads hxs h4]
theorem mt_tcountS (hu : X.A.units + 128 < cLine) : MtR X "tuple.count" (rCntS X "tuple") := by
  intro pins s σ H x xs v us Q I rx rxs h
  obtain ⟨a, y, d, ds, rfl, rfl, hl, hy, hxs, hd, q⟩ := h
  cases rx
  obtain ⟨uy, rfl, ry⟩ := rxs.one
  obtain ⟨bs, r1⟩ := Den.reads I d y uy hy ry
  obtain ⟨its, n, dd, sl, as, ho, h4, hn⟩ := seq_items I hl
  refine call_meets PySem.F.slot_tuple_count ⟨_, ho, rfl⟩ PySem.F.entry_tuple_count (PySem.F.args_tuple_count_2 _ _)
    (SeqAt.tuple_countAt a its.toArray n dd sl uy (fun u => PyData.eqv (SeqAt.readOf s.heap u) d)) ⟨ho, SeqAt.items_eqAt (vs := its.toArray) (show ReadsAll s.heap its.toArray.toList ds as from h4) r1 hxs (lay_of hd).1 (in_depth hu (lay_of hd).2), ?_⟩
  refine ⟨.int ((ds.countP fun z => PyData.eqv z d : Nat) : Int), H, I.tok _, ⟨s.toks, ?_⟩, q⟩
  rw [← countP_reads hxs h4]
theorem and3 {a b c : Bool} (h : (a && b && c) = true) : a = true ∧ b = true ∧ c = true := by
  obtain ⟨h, h3⟩ := Bool.and_eq_true_iff.mp h
  obtain ⟨h1, h2⟩ := Bool.and_eq_true_iff.mp h
  exact ⟨h1, h2, h3⟩
theorem ite_some2 {α : Type} {c : Bool} {x : Option α} {y : α} (h : (if c then x else none) = some y) : c = true ∧ x = some y := by
  cases c with
  | true => exact ⟨rfl, h⟩
  | false => cases h
theorem m_index (hu : X.A.units + 128 < cLine) : MethD X "list.index" "list" (fun d ds => match d with | .list _ => idxG d ds | _ => none) := by
  refine ⟨_, mt_indexS hu, fun O H d0 ds d v vs Q hk h0 hd e q => ?_⟩
  dsimp only at e
  split at e
  · next xs =>
    unfold idxG at e
    split at e
    · next xs' y e1 =>
      cases e1
      obtain ⟨u, rfl, hu⟩ := den1 hd
      obtain ⟨h1, h2⟩ := ite_some2 e
      obtain ⟨g1, g2, g3⟩ := and3 h1
      obtain ⟨j, h3, h4⟩ := Option.map_eq_some_iff.mp h2
      subst h4
      have h0' := Den.mono (Fz.le O H) _ _ h0
      obtain ⟨a, _, e0, _⟩ := h0
      subst e0
      exact ⟨a, u, y, xs, j, rfl, rfl, .inl ⟨rfl, h0'⟩, Den.mono (Fz.le _ _) _ _ hu, g1, g2, of_decide_eq_true g3, h3, q _ H (Same.refl H) rfl⟩
    · next e1 => cases e1
    · cases e
  · cases e
theorem m_tindex (hu : X.A.units + 128 < cLine) : MethD X "tuple.index" "tuple" (fun d ds => match d with | .tuple _ => idxG d ds | _ => none) := by
  refine ⟨_, mt_tindexS hu, fun O H d0 ds d v vs Q hk h0 hd e q => ?_⟩
  dsimp only at e
  split at e
  · next xs =>
    unfold idxG at e
    split at e
    · next e1 => cases e1
    · next xs' y e1 =>
      cases e1
      obtain ⟨u, rfl, hu⟩ := den1 hd
      obtain ⟨h1, h2⟩ := ite_some2 e
      obtain ⟨g1, g2, g3⟩ := and3 h1
      obtain ⟨j, h3, h4⟩ := Option.map_eq_some_iff.mp h2
      subst h4
      have h0' := Den.mono (Fz.le O H) _ _ h0
      obtain ⟨a, _, e0, _⟩ := h0
      subst e0
      exact ⟨a, u, y, xs, j, rfl, rfl, .inr ⟨rfl, h0'⟩, Den.mono (Fz.le _ _) _ _ hu, g1, g2, of_decide_eq_true g3, h3, q _ H (Same.refl H) rfl⟩
    · cases e
  · cases e
theorem m_count (hu : X.A.units + 128 < cLine) : MethD X "list.count" "list" (fun d ds => match d with | .list _ => cntG d ds | _ => none) := by
  refine ⟨_, mt_countS hu, fun O H d0 ds d v vs Q hk h0 hd e q => ?_⟩
  dsimp only at e
  split at e
  · next xs =>
    unfold cntG at e
    split at e
    · next xs' y e1 =>
      cases e1
      obtain ⟨u, rfl, hu⟩ := den1 hd
      obtain ⟨h1, h2⟩ := ite_some e
      obtain ⟨g1, g2⟩ := Bool.and_eq_true_iff.mp h1
      subst h2
      have h0' := Den.mono (Fz.le O H) _ _ h0
      obtain ⟨a, _, e0, _⟩ := h0
      subst e0
      exact ⟨a, u, y, xs, rfl, rfl, .inl ⟨rfl, h0'⟩, Den.mono (Fz.le _ _) _ _ hu, g1, g2, q _ H (Same.refl H) rfl⟩
    · next e1 => cases e1
    · cases e
  · cases e
theorem m_tcount (hu : X.A.units + 128 < cLine) : MethD X "tuple.count" "tuple" (fun d ds => match d with | .tuple _ => cntG d ds | _ => none) := by
  refine ⟨_, mt_tcountS hu, fun O H d0 ds d v vs Q hk h0 hd e q => ?_⟩
  dsimp only at e
  split at e
  · next xs =>
    unfold cntG at e
    split at e
    · next e1 => cases e1
    · next xs' y e1 =>
      cases e1
      obtain ⟨u, rfl, hu⟩ := den1 hd
      obtain ⟨h1, h2⟩ := ite_some e
      obtain ⟨g1, g2⟩ := Bool.and_eq_true_iff.mp h1
      subst h2
      have h0' := Den.mono (Fz.le O H) _ _ h0
      obtain ⟨a, _, e0, _⟩ := h0
      subst e0
      exact ⟨a, u, y, xs, rfl, rfl, .inr ⟨rfl, h0'⟩, Den.mono (Fz.le _ _) _ _ hu, g1, g2, q _ H (Same.refl H) rfl⟩
    · cases e
  · cases e

/-! ### more operations -/
def mulI (d e : D) : Option D := match d, e with
  | .int i, .int j => if CMul i j then some (.int (i * j)) else none
  | _, _ => none
theorem op_mulI : OpD X (binaryOp .Mult) mulI := (opI op_mul).congr fun a b d h => by
  unfold mulI at h
  exact h
def repL (d e : D) : Option D := match d, e with
  | .list xs, .int k => if k ≤ 100000 ∧ -(2 ^ 63) ≤ k ∧ xs.length * k.toNat ≤ 100000 then some (.list (List.replicate k.toNat xs).flatten) else none
  | _, _ => none
def rRepR : R2 := fun x y H Q => ∃ l k xs, x = .ref l ∧ y = .int k ∧ Rd H l (.lst xs) ∧ -(2 ^ 63) ≤ k ∧ k < 2 ^ 63 ∧ xs.length * k.toNat ≤ sizeLine ∧
  ∀ p, H p = none → Q (.ref p) (upd H p (.lst (List.replicate k.toNat xs).flatten))
theorem op_repR : OpR X (binaryOp .Mult) rRepR := by
  intro pins s σ H x y v u Q I rx ry h
  obtain ⟨l, k, xs, rfl, rfl, hH, h1, h2, hz, q⟩ := h
  cases rx
  obtain ⟨t, rfl⟩ := ry
  obtain ⟨its, n, r, e⟩ := rd_obj I hH
  have hl := r.length
  have hlen : its.toArray.size * k.toNat ≤ sizeLine := by rw [List.size_toArray, ← hl]; exact hz
  have hcap : ¬ its.toArray.size * k.toNat > (2 ^ 63 - 1) / 8 := by
    have : (sizeLine : Nat) ≤ (2 ^ 63 - 1) / 8 := by decide
    omega
  have hfit : ¬ (!Builtin.List.listFitsIndex k) = true := by
    rw [fitsIndex_both h1 h2]
    exact Bool.false_ne_true
  have hlong : ¬ Builtin.List.listTooLong (its.toArray.size * k.toNat) = true := by
    rw [notLongL hlen]
    exact Bool.false_ne_true
  have hnew : List.foldl (fun x1 x2 => x1 ++ x2) #[] (List.replicate (if its.toArray.isEmpty = true then 0 else k.toNat) its.toArray) = (List.replicate k.toNat its).flatten.toArray := by
    have f0 : ∀ m : Nat, List.foldl (fun x1 x2 => x1 ++ x2) #[] (List.replicate m its.toArray) = (List.replicate m its).flatten.toArray := fun m => by
      have := foldl_rep its m []
      rw [List.nil_append] at this
      exact this
    rw [f0]
    cases its with
    | nil => simp
    | cons a r' => rw [if_neg (by simp)]
  refine wpAny_binaryOp_repeat_ref (T := "list") (U := "int") (by decide) ⟨_, e, rfl⟩ (fun s' => typeIs_int s' k t) noFill_list_mul F.fills_int_mul F.slot_int_rmul repeat_list F.slot_int_index.lookup
    (call_meets F.slot_int_rmul (typeIs_int s k t) F.entry_int_rmul (F.args_int_rmul_2 _ _) (int___rmul___int_list k t l its.toArray n)
      ⟨e, rfl, ⟨_, e, rfl⟩, call_meets F.slot_list_mul ⟨_, e, rfl⟩ F.entry_list_mul (F.args_list_mul_2 _ _) (AutoListH.list___mul___list_int_3 l its.toArray n k t hfit hcap hlong) ⟨e, ?_⟩⟩)
  rw [hnew]
  exact ⟨.ref _, _, I.lnew (t' := s.toks) (r.rep k.toNat) (by rw [PyProof.Rows.lm_len_rep_flat, Nat.mul_comm]; exact hz), rfl, q _ I.fresh⟩
theorem DenL.rep {K : PySem.W.Frag} {w : World} {F : Hp} {ds : List D} {vs : List V} (h : DenL K w F ds vs) : ∀ k : Nat, DenL K w F (List.replicate k ds).flatten (List.replicate k vs).flatten
  | 0 => rfl
  | k + 1 => by
    rw [List.replicate_succ, List.replicate_succ, List.flatten_cons, List.flatten_cons]
    exact h.append (DenL.rep h k)
theorem op_repL : OpF X (binaryOp .Mult) repL := by
  refine ⟨_, op_repR, fun O H d1 d2 d x y Q hk a b e q => ?_⟩
  unfold repL at e
  split at e
  · next xs k =>
    by_cases hl : k ≤ 100000 ∧ -(2 ^ 63) ≤ k ∧ xs.length * k.toNat ≤ 100000
    · rw [if_pos hl] at e
      cases e
      obtain ⟨l, vs, e1, h1, h2⟩ := a
      cases (show y = .int k from b)
      exact ⟨l, k, vs, e1, rfl, rd_mono (Fz.le _ _) h1, hl.2.1, by omega, sz100 (by rw [h2.length]; exact hl.2.2), fun p hp => q p _ _ hp (same_new hp) upd_same ⟨_, rfl, h2.rep _⟩⟩
    · rw [if_neg hl] at e; cases e
  · cases e
theorem repL_list {d e z : D} (h : repL d e = some z) : ∃ ds, z = .list ds := by
  unfold repL at h
  split at h
  · split at h
    · cases h; exact ⟨_, rfl⟩
    · cases h
  · cases h
def mulG : D → D → Option D := orG mulI repL
theorem op_mulG : OpD X (binaryOp .Mult) mulG := op_mulI.or (op_repL.toD fun d e z h => repL_list h)
def negG : D → Option D
  | .int i => some (.int (-i))
  | _ => none
theorem un_negG : UnD X (unaryOp .USub) negG := by
  refine ⟨_, un_neg, fun O H d1 d x Q hk a e q => ?_⟩
  unfold negG at e
  split at e
  · next i =>
    cases e
    exact ⟨i, a, q _ H (Same.refl H) rfl⟩
  · cases e
def isNoneD : D → Bool
  | .none => true
  | _ => false
theorem den_non {K : PySem.W.Frag} {w : World} {F : Hp} : ∀ {d : D} {v : V}, Den K w F d v → decide (v = .non) = isNoneD d
  | .none, v, h => by cases (show v = .non from h); rfl
  | .bool b, v, h => by cases (show v = .bl b from h); rfl
  | .int b, v, h => by cases (show v = .int b from h); rfl
  | .str b, v, h => by cases (show v = .str b from h); rfl
  | .list _, v, ⟨a, _, e, _⟩ => by subst e; rfl
  | .tuple _, v, ⟨a, _, e, _⟩ => by subst e; rfl
  | .dict _, v, ⟨a, _, _, e, _⟩ => by subst e; rfl
/-- is: None and truth values on the right -/
def isG (d e : D) : Option D := match e with
  | .none => some (.bool (isNoneD d))
  | .bool b => some (.bool (match d with | .bool a => decide (a = b) | _ => false))
  | _ => none
def nisG (d e : D) : Option D := notG (isG d e)
def rIsX : R2 := fun x y H Q => ∃ b : Bool, y = .bl b ∧ Q (.bl (decide (x = .bl b))) H
def rNisX : R2 := fun x y H Q => ∃ b : Bool, y = .bl b ∧ Q (.bl (!decide (x = .bl b))) H
theorem rel_bl {x : V} {v : Value} {b : Bool} (r : RelV x v) : (v = .bool b ↔ x = .bl b) := by
  constructor
  · intro e
    subst e
    cases x with
    | non => exact nomatch (show Value.bool b = Value.none from r)
    | bl a => cases (show Value.bool b = Value.bool a from r); rfl
    | int i => exact let ⟨_, h⟩ := r; nomatch h
    | str i => exact let ⟨_, h⟩ := r; nomatch h
    | byt i => exact let ⟨_, h⟩ := r; nomatch h
    | flt i => exact let ⟨_, h⟩ := r; nomatch h
    | ref a => exact nomatch (show Value.bool b = Value.ref a from r)
    | ty a => exact nomatch (show Value.bool b = Value.type a from r)
  · intro e
    subst e
    exact r
theorem op_isX : OpR X (compareOp .Is) rIsX := by
  intro pins s σ H x y v u Q I rx ry h
  obtain ⟨b, rfl, q⟩ := h
  cases (show u = Value.bool b from ry)
  by_cases e : v = .bool b
  · subst e
    have := (rel_bl (b := b) rx).mp rfl
    subst this
    exact wpAny_is_self rfl ⟨.bl true, H, I, rfl, by simpa using q⟩
  · have hx : x ≠ .bl b := fun z => e ((rel_bl rx).mpr z)
    exact wpAny_is_other (by cases x <;> first | (cases rx; rfl) | (obtain ⟨t, rfl⟩ := rx; rfl)) e ⟨.bl false, H, I, rfl, by simpa [hx] using q⟩
theorem op_nisX : OpR X (compareOp .IsNot) rNisX := by
  intro pins s σ H x y v u Q I rx ry h
  obtain ⟨b, rfl, q⟩ := h
  cases (show u = Value.bool b from ry)
  by_cases e : v = .bool b
  · subst e
    have := (rel_bl (b := b) rx).mp rfl
    subst this
    exact wpAny_isNot_self rfl ⟨.bl false, H, I, rfl, by simpa using q⟩
  · have hx : x ≠ .bl b := fun z => e ((rel_bl rx).mpr z)
    exact wpAny_isNot_other (by cases x <;> first | (cases rx; rfl) | (obtain ⟨t, rfl⟩ := rx; rfl)) e ⟨.bl true, H, I, rfl, by simpa [hx] using q⟩
theorem den_bl {K : PySem.W.Frag} {w : World} {F : Hp} {b : Bool} : ∀ {d : D} {v : V}, Den K w F d v → decide (v = .bl b) = (match d with | .bool a => decide (a = b) | _ => false)
  | .none, v, h => by cases (show v = .non from h); rfl
  | .bool a, v, h => by cases (show v = .bl a from h); simp
  | .int b, v, h => by cases (show v = .int b from h); rfl
  | .str b, v, h => by cases (show v = .str b from h); rfl
  | .list _, v, ⟨a, _, e, _⟩ => by subst e; rfl
  | .tuple _, v, ⟨a, _, e, _⟩ => by subst e; rfl
  | .dict _, v, ⟨a, _, _, e, _⟩ => by subst e; rfl
theorem op_isG : OpD X (compareOp .Is) isG := by
  refine ⟨_, op_isN.or op_isX, fun O H d1 d2 d x y Q hk a b e q => ?_⟩
  unfold isG at e
  split at e
  · cases e
    exact .inl ⟨b, q _ H (Same.refl H) (by rw [den_non a]; rfl)⟩
  · next k =>
    cases e
    exact .inr ⟨k, b, q _ H (Same.refl H) (by rw [den_bl a]; rfl)⟩
  · cases e
theorem op_nisG : OpD X (compareOp .IsNot) nisG := by
  refine ⟨_, op_notN.or op_nisX, fun O H d1 d2 d x y Q hk a b e q => ?_⟩
  unfold nisG isG notG at e
  split at e
  · next k e1 =>
    cases e
    split at e1
    · cases e1
      exact .inl ⟨b, q _ H (Same.refl H) (by rw [den_non a]; rfl)⟩
    · next k' =>
      cases e1
      exact .inr ⟨k', b, q _ H (Same.refl H) (by rw [den_bl a]; rfl)⟩
    · cases e1
  · cases e
/-! one sign in a text -/
def inS (d e : D) : Option D := match d, e with
  | .str x, .str z => if x.cps.size = 1 then some (.bool (x.cps.toList.all fun c => decide (c ∈ z.cps.toList))) else none
  | _, _ => none
def ninS (d e : D) : Option D := notG (inS d e)
theorem sign_of {x : Str} (h : x.cps.size = 1) : ∃ c, x = ⟨#[c]⟩ := by
  obtain ⟨⟨l⟩⟩ := x
  match l, h with
  | [c], _ => exact ⟨c, rfl⟩
theorem op_inS : OpD X (compareOp .In) inS := by
  refine ⟨_, op_in_sign, fun O H d1 d2 d x y Q hk a b e q => ?_⟩
  unfold inS at e
  split at e
  · next t z =>
    by_cases h : t.cps.size = 1
    · rw [if_pos h] at e
      cases e
      obtain ⟨c, rfl⟩ := sign_of h
      exact ⟨c, z, a, b, q _ H (Same.refl H) (show V.bl _ = V.bl _ by simp)⟩
    · rw [if_neg h] at e; cases e
  · cases e
theorem op_ninS : OpD X (compareOp .NotIn) ninS := by
  refine ⟨_, op_notIn_sign, fun O H d1 d2 d x y Q hk a b e q => ?_⟩
  unfold ninS inS notG at e
  split at e
  · next k e1 =>
    cases e
    split at e1
    · next t z =>
      by_cases h : t.cps.size = 1
      · rw [if_pos h] at e1
        cases e1
        obtain ⟨c, rfl⟩ := sign_of h
        exact ⟨c, z, a, b, q _ H (Same.refl H) (show V.bl _ = V.bl _ by simp)⟩
      · rw [if_neg h] at e1; cases e1
    · cases e1
  · cases e
end
end DL
set_option maxRecDepth 100000
namespace DL
open PySem PySem.Spec PyProof.Rows L2

/-! ### the library's walks as what HandS walks -/
theorem GoesN.st {prog : Program} {w : World} {A : Around} {target : Expr} {I : Addr} {fp wr : List Addr} {n : Nat} {Y : Nat → Heap → Value → Heap → Prop} {St St' : Nat → Heap → Prop} (W : GoesN prog w A target I fp wr n Y St) (h : ∀ i h, St' i h ↔ St i h) : GoesN prog w A target I fp wr n Y St' where
  sub := W.sub
  frame := fun i h1 h2 st k => (h i h2).mpr (W.frame i h1 h2 ((h i h1).mp st) k)
  goes := fun i s Q E hi st hQ => W.goes i s Q E hi ((h i _).mp st) fun v h' tk y st' k t => hQ v h' tk y ((h _ _).mpr st') k t
  stops := fun s Q E st hQ => W.stops s Q E ((h _ _).mp st) hQ
  self := fun i s Q E st hQ => W.self i s Q E ((h _ _).mp st) hQ
theorem turn_goesN {P : Program} {w : World} {K : PySem.W.Frag} {tg : Expr} {I : Addr} {own wr : List Addr} {n : Nat} {ι : Type} {Y : ι → Nat → Heap → Value → Heap → Prop} {Own : Nat → Heap → Prop} {Ext : ι → Heap → Prop} {G : Hp → Prop} {Ok : ι → Hp → Prop} {Yv : Nat → Hp → V → Hp → Prop}
    (hI : I ∈ own) (hwr : ∀ b ∈ wr, b ∈ own)
    (W : ∀ c H A, A.handled = none → Ok c H → ∃ fp, GoesN P w A tg I fp wr n (Y c) (fun i h => Own i h ∧ Ext c h))
    (hof : ∀ i h h', Own i h → (∀ b ∈ own, ∀ o, h.get? b = some o → h'.get? b = some o) → Own i h')
    (oc : ∀ i h, Own i h → ∀ b ∈ own, ∃ o, h.get? b = some o ∧ ∀ v, o.data ≠ .cell v)
    (hs : ∀ (A : Around) i (s : Shared) (Q : Value → Shared → Prop) (E : Value → Shared → Prop), Own i s.heap → Q (.ref I) s → wpAny (model P w) A (pyIter (.ref I)) Q E s)
    (hG : ∀ (X : Cx), X.prog = P → X.w = w → X.K = K → ∀ pins σ H s, Inv X pins σ H s → G H → ∃ c, Ok c H ∧ Ext c s.heap)
    (hY : ∀ (X : Cx), X.prog = P → X.w = w → X.K = K → ∀ pins σ H s i v h' tk c, Inv X pins σ H s → G H → (∀ b ∈ own, FpOk X pins H b) → (∀ b ∈ own, ∃ o, s.heap.get? b = some o) → i < n → Ok c H → Ext c s.heap → Y c i s.heap v h' → (∀ b o, b ∉ wr → s.heap.get? b = some o → h'.get? b = some o) →
      ∃ x H', Inv X pins σ H' { s with heap := h', toks := tk } ∧ RelV x v ∧ Yv i H x H' ∧ ∀ b ∈ own, H' b = none) :
    Turn P w K tg ⟨fun i H => i < n ∧ G H, Yv, fun i H => n ≤ i ∧ G H⟩ own I (fun i h => i ≤ n ∧ Own i h) where
  mem := hI
  obj := fun i h st b hb => oc i h st.2 b hb
  keep := fun i h h' st k => ⟨st.1, hof i h h' st.2 k⟩
  item := by
    intro X hP hw hK hc i pins s σ H E I0 hf st hg
    subst hP hw hK
    obtain ⟨c, hok, hext⟩ := hG X rfl rfl rfl pins σ H s I0 hg.2
    obtain ⟨fp, W⟩ := W c H X.A (I0.ok.hd hc) hok
    exact thn (W.goes i s (fun v s2 => ∃ x H', Inv X pins σ H' s2 ∧ RelV x v ∧ Yv i H x H' ∧ (i + 1 ≤ n ∧ Own (i + 1) s2.heap) ∧ ∀ b ∈ own, H' b = none) E hg.1 ⟨st.2, hext⟩ fun v h' tk y st' k t => by
      obtain ⟨x, H', i1, r1, y1, z1⟩ := hY X rfl rfl rfl pins σ H s i v h' tk c I0 hg.2 hf (fun b hb => let ⟨o, e, _⟩ := oc i _ st.2 b hb; ⟨o, e⟩) hg.1 hok hext y k
      exact ⟨x, H', i1, r1, y1, ⟨hg.1, st'.1⟩, z1⟩) fun r s1 ⟨v, e1, e2⟩ => ⟨v, e1, e2⟩
  done := by
    intro X hP hw hK hc i pins s σ H E I0 hf st hg
    subst hP hw hK
    obtain ⟨c, hok, hext⟩ := hG X rfl rfl rfl pins σ H s I0 hg.2
    obtain ⟨fp, W⟩ := W c H X.A (I0.ok.hd hc) hok
    have e : i = n := Nat.le_antisymm st.1 hg.1
    subst e
    exact W.stops s (fun s1 => Inv X pins σ H s1) E ⟨st.2, hext⟩ fun h' tk k t => I0.turnedL (ch := wr) (t' := tk) k fun b hb => hf b (hwr b hb)
  self := fun A i s Q E st h => hs A i s Q E st.2 h
/-- what is yielded stands in the heap already -/
def YvP (B : Nat → V → Prop) : Nat → Hp → V → Hp → Prop := fun i H x H' => H' = H ∧ B i x
/-- a new pair is yielded -/
def YvT (B : Nat → V → V → Prop) : Nat → Hp → V → Hp → Prop := fun i H v H' => ∃ T o x y, v = .ref T ∧ H T = none ∧ o.dict = none ∧ H' = upd H T (.frz o (.tup [x, y])) ∧ B i x y
section
variable {X : Cx} {pins : List (Addr × Obj)} {σ : L2.St} {H : Hp} {s : Shared} {h' : Heap} {tk : Nat} {wr own : List Addr}
theorem yvP {B : Nat → V → Prop} {i : Nat} {x : V} {v : Value} (I : Inv X pins σ H s) (hf : ∀ b ∈ own, FpOk X pins H b) (hwr : ∀ b ∈ wr, b ∈ own) (k : ∀ b o, b ∉ wr → s.heap.get? b = some o → h'.get? b = some o) (r : RelV x v) (b : B i x) :
    ∃ x H', Inv X pins σ H' { s with heap := h', toks := tk } ∧ RelV x v ∧ YvP B i H x H' ∧ ∀ b ∈ own, H' b = none :=
  ⟨x, H, I.turnedL (ch := wr) (t' := tk) k fun b hb => hf b (hwr b hb), r, ⟨rfl, b⟩, fun b hb => (hf b hb).1⟩
theorem yvT {B : Nat → V → V → Prop} {i : Nat} {x y : V} {u v : Value} {T : Addr} (I : Inv X pins σ H s) (hf : ∀ b ∈ own, FpOk X pins H b) (hl : ∀ b ∈ own, ∃ o, s.heap.get? b = some o) (hwr : ∀ b ∈ wr, b ∈ own) (k : ∀ b o, b ∉ wr → s.heap.get? b = some o → h'.get? b = some o)
    (hT : s.heap.objs.size ≤ T) (ho : h'.get? T = some { cls := .type "tuple", data := .seq #[u, v] }) (r1 : RelV x u) (r2 : RelV y v) (b : B i x y) :
    ∃ x H', Inv X pins σ H' { s with heap := h', toks := tk } ∧ RelV x (.ref T) ∧ YvT B i H x H' ∧ ∀ b ∈ own, H' b = none := by
  have new : ObjOk X.prog X.w (upd H T (.frz { cls := .type "tuple", data := .seq #[u, v] } (.tup [x, y]))) h' T (.frz { cls := .type "tuple", data := .seq #[u, v] } (.tup [x, y])) :=
    ⟨ho, by show 2 ≤ sizeLine; decide, [u, v], .cons r1 (.cons r2 .nil), ⟨_, ho, rfl, _, rfl⟩⟩
  refine ⟨.ref T, _, I.turnedNew (ch := wr) (t' := tk) k (fun b hb => hf b (hwr b hb)) hT new, rfl, ⟨T, _, x, y, rfl, I.hok.fresh hT, rfl, rfl, b⟩, fun c hc => ?_⟩
  obtain ⟨oc, hc'⟩ := hl c hc
  rw [upd_ne (fun z => absurd (Heap.lt_size hc') (by rw [z]; exact Nat.not_lt.mpr hT))]
  exact (hf c hc).1
end
/-! dicts -/
theorem goes_items {prog : Program} {w : World} {A : Around} {elts : List Expr} {x1 : Nat} {pos : Pos} (hh : A.handled = none) (I d : Addr) (hne : d ≠ I) (es : Array DictEntry) (ep : Nat) :
    GoesN prog w A (.Tuple elts x1 pos) I [I, d] [I] es.size (fun i h₀ v h => ∃ T, ∃ hi : i < es.size, v = .ref T ∧ h₀.objs.size ≤ T ∧ h.get? T = some { cls := .type "tuple", data := .seq #[es[i].key, es[i].val] }) (fun i h => (∃ ok ov, IsItemIter h I d i es.size ep ok ov) ∧ h.DictRaw d es ep) where
  sub := (Goes.rawItems (prog := prog) (w := w) (elts := elts) (x1 := x1) (pos := pos) hh I d hne es ep).sub
  frame := (Goes.rawItems (prog := prog) (w := w) (elts := elts) (x1 := x1) (pos := pos) hh I d hne es ep).frame
  goes := fun i s Q E hi st hQ => by
    obtain ⟨⟨ok, ov, hit⟩, hd⟩ := st
    refine wpAny_pyNext_items_item_raw hit hd hi fun h' hit' ht _ hk => ⟨_, rfl, ?_⟩
    refine wpAny_letOwnedTupleGo_items (s := { s with heap := h' }) hit' fun h2 hit2 hs => ?_
    have nI : s.heap.objs.size ≠ I := Nat.ne_of_gt (Heap.lt_size hit)
    exact hQ (.ref s.heap.objs.size) h2 s.toks ⟨_, hi, rfl, Nat.le_refl _, (hs.2 _ nI).trans ht⟩ ⟨⟨_, _, hit2⟩, hd.at fun o e => (hs.2 _ hne).trans (hk d o hne e)⟩ (fun b o hb e => (hs.2 b fun z => hb (by simp [z])).trans (hk b o (fun z => hb (by simp [z])) e)) (Nat.le_refl _)
  stops := (Goes.rawItems (prog := prog) (w := w) (elts := elts) (x1 := x1) (pos := pos) hh I d hne es ep).stops
  self := (Goes.rawItems (prog := prog) (w := w) (elts := elts) (x1 := x1) (pos := pos) hh I d hne es ep).self

/-! zip, enumerate -/
section
variable {prog : Program} {w : World} {A : Around} {elts : List Expr} {x1 : Nat} {pos : Pos}
theorem goes_zip2 {z TI TO i1 i2 : Addr} {fp1 fp2 : List Addr} {n1 n2 : Nat} {P1 P2 : Nat → Value → Prop} {St1 St2 : Nat → Heap → Prop} (S : ZipSep2 z TI TO i1 i2 fp1 fp2) (D1 : Draws prog w A.in1 i1 fp1 n1 P1 St1) (D2 : Draws prog w A.in1 i2 fp2 n2 P2 St2) :
    GoesN prog w A (.Tuple elts x1 pos) z (z :: TI :: TO :: (fp1 ++ fp2)) [z, TO, i1, i2] (min n1 n2) (fun i h₀ v h => ∃ T x y, v = .ref T ∧ h₀.objs.size ≤ T ∧ P1 i x ∧ P2 i y ∧ h.get? T = some { cls := .type "tuple", data := .seq #[x, y] })
      (fun i h => IsZip h z TI TO .none ∧ IsTupOf2 h TI (.ref i1) (.ref i2) ∧ (∃ a1 a2, IsTupOf2 h TO a1 a2) ∧ St1 i h ∧ St2 i h) where
  sub := (Goes.zip2 (elts := elts) (x1 := x1) (pos := pos) S D1 D2).sub
  frame := (Goes.zip2 (elts := elts) (x1 := x1) (pos := pos) S D1 D2).frame
  goes := fun i s Q E hi st hQ => by
    obtain ⟨hz, hTI, ⟨a1, a2, hTO⟩, st1, st2⟩ := st
    refine wpAny_with_toks (n := s.toks) (Nat.le_refl _) ?_
    refine wpAny_pyNext_zipD2_item S D1 D2 hz hTI hTO st1 st2 (by omega) (by omega) fun x1 x2 h' tk y1 y2 b1 b2 d1 d2 b5 b6 hk htk => ⟨_, rfl, ?_⟩
    have lz : s.heap.objs.size ≠ z := Nat.ne_of_gt (Heap.lt_size hz)
    refine wpAny_letOwnedTupleGo_zip (s := { s with heap := h', toks := tk }) b1 fun h2 hz' hs => hQ (.ref _) h2 tk ⟨s.heap.objs.size, x1, x2, rfl, Nat.le_refl _, y1, y2, (hs.2 _ lz).trans b5⟩
      ⟨hz', (hs.2 _ S.TIz).trans (hk _ _ S.TIz S.TITO S.TIi1 S.TIi2 hTI), ⟨_, _, (hs.2 _ S.TOz).trans b2⟩, D1.over d1 hs S.zf1, D2.over d2 hs S.zf2⟩
      (fun c o hc e => (hs.2 c fun x => hc (by simp [x])).trans (hk c o (fun x => hc (by simp [x])) (fun x => hc (by simp [x])) (fun x => hc (by simp [x])) (fun x => hc (by simp [x])) e)) htk
  stops := (Goes.zip2 (elts := elts) (x1 := x1) (pos := pos) S D1 D2).stops
  self := (Goes.zip2 (elts := elts) (x1 := x1) (pos := pos) S D1 D2).self
theorem goes_enum {it : Addr} {fp : List Addr} {n : Nat} {P : Nat → Value → Prop} {St : Nat → Heap → Prop} (k₀ : Int) (D : Draws prog w A.in1 it fp n P St) (e : Addr) (hei : e ≠ it) (hef : e ∉ fp) (hif : it ∈ fp) :
    GoesN prog w A (.Tuple elts x1 pos) e (e :: fp) [e, it] n (fun i h₀ v h => ∃ T t x, v = .ref T ∧ h₀.objs.size ≤ T ∧ P i x ∧ h.get? T = some { cls := .type "tuple", data := .seq #[.int (k₀ + (i : Int)) t, x] }) (fun i h => (∃ old, IsEnum h e it (k₀ + (i : Int)) old) ∧ St i h) where
  sub := (Goes.enumFrom (elts := elts) (x1 := x1) (pos := pos) k₀ D e hei hef hif).sub
  frame := (Goes.enumFrom (elts := elts) (x1 := x1) (pos := pos) k₀ D e hei hef hif).frame
  goes := fun i s Q E hi st hQ => by
    obtain ⟨⟨old, he⟩, hs⟩ := st
    refine wpAny_with_toks (n := s.toks) (Nat.le_refl _) ?_
    refine wpAny_pyNext_enum_itemC D he hs hi hei hef fun x h' tk hP ho hs' hT hsz hk htk => ⟨_, rfl, ?_⟩
    have lz : s.heap.objs.size ≠ e := Nat.ne_of_gt (Heap.lt_size he)
    refine wpAny_letOwnedTupleGo_enum (s := { s with heap := h', toks := tk + 1 }) ho fun h2 he' hs2 => hQ (.ref _) h2 (tk + 1) ⟨s.heap.objs.size, tk, x, rfl, Nat.le_refl _, hP, (hs2.2 _ lz).trans hT⟩ ⟨⟨x, ?_⟩, D.frame _ _ _ hs' fun b hb o y => (hs2.2 b fun q => hef (q ▸ hb)).trans y⟩
      (fun c o hc q => (hs2.2 c fun x => hc (by simp [x])).trans (hk c o (fun x => hc (by simp [x])) (fun x => hc (by simp [x])) q)) htk
    have e1 : k₀ + ((i + 1 : Nat) : Int) = k₀ + (i : Int) + 1 := by omega
    rw [e1]
    exact he'
  stops := (Goes.enumFrom (elts := elts) (x1 := x1) (pos := pos) k₀ D e hei hef hif).stops
  self := (Goes.enumFrom (elts := elts) (x1 := x1) (pos := pos) k₀ D e hei hef hif).self
end
end DL
set_option maxRecDepth 100000
namespace DL
open PySem PySem.Spec PyProof.Rows L2

/-! ### walks over dicts -/
section
variable {X : Cx} {pins : List (Addr × Obj)} {σ : L2.St} {H : Hp} {s : Shared}
abbrev EntR (es : List Ent) (xs : List DictEntry) : Prop := Paired (fun (e : Ent) (x : DictEntry) => x.hash = e.1 ∧ RelV e.2.1 x.key ∧ RelV e.2.2 x.val) es xs
theorem dc_frz {d : Addr} {o : Obj} {es : List Ent} (I : Inv X pins σ H s) (h : H d = some (.frz o (dcO d es))) : ∃ (xs : Array DictEntry) (ep : Nat), s.heap.get? d = some o ∧ (d == sysModules) = false ∧ es.length ≤ sizeLine ∧ o.ExactDict ∧ o.data = .dict xs ep ∧ EntR es xs.toList ∧ es.length = xs.size := by
  obtain ⟨ho, ⟨h1, h2, o', xs, ep, ho', hx, hd, rel⟩, _⟩ := I.hok d _ h
  rw [ho] at ho'
  cases ho'
  exact ⟨xs, ep, ho, h1, h2, hx, hd, rel, by rw [rel.length]; simp⟩
theorem dc_raw {d : Addr} {o : Obj} {xs : Array DictEntry} {ep : Nat} {es : List Ent} (hx : o.ExactDict) (hd : o.data = .dict xs ep) (I : Inv X pins σ H s) (h : H d = some (.frz o (dcO d es))) : s.heap.DictRaw d xs ep := ⟨o, (I.hok d _ h).1, hx, hd⟩
end
theorem paired_at {α β : Type} {F : α → β → Prop} : ∀ {l₁ : List α} {l₂ : List β}, Paired F l₁ l₂ → ∀ (i : Nat) (b : β), l₂[i]? = some b → ∃ a, l₁[i]? = some a ∧ F a b
  | _, _, .nil, i, b, h => by simp at h
  | _, _, .cons r t, 0, b, h => by cases h; exact ⟨_, rfl, r⟩
  | _, _, .cons r t, i + 1, b, h => paired_at t i b h
theorem ent_at {es : List Ent} {xs : Array DictEntry} (rel : EntR es xs.toList) (i : Nat) (hi : i < xs.size) : ∃ e, es[i]? = some e ∧ RelV e.2.1 xs[i].key ∧ RelV e.2.2 xs[i].val := by
  obtain ⟨e, h1, h2⟩ := paired_at rel i xs[i] (by simp [hi])
  exact ⟨e, h1, h2.2⟩
/-- keys, values, items of the locked dict -/
def ItDk (d : Addr) (o : Obj) (es : List Ent) : It := ⟨fun i H => i < es.length ∧ H d = some (.frz o (dcO d es)), YvP fun i x => ∃ e, es[i]? = some e ∧ x = e.2.1, fun i H => es.length ≤ i ∧ H d = some (.frz o (dcO d es))⟩
def ItDv (d : Addr) (o : Obj) (es : List Ent) : It := ⟨fun i H => i < es.length ∧ H d = some (.frz o (dcO d es)), YvP fun i x => ∃ e, es[i]? = some e ∧ x = e.2.2, fun i H => es.length ≤ i ∧ H d = some (.frz o (dcO d es))⟩
def ItDi (d : Addr) (o : Obj) (es : List Ent) : It := ⟨fun i H => i < es.length ∧ H d = some (.frz o (dcO d es)), YvT fun i x y => ∃ e, es[i]? = some e ∧ x = e.2.1 ∧ y = e.2.2, fun i H => es.length ≤ i ∧ H d = some (.frz o (dcO d es))⟩
section
variable {P : Program} {w : World} {K : PySem.W.Frag} {tg : Expr} {I d : Addr} {o : Obj} {es : List Ent} {xs : Array DictEntry} {ep : Nat}
theorem one_of {own : List Addr} {I b : Addr} (h : b ∈ [I]) : b = I := List.mem_singleton.mp h
theorem turn_dk (hne : d ≠ I) (hx : o.ExactDict) (hd : o.data = .dict xs ep) (rel : EntR es xs.toList) (hl : es.length = xs.size) : Turn P w K tg (ItDk d o es) [I] I (fun i h => i ≤ es.length ∧ h.IsKeyIter I d i xs.size ep) :=
  turn_goesN (ι := Unit) (wr := [I]) (Y := fun _ i _ v _ => ∃ hi : i < xs.size, v = xs[i].key) (Own := fun i h => h.IsKeyIter I d i xs.size ep) (Ext := fun _ h => h.DictRaw d xs ep) (G := fun H => H d = some (.frz o (dcO d es))) (Ok := fun _ _ => True) (by simp) (fun b h => h)
    (fun _ H A hh _ => ⟨_, by rw [hl]; exact (Goes.rawKeys hh I d hne xs ep).toN⟩) (fun i h h' st k => st.at fun o e => k I (by simp) o e) (fun i h st b hb => by
      cases List.mem_singleton.mp hb
      obtain ⟨o, ho, hc, hd⟩ := st
      exact ⟨o, ho, fun v z => by rw [hd] at z; cases z⟩) (fun A i s Q E st h => wpAny_pyIter_keyiter st h)
    (fun X e1 e2 e3 pins σ H s I0 hg => ⟨(), trivial, dc_raw hx hd I0 hg⟩) fun X e1 e2 e3 pins σ H s i v h' tk _ I0 hg hf hlv hi _ _ ⟨hi', y⟩ k => by
      obtain ⟨e, g1, g2, g3⟩ := ent_at rel i hi'
      exact yvP I0 hf (fun b h => h) k (y ▸ g2) ⟨e, g1, rfl⟩
theorem turn_dv (hne : d ≠ I) (hx : o.ExactDict) (hd : o.data = .dict xs ep) (rel : EntR es xs.toList) (hl : es.length = xs.size) : Turn P w K tg (ItDv d o es) [I] I (fun i h => i ≤ es.length ∧ h.IsValIter I d i xs.size ep) :=
  turn_goesN (ι := Unit) (wr := [I]) (Y := fun _ i _ v _ => ∃ hi : i < xs.size, v = xs[i].val) (Own := fun i h => h.IsValIter I d i xs.size ep) (Ext := fun _ h => h.DictRaw d xs ep) (G := fun H => H d = some (.frz o (dcO d es))) (Ok := fun _ _ => True) (by simp) (fun b h => h)
    (fun _ H A hh _ => ⟨_, by rw [hl]; exact (Goes.rawValues hh I d hne xs ep).toN⟩) (fun i h h' st k => st.at fun o e => k I (by simp) o e) (fun i h st b hb => by
      cases List.mem_singleton.mp hb
      obtain ⟨o, ho, hc, hd⟩ := st
      exact ⟨o, ho, fun v z => by rw [hd] at z; cases z⟩) (fun A i s Q E st h => wpAny_pyIter_valiter st h)
    (fun X e1 e2 e3 pins σ H s I0 hg => ⟨(), trivial, dc_raw hx hd I0 hg⟩) fun X e1 e2 e3 pins σ H s i v h' tk _ I0 hg hf hlv hi _ _ ⟨hi', y⟩ k => by
      obtain ⟨e, g1, g2, g3⟩ := ent_at rel i hi'
      exact yvP I0 hf (fun b h => h) k (y ▸ g3) ⟨e, g1, rfl⟩
theorem turn_di {elts : List Expr} {kk : Nat} {tpos : Pos} (hne : d ≠ I) (hx : o.ExactDict) (hd : o.data = .dict xs ep) (rel : EntR es xs.toList) (hl : es.length = xs.size) : Turn P w K (.Tuple elts kk tpos) (ItDi d o es) [I] I (fun i h => i ≤ es.length ∧ ∃ ok ov, IsItemIter h I d i xs.size ep ok ov) :=
  turn_goesN (ι := Unit) (wr := [I]) (Y := fun _ i h₀ v h => ∃ T, ∃ hi : i < xs.size, v = .ref T ∧ h₀.objs.size ≤ T ∧ h.get? T = some { cls := .type "tuple", data := .seq #[xs[i].key, xs[i].val] }) (Own := fun i h => ∃ ok ov, IsItemIter h I d i xs.size ep ok ov) (Ext := fun _ h => h.DictRaw d xs ep) (G := fun H => H d = some (.frz o (dcO d es))) (Ok := fun _ _ => True) (by simp) (fun b h => h)
    (fun _ H A hh _ => ⟨_, by rw [hl]; exact goes_items hh I d hne xs ep⟩) (fun i h h' ⟨ok, ov, st⟩ k => ⟨ok, ov, k I (by simp) _ st⟩) (fun i h ⟨ok, ov, st⟩ b hb => by
      cases List.mem_singleton.mp hb
      exact ⟨_, st, fun v z => nomatch z⟩) (fun A i s Q E ⟨ok, ov, st⟩ h => wpAny_pyIter_itemiter st h)
    (fun X e1 e2 e3 pins σ H s I0 hg => ⟨(), trivial, dc_raw hx hd I0 hg⟩) fun X e1 e2 e3 pins σ H s i v h' tk _ I0 hg hf hlv hi _ _ ⟨T, hi', y1, y2, y3⟩ k => by
      obtain ⟨e, g1, g2, g3⟩ := ent_at rel i hi'
      subst y1
      exact yvT I0 hf hlv (fun b h => h) k y2 y3 g2 g3 ⟨e, g1, rfl, rfl⟩
end
def iKeysD (td : TE) : TI := fun σ H R => td σ H fun x H1 => ∃ d o es, x = .ref d ∧ H1 d = some (.frz o (dcO d es)) ∧ R (ItDk d o es) H1
def iValsD (td : TE) : TI := fun σ H R => td σ H fun x H1 => ∃ d o es, x = .ref d ∧ H1 d = some (.frz o (dcO d es)) ∧ R (ItDv d o es) H1
def iItemsD (td : TE) : TI := fun σ H R => td σ H fun x H1 => ∃ d o es, x = .ref d ∧ H1 d = some (.frz o (dcO d es)) ∧ R (ItDi d o es) H1
section
variable {X : Cx} {tg e : Expr} {td : TE} {apos cpos : Pos}
theorem pi_dk (he : PE X e td) : PI X tg e (iKeysD td) := by
  refine ⟨fun pins s σ H R I h => ?_⟩
  refine thn (he.run pins s σ H _ I h) fun u s1 ⟨x, H1, I1, rx, d, o, es, ex, hd, q⟩ => ?_
  subst ex
  obtain rfl : u = Value.ref d := rx
  obtain ⟨xs, ep, ho, hs, hsz, hx, hdt, rel, hl⟩ := dc_frz I1 hd
  refine wpAny_pyIter_dict_raw hs ⟨o, ho, hx, hdt⟩ (pi_one (tk := s1.toks) I1 _ (turn_dk (Nat.ne_of_lt (Heap.lt_size ho)) hx hdt rel hl) ⟨Nat.zero_le _, _, Heap.get?_push_size _ rfl, rfl, rfl⟩ q)
theorem pi_dkM (he : PE X e td) (hbase : attributeBase e "keys" X.env (eval e X.env) = eval e X.env := by rfl) (hline : (apos.endLine == cpos.line) = true := by rfl) : PI X tg (.Call (.Attribute e "keys" apos) [] [] cpos) (iKeysD td) := by
  refine ⟨fun pins s σ H R I h => ?_⟩
  refine wpAny_Call_method (T := "dict") (id := "dict.keys") hbase rfl hline F.plainAttrs_dict F.slot_dict_keys F.type_dict_keys (thn (he.run pins s σ H _ I h) fun u s1 ⟨x, H1, I1, rx, d, o, es, ex, hd, q⟩ => ?_)
  subst ex
  obtain rfl : u = Value.ref d := rx
  obtain ⟨xs, ep, ho, hs, hsz, hx, hdt, rel, hl⟩ := dc_frz I1 hd
  have hr : s1.heap.DictRaw d xs ep := ⟨o, ho, hx, hdt⟩
  refine ⟨hr.typeIs, fun b eb => by cases eb; exact ⟨o, ho, hx.2.1⟩, ?_⟩
  have I2 : Inv X pins σ H1 { s1 with heap := s1.heap.push { cls := .type "dict_keys", data := .fields #[.ref d] } } := I1.kept (t' := s1.toks) fun b ob q => Heap.get?_push_of_some _ q
  have fin : wpAny (model X.prog X.w) X.A (pyIter (.ref s1.heap.objs.size)) (PIE X pins σ tg R) X.xe { s1 with heap := s1.heap.push { cls := .type "dict_keys", data := .fields #[.ref d] } } :=
    wpAny_pyIter_keys_raw ⟨_, Heap.get?_push_size _ rfl, rfl, rfl⟩ (Heap.DictRaw.at hr fun o e => Heap.get?_push_of_some _ e) (pi_one (tk := s1.toks) I2 _ (turn_dk (Nat.ne_of_lt (Nat.lt_of_lt_of_le (Heap.lt_size ho) (by rw [Heap.size_push]; exact Nat.le_succ _))) hx hdt rel hl) ⟨Nat.zero_le _, _, Heap.get?_push_size _ rfl, rfl, rfl⟩ q)
  show wpAny _ _ (callWith cpos (.builtin "dict.keys") [.ref d] [] []) _ X.xe s1
  exact method_meetsIn F.slot_dict_keys F.entry_dict_keys rfl (PySem.evalArgs_none ⟨rfl, hr.typeIs, F.args_dict_keys_1 _, _, meets_dict_keys_raw d hs, ⟨xs, ep, hr⟩, fin⟩)
theorem pi_dv (he : PE X e td) (hbase : attributeBase e "values" X.env (eval e X.env) = eval e X.env := by rfl) (hline : (apos.endLine == cpos.line) = true := by rfl) : PI X tg (.Call (.Attribute e "values" apos) [] [] cpos) (iValsD td) := by
  refine ⟨fun pins s σ H R I h => ?_⟩
  refine wpAny_Call_method (T := "dict") (id := "dict.values") hbase rfl hline F.plainAttrs_dict F.slot_dict_values F.type_dict_values (thn (he.run pins s σ H _ I h) fun u s1 ⟨x, H1, I1, rx, d, o, es, ex, hd, q⟩ => ?_)
  subst ex
  obtain rfl : u = Value.ref d := rx
  obtain ⟨xs, ep, ho, hs, hsz, hx, hdt, rel, hl⟩ := dc_frz I1 hd
  have hr : s1.heap.DictRaw d xs ep := ⟨o, ho, hx, hdt⟩
  refine ⟨hr.typeIs, fun b eb => by cases eb; exact ⟨o, ho, hx.2.1⟩, ?_⟩
  have I2 : Inv X pins σ H1 { s1 with heap := s1.heap.push { cls := .type "dict_values", data := .fields #[.ref d] } } := I1.kept (t' := s1.toks) fun b ob q => Heap.get?_push_of_some _ q
  have fin : wpAny (model X.prog X.w) X.A (pyIter (.ref s1.heap.objs.size)) (PIE X pins σ tg R) X.xe { s1 with heap := s1.heap.push { cls := .type "dict_values", data := .fields #[.ref d] } } :=
    wpAny_pyIter_values_raw ⟨_, Heap.get?_push_size _ rfl, rfl, rfl⟩ (Heap.DictRaw.at hr fun o e => Heap.get?_push_of_some _ e) (pi_one (tk := s1.toks) I2 _ (turn_dv (Nat.ne_of_lt (Nat.lt_of_lt_of_le (Heap.lt_size ho) (by rw [Heap.size_push]; exact Nat.le_succ _))) hx hdt rel hl) ⟨Nat.zero_le _, _, Heap.get?_push_size _ rfl, rfl, rfl⟩ q)
  show wpAny _ _ (callWith cpos (.builtin "dict.values") [.ref d] [] []) _ X.xe s1
  exact method_meetsIn F.slot_dict_values F.entry_dict_values rfl (PySem.evalArgs_none ⟨rfl, hr.typeIs, F.args_dict_values_1 _, _, meets_dict_values_raw d hs, ⟨xs, ep, hr⟩, fin⟩)
theorem pi_di {elts : List Expr} {kk : Nat} {tpos : Pos} (he : PE X e td) (hbase : attributeBase e "items" X.env (eval e X.env) = eval e X.env := by rfl) (hline : (apos.endLine == cpos.line) = true := by rfl) : PI X (.Tuple elts kk tpos) (.Call (.Attribute e "items" apos) [] [] cpos) (iItemsD td) := by
  refine ⟨fun pins s σ H R I h => ?_⟩
  refine wpAny_Call_method (T := "dict") (id := "dict.items") hbase rfl hline F.plainAttrs_dict F.slot_dict_items F.type_dict_items (thn (he.run pins s σ H _ I h) fun u s1 ⟨x, H1, I1, rx, d, o, es, ex, hd, q⟩ => ?_)
  subst ex
  obtain rfl : u = Value.ref d := rx
  obtain ⟨xs, ep, ho, hs, hsz, hx, hdt, rel, hl⟩ := dc_frz I1 hd
  have hr : s1.heap.DictRaw d xs ep := ⟨o, ho, hx, hdt⟩
  refine ⟨hr.typeIs, fun b eb => by cases eb; exact ⟨o, ho, hx.2.1⟩, ?_⟩
  have I2 : Inv X pins σ H1 { s1 with heap := s1.heap.push { cls := .type "dict_items", data := .fields #[.ref d] } } := I1.kept (t' := s1.toks) fun b ob q => Heap.get?_push_of_some _ q
  have fin : wpAny (model X.prog X.w) X.A (pyIter (.ref s1.heap.objs.size)) (PIE X pins σ (.Tuple elts kk tpos) R) X.xe { s1 with heap := s1.heap.push { cls := .type "dict_items", data := .fields #[.ref d] } } :=
    wpAny_pyIter_items_raw ⟨_, Heap.get?_push_size _ rfl, rfl, rfl⟩ (Heap.DictRaw.at hr fun o e => Heap.get?_push_of_some _ e) (pi_one (tk := s1.toks) I2 _ (turn_di (Nat.ne_of_lt (Nat.lt_of_lt_of_le (Heap.lt_size ho) (by rw [Heap.size_push]; exact Nat.le_succ _))) hx hdt rel hl) ⟨Nat.zero_le _, _, _, Heap.get?_push_size _ rfl⟩ q)
  show wpAny _ _ (callWith cpos (.builtin "dict.items") [.ref d] [] []) _ X.xe s1
  exact method_meetsIn F.slot_dict_items F.entry_dict_items rfl (PySem.evalArgs_none ⟨rfl, hr.typeIs, F.args_dict_items_1 _, _, meets_dict_items_raw d hs, ⟨xs, ep, hr⟩, fin⟩)
end
/-! the data walked -/
section
variable {X : Cx} {W : WX} {tg e : Expr} {p : Bool} {ε : Se} {apos cpos : Pos}
theorem DenP.at {K : PySem.W.Frag} {w : World} {F : Hp} : ∀ {kvs : List (D × D)} {es : List Ent} (i : Nat) (e : Ent), DenP K w F kvs es → es[i]? = some e → ∃ q, kvs[i]? = some q ∧ Den K w F q.1 e.2.1 ∧ Den K w F q.2 e.2.2
  | [], es, i, e, h, he => by cases (show es = [] from h); simp at he
  | p :: ps, es, 0, e, ⟨e0, r, h0, h1, h2⟩, he => by
    subst h0
    cases he
    obtain ⟨k, d⟩ := p
    exact ⟨(k, d), rfl, h1.2.1, h1.2.2⟩
  | p :: ps, es, i + 1, e, ⟨e0, r, h0, h1, h2⟩, he => by
    subst h0
    exact DenP.at i e h2 he
theorem DenP.length {K : PySem.W.Frag} {w : World} {F : Hp} : ∀ {kvs : List (D × D)} {es : List Ent}, DenP K w F kvs es → es.length = kvs.length
  | [], es, h => by cases (show es = [] from h); rfl
  | p :: ps, es, ⟨e0, r, h0, h1, h2⟩ => by subst h0; simp [DenP.length h2]
def keysOf : D → Option (List D)
  | .dict kvs => some (kvs.map (·.1))
  | _ => none
def valsOf : D → Option (List D)
  | .dict kvs => some (kvs.map (·.2))
  | _ => none
def itemsOf : D → Option (List D)
  | .dict kvs => some (kvs.map fun q => .tuple [q.1, q.2])
  | _ => none
def iSrc (g : D → Option (List D)) (ε : Se) : Sv → R (List D × Sv) := fun s => (ε s).bind fun q => R.lift (g q.1) q.2
theorem it_plain {F : Hp} {d : Addr} {o : Obj} {es : List Ent} {kvs : List (D × D)} {f : Ent → V} {g : D × D → D} (hF : F d = some (.frz o (dcO d es))) (hd : DenP X.K X.w F kvs es) (hfg : ∀ F' (q : D × D) (e : Ent), Den X.K X.w F' q.1 e.2.1 ∧ Den X.K X.w F' q.2 e.2.2 → Den X.K X.w F' (g q) (f e)) :
    ItOk X F (kvs.map g) ⟨fun i H => i < es.length ∧ H d = some (.frz o (dcO d es)), YvP fun i x => ∃ e, es[i]? = some e ∧ x = f e, fun i H => es.length ≤ i ∧ H d = some (.frz o (dcO d es))⟩ := by
  intro i O H hk hs
  have hH : H d = some (.frz o (dcO d es)) := Fz.le _ _ _ _ (hs _ _ hF)
  have hl := hd.length
  rw [List.length_map]
  refine ⟨fun hi => ⟨⟨by omega, hH⟩, fun x H' ⟨e1, en, h1, h2⟩ => ?_⟩, fun hi => ⟨by omega, hH⟩⟩
  subst e1 h2
  obtain ⟨q, g1, g2⟩ := (DenP.mono hs _ _ hd).at i en h1
  exact ⟨Same.refl _, g q, by rw [List.getElem?_map, g1]; rfl, hfg _ _ _ g2⟩
theorem di_dk (h : DX X W e p ε) : DI X W tg e (p && true) (iSrc keysOf ε) := by
  obtain ⟨t, h, q⟩ := h
  refine ⟨_, pi_dk h, fun C own σ H s Q R0 f => q C own σ H s _ R0 (f.bind fun z x H1 _ R1 d1 s1 f1 => ?_)⟩
  obtain ⟨ds, e, f2⟩ := f1.lift
  unfold keysOf at e
  split at e
  · next kvs hz =>
    rw [hz] at d1
    cases e
    obtain ⟨d, o, es, g1, g2, g3⟩ := d1
    exact ⟨d, o, es, g1, Fz.le _ _ _ _ g2, f2.done R1 (Same.refl _) (it_plain g2 g3 fun F' q e h => h.1)⟩
  · cases e
theorem di_dkM (h : DX X W e p ε) (hbase : attributeBase e "keys" X.env (eval e X.env) = eval e X.env := by rfl) (hline : (apos.endLine == cpos.line) = true := by rfl) : DI X W tg (.Call (.Attribute e "keys" apos) [] [] cpos) (p && true) (iSrc keysOf ε) := by
  obtain ⟨t, h, q⟩ := h
  refine ⟨_, pi_dkM h hbase hline, fun C own σ H s Q R0 f => q C own σ H s _ R0 (f.bind fun z x H1 _ R1 d1 s1 f1 => ?_)⟩
  obtain ⟨ds, e, f2⟩ := f1.lift
  unfold keysOf at e
  split at e
  · next kvs hz =>
    rw [hz] at d1
    cases e
    obtain ⟨d, o, es, g1, g2, g3⟩ := d1
    exact ⟨d, o, es, g1, Fz.le _ _ _ _ g2, f2.done R1 (Same.refl _) (it_plain g2 g3 fun F' q e h => h.1)⟩
  · cases e
theorem di_dv (h : DX X W e p ε) (hbase : attributeBase e "values" X.env (eval e X.env) = eval e X.env := by rfl) (hline : (apos.endLine == cpos.line) = true := by rfl) : DI X W tg (.Call (.Attribute e "values" apos) [] [] cpos) (p && true) (iSrc valsOf ε) := by
  obtain ⟨t, h, q⟩ := h
  refine ⟨_, pi_dv h hbase hline, fun C own σ H s Q R0 f => q C own σ H s _ R0 (f.bind fun z x H1 _ R1 d1 s1 f1 => ?_)⟩
  obtain ⟨ds, e, f2⟩ := f1.lift
  unfold valsOf at e
  split at e
  · next kvs hz =>
    rw [hz] at d1
    cases e
    obtain ⟨d, o, es, g1, g2, g3⟩ := d1
    exact ⟨d, o, es, g1, Fz.le _ _ _ _ g2, f2.done R1 (Same.refl _) (it_plain g2 g3 fun F' q e h => h.2)⟩
  · cases e
theorem it_pairs {F : Hp} {G : Hp → Prop} {n : Nat} {B : Nat → V → V → Prop} {ds : List D} (hl : ds.length = n) (hG : ∀ O H, Known O H → Same F (Fz O H) → G H) (hB : ∀ F' i x y, Same F F' → B i x y → ∃ a b, ds[i]? = some (.tuple [a, b]) ∧ Den X.K X.w F' a x ∧ Den X.K X.w F' b y) :
    ItOk X F ds ⟨fun i H => i < n ∧ G H, YvT B, fun i H => n ≤ i ∧ G H⟩ := by
  intro i O H hk hs
  refine ⟨fun hi => ⟨⟨by omega, hG O H hk hs⟩, fun v H' ⟨T, o, x, y, e1, hT, ho, e2, hb⟩ => ?_⟩, fun hi => ⟨by omega, hG O H hk hs⟩⟩
  subst e1 e2
  obtain ⟨a, b, g1, g2, g3⟩ := hB _ i x y hs hb
  have nO := new_out hk hT
  have sm := same_new (o := .frz o (.tup [x, y])) hT
  have hH : Fz O (upd H T (.frz o (.tup [x, y]))) T = some (.frz o (.tup [x, y])) := by rw [Fz.out nO]; exact upd_same
  exact ⟨sm, _, g1, T, _, rfl, sqn_new hH ho, .cons (Den.mono (Fz.same sm) _ _ g2) (.cons (Den.mono (Fz.same sm) _ _ g3) .nil)⟩
theorem di_di {elts : List Expr} {kk : Nat} {tpos : Pos} (h : DX X W e p ε) (hbase : attributeBase e "items" X.env (eval e X.env) = eval e X.env := by rfl) (hline : (apos.endLine == cpos.line) = true := by rfl) : DI X W (.Tuple elts kk tpos) (.Call (.Attribute e "items" apos) [] [] cpos) (p && true) (iSrc itemsOf ε) := by
  obtain ⟨t, h, q⟩ := h
  refine ⟨_, pi_di h hbase hline, fun C own σ H s Q R0 f => q C own σ H s _ R0 (f.bind fun z x H1 _ R1 d1 s1 f1 => ?_)⟩
  obtain ⟨ds, e, f2⟩ := f1.lift
  unfold itemsOf at e
  split at e
  · next kvs hz =>
    rw [hz] at d1
    cases e
    obtain ⟨d, o, es, g1, g2, g3⟩ := d1
    have hl := g3.length
    refine ⟨d, o, es, g1, Fz.le _ _ _ _ g2, f2.done R1 (Same.refl _) (it_pairs (by rw [List.length_map, hl]) (fun O H hk hs => Fz.le _ _ _ _ (hs _ _ g2)) fun F' i x y hs ⟨en, h1, h2, h3⟩ => ?_)⟩
    subst h2 h3
    obtain ⟨q, k1, k2⟩ := (DenP.mono hs _ _ g3).at i en h1
    exact ⟨q.1, q.2, by rw [List.getElem?_map, k1]; rfl, k2⟩
  · cases e
end
end DL
set_option maxRecDepth 100000
namespace DL
open PySem PySem.Spec PyProof.Rows L2

/-! ### zip -/
/-- a list (l) or a tuple to be walked -/
def SeqQ (K : PySem.W.Frag) (l : Bool) (H : Hp) (a : Addr) (xs : List V) : Prop := if l then Rd H a (.lst xs) else SqT K H a xs
def Seqs (l : Bool) (a : Addr) (its : List Value) (h : Heap) : Prop := if l then h.IsList a its.toArray else h.IsTuple a its.toArray
def ItSt (l : Bool) (it a : Addr) (i : Nat) (h : Heap) : Prop := if l then h.IsListIter it a i else h.IsTupleIter it a i
def itOb (l : Bool) (a : Addr) : Obj := { cls := .type (if l then "list_iterator" else "tuple_iterator"), data := .fields #[.ref a, .int 0 0] }
theorem seq_draws {prog : Program} {w : World} {A : Around} (hh : A.handled = none) (l : Bool) (it a : Addr) (hne : a ≠ it) (its : List Value) : Draws prog w A it [it, a] its.length (fun i v => its[i]? = some v) (fun i h => ItSt l it a i h ∧ Seqs l a its h) := by
  cases l with
  | true =>
    have D := Draws.list (prog := prog) (w := w) (A := A) hh it a hne its.toArray
    simp only [List.size_toArray, List.getElem?_toArray] at D
    exact D
  | false =>
    have D := Draws.tuple (prog := prog) (w := w) (A := A) hh it a hne its.toArray
    simp only [List.size_toArray, List.getElem?_toArray] at D
    exact D
theorem seq_begins (l : Bool) (a : Addr) (its : List Value) : Begins (.ref a) (itOb l a) (Seqs l a its) := by
  cases l with
  | true => exact begins_list a its.toArray
  | false => exact begins_tuple a its.toArray
theorem it_at {l : Bool} {it a : Addr} {i : Nat} {h h' : Heap} (st : ItSt l it a i h) (k : ∀ o, h.get? it = some o → h'.get? it = some o) : ItSt l it a i h' := by
  cases l with
  | true => exact Heap.IsListIter.at (show h.IsListIter it a i from st) k
  | false => exact Heap.IsTupleIter.at (show h.IsTupleIter it a i from st) k
theorem it_ob {l : Bool} {it a : Addr} {i : Nat} {h : Heap} (st : ItSt l it a i h) : ∃ o, h.get? it = some o ∧ ∀ v, o.data ≠ .cell v := by
  cases l with
  | true =>
    obtain ⟨o, ho, _, hd⟩ := (show h.IsListIter it a i from st)
    exact ⟨o, ho, fun v z => by rw [hd] at z; cases z⟩
  | false =>
    obtain ⟨o, ho, _, hd⟩ := (show h.IsTupleIter it a i from st)
    exact ⟨o, ho, fun v z => by rw [hd] at z; cases z⟩
theorem it_new {l : Bool} {it a : Addr} {h : Heap} (e : h.get? it = some (itOb l a)) : ItSt l it a 0 h := by
  cases l with
  | true => exact ⟨_, e, rfl, rfl⟩
  | false => exact ⟨_, e, rfl, rfl⟩
section
variable {X : Cx} {pins : List (Addr × Obj)} {σ : L2.St} {H : Hp} {s : Shared}
theorem seqq {l : Bool} {a : Addr} {xs : List V} (I : Inv X pins σ H s) (h : SeqQ X.K l H a xs) : ∃ its, Vals xs its ∧ Seqs l a its s.heap ∧ a < s.heap.objs.size := by
  cases l with
  | true =>
    obtain ⟨its, r, p, _⟩ := I.list (xs := xs) (.inl (show Rd H a (.lst xs) from h))
    exact ⟨its, r, p.isList, p.lt⟩
  | false =>
    obtain ⟨its, r, p, _⟩ := I.tuple (xs := xs) (show SqT X.K H a xs from h)
    obtain ⟨o, ho, _⟩ := id p
    exact ⟨its, r, p, Heap.lt_size ho⟩
end
def ItZ2 (K : PySem.W.Frag) (l1 l2 : Bool) (a b : Addr) (xs ys : List V) : It := ⟨fun i H => i < min xs.length ys.length ∧ (SeqQ K l1 H a xs ∧ SeqQ K l2 H b ys), YvT fun i x y => xs[i]? = some x ∧ ys[i]? = some y, fun i H => min xs.length ys.length ≤ i ∧ (SeqQ K l1 H a xs ∧ SeqQ K l2 H b ys)⟩
theorem turn_z2 {P : Program} {w : World} {K : PySem.W.Frag} {elts : List Expr} {kk : Nat} {tpos : Pos} {N : Nat} {l1 l2 : Bool} {a b : Addr} {xs ys : List V} (ha : a < N) (hb : b < N) :
    Turn P w K (.Tuple elts kk tpos) (ItZ2 K l1 l2 a b xs ys) [N + 4, N + 2, N + 3, N, N + 1] (N + 4) (fun i h => i ≤ min xs.length ys.length ∧ (IsZip h (N + 4) (N + 2) (N + 3) .none ∧ IsTupOf2 h (N + 2) (.ref N) (.ref (N + 1)) ∧ (∃ a1 a2, IsTupOf2 h (N + 3) a1 a2) ∧ ItSt l1 N a i h ∧ ItSt l2 (N + 1) b i h)) :=
  turn_goesN (ι := List Value × List Value) (wr := [N + 4, N + 3, N, N + 1])
    (Y := fun c i h₀ v h => ∃ T x y, v = .ref T ∧ h₀.objs.size ≤ T ∧ c.1[i]? = some x ∧ c.2[i]? = some y ∧ h.get? T = some { cls := .type "tuple", data := .seq #[x, y] })
    (Own := fun i h => IsZip h (N + 4) (N + 2) (N + 3) .none ∧ IsTupOf2 h (N + 2) (.ref N) (.ref (N + 1)) ∧ (∃ a1 a2, IsTupOf2 h (N + 3) a1 a2) ∧ ItSt l1 N a i h ∧ ItSt l2 (N + 1) b i h)
    (Ext := fun c h => Seqs l1 a c.1 h ∧ Seqs l2 b c.2 h) (G := fun H => SeqQ K l1 H a xs ∧ SeqQ K l2 H b ys) (Ok := fun c _ => Vals xs c.1 ∧ Vals ys c.2) (by simp) (fun c hc => by
      have : c = N + 4 ∨ c = N + 3 ∨ c = N ∨ c = N + 1 := by simpa using hc
      rcases this with e | e | e | e <;> simp [e])
    (fun c H A hh ⟨r1, r2⟩ => by
      have hh1 : A.in1.handled = none := hh
      have S : ZipSep2 (N + 4) (N + 2) (N + 3) N (N + 1) (N :: [a]) ((N + 1) :: [b]) := zip_sep2 (fun b' hb' => by rw [List.mem_singleton.mp hb']; exact ha) (fun b' hb' => by rw [List.mem_singleton.mp hb']; exact hb)
      have W := goes_zip2 (prog := P) (w := w) (elts := elts) (x1 := kk) (pos := tpos) S (seq_draws hh1 l1 N a (Nat.ne_of_lt ha) c.1) (seq_draws hh1 l2 (N + 1) b (Nat.ne_of_lt (Nat.lt_of_lt_of_le hb (Nat.le_succ N))) c.2)
      rw [← r1.length, ← r2.length] at W
      exact ⟨_, GoesN.st W fun i h => ⟨fun ⟨⟨g1, g2, g3, g4, g5⟩, g6, g7⟩ => ⟨g1, g2, g3, ⟨g4, g6⟩, g5, g7⟩, fun ⟨g1, g2, g3, ⟨g4, g6⟩, g5, g7⟩ => ⟨⟨g1, g2, g3, g4, g5⟩, g6, g7⟩⟩⟩)
    (fun i h h' ⟨g1, g2, ⟨a1, a2, g3⟩, g4, g5⟩ k => ⟨k _ (by simp) _ g1, k _ (by simp) _ g2, ⟨a1, a2, k _ (by simp) _ g3⟩, it_at g4 fun o e => k _ (by simp) o e, it_at g5 fun o e => k _ (by simp) o e⟩)
    (fun i h ⟨g1, g2, ⟨a1, a2, g3⟩, g4, g5⟩ c hc => by
      have : c = N + 4 ∨ c = N + 2 ∨ c = N + 3 ∨ c = N ∨ c = N + 1 := by simpa using hc
      rcases this with e | e | e | e | e
      · rw [e]; exact ⟨_, g1, fun v z => nomatch z⟩
      · rw [e]; exact ⟨_, g2, fun v z => nomatch z⟩
      · rw [e]; exact ⟨_, g3, fun v z => nomatch z⟩
      · rw [e]; exact it_ob g4
      · rw [e]; exact it_ob g5)
    (fun A i s Q E st h => wpAny_pyIter_zip st.1 h)
    (fun X e1 e2 e3 pins σ H s I0 ⟨q1, q2⟩ => by
      subst e3
      obtain ⟨its1, r1, h1, _⟩ := seqq I0 q1
      obtain ⟨its2, r2, h2, _⟩ := seqq I0 q2
      exact ⟨(its1, its2), ⟨r1, r2⟩, h1, h2⟩)
    fun X e1 e2 e3 pins σ H s i v h' tk c I0 hg hf hlv hi ⟨r1, r2⟩ _ ⟨T, x, y, y1, y2, y3, y4, y5⟩ k => by
      subst y1
      obtain ⟨x', k1, k2⟩ := paired_at r1 _ _ y3
      obtain ⟨y', k3, k4⟩ := paired_at r2 _ _ y4
      exact yvT I0 hf hlv (fun c hc => by
        have : c = N + 4 ∨ c = N + 3 ∨ c = N ∨ c = N + 1 := by simpa using hc
        rcases this with e | e | e | e <;> simp [e]) k y2 y5 k2 k4 ⟨k1, k3⟩
def iZip2 (K : PySem.W.Frag) (ta : TA) : TI := fun σ H R => ta σ H fun vs H1 => ∃ a b l1 l2 xs ys, vs = [.ref a, .ref b] ∧ SeqQ K l1 H1 a xs ∧ SeqQ K l2 H1 b ys ∧ R (ItZ2 K l1 l2 a b xs ys) H1
theorem pi_z2 {X : Cx} {e e2 : Expr} {ta : TA} {p pos tpos : Pos} {elts : List Expr} {kk : Nat} (hg : Gl X "zip") (hm : X.mg "zip" = none) (ha : PA X [e, e2] ta)
    (hs : starEach [e, e2] X.env = (false, eval e X.env) :: starEach [e2] X.env := by rfl) (hpl : (backTo pos (starEach [e2] X.env)).any (·.1) = false := by rfl) :
    PI X (.Tuple elts kk tpos) (.Call (.Name "zip" p) [e, e2] [] pos) (iZip2 X.K ta) := by
  refine ⟨fun pins s σ H R I h => ?_⟩
  refine Call_ (ld_blt I hg hm PyProof.Rows.boot_zip (PyProof.Rows.callWith_type1 (thn (ha.run pos pins s σ H _ I h) fun us s1 ⟨vs, H1, I1, r1, q1⟩ => ?_) hs hpl))
  obtain ⟨a, b, l1, l2, xs, ys, ex, hq1, hq2, q⟩ := q1
  subst ex
  cases r1 with
  | cons r rr =>
    cases rr with
    | cons r' rr =>
      cases rr
      cases r
      cases r'
      obtain ⟨its1, v1, h1, lt1⟩ := seqq I1 hq1
      obtain ⟨its2, v2, h2, lt2⟩ := seqq I1 hq2
      refine zip_begins2 (seq_begins l1 a its1) (seq_begins l2 b its2) h1 h2 fun h' hz hTI hTO g1 g2 hsz hk => wpAny_pyIter_zip hz ?_
      have I2 : Inv X pins σ H1 { s1 with heap := h' } := I1.kept (t' := s1.toks) hk
      refine ⟨s1.heap.objs.size + 4, [s1.heap.objs.size + 4, s1.heap.objs.size + 2, s1.heap.objs.size + 3, s1.heap.objs.size, s1.heap.objs.size + 1], _, _, H1, rfl, I2, turn_z2 lt1 lt2, ⟨Nat.zero_le _, hz, hTI, ⟨_, _, hTO⟩, it_new g1, it_new g2⟩, fun c hcm => ?_, q⟩
      have e' : c = s1.heap.objs.size + 4 ∨ c = s1.heap.objs.size + 2 ∨ c = s1.heap.objs.size + 3 ∨ c = s1.heap.objs.size ∨ c = s1.heap.objs.size + 1 := by simpa using hcm
      have hle : s1.heap.objs.size ≤ c := by
        rcases e' with z | z | z | z | z
        · rw [z]; exact Nat.le_add_right _ _
        · rw [z]; exact Nat.le_add_right _ _
        · rw [z]; exact Nat.le_add_right _ _
        · rw [z]; exact Nat.le_refl _
        · rw [z]; exact Nat.le_add_right _ _
      exact I1.fpOk hle (I1.hok.fresh hle)
def lisT : D → Option (List D)
  | .list ds => some ds
  | .tuple ds => some ds
  | _ => none
def zipG : List D → Option (List D)
  | [a, b] => (lisT a).bind fun xs => (lisT b).map fun ys => List.zipWith (fun x y => PyData.tuple [x, y]) xs ys
  | _ => none
def iArg (g : List D → Option (List D)) (α : Sv → R (List D × Sv)) : Sv → R (List D × Sv) := fun s => (α s).bind fun q => R.lift (g q.1) q.2
section
variable {X : Cx} {W : WX} {p : Bool} {α : Sv → R (List D × Sv)}
theorem lisT_seq {O : List Addr} {H : Hp} {d : D} {v : V} {xs : List D} (h : Den X.K X.w (Fz O H) d v) (e : lisT d = some xs) : ∃ a l vs, v = .ref a ∧ (∀ F, Same (Fz O H) F → SeqQ X.K l F a vs) ∧ DenL X.K X.w (Fz O H) xs vs := by
  unfold lisT at e
  split at e
  · cases e
    obtain ⟨a, vs, h1, h2, h3⟩ := h
    exact ⟨a, true, vs, h1, fun F hF => rd_mono hF h2, h3⟩
  · cases e
    obtain ⟨a, vs, h1, h2, h3⟩ := h
    exact ⟨a, false, vs, h1, fun F hF => sqt_mono hF h2.seq, h3⟩
  · cases e
theorem di_zip {e e2 : Expr} {p0 pos tpos : Pos} {elts : List Expr} {kk : Nat} (hm : X.mg "zip" = none) (ha : DA X W [e, e2] p α) (hg : Gl X "zip" := by rfl)
    (hs : starEach [e, e2] X.env = (false, eval e X.env) :: starEach [e2] X.env := by rfl) (hpl : (backTo pos (starEach [e2] X.env)).any (·.1) = false := by rfl) : DI X W (.Tuple elts kk tpos) (.Call (.Name "zip" p0) [e, e2] [] pos) (p && true) (iArg zipG α) := by
  obtain ⟨t, h, q⟩ := ha
  refine ⟨_, pi_z2 hg hm h hs hpl, fun C own σ H s Q R0 f => q C own σ H s _ R0 (f.bind fun z x H1 _ R1 d1 s1 f1 => ?_)⟩
  obtain ⟨ds, e, f2⟩ := f1.lift
  revert e d1
  generalize z.1 = args
  intro d1 e
  unfold zipG at e
  split at e
  · next da db =>
    obtain ⟨v1, r1, rfl, k1, v2, r2, rfl, k2, k3⟩ := d1
    cases (show r2 = [] from k3)
    obtain ⟨xs, e1, e⟩ := Option.bind_eq_some_iff.mp e
    obtain ⟨ys, e2, e3⟩ := Option.map_eq_some_iff.mp e
    obtain ⟨a, l1, vs, g1, g2, g3⟩ := lisT_seq k1 e1
    obtain ⟨b, l2, us, g4, g5, g6⟩ := lisT_seq k2 e2
    subst g1 g4 e3
    have n1 := g3.length
    have n2 := g6.length
    refine ⟨a, b, l1, l2, vs, us, rfl, g2 _ (Fz.le _ _), g5 _ (Fz.le _ _), f2.done R1 (Same.refl _) (it_pairs (by rw [List.length_zipWith, n1, n2]) (fun O H hk hs => ⟨g2 _ (hs.trans (Fz.le _ _)), g5 _ (hs.trans (Fz.le _ _))⟩) fun F' i x y hs ⟨h1, h2⟩ => ?_)⟩
    obtain ⟨d1, j1, j2⟩ := (DenL.mono hs _ _ g3).get' h1
    obtain ⟨d2, j3, j4⟩ := (DenL.mono hs _ _ g6).get' h2
    exact ⟨d1, d2, by rw [List.getElem?_zipWith, j1, j3], j2, j4⟩
  · cases e
/-- any of lists, tuples, texts, dicts -/
def seqD : D → Option (List D)
  | .list ds => some ds
  | .tuple ds => some ds
  | .str x => some (x.cps.toList.map fun c => .str ⟨#[c]⟩)
  | .dict kvs => some (kvs.map (·.1))
  | _ => none
theorem di_any {tg e : Expr} {ε : Se} (h : DX X W e p ε) : DI X W tg e (p && true) (iSrc seqD ε) := by
  obtain ⟨t1, h1, q1⟩ := di_seq (tg := tg) h
  obtain ⟨t2, h2, q2⟩ := di_dk (tg := tg) h
  refine ⟨_, PI.or h1 h2, fun C own σ H s Q R0 f => ?_⟩
  unfold iSrc at f
  cases hz : ε s with
  | bad => rw [hz] at f; exact f.elim
  | exn c x s' =>
    refine .inl (q1 C own σ H s Q R0 ?_)
    unfold iSeq
    rw [hz] at f ⊢
    exact f
  | ok z =>
    rw [hz] at f
    have f : Fin (ItOk X) X W (p && true) C own σ H s (R.lift (seqD z.1) z.2) Q := f
    obtain ⟨d, s'⟩ := z
    cases d with
    | dict kvs =>
      refine .inr (q2 C own σ H s Q R0 ?_)
      unfold iSrc
      rw [hz]
      exact f
    | list kvs =>
      refine .inl (q1 C own σ H s Q R0 ?_)
      unfold iSeq
      rw [hz]
      exact f
    | tuple kvs =>
      refine .inl (q1 C own σ H s Q R0 ?_)
      unfold iSeq
      rw [hz]
      exact f
    | str kvs =>
      refine .inl (q1 C own σ H s Q R0 ?_)
      unfold iSeq
      rw [hz]
      exact f
    | _ => exact f.elim
end
end DL
set_option maxRecDepth 100000
namespace DL
open PySem PySem.Spec PyProof.Rows L2

/-! ### keys that are None, ints, texts -/
def keyOf : D → Option (Option Key)
  | .none => some none
  | .int i => some (some (.inl i))
  | .str x => some (some (.inr x))
  | _ => none
def keyV : Option Key → V
  | none => .non
  | some (.inl i) => .int i
  | some (.inr x) => .str x
section
variable {K : PySem.W.Frag} {w : World} {F : Hp} {P : Program}
theorem keyOf_den : ∀ {d : D} {k : Option Key} {v : V}, keyOf d = some k → Den K w F d v → v = keyV k
  | .none, _, v, e, h => by cases e; exact h
  | .int i, _, v, e, h => by cases e; exact h
  | .str i, _, v, e, h => by cases e; exact h
  | .bool _, _, _, e, _ => nomatch e
  | .list _, _, _, e, _ => nomatch e
  | .tuple _, _, _, e, _ => nomatch e
  | .dict _, _, _, e, _ => nomatch e
theorem den_keyV : ∀ {d : D} {k : Option Key}, keyOf d = some k → Den K w F d (keyV k)
  | .none, _, e => by cases e; rfl
  | .int i, _, e => by cases e; rfl
  | .str i, _, e => by cases e; rfl
  | .bool _, _, e => nomatch e
  | .list _, _, e => nomatch e
  | .tuple _, _, e => nomatch e
  | .dict _, _, e => nomatch e
theorem keyOf_hash : ∀ {d : D} {k : Option Key}, keyOf d = some k → hashD w d = (noneKind P w).hash k
  | .none, _, e => by cases e; rfl
  | .int i, _, e => by cases e; rfl
  | .str i, _, e => by cases e; rfl
  | .bool _, _, e => nomatch e
  | .list _, _, e => nomatch e
  | .tuple _, _, e => nomatch e
  | .dict _, _, e => nomatch e
def keyD : Option Key → D
  | none => .none
  | some (.inl i) => .int i
  | some (.inr x) => .str x
theorem keyOf_eq : ∀ {d : D} {k : Option Key}, keyOf d = some k → d = keyD k
  | .none, _, e => by cases e; rfl
  | .int i, _, e => by cases e; rfl
  | .str i, _, e => by cases e; rfl
  | .bool _, _, e => nomatch e
  | .list _, _, e => nomatch e
  | .tuple _, _, e => nomatch e
  | .dict _, _, e => nomatch e
theorem keyOf_inj {d d' : D} {k : Option Key} (h : keyOf d = some k) (h' : keyOf d' = some k) : d = d' := (keyOf_eq h).trans (keyOf_eq h').symm
end
theorem nk_rel : ∀ {k : Option Key} {u : Value}, RelV (keyV k) u → nkIs k u = true
  | none, u, h => by cases (show u = .none from h); rfl
  | some (.inl i), u, ⟨t, e⟩ => by subst e; exact keyIs_int i t
  | some (.inr x), u, ⟨t, e⟩ => by subst e; show Value.isStrOf x (.str x t) = true; unfold Value.isStrOf; exact beq_self_eq_true x
theorem rel_nk : ∀ {k : Option Key} {u : Value}, nkIs k u = true → RelV (keyV k) u
  | none, u, h => nk_none h
  | some k, u, h => by
    rcases keyIs_shape (show keyIs k u = true from h) with ⟨i, t, rfl, rfl⟩ | ⟨x, t, rfl, rfl⟩
    · exact ⟨t, rfl⟩
    · exact ⟨t, rfl⟩
/-- entries told by data: the key's value, the value by data -/
abbrev EntD (K : PySem.W.Frag) (w : World) (F : Hp) : List (D × D) → List (Option Key × Value) → Prop := Paired fun (q : D × D) (p : Option Key × Value) => keyOf q.1 = some p.1 ∧ ∃ y, Den K w F q.2 y ∧ RelV y p.2
def good (kvs : List (D × D)) : Bool := kvs.all (fun q => (keyOf q.1).isSome) && decide ((kvs.map fun q => keyOf q.1).Nodup) && decide (kvs.length ≤ 100000)
def getK (kvs : List (D × D)) (k : D) : Option D := (kvs.find? fun q => decide (keyOf q.1 = keyOf k)).map (·.2)
def setK (kvs : List (D × D)) (k d : D) : List (D × D) := if kvs.any (fun q => decide (keyOf q.1 = keyOf k)) then kvs.map (fun q => if keyOf q.1 = keyOf k then (q.1, d) else q) else kvs ++ [(k, d)]
section
variable {K : PySem.W.Frag} {w : World} {F : Hp} {P : Program} {h : Heap} {a : Addr}
theorem entD_keys : ∀ {kvs : List (D × D)} {vs : List (Option Key × Value)}, EntD K w F kvs vs → kvs.map (fun q => keyOf q.1) = (vs.map (·.1)).map some
  | _, _, .nil => rfl
  | _, _, .cons r t => by rw [List.map_cons, List.map_cons, List.map_cons, entD_keys t, r.1]
theorem nodup_some {α : Type} : ∀ {l : List α}, (l.map some).Nodup ↔ l.Nodup
  | l => ⟨fun h => (List.pairwise_map.mp h).imp fun h e => h (congrArg some e), fun h => List.pairwise_map.mpr (h.imp fun h e => h (Option.some.inj e))⟩
theorem ents_of : ∀ {kvs : List (D × D)} {es : List Ent} {xs : List DictEntry}, DenP K w F kvs es → EntR es xs → (∀ q ∈ kvs, (keyOf q.1).isSome = true) →
    ∃ vs : List (Option Key × Value), Pairs (noneKind P w) xs vs ∧ (∀ e ∈ xs, ∃ k, (noneKind P w).is k e.key = true ∧ e.hash = (noneKind P w).hash k) ∧ EntD K w F kvs vs
  | [], es, xs, hd, r, _ => by
    cases (show es = [] from hd)
    cases r
    exact ⟨[], .nil, fun _ h => by simp at h, .nil⟩
  | q :: kvs, es, xs, ⟨e, es', h0, h1, h2⟩, r, hk => by
    subst h0
    cases r with
    | @cons _ x _ xs' r1 r2 =>
      obtain ⟨vs, g1, g2, g3⟩ := ents_of h2 r2 fun q' hq => hk q' (List.mem_cons_of_mem _ hq)
      obtain ⟨qk, qd⟩ := q
      obtain ⟨k, ek⟩ := Option.isSome_iff_exists.mp (hk (qk, qd) List.mem_cons_self)
      obtain ⟨y1, y2, y3⟩ := h1
      have ev := keyOf_den ek y2
      have isk : (noneKind P w).is k x.key = true := nk_rel (by rw [← ev]; exact r1.2.1)
      refine ⟨(k, x.val) :: vs, .cons isk rfl g1, fun e' he' => ?_, .cons ⟨ek, _, y3, r1.2.2⟩ g3⟩
      rcases List.mem_cons.mp he' with z | z
      · subst z
        exact ⟨k, isk, by rw [r1.1, y1, keyOf_hash (P := P) ek]⟩
      · exact g2 e' z
theorem to_dict {kvs : List (D × D)} {es : List Ent} (g : good kvs = true) (hd : DenP K w F kvs es) (hc : DcOk a es h) : ∃ vs, h.DictOf (noneKind P w) a vs ∧ EntD K w F kvs vs := by
  obtain ⟨_, _, o, xs, ep, ho, hx, hdt, rel⟩ := hc
  obtain ⟨g, _⟩ := Bool.and_eq_true_iff.mp g
  obtain ⟨g1, g2⟩ := Bool.and_eq_true_iff.mp g
  obtain ⟨vs, h1, h2, h3⟩ := ents_of (P := P) hd rel fun q hq => List.all_eq_true.mp g1 q hq
  refine ⟨vs, ⟨o, xs, ep, ho, hx, hdt, fun e he => h2 e (by simpa using he), h1, ?_⟩, h3⟩
  have := of_decide_eq_true g2
  rw [entD_keys h3] at this
  exact nodup_some.mp this
theorem from_ents : ∀ {kvs : List (D × D)} {vs : List (Option Key × Value)} {xs : List DictEntry}, EntD K w F kvs vs → Pairs (noneKind P w) xs vs → (∀ e ∈ xs, ∃ k, (noneKind P w).is k e.key = true ∧ e.hash = (noneKind P w).hash k) → ∃ es, EntR es xs ∧ DenP K w F kvs es
  | _, _, _, .nil, p, _ => by cases p; exact ⟨[], .nil, rfl⟩
  | q :: kvs, (k, v) :: vs, _, .cons ⟨r1, y, r2, r3⟩ t, p, hk => by
    cases p with
    | @cons e _ xs' _ p1 p2 p3 =>
      obtain ⟨es, g1, g2⟩ := from_ents t p3 fun e he => hk e (List.mem_cons_of_mem _ he)
      obtain ⟨k', i1, i2⟩ := hk e List.mem_cons_self
      have : k' = k := (noneKind P w).inj _ _ _ i1 p1
      subst this
      obtain ⟨qk, qd⟩ := q
      exact ⟨(hashD w qk, keyV k', y) :: es, .cons ⟨by rw [i2, keyOf_hash (P := P) r1], rel_nk p1, by rw [p2]; exact r3⟩ g1, _, _, rfl, ⟨rfl, den_keyV r1, r2⟩, g2⟩
theorem Pairs_len {xs : List DictEntry} {vs : List (Option Key × Value)} (h : Pairs (noneKind P w) xs vs) : xs.length = vs.length := h.length
theorem from_dict {kvs : List (D × D)} {vs : List (Option Key × Value)} (r : EntD K w F kvs vs) (hz : kvs.length ≤ sizeLine) (hs : (a == sysModules) = false) (hd : h.DictOf (noneKind P w) a vs) : ∃ es, DcOk a es h ∧ DenP K w F kvs es := by
  obtain ⟨o, xs, ep, ho, hx, hdt, hk, hp, hn⟩ := hd
  obtain ⟨es, g1, g2⟩ := from_ents r hp fun e he => hk e (by simpa using he)
  exact ⟨es, ⟨hs, by rw [g2.length]; exact hz, o, xs, ep, ho, hx, hdt, g1⟩, g2⟩
theorem getK_some : ∀ {kvs : List (D × D)} {vs : List (Option Key × Value)} {kd d : D} {k : Option Key}, EntD K w F kvs vs → keyOf kd = some k → getK kvs kd = some d → ∃ v y, valueAt vs k = some v ∧ Den K w F d y ∧ RelV y v
  | _, _, _, _, _, .nil, _, e => by cases e
  | q :: kvs, (k', v) :: vs, kd, d, k, .cons ⟨r1, y, r2, r3⟩ t, ek, e => by
    unfold getK valueAt at *
    rw [List.find?_cons] at e ⊢
    have r1 : keyOf q.1 = some k' := r1
    by_cases c : k' = k
    · subst c
      rw [decide_eq_true (by rw [r1, ek])] at e
      cases e
      simp only [decide_true]
      exact ⟨v, y, rfl, r2, r3⟩
    · rw [decide_eq_false (by rw [r1, ek]; exact fun z => c (Option.some.inj z))] at e
      simp only [c, decide_false]
      exact getK_some t ek e
theorem getK_none : ∀ {kvs : List (D × D)} {vs : List (Option Key × Value)} {kd : D} {k : Option Key}, EntD K w F kvs vs → keyOf kd = some k → getK kvs kd = none → valueAt vs k = none
  | _, _, _, _, .nil, _, _ => rfl
  | q :: kvs, (k', v) :: vs, kd, k, .cons ⟨r1, y, r2, r3⟩ t, ek, e => by
    unfold getK valueAt at *
    rw [List.find?_cons] at e ⊢
    have r1 : keyOf q.1 = some k' := r1
    by_cases c : k' = k
    · subst c
      rw [decide_eq_true (by rw [r1, ek])] at e
      cases e
    · rw [decide_eq_false (by rw [r1, ek]; exact fun z => c (Option.some.inj z))] at e
      simp only [c, decide_false]
      exact getK_none t ek e
theorem any_keys : ∀ {kvs : List (D × D)} {vs : List (Option Key × Value)} {kd : D} {k : Option Key}, EntD K w F kvs vs → keyOf kd = some k → kvs.any (fun q => decide (keyOf q.1 = keyOf kd)) = vs.any (fun p => decide (p.1 = k))
  | _, _, _, _, .nil, _ => rfl
  | q :: kvs, (k', v) :: vs, kd, k, .cons ⟨r1, y, r2, r3⟩ t, ek => by
    have r1 : keyOf q.1 = some k' := r1
    rw [List.any_cons, List.any_cons, any_keys t ek, r1, ek]
    congr 1
    by_cases c : k' = k
    · subst c; simp
    · simp [c]
theorem map_keys : ∀ {kvs : List (D × D)} {vs : List (Option Key × Value)} {kd d : D} {k : Option Key} {v : Value} {y : V}, EntD K w F kvs vs → keyOf kd = some k → Den K w F d y → RelV y v → EntD K w F (kvs.map fun q => if keyOf q.1 = keyOf kd then (q.1, d) else q) (vs.map fun p => if p.1 = k then (p.1, v) else p)
  | _, _, _, _, _, _, _, .nil, _, _, _ => .nil
  | q :: kvs, (k', v') :: vs, kd, d, k, v, y, .cons ⟨r1, y', r2, r3⟩ t, ek, hd, hv => by
    have r1 : keyOf q.1 = some k' := r1
    refine .cons ?_ (map_keys t ek hd hv)
    dsimp only
    by_cases c : k' = k
    · subst c
      rw [if_pos (by rw [r1, ek]), if_pos rfl]
      exact ⟨r1, y, hd, hv⟩
    · rw [if_neg (by rw [r1, ek]; exact fun z => c (Option.some.inj z)), if_neg c]
      exact ⟨r1, y', r2, r3⟩
theorem Paired.snoc {α β : Type} {R : α → β → Prop} {a : α} {b : β} : ∀ {l : List α} {m : List β}, Paired R l m → R a b → Paired R (l ++ [a]) (m ++ [b])
  | _, _, .nil, h => .cons h .nil
  | _, _, .cons r t, h => .cons r (Paired.snoc t h)
theorem setK_ents {kvs : List (D × D)} {vs : List (Option Key × Value)} {kd d : D} {k : Option Key} {v : Value} {y : V} (r : EntD K w F kvs vs) (ek : keyOf kd = some k) (hd : Den K w F d y) (hv : RelV y v) : EntD K w F (setK kvs kd d) (stored vs k v) := by
  unfold setK stored
  rw [any_keys r ek]
  split
  · exact map_keys r ek hd hv
  · exact Paired.snoc r ⟨ek, y, hd, hv⟩
theorem setK_length (kvs : List (D × D)) (k d : D) : (setK kvs k d).length ≤ kvs.length + 1 := by
  unfold setK
  split <;> simp
theorem EntD.mono {F' : Hp} (e : Same F F') : ∀ {kvs : List (D × D)} {vs : List (Option Key × Value)}, EntD K w F kvs vs → EntD K w F' kvs vs
  | _, _, .nil => .nil
  | _, _, .cons ⟨r1, y, r2, r3⟩ t => .cons ⟨r1, y, Den.mono e _ _ r2, r3⟩ (EntD.mono e t)
end
end DL
set_option maxRecDepth 100000
namespace RvL
open PySem PySem.Spec PyProof.Rows L2 RT
section
variable {prog : Program} {w : World} {A : Around} {E : Value → Shared → Prop} {s : Shared}
theorem rv_call {it l : Addr} {items : Array Value} {Q : Value → Shared → Prop} (hh : A.handled = none) (hit : s.heap.IsRevIter it l ((items.size : Int) - 1)) (hl : s.heap.IsList l items) (hne : l ≠ it) (hn : items.size ≤ sizeLine)
    (hQ : ∀ h' tk acc' c', (∀ b o, b ≠ it → s.heap.get? b = some o → h'.get? b = some o) → h'.get? s.heap.objs.size = some { cls := .type "list", dict := none, data := .seq acc' c', slots := #[] } → ItemsOf (fun i v => items[items.size - 1 - i]? = some v) acc' items.size → Q (.ref s.heap.objs.size) { s with heap := h', toks := tk }) :
    wpAny (model prog w) A (call (.type "list") [.ref it]) Q E s := by
  refine callType_codes (Q₁ := fun obj s₁ => obj = .ref s.heap.objs.size ∧ s₁ = { s with heap := s.heap.push { cls := .type "list", data := .seq #[] } }) PySem.F.called_list (PySem.F.typeCall_list_1 _) PySem.F.entry_list_init
    (code_list_new _ ⟨rfl, rfl⟩) fun obj s₁ h₁ => ?_
  obtain ⟨rfl, rfl⟩ := h₁
  have hS : (s.heap.push { cls := .type "list", data := .seq #[] }).get? s.heap.objs.size = some { cls := .type "list", data := .seq #[] } := Heap.get?_push_size _ rfl
  obtain ⟨oi, hoi, _⟩ := id hit
  obtain ⟨ol, hol, _⟩ := id hl
  have hSi : s.heap.objs.size ≠ it := Nat.ne_of_gt (Heap.lt_size hoi)
  have hSl : s.heap.objs.size ≠ l := Nat.ne_of_gt (Heap.lt_size hol)
  have hSf : s.heap.objs.size ∉ [it, l] := by simp only [List.mem_cons, List.not_mem_nil, or_false, not_or]; exact ⟨hSi, hSl⟩
  refine ⟨⟨_, hS, rfl⟩, PySem.F.args_list_init_2 _ _, ?_⟩
  show wpAny _ _ (do let old ← Builtin.List.listItems (.ref s.heap.objs.size); Builtin.List.listUpdate (.ref s.heap.objs.size) (fun _ => #[]); letGo old.toList.reverse; Builtin.List.listExtendWith (.ref s.heap.objs.size) (.ref it) .none) _ _ _
  refine wpAny_bind ?_
  unfold Builtin.List.listItems
  refine wpAny_bind (wpAny_seqItems hS rfl (wpAny_pure ?_))
  show wpAny _ _ (updateSeq s.heap.objs.size (fun _ => #[]) >>= fun _ => letGo (#[] : Array Value).toList.reverse >>= fun _ => Builtin.List.listExtendWith (.ref s.heap.objs.size) (.ref it) .none) _ _ _
  refine wpAny_bind (wpAny_updateSeq hS rfl ?_)
  have hS₂ := Heap.get?_update_self (Obj.mapSeq (fun _ => (#[] : Array Value))) hS rfl
  have oth : ∀ b o, s.heap.get? b = some o → ((s.heap.push { cls := .type "list", data := .seq #[] }).update s.heap.objs.size (Obj.mapSeq (fun _ => (#[] : Array Value)))).get? b = some o :=
    fun b o e => (Heap.get?_update_other _ _ (Ne.symm (Nat.ne_of_lt (Heap.lt_size e)))).trans (Heap.get?_push_of_some _ e)
  refine wpAny_bind (wpAny_letGo ?_)
  have W := (Walks.listRev (prog := prog) (w := w) (A := A.in1.in1) hh it l hne items).toS
  have hit1 : ((s.heap.push { cls := .type "list", data := .seq #[] }).update s.heap.objs.size (Obj.mapSeq (fun _ => (#[] : Array Value)))).IsRevIter it l ((items.size : Int) - 1) := hit.at fun o e => oth _ _ e
  have hl1 : ((s.heap.push { cls := .type "list", data := .seq #[] }).update s.heap.objs.size (Obj.mapSeq (fun _ => (#[] : Array Value)))).IsList l items := hl.at fun o e => oth _ _ e
  have hT : ({ s with heap := (s.heap.push { cls := .type "list", data := .seq #[] }).update s.heap.objs.size (Obj.mapSeq (fun _ => (#[] : Array Value))) } : Shared).TypeIs (.ref it) "list_reverseiterator" := Heap.IsRevIter.typeIs (s := { s with heap := (s.heap.push { cls := .type "list", data := .seq #[] }).update s.heap.objs.size (Obj.mapSeq (fun _ => (#[] : Array Value))) }) hit1
  have h1 : Builtin.List.listSameRef (.ref s.heap.objs.size) (.ref it) = false := by simp [Builtin.List.listSameRef, hSi]
  unfold Builtin.List.listExtendWith
  refine wpAny_bind (wpAny_typeOf hT ?_)
  rw [if_neg (by rw [h1]; decide)]
  refine wpAny_bind (wpAny_pyIter_revIter (s := { s with heap := (s.heap.push { cls := .type "list", data := .seq #[] }).update s.heap.objs.size (Obj.mapSeq (fun _ => (#[] : Array Value))) }) hit1 ?_)
  refine wpAny_bind (wpAny_holding ?_)
  unfold Builtin.List.listLengthHint
  refine wpAny_bind (wpAny_specialOf hT nolen_lri ?_)
  show wpAny _ A.in1.in1 (specialOf (Value.ref it) (Str.ofString "__length_hint__") >>= _) _ _ _
  refine wpAny_bind (wpAny_specialOf hT hint_lri ?_)
  generalize hid : ("list_reverseiterator.__length_hint__" : String) = id0
  wp_delta
  rw [show splitId id0 = some ("list_reverseiterator", "__length_hint__") from by subst hid; decide +kernel]
  subst hid
  refine wpAny_bind (wpAny_isInstance (b := true) hT (by rw [isSubtype_type]; kernel_rfl) ?_)
  refine wpAny_pure ?_
  rw [if_neg (by decide)]
  have e0 : ((items.size : Nat) : Int) - 1 - ((0 : Nat) : Int) = (items.size : Int) - 1 := by omega
  refine wpAny_pure ⟨plainId_quiet F.plain_extend_loop _, codeAny_extend_loopS W hn _ hSf _ items.size 0 _ _ _ rfl (Nat.zero_le _) ⟨Nat.zero_le _, by rw [e0]; exact hit1, hl1⟩ hS₂ (ItemsOf.nil _) fun s' acc' c' hm hS' hacc => ?_⟩
  rw [Moved.eq_with hm]
  refine ⟨rfl, hQ s'.heap s'.toks acc' c' (fun b o hb e => hm.heap b o (fun hmem => ?_) (oth b o e)) hS' hacc⟩
  rcases List.mem_cons.mp hmem with e' | hmem
  · exact absurd (Heap.lt_size e) (by rw [e']; exact Nat.lt_irrefl _)
  · exact hb (List.mem_singleton.mp hmem)
end
end RvL
set_option maxRecDepth 100000
namespace DL
open PySem PySem.Spec PyProof.Rows L2

/-! ### reading dicts -/
section
variable {X : Cx}
/-- the dict at a, read as data that stands in F -/
def DcAt (K : PySem.W.Frag) (w : World) (F H : Hp) (a : Addr) (kvs : List (D × D)) : Prop := ∃ es, Rd H a (dcO a es) ∧ DenP K w F kvs es
theorem dcAt {pins : List (Addr × Obj)} {σ : L2.St} {F H : Hp} {s : Shared} {a : Addr} {kvs : List (D × D)} (I : Inv X pins σ H s) (h : DcAt X.K X.w F H a kvs) (g : good kvs = true) : (a == sysModules) = false ∧ ∃ vs, s.heap.DictOf (noneKind X.prog X.w) a vs ∧ EntD X.K X.w F kvs vs := by
  obtain ⟨es, h1, h2⟩ := h
  have c := dc_ty I h1
  exact ⟨c.1, to_dict g h2 c⟩
theorem dcRaw {pins : List (Addr × Obj)} {σ : L2.St} {F H : Hp} {s : Shared} {a : Addr} {kvs : List (D × D)} (I : Inv X pins σ H s) (h : DcAt X.K X.w F H a kvs) : (a == sysModules) = false ∧ ∃ es xs ep, s.heap.DictRaw a xs ep ∧ EntR es xs.toList ∧ DenP X.K X.w F kvs es ∧ xs.size = kvs.length ∧ xs.size ≤ sizeLine := by
  obtain ⟨es, h1, h2⟩ := h
  obtain ⟨g1, g2, o, xs, ep, ho, hx, hd, rel⟩ := dc_ty I h1
  have hl : es.length = xs.size := by rw [rel.length]; simp
  exact ⟨g1, es, xs, ep, ⟨o, ho, hx, hd⟩, rel, h2, by rw [← hl, h2.length], by omega⟩
theorem EntD.length {K : PySem.W.Frag} {w : World} {F : Hp} {kvs : List (D × D)} {vs : List (Option Key × Value)} (h : EntD K w F kvs vs) : kvs.length = vs.length := Paired.length h
theorem good_len {kvs : List (D × D)} (h : good kvs = true) : kvs.length ≤ 100000 := of_decide_eq_true (Bool.and_eq_true_iff.mp h).2
theorem den_dcAt {O : List Addr} {H : Hp} {kvs : List (D × D)} {v : V} (h : Den X.K X.w (Fz O H) (.dict kvs) v) : ∃ a, v = .ref a ∧ DcAt X.K X.w (Fz O H) H a kvs := by
  obtain ⟨a, o, es, e, h1, h2⟩ := h
  exact ⟨a, e, es, .inr ⟨o, Fz.le _ _ _ _ h1⟩, h2⟩

/-! subscripts -/
def IxD (X : Cx) (g : D → D → Option D) : Prop := ∃ r : R2, IxR X r ∧ ∀ (O : List Addr) (H : Hp) (d1 d2 d : D) (x y : V) (Q : VK), Known O H → Den X.K X.w (Fz O H) d1 x → Den X.K X.w (Fz O H) d2 y → g d1 d2 = some d →
  (∀ v H', Same H H' → Den X.K X.w (Fz O H') d v → Q v H') → r x y H Q
theorem IxD.or {g g' : D → D → Option D} (h : IxD X g) (h' : IxD X g') : IxD X (orG g g') := by
  obtain ⟨r, h1, h2⟩ := h
  obtain ⟨r', h1', h2'⟩ := h'
  refine ⟨_, h1.or h1', fun O H d1 d2 d x y Q hk a b e q => ?_⟩
  unfold orG at e
  cases hg : g d1 d2 with
  | some z =>
    rw [hg] at e
    cases e
    exact .inl (h2 O H d1 d2 _ x y Q hk a b hg q)
  | none =>
    rw [hg] at e
    exact .inr (h2' O H d1 d2 d x y Q hk a b e q)
theorem IxD.congr {g g' : D → D → Option D} (h : IxD X g) (e : ∀ a b d, g' a b = some d → g a b = some d) : IxD X g' := by
  obtain ⟨r, h1, h2⟩ := h
  exact ⟨r, h1, fun O H d1 d2 d x y Q hk a b ee q => h2 O H d1 d2 d x y Q hk a b (e _ _ _ ee) q⟩
theorem ixd_seq : IxD X ixG := by
  refine ⟨_, ix_seq, fun O H d1 d2 d x y Q hk a b e q => ?_⟩
  unfold ixG at e
  split at e
  · next ds i =>
    obtain ⟨p, xs, e1, h1, h2⟩ := a
    obtain ⟨u, g1, g2⟩ := atI_den h2 e
    exact .inl ⟨p, xs, i, u, e1, b, .inl (rd_mono (Fz.le _ _) h1), g1, q _ H (Same.refl H) g2⟩
  · next ds i =>
    obtain ⟨p, xs, e1, h1, h2⟩ := a
    obtain ⟨u, g1, g2⟩ := atI_den h2 e
    exact .inr (.inl ⟨p, xs, i, u, e1, b, sqt_mono (Fz.le _ _) h1.seq, g1, q _ H (Same.refl H) g2⟩)
  · next t i =>
    by_cases hl : t.length ≤ 100000
    · rw [if_pos hl] at e
      obtain ⟨c, g1, g2⟩ := Option.map_eq_some_iff.mp e
      subst g2
      exact .inr (.inr ⟨t, i, c, a, b, sz100 hl, g1, q _ H (Same.refl H) rfl⟩)
    · rw [if_neg hl] at e; cases e
  · cases e
def ixK (d e : D) : Option D := match d with
  | .dict kvs => if good kvs && (keyOf e).isSome then getK kvs e else none
  | _ => none
def rIxDc (X : Cx) : R2 := fun x y H Q => ∃ (F : Hp) (a : Addr) (kvs : List (D × D)) (kd d : D) (k : Option Key), x = .ref a ∧ y = keyV k ∧ keyOf kd = some k ∧ DcAt X.K X.w F H a kvs ∧ good kvs = true ∧ getK kvs kd = some d ∧ ∀ v, Den X.K X.w F d v → Q v H
theorem ix_dc : IxR X (rIxDc X) := by
  intro value slice pins s σ H x y v u Q I rx ry h hs
  obtain ⟨F, a, kvs, kd, d, k, rfl, rfl, ek, hd, hg, hl, q⟩ := h
  cases rx
  obtain ⟨hsys, vs, dd, r⟩ := dcAt I hd hg
  obtain ⟨z, y, g1, g2, g3⟩ := getK_some r ek hl
  exact PyProof.Rows.tail_any dd.typeIs slot_dict_getitem.lookup (wpAny_getItem_of (nk_rel ry) dd.mapOf g1 ⟨y, H, I.tok _, g3, q y g2⟩) hs
theorem good_key {kvs : List (D × D)} {e : D} {α : Type} {o : Option α} {z : α} (h : (if good kvs && (keyOf e).isSome then o else none) = some z) : good kvs = true ∧ (∃ k, keyOf e = some k) ∧ o = some z := by
  obtain ⟨h1, h2⟩ := ite_some2 h
  obtain ⟨g1, g2⟩ := Bool.and_eq_true_iff.mp h1
  exact ⟨g1, Option.isSome_iff_exists.mp g2, h2⟩
theorem ixd_dc : IxD X ixK := by
  refine ⟨_, ix_dc, fun O H d1 d2 d x y Q hk a b e q => ?_⟩
  unfold ixK at e
  split at e
  · next kvs =>
    obtain ⟨g1, ⟨k, ek⟩, h2⟩ := good_key e
    obtain ⟨p, ea, hd⟩ := den_dcAt a
    exact ⟨Fz O H, p, kvs, d2, d, k, ea, keyOf_den ek b, ek, hd, g1, h2, fun v hv => q v H (Same.refl H) hv⟩
  · cases e
def ixA : D → D → Option D := orG ixG ixK
theorem dx_ixR {W : WX} {a b : Expr} {pa pb : Bool} {εa εb : Se} {pos : Pos} {g : D → D → Option D} (hg : IxD X g) (ha : DX X W a pa εa) (hb : DX X W b pb εb) (hs : PlainIx b := by exact fun _ _ => rfl) : DX X W (.Subscript a b pos) (pa && (pb && true)) (eOp g εa εb) := by
  obtain ⟨r, hr, hg⟩ := hg
  obtain ⟨ta, ha, qa⟩ := ha
  obtain ⟨tb, hb, qb⟩ := hb
  refine ⟨_, pe_ix hr ha hb hs, fun C own σ H s Q R0 f => qa C own σ H s _ R0 (f.bind fun z x H1 _ R1 d1 s1 f1 => qb C own σ H1 z.2 _ R1 (f1.bind fun y v H2 _ R2 d2 s2 f2 => ?_))⟩
  obtain ⟨d, e, f3⟩ := f2.lift
  exact hg _ H2 _ _ _ _ _ _ R2.kn (Den.mono s2 _ _ d1) d2 e fun v H' e h => f3.done R2 e h
theorem dx_ixA {W : WX} {a b : Expr} {pa pb : Bool} {εa εb : Se} {pos : Pos} (ha : DX X W a pa εa) (hb : DX X W b pb εb) (hs : PlainIx b := by exact fun _ _ => rfl) : DX X W (.Subscript a b pos) (pa && (pb && true)) (eOp ixA εa εb) := dx_ixR (ixd_seq.or ixd_dc) ha hb hs

/-! k in d -/
def inK (e d : D) : Option D := match d with
  | .dict kvs => if good kvs && (keyOf e).isSome then some (.bool (getK kvs e).isSome) else none
  | _ => none
def ninK (e d : D) : Option D := notG (inK e d)
def rInDc (X : Cx) (neg : Bool) : R2 := fun y x H Q => ∃ (F : Hp) (a : Addr) (kvs : List (D × D)) (kd : D) (k : Option Key), x = .ref a ∧ y = keyV k ∧ keyOf kd = some k ∧ DcAt X.K X.w F H a kvs ∧ good kvs = true ∧ Q (.bl (xor neg (getK kvs kd).isSome)) H
theorem in_val {F : Hp} {kvs : List (D × D)} {vs : List (Option Key × Value)} {kd : D} {k : Option Key} (r : EntD X.K X.w F kvs vs) (ek : keyOf kd = some k) : (valueAt vs k).isSome = (getK kvs kd).isSome := by
  cases h : getK kvs kd with
  | none => rw [getK_none r ek h]; rfl
  | some d =>
    obtain ⟨v, y, g1, _⟩ := getK_some r ek h
    rw [g1]; rfl
theorem op_inDc : OpR X (compareOp .In) (rInDc X false) := by
  intro pins s σ H x y v u Q I rx ry h
  obtain ⟨F, a, kvs, kd, k, rfl, rfl, ek, hd, hg, q⟩ := h
  cases ry
  obtain ⟨hsys, vs, dd, r⟩ := dcAt I hd hg
  refine wpAny_in_of (nk_rel rx) hsys dd.mapOf ⟨.bl _, H, I.tok _, rfl, ?_⟩
  rw [in_val r ek]
  simpa using q
theorem op_ninDc : OpR X (compareOp .NotIn) (rInDc X true) := by
  intro pins s σ H x y v u Q I rx ry h
  obtain ⟨F, a, kvs, kd, k, rfl, rfl, ek, hd, hg, q⟩ := h
  cases ry
  obtain ⟨hsys, vs, dd, r⟩ := dcAt I hd hg
  refine wpAny_notIn_of (nk_rel rx) hsys dd.mapOf ⟨.bl _, H, I.tok _, rfl, ?_⟩
  rw [in_val r ek]
  simpa using q
theorem op_inK : OpD X (compareOp .In) inK := by
  refine ⟨_, op_inDc, fun O H d1 d2 d x y Q hk a b e q => ?_⟩
  unfold inK at e
  split at e
  · next kvs =>
    obtain ⟨g1, ⟨k, ek⟩, h2⟩ := good_key e
    cases h2
    obtain ⟨p, ea, hd⟩ := den_dcAt b
    exact ⟨Fz O H, p, kvs, d1, k, ea, keyOf_den ek a, ek, hd, g1, q _ H (Same.refl H) (by simp; rfl)⟩
  · cases e
theorem op_ninK : OpD X (compareOp .NotIn) ninK := by
  refine ⟨_, op_ninDc, fun O H d1 d2 d x y Q hk a b e q => ?_⟩
  unfold ninK notG at e
  split at e
  · next t e1 =>
    cases e
    unfold inK at e1
    split at e1
    · next kvs =>
      obtain ⟨g1, ⟨k, ek⟩, h2⟩ := good_key e1
      cases h2
      obtain ⟨p, ea, hd⟩ := den_dcAt b
      exact ⟨Fz O H, p, kvs, d1, k, ea, keyOf_den ek a, ek, hd, g1, q _ H (Same.refl H) (by simp; rfl)⟩
    · cases e1
  · cases e

/-! len(d), list(d), dict(d), sum(d.values()) -/
def lenK : List D → Option D
  | [.dict kvs] => some (.int kvs.length)
  | _ => none
theorem cr_lenDc : CallR X (.builtin "len") (fun xs H Q => ∃ (F : Hp) (a : Addr) (kvs : List (D × D)), xs = [.ref a] ∧ DcAt X.K X.w F H a kvs ∧ Q (.int kvs.length) H) := by
  intro pins s σ H xs us Q I r h
  obtain ⟨F, a, kvs, rfl, hd, q⟩ := h
  obtain rfl := Vals.ref1 r
  obtain ⟨hsys, es, xs, ep, hr, rel, hp, hl, hz⟩ := dcRaw I hd
  have hn := line63
  refine call_len_slot (n := xs.size) (Heap.DictRaw.typeIs hr) PySem.F.slot_dict_len (fun Q' hq => call_len_raw hsys hr hq) (by omega) (by omega) ⟨.int kvs.length, H, I.tok _, ⟨_, by rw [hl]⟩, q⟩
theorem call_lenK : CallD X (.builtin "len") lenK := by
  refine ⟨_, cr_lenDc, fun O H ds d xs Q hk a e q => ?_⟩
  unfold lenK at e
  split at e
  · obtain ⟨x, rfl, h1⟩ := den1 a
    obtain ⟨p, rfl, hd⟩ := den_dcAt h1
    cases e
    exact ⟨_, p, _, rfl, hd, q _ H (Same.refl H) rfl⟩
  · cases e
def listK : List D → Option D
  | [.dict kvs] => some (.list (kvs.map (·.1)))
  | _ => none
theorem vals_at : ∀ {n : Nat} {us : List Value} {f : Nat → V} (_ : us.length = n) (_ : ∀ i v, us[i]? = some v → RelV (f i) v), Vals ((List.range n).map f) us := by
  intro n us f hl h
  subst hl
  induction us generalizing f with
  | nil => exact .nil
  | cons u us ih =>
    rw [List.length_cons, List.range_succ_eq_map, List.map_cons, List.map_map]
    exact .cons (h 0 u rfl) (ih (f := f ∘ Nat.succ) fun i v e => h (i + 1) v e)
theorem keys_vals {F : Hp} {kvs : List (D × D)} {es : List Ent} {xs : List DictEntry} (rel : EntR es xs) (hp : DenP X.K X.w F kvs es) : Vals (es.map fun e => e.2.1) (xs.map fun x => x.key) ∧ DenL X.K X.w F (kvs.map (·.1)) (es.map fun e => e.2.1) ∧ Vals (es.map fun e => e.2.2) (xs.map fun x => x.val) ∧ DenL X.K X.w F (kvs.map (·.2)) (es.map fun e => e.2.2) := by
  induction rel generalizing kvs with
  | nil =>
    cases kvs with
    | nil => exact ⟨.nil, rfl, .nil, rfl⟩
    | cons q kvs => obtain ⟨_, _, h, _⟩ := hp; cases h
  | @cons e x es xs r t ih =>
    cases kvs with
    | nil => cases (show e :: es = [] from hp)
    | cons q kvs =>
      obtain ⟨e', es', h0, h1, h2⟩ := hp
      cases h0
      obtain ⟨i1, i2, i3, i4⟩ := ih h2
      obtain ⟨k, d⟩ := q
      exact ⟨.cons r.2.1 i1, .cons h1.2.1 i2, .cons r.2.2 i3, .cons h1.2.2 i4⟩
theorem items_eq {P : Nat → Value → Prop} {acc : Array Value} {n : Nat} {f : List Value} (h : ItemsOf P acc n) (hf : f.length = n) (hp : ∀ i v, i < n → P i v → f[i]? = some v) : acc.toList = f := by
  obtain ⟨h1, h2⟩ := h
  apply List.ext_getElem?
  intro i
  by_cases hi : i < n
  · have hi' : i < acc.size := by rw [h1]; exact hi
    have e1 : acc[i]? = some acc[i] := by simp [hi']
    rw [Array.getElem?_toList, e1]
    exact (hp i _ hi (h2 i _ e1)).symm
  · rw [List.getElem?_eq_none (by rw [Array.length_toList, h1]; omega), List.getElem?_eq_none (by omega)]
theorem cr_listDc (hc : X.calm = true) : CallR X (.type "list") (fun xs H Q => ∃ (F : Hp) (a : Addr) (kvs : List (D × D)), xs = [.ref a] ∧ DcAt X.K X.w F H a kvs ∧ ∀ p ys, H p = none → DenL X.K X.w F (kvs.map (·.1)) ys → Q (.ref p) (upd H p (.lst ys))) := by
  intro pins s σ H xs us Q I r h
  obtain ⟨F, a, kvs, rfl, hd, q⟩ := h
  obtain rfl := Vals.ref1 r
  obtain ⟨hsys, es, xs, ep, hr, rel, hp, hl, hz⟩ := dcRaw I hd
  obtain ⟨k1, k2, _, _⟩ := keys_vals rel hp
  refine PySem.W.kdl_call (KdlSrc.rawDict (es := xs) (ep := ep) hsys) (I.ok.hd hc) hr hz fun h' tk acc' c' hk hS hacc => ?_
  have ea : acc'.toList = xs.toList.map fun x => x.key := items_eq hacc (by simp) fun i v hi ⟨hi', e⟩ => by subst e; simp [hi']
  have hlen : (es.map fun e => e.2.1).length = xs.size := by rw [List.length_map, rel.length]; simp
  refine ⟨.ref s.heap.objs.size, _, I.laid (t' := tk) (o := .lst (es.map fun e => e.2.1)) hk (Nat.le_refl _) ⟨by rw [hlen]; exact hz, acc'.toList, c', by rw [ea]; exact k1, by rw [Array.toArray_toList]; exact hS⟩, rfl, q _ _ (I.hok.fresh (Nat.le_refl _)) k2⟩
theorem call_listK (hc : X.calm = true) : CallF X (.type "list") listK := by
  refine ⟨_, cr_listDc hc, fun O H ds d xs Q hk a e q => ?_⟩
  unfold listK at e
  split at e
  · obtain ⟨x, rfl, h1⟩ := den1 a
    obtain ⟨p, rfl, hd⟩ := den_dcAt h1
    cases e
    exact ⟨_, p, _, rfl, hd, fun l ys hl hy => q l _ _ hl (same_new hl) upd_same ⟨ys, rfl, hy⟩⟩
  · cases e
def dictK : List D → Option D
  | [.dict kvs] => if good kvs then some (.dict kvs) else none
  | _ => none
theorem dc_ok {P : Program} {w : World} {H : Hp} {h : Heap} {a : Addr} {es : List Ent} (c : DcOk a es h) : ObjOk P w H h a (dcO a es) := by
  refine ⟨c, let ⟨_, _, o, _, _, ho, _⟩ := c; ⟨o, ho⟩, fun h1 h2 c1 k => ?_⟩
  obtain ⟨g1, g2, o, xs, ep, ho, r⟩ := c1
  exact ⟨g1, g2, o, xs, ep, k _ ho, r⟩
theorem cr_dictDc : CallR X (.type "dict") (fun xs H Q => ∃ (F : Hp) (a : Addr) (kvs : List (D × D)), xs = [.ref a] ∧ DcAt X.K X.w F H a kvs ∧ good kvs = true ∧ ∀ p es, H p = none → DenP X.K X.w F kvs es → Q (.ref p) (upd H p (dcO p es))) := by
  intro pins s σ H xs us Q I r h
  obtain ⟨F, a, kvs, rfl, hd, hg, q⟩ := h
  obtain rfl := Vals.ref1 r
  obtain ⟨hsys, vs, dd, rel⟩ := dcAt I hd hg
  have hz : vs.length ≤ sizeLine := by rw [← rel.length]; exact sz100 (good_len hg)
  refine PySem.kt_call_dict hsys dd hz fun h' dd' hs => ?_
  obtain ⟨es, c1, c2⟩ := from_dict rel (sz100 (good_len hg)) (beq_eq_false_iff_ne.mpr (Ne.symm (Nat.ne_of_lt I.big))) dd'
  refine ⟨.ref s.heap.objs.size, _, I.laid (a := s.heap.objs.size) (o := dcO s.heap.objs.size es) (t' := s.toks) (fun b q hq => ?_) (Nat.le_refl _) ?_, rfl, q _ _ (I.hok.fresh (Nat.le_refl _)) c2⟩
  · exact (hs.2 b (Nat.ne_of_lt (Heap.lt_size hq))).trans (Heap.get?_push_of_some _ hq)
  · exact dc_ok c1
theorem call_dictK : CallF X (.type "dict") dictK := by
  refine ⟨_, cr_dictDc, fun O H ds d xs Q hk a e q => ?_⟩
  unfold dictK at e
  split at e
  · obtain ⟨h1, h2⟩ := ite_some e
    subst h2
    obtain ⟨x, rfl, h3⟩ := den1 a
    obtain ⟨p, rfl, hd⟩ := den_dcAt h3
    exact ⟨_, p, _, rfl, hd, h1, fun l es hl hy => q l _ _ hl (same_new hl) upd_same ⟨es, rfl, hy⟩⟩
  · cases e
end
end DL
set_option maxRecDepth 100000
namespace DL
open PySem PySem.Spec PyProof.Rows L2

/-! ### sum(d.values()), list(reversed(xs)) -/
section
variable {prog : Program} {w : World} {A : Around} {E : Value → Shared → Prop} {s : Shared} {T : String} {r d : Addr} {n : Nat} {P : Nat → Value → Prop} {OK : Heap → Prop}
theorem sum_src {Q : Value → Shared → Prop} (K : PySem.W.KdlSrc prog w T r d n P OK) (hh : A.handled = none) (hok : OK s.heap) (val : Nat → Int) (hval : ∀ (i : Nat) (v : Value), P i v → ∃ t : Tok, v = Value.int (val i) t)
    (h : ∀ (h' : Heap) (tk : Nat) (t' : Tok), (∀ b o, s.heap.get? b = some o → h'.get? b = some o) → Q (.int (preSum val n) t') { s with heap := h', toks := tk }) :
    wpAny (model prog w) A (call (.builtin "sum") [.ref r]) Q E s := by
  refine call_sum_walkAnyS ?_
  obtain ⟨oI, St, hit, W, st⟩ := K.iter A.in1 s hh hok
  refine hit _ _ ⟨s.heap.objs.size, _, _, _, n, P, _, val, rfl, W.toS, st, fun b hb => ?_, hval, fun s' t' hm => ?_⟩
  · show b < (s.heap.push oI).objs.size
    rw [Heap.size_push]
    rcases List.mem_cons.mp hb with e | hb
    · rw [e]; exact Nat.lt_succ_self _
    · rw [List.mem_singleton.mp hb]; exact Nat.lt_succ_of_lt (K.there _ hok).2
  · have hk : ∀ b o, s.heap.get? b = some o → s'.heap.get? b = some o := fun b o e =>
      hm.heap b o (fun hI => absurd (Heap.lt_size e) (by rw [List.mem_singleton.mp hI]; exact Nat.lt_irrefl _)) (Heap.get?_push_of_some _ e)
    rw [Moved.eq_with hm]
    exact h s'.heap s'.toks t' hk
end
theorem preSum_list : ∀ ns : List Int, preSum (fun i => ns.getD i 0) ns.length = ns.sum := by
  have key : ∀ (ns : List Int) (k : Nat), k ≤ ns.length → preSum (fun i => ns.getD i 0) k = (ns.take k).sum := by
    intro ns k
    induction k with
    | zero => intro _; rfl
    | succ k ih =>
      intro hk
      show preSum _ k + ns.getD k 0 = _
      rw [ih (Nat.le_of_succ_le hk), List.take_succ, List.sum_append]
      have : ns[k]? = some ns[k] := List.getElem?_eq_getElem (by omega)
      rw [this]
      simp [List.getD, this]
  intro ns
  rw [key ns ns.length (Nat.le_refl _), List.take_length]
section
variable {X : Cx}
def tSumDc (X : Cx) (td : TE) : TE := fun σ H Q => td σ H fun x H1 => ∃ (F : Hp) (a : Addr) (kvs : List (D × D)) (ns : List Int), x = .ref a ∧ DcAt X.K X.w F H1 a kvs ∧ intsOf (kvs.map (·.2)) = some ns ∧ Q (.int ns.sum) H1
theorem vals_ints : ∀ {ns : List Int} {us : List Value}, Vals (ns.map V.int) us → us.length = ns.length ∧ ∀ i v, us[i]? = some v → ∃ t, v = Value.int (ns.getD i 0) t
  | [], us, h => by cases h; exact ⟨rfl, fun i v e => by simp at e⟩
  | n :: ns, us, h => by
    cases h with
    | @cons _ u _ us r t =>
      obtain ⟨h1, h2⟩ := vals_ints t
      refine ⟨by simp [h1], fun i v e => ?_⟩
      cases i with
      | zero => cases e; exact r
      | succ i => exact h2 i v e
theorem pe_sumV {e : Expr} {td : TE} {p pos apos cpos : Pos} (hc : X.calm = true) (hg : Gl X "sum") (hm : X.mg "sum" = none) (he : PE X e td)
    (hbase : attributeBase e "values" X.env (eval e X.env) = eval e X.env := by rfl) (hline : (apos.endLine == cpos.line) = true := by rfl)
    (hs : starEach [.Call (.Attribute e "values" apos) [] [] cpos] X.env = (false, eval (.Call (.Attribute e "values" apos) [] [] cpos) X.env) :: starEach [] X.env := by rfl) :
    PE X (.Call (.Name "sum" p) [.Call (.Attribute e "values" apos) [] [] cpos] [] pos) (tSumDc X td) := by
  refine ⟨fun pins s σ H Q I h => ?_⟩
  refine wpAny_Call_Name_kw (ld_blt I hg hm PyProof.Rows.boot_sum ?_)
  refine PyProof.Rows.callWith_builtin1 (args_cons ?_ hs) hs rfl
  refine wpAny_Call_method (T := "dict") (id := "dict.values") hbase rfl hline F.plainAttrs_dict F.slot_dict_values F.type_dict_values (thn (he.run pins s σ H _ I h) fun u s1 ⟨x, H1, I1, rx, F0, d, kvs, ns, ex, hd, hi, q⟩ => ?_)
  subst ex
  obtain rfl : u = Value.ref d := rx
  obtain ⟨hsys, es, xs, ep, hr, rel, hp, hl, hz⟩ := dcRaw I1 hd
  obtain ⟨_, _, k3, k4⟩ := keys_vals rel hp
  have k5 := intsOf_some hi k4
  rw [k5] at k3
  obtain ⟨n1, n2⟩ := vals_ints k3
  refine ⟨Heap.DictRaw.typeIs hr, fun b eb => by cases eb; obtain ⟨o, ho, hx, _⟩ := hr; exact ⟨o, ho, hx.2.1⟩, ?_⟩
  have I2 : Inv X pins σ H1 { s1 with heap := s1.heap.push { cls := .type "dict_values", data := .fields #[.ref d] } } := I1.kept (t' := s1.toks) fun b ob q => Heap.get?_push_of_some _ q
  have fin : wpAny (model X.prog X.w) X.A (spliced (backTo pos (starEach [] X.env))) (fun vs s3 => wpAny (model X.prog X.w) X.A (call (.builtin "sum") (.ref s1.heap.objs.size :: vs)) (EP X pins σ Q) X.xe s3) X.xe { s1 with heap := s1.heap.push { cls := .type "dict_values", data := .fields #[.ref d] } } := by
    refine args_nil ?_
    have hlen : ns.length = xs.size := by rw [← n1]; simp
    refine sum_src (PySem.KdlSrc.rawValues (es := xs) (ep := ep) (d := d)) (I1.ok.hd hc) ⟨⟨_, Heap.get?_push_size _ rfl, rfl, rfl⟩, Heap.DictRaw.at hr fun o e => Heap.get?_push_of_some _ e⟩ (fun i => ns.getD i 0) (fun i v ⟨hi', ev⟩ => n2 i v (by subst ev; simp [hi'])) fun h' tk t' hk => ⟨.int ns.sum, H1, I2.kept (t' := tk) hk, ⟨t', ?_⟩, q⟩
    rw [← hlen, preSum_list]
  show wpAny _ _ (callWith cpos (.builtin "dict.values") [.ref d] [] []) _ X.xe s1
  exact method_meetsIn F.slot_dict_values F.entry_dict_values rfl (PySem.evalArgs_none ⟨rfl, Heap.DictRaw.typeIs hr, F.args_dict_values_1 _, _, meets_dict_values_raw d hsys, ⟨xs, ep, hr⟩, fin⟩)
def sumVG : D → Option D
  | .dict kvs => (intsOf (kvs.map (·.2))).map fun ns => .int ns.sum
  | _ => none
theorem dx_sumV {W : WX} {e : Expr} {pa : Bool} {ε : Se} {p pos apos cpos : Pos} (hc : X.calm = true) (hm : X.mg "sum" = none) (he : DX X W e pa ε) (hg : Gl X "sum" := by rfl)
    (hbase : attributeBase e "values" X.env (eval e X.env) = eval e X.env := by rfl) (hline : (apos.endLine == cpos.line) = true := by rfl)
    (hs : starEach [.Call (.Attribute e "values" apos) [] [] cpos] X.env = (false, eval (.Call (.Attribute e "values" apos) [] [] cpos) X.env) :: starEach [] X.env := by rfl) :
    DX X W (.Call (.Name "sum" p) [.Call (.Attribute e "values" apos) [] [] cpos] [] pos) (pa && true) (eUn sumVG ε) := by
  obtain ⟨ta, ha, qa⟩ := he
  refine ⟨_, pe_sumV hc hg hm ha hbase hline hs, fun C own σ H s Q R0 f => qa C own σ H s _ R0 (f.bind fun z x H1 _ R1 d1 s1 f1 => ?_)⟩
  obtain ⟨d, e, f3⟩ := f1.lift
  revert e d1
  generalize z.1 = a1
  intro d1 e
  unfold sumVG at e
  split at e
  · next kvs =>
    obtain ⟨ns, h1, h2⟩ := Option.map_eq_some_iff.mp e
    subst h2
    obtain ⟨a, ea, hd⟩ := den_dcAt d1
    exact ⟨_, a, kvs, ns, ea, hd, h1, f3.done R1 (Same.refl H1) rfl⟩
  · cases e
def tLRev (K : PySem.W.Frag) (te : TE) : TE := fun σ H Q => te σ H fun v H1 => ∃ (a : Addr) (xs : List V), v = .ref a ∧ Rd H1 a (.lst xs) ∧ ∀ p, H1 p = none → Q (.ref p) (upd H1 p (.lst xs.reverse))
theorem pe_lRev {e : Expr} {te : TE} {p p2 pos pos2 : Pos} (hc : X.calm = true) (hg : Gl X "list") (hm : X.mg "list" = none) (hg2 : Gl X "reversed") (hm2 : X.mg "reversed" = none) (he : PE X e te)
    (hs : starEach [e] X.env = (false, eval e X.env) :: starEach [] X.env := by rfl)
    (hs2 : starEach [.Call (.Name "reversed" p2) [e] [] pos2] X.env = (false, eval (.Call (.Name "reversed" p2) [e] [] pos2) X.env) :: starEach [] X.env := by rfl) :
    PE X (.Call (.Name "list" p) [.Call (.Name "reversed" p2) [e] [] pos2] [] pos) (tLRev X.K te) := by
  refine ⟨fun pins s σ H Q I h => ?_⟩
  refine Call_ (ld_blt I hg hm PyProof.Rows.boot_list (PyProof.Rows.callWith_type1 (args_cons (Call_ (ld_blt I hg2 hm2 PyProof.Rows.boot_reversed (PyProof.Rows.callWith_type1 (args_cons (thn (he.run pins s σ H _ I h) fun u s1 ⟨v, H1, I1, r1, q1⟩ => args_nil ?_) hs) hs rfl))) hs2) hs2 rfl))
  obtain ⟨a, xs, ev, hq, q⟩ := q1
  subst ev
  obtain rfl : u = Value.ref a := r1
  obtain ⟨its, rv, p', hz⟩ := I1.list (.inl hq)
  refine call_reversed_list p'.isList (args_nil ?_)
  have k0 : ∀ b o, s1.heap.get? b = some o → (s1.heap.push (revObj a ((its.toArray.size : Int) - 1))).get? b = some o := fun b o e => Heap.get?_push_of_some _ e
  have I2 : Inv X pins σ H1 { s1 with heap := s1.heap.push (revObj a ((its.toArray.size : Int) - 1)) } := I1.kept (t' := s1.toks) k0
  obtain ⟨f0, f1, f2, f3, f4, f5⟩ := I1.fpOk (H' := H1) (b := s1.heap.objs.size) (Nat.le_refl _) (I1.hok.fresh (Nat.le_refl _))
  have hl := p'.isList
  obtain ⟨ol, hol, _⟩ := id hl
  have hne : a ≠ s1.heap.objs.size := Nat.ne_of_lt (Heap.lt_size hol)
  have hn : its.toArray.size ≤ sizeLine := by rw [List.size_toArray, ← rv.length]; exact hz
  refine RvL.rv_call (s := { s1 with heap := s1.heap.push (revObj a ((its.toArray.size : Int) - 1)) }) (I1.ok.hd hc) ⟨_, Heap.get?_push_size _ rfl, rfl, rfl⟩ (hl.push _) hne hn fun h' tk acc c' hk hS hi => ?_
  have hpz : (s1.heap.push (revObj a ((its.toArray.size : Int) - 1))).objs.size = s1.heap.objs.size + 1 := Heap.size_push ..
  have hS : h'.get? (s1.heap.push (revObj a ((its.toArray.size : Int) - 1))).objs.size = some { cls := .type "list", dict := none, data := .seq acc c', slots := #[] } := hS
  refine ⟨.ref _, upd H1 (s1.heap.push (revObj a ((its.toArray.size : Int) - 1))).objs.size (.lst xs.reverse), I2.turnedNew (t' := tk) (ch := [s1.heap.objs.size]) (fun b o hb e => hk b o (fun z => hb (by simp [z])) e) (fun b hb => ?_) (Nat.le_refl _) ⟨by rw [List.length_reverse]; exact hz, acc.toList, c', RT.vals_rev rv hi, by rw [Array.toArray_toList]; exact hS⟩, rfl, q _ (I2.hok.fresh (Nat.le_refl _))⟩
  cases List.mem_singleton.mp hb
  exact ⟨f0, f1, f2, f3, f4, f5⟩
def revG : D → Option D
  | .list ds => some (.list ds.reverse)
  | _ => none
theorem DenL.reverse' {K : PySem.W.Frag} {w : World} {F : Hp} {ds : List D} {vs : List V} (h : DenL K w F ds vs) : DenL K w F ds.reverse vs.reverse := DenL.reverse h
theorem df_lRev {W : WX} {e : Expr} {pa : Bool} {ε : Se} {p p2 pos pos2 : Pos} (hc : X.calm = true) (hm : X.mg "list" = none) (hm2 : X.mg "reversed" = none) (he : DX X W e pa ε) (hg : Gl X "list" := by rfl) (hg2 : Gl X "reversed" := by rfl)
    (hs : starEach [e] X.env = (false, eval e X.env) :: starEach [] X.env := by rfl)
    (hs2 : starEach [.Call (.Name "reversed" p2) [e] [] pos2] X.env = (false, eval (.Call (.Name "reversed" p2) [e] [] pos2) X.env) :: starEach [] X.env := by rfl) :
    DF X W (.Call (.Name "list" p) [.Call (.Name "reversed" p2) [e] [] pos2] [] pos) (pa && true) (eUn revG ε) := by
  obtain ⟨ta, ha, qa⟩ := he
  refine ⟨_, pe_lRev hc hg hm hg2 hm2 ha hs hs2, fun C own σ H s Q R0 f => qa C own σ H s _ R0 (FinF.bind f fun z x H1 _ R1 d1 s1 f1 => ?_)⟩
  obtain ⟨d, e, f3⟩ := FinF.lift f1
  revert e d1
  generalize z.1 = a1
  intro d1 e
  unfold revG at e
  split at e
  · next ds =>
    cases e
    obtain ⟨a, xs, ea, h1, h2⟩ := d1
    exact ⟨a, xs, ea, rd_mono (Fz.le _ _) h1, fun q hq => f3.made R1 hq (same_new hq) upd_same ⟨xs.reverse, rfl, DenL.reverse h2⟩⟩
  · cases e
end
end DL
set_option maxRecDepth 100000
namespace DL
open PySem PySem.Spec PyProof.Rows L2

/-! ### displays of dicts -/
/-- a dict just made, the frame's own (fr = false) or locked -/
def dcF (fr : Bool) (o : Obj) (p : Addr) (es : List Ent) : HO := if fr then .frz o (dcO p es) else dcO p es
section
variable {X : Cx}
theorem empty_ok {h : Heap} (hb : sysModules < h.objs.size) : DcOk h.objs.size [] (h.push { cls := .type "dict", data := .dict #[] }) :=
  ⟨beq_eq_false_iff_ne.mpr (Ne.symm (Nat.ne_of_lt hb)), Nat.zero_le _, _, #[], 0, Heap.get?_push_size _ rfl, ⟨rfl, rfl, rfl⟩, rfl, .nil⟩
theorem dcF_ok {P : Program} {w : World} {H : Hp} {h : Heap} {a : Addr} {es : List Ent} {o : Obj} (fr : Bool) (c : DcOk a es h) (ho : h.get? a = some o) : ObjOk P w H h a (dcF fr o a es) := by
  cases fr with
  | true => exact ⟨ho, dc_ok c⟩
  | false => exact dc_ok c
def tDc0 (fr : Bool) : TE := fun _ H Q => ∀ p o, H p = none → Q (.ref p) (upd H p (dcF fr o p []))
theorem pe_dc0 {pos : Pos} (fr : Bool) : PE X (.Dict [] [] pos) (tDc0 fr) := ⟨fun pins s σ H Q I h =>
  wpAny_Dict_empty ⟨.ref s.heap.objs.size, _, I.laid (a := s.heap.objs.size) (o := dcF fr { cls := .type "dict", data := .dict #[] } s.heap.objs.size []) (t' := s.toks) (fun _ _ q => Heap.get?_push_of_some _ q) (Nat.le_refl _) (dcF_ok fr (empty_ok I.big) (Heap.get?_push_size _ rfl)), rfl, h _ _ (I.hok.fresh (Nat.le_refl _))⟩⟩
theorem dx_dc0 {W : WX} {pos : Pos} : DX X W (.Dict [] [] pos) true (eC (.dict [])) := by
  refine ⟨_, pe_dc0 true, fun C own σ H s Q r f p o hp => Fin.done f r (same_new hp) ⟨p, o, [], rfl, ?_, rfl⟩⟩
  rw [Fz.out (r.new hp)]
  exact upd_same
theorem df_dc0 {W : WX} {pos : Pos} : DF X W (.Dict [] [] pos) true (eC (.dict [])) :=
  ⟨_, pe_dc0 false, fun C own σ H s Q r f p o hp => FinF.made f r hp (same_new hp) upd_same ⟨[], rfl, rfl⟩⟩

abbrev DenV (K : PySem.W.Frag) (w : World) (F : Hp) : List (D × D) → List (V × V) → Prop := Paired fun (d : D × D) (v : V × V) => Den K w F d.1 v.1 ∧ Den K w F d.2 v.2
structure DPs (X : Cx) (W : WX) (pos : Pos) (keys : List (Option Expr)) (values : List Expr) (α : Sv → R (List (D × D) × Sv)) : Prop where
  ex : ∃ trs : List (TE × TE), PPs X pos keys values trs ∧ ∀ C own σ H s (Q : List (V × V) → Hp → Prop), Rep X C own σ H s → Fin (fun F (a : List (D × D)) (b : List (V × V)) => DenV X.K X.w F a b) X W true C own σ H s (α s) Q → tPairs trs σ H Q
def pNil : Sv → R (List (D × D) × Sv) := fun s => .ok ([], s)
def pCons (εk εv : Se) (α : Sv → R (List (D × D) × Sv)) : Sv → R (List (D × D) × Sv) := fun s => (εk s).bind fun k => (εv k.2).bind fun v => (α v.2).bind fun z => .ok ((k.1, v.1) :: z.1, z.2)
theorem dps_nil {W : WX} {pos : Pos} : DPs X W pos [] [] pNil := ⟨[], pps_nil, fun C own σ H s Q r f => Fin.done f r (Same.refl H) .nil⟩
theorem DenV.mono {K : PySem.W.Frag} {w : World} {F F' : Hp} (e : Same F F') : ∀ {a : List (D × D)} {b : List (V × V)}, DenV K w F a b → DenV K w F' a b
  | _, _, .nil => .nil
  | _, _, .cons r t => .cons ⟨Den.mono e _ _ r.1, Den.mono e _ _ r.2⟩ (DenV.mono e t)
theorem dps_cons {W : WX} {pos : Pos} {k v : Expr} {ks : List (Option Expr)} {vs : List Expr} {εk εv : Se} {α : Sv → R (List (D × D) × Sv)} (hk : DX X W k true εk) (hv : DX X W v true εv) (hr : DPs X W pos ks vs α) : DPs X W pos (some k :: ks) (v :: vs) (pCons εk εv α) := by
  obtain ⟨tk, hk, qk⟩ := hk
  obtain ⟨tv, hv, qv⟩ := hv
  obtain ⟨tr, hr, qr⟩ := hr
  refine ⟨_, pps_cons hk hv hr, fun C own σ H s Q R0 f => qk C own σ H s _ R0 (Fin.bind (p2 := true) f fun z x H1 _ R1 d1 s1 f1 => qv C own σ H1 z.2 _ R1 (Fin.bind (p2 := true) f1 fun y v H2 _ R2 d2 s2 f2 => qr C own σ H2 y.2 _ R2 (Fin.bind (p2 := true) f2 fun u ps H3 _ R3 d3 s3 f3 => ?_)))⟩
  exact Fin.done f3 R3 (Same.refl H3) (.cons ⟨Den.mono (s2.trans s3) _ _ d1, Den.mono s3 _ _ d2⟩ d3)
def mergeD (ps : List (D × D)) : List (D × D) := ps.foldl (fun acc q => setK acc q.1 q.2) []
theorem carries_den {K : PySem.W.Frag} {F : Hp} {P : Program} {w : World} : ∀ {kvs : List (D × D)} {ps : List (V × V)} {ws : List (Value × Value)}, DenV K w F kvs ps → VV ps ws → (∀ q ∈ kvs, (keyOf q.1).isSome = true) → ∃ rs, Carries (noneKind P w) ws rs ∧ EntD K w F kvs rs
  | _, _, _, .nil, r, _ => by cases r; exact ⟨[], True.intro, .nil⟩
  | q :: kvs, p :: ps, _, .cons h t, r, hk => by
    cases r with
    | @cons _ b _ bs r1 r2 =>
      obtain ⟨rs, c, e⟩ := carries_den (P := P) t r2 fun q hq => hk q (List.mem_cons_of_mem _ hq)
      obtain ⟨k, ek⟩ := Option.isSome_iff_exists.mp (hk q List.mem_cons_self)
      obtain ⟨b1, b2⟩ := b
      have e1 := keyOf_den ek h.1
      exact ⟨(k, b2) :: rs, ⟨nk_rel (by rw [← e1]; exact r1.1), rfl, c⟩, .cons ⟨ek, p.2, h.2, r1.2⟩ e⟩
theorem merge_ents {K : PySem.W.Frag} {w : World} {F : Hp} : ∀ {ps : List (D × D)} {rs : List (Option Key × Value)} {kvs : List (D × D)} {vs : List (Option Key × Value)}, EntD K w F ps rs → EntD K w F kvs vs → EntD K w F (ps.foldl (fun acc q => setK acc q.1 q.2) kvs) (merged vs rs)
  | _, _, _, _, .nil, r => r
  | q :: ps, (k, v) :: rs, kvs, vs, .cons ⟨r1, y, r2, r3⟩ t, r => show EntD K w F (ps.foldl (fun acc q => setK acc q.1 q.2) (setK kvs q.1 q.2)) (merged (stored vs k v) rs) from merge_ents t (setK_ents r r1 r2 r3)
theorem merge_len : ∀ (ps kvs : List (D × D)), (ps.foldl (fun acc q => setK acc q.1 q.2) kvs).length ≤ kvs.length + ps.length
  | [], kvs => by simp
  | q :: ps, kvs => by
    have h1 := merge_len ps (setK kvs q.1 q.2)
    have h2 := setK_length kvs q.1 q.2
    show (ps.foldl (fun acc q => setK acc q.1 q.2) (setK kvs q.1 q.2)).length ≤ _
    rw [List.length_cons]; omega
def keyed (ps : List (D × D)) : Bool := ps.all (fun q => (keyOf q.1).isSome) && decide (ps.length ≤ 15)
def tDcN (X : Cx) (fr : Bool) (trs : List (TE × TE)) : TE := fun σ H Q => ∀ p, H p = none → tPairs trs σ (upd H p (dcO p [])) fun ps H2 => H2 p = some (dcO p []) ∧ ∃ (F : Hp) (kvs : List (D × D)), DenV X.K X.w F kvs ps ∧ keyed kvs = true ∧ ∀ es o, DenP X.K X.w F (mergeD kvs) es → Q (.ref p) (upd H2 p (dcF fr o p es))
theorem pe_dcN {pos : Pos} {keys : List (Option Expr)} {values : List Expr} {trs : List (TE × TE)} (fr : Bool) (h : PPs X pos keys values trs) (hall : keys.all (·.isSome) = true) (hl : keys.length = values.length) (h0 : keys ≠ [])
    (h15 : keys.length ≤ 15) : PE X (.Dict keys values pos) (tDcN X fr trs) := by
  refine ⟨fun pins s σ H Q I q => ?_⟩
  have hn := I.hok.fresh (Nat.le_refl s.heap.objs.size)
  have I1 := I.laid (a := s.heap.objs.size) (o := dcO s.heap.objs.size []) (h' := s.heap.push { cls := .type "dict", data := .dict #[] }) (t' := s.toks) (fun _ _ q => Heap.get?_push_of_some _ q) (Nat.le_refl _) (dc_ok (empty_ok I.big))
  refine wpAny_Dict_walk (knd := noneKind X.prog X.w) hall hl h0 h15 (thn (h.run pins _ σ _ _ I1 (q _ hn)) fun ws s2 ⟨ps, H2, I2, rel, e, F, kvs, hd, hk, q2⟩ => ?_)
  obtain ⟨hk1, hk2⟩ := Bool.and_eq_true_iff.mp hk
  obtain ⟨rs, c, rk⟩ := carries_den (P := X.prog) hd rel fun q hq => List.all_eq_true.mp hk1 q hq
  have c0 : DcOk s.heap.objs.size [] s2.heap := (I2.hok _ _ e).1
  obtain ⟨vs0, dd, r0⟩ := to_dict (P := X.prog) (K := X.K) (w := X.w) (F := F) (kvs := []) rfl rfl c0
  cases r0
  refine ⟨rs, c, dd, fun h' dd' hs => ?_⟩
  have hz : (mergeD kvs).length ≤ sizeLine := by
    have h1 := merge_len kvs []
    have h2 := of_decide_eq_true hk2
    rw [List.length_nil] at h1
    rw [sizeLine_eq]
    unfold mergeD
    omega
  obtain ⟨es, c1, c2⟩ := from_dict (merge_ents rk .nil) hz c0.1 dd'
  obtain ⟨_, _, o, _, _, ho, _⟩ := id c1
  exact ⟨.ref s.heap.objs.size, _, d_write I2 (by rw [e]; exact True.intro) hs ⟨o, ho⟩ (dcF_ok fr c1 ho), rfl, q2 es o c2⟩
def eDc (α : Sv → R (List (D × D) × Sv)) : Se := fun s => (α s).bind fun q => if keyed q.1 then .ok (.dict (mergeD q.1), q.2) else .bad
theorem R.bind_ok {α β : Type} {r : R α} {k : α → R β} {b : β} (h : r.bind k = .ok b) : ∃ a, r = .ok a ∧ k a = .ok b := by
  cases r with
  | ok a => exact ⟨a, rfl, h⟩
  | exn c x s => cases h
  | bad => cases h
section
variable {W : WX} {pos : Pos} {keys : List (Option Expr)} {values : List Expr} {α : Sv → R (List (D × D) × Sv)}
theorem dx_dcN (h : DPs X W pos keys values α) (hall : keys.all (·.isSome) = true := by rfl) (hl : keys.length = values.length := by rfl) (h0 : keys ≠ [] := by exact fun z => nomatch z) (h15 : keys.length ≤ 15 := by decide) : DX X W (.Dict keys values pos) true (eDc α) := by
  obtain ⟨tr, h, q⟩ := h
  refine ⟨_, pe_dcN true h hall hl h0 h15, fun C own σ H s Q R0 f p hp => ?_⟩
  have R1 : Rep X C (p :: own) σ (upd H p (dcO p [])) s := R0.fresh hp (same_new hp) upd_same
  refine q C (p :: own) σ _ s _ R1 ?_
  unfold eDc at f
  cases hz : α s with
  | bad => rw [hz] at f; exact f.elim
  | exn c x s' =>
    rw [hz] at f
    exact f
  | ok z =>
    rw [hz] at f
    have f : Fin (rhoD X) X W true C own σ H s (if keyed z.1 then .ok (.dict (mergeD z.1), z.2) else .bad) Q := f
    obtain ⟨hk, f⟩ := fin_if f
    intro ps H2 hpu hs hr hd
    obtain ⟨e1, e2⟩ := hpu rfl
    have hp2 : H2 p = some (dcO p []) := e1 _ _ upd_same
    refine ⟨hp2, Fz ((p :: own) ++ C.B) H2, z.1, hd, hk, fun es o he => ?_⟩
    have e3 : Same H (upd H2 p (dcF true o p es)) := fun b u hb => by
      have ne : b ≠ p := fun z => by rw [z, hp] at hb; cases hb
      rw [upd_ne ne]
      exact e1 b u (by rw [upd_ne ne]; exact hb)
    have nO := R0.new hp
    have e4 : Same (Fz ((p :: own) ++ C.B) H2) (Fz (own ++ C.B) (upd H2 p (dcF true o p es))) := Fz.mono (fun b hb => List.mem_cons_of_mem _ hb) fun b u hb e => by
      rw [upd_ne (fun z => hb (by rw [z]; exact List.mem_cons_self))]
      exact e
    rw [e2] at f
    refine Fin.done f R0 e3 ⟨p, o, es, rfl, ?_, DenP.mono e4 _ _ he⟩
    rw [Fz.out nO]
    exact upd_same
theorem df_dcN (h : DPs X W pos keys values α) (hall : keys.all (·.isSome) = true := by rfl) (hl : keys.length = values.length := by rfl) (h0 : keys ≠ [] := by exact fun z => nomatch z) (h15 : keys.length ≤ 15 := by decide) : DF X W (.Dict keys values pos) true (eDc α) := by
  obtain ⟨tr, h, q⟩ := h
  refine ⟨_, pe_dcN false h hall hl h0 h15, fun C own σ H s Q R0 f p hp => ?_⟩
  have R1 : Rep X C (p :: own) σ (upd H p (dcO p [])) s := R0.fresh hp (same_new hp) upd_same
  refine q C (p :: own) σ _ s _ R1 ?_
  unfold eDc at f
  cases hz : α s with
  | bad => rw [hz] at f; exact f.elim
  | exn c x s' =>
    rw [hz] at f
    exact f
  | ok z =>
    rw [hz] at f
    have f : FinF X W true C own σ H s (if keyed z.1 then .ok (.dict (mergeD z.1), z.2) else .bad) Q := f
    by_cases hk : keyed z.1 = true
    · rw [if_pos hk] at f
      intro ps H2 hpu hs hr hd
      obtain ⟨e1, e2⟩ := hpu rfl
      have hp2 : H2 p = some (dcO p []) := e1 _ _ upd_same
      refine ⟨hp2, Fz ((p :: own) ++ C.B) H2, z.1, hd, hk, fun es o he => ?_⟩
      have e3 : Same H (upd H2 p (dcF false o p es)) := fun b u hb => by
        have ne : b ≠ p := fun z => by rw [z, hp] at hb; cases hb
        rw [upd_ne ne]
        exact e1 b u (by rw [upd_ne ne]; exact hb)
      have nO := R0.new hp
      have e4 : Same (Fz ((p :: own) ++ C.B) H2) (Fz ((p :: own) ++ C.B) (upd H2 p (dcF false o p es))) := Fz.mono (fun b hb => hb) fun b u hb e => by
        rw [upd_ne (fun z => hb (by rw [z]; exact List.mem_cons_self))]
        exact e
      rw [e2] at f
      have m : Same (Fz (own ++ C.B) H) (Fz ((p :: own) ++ C.B) (upd H2 p (dcF false o p es))) := fun b u h => by
        obtain ⟨h1, h2⟩ := Fz.get h
        have ne : b ≠ p := fun z => by rw [z, hp] at h2; cases h2
        rw [Fz.out (by intro z; rcases List.mem_cons.mp z with z | z; exact ne z; exact h1 z)]
        exact e3 b u h2
      exact f p (dcO p es) _ (fun _ => ⟨e3, rfl⟩) m (R0.fresh hp e3 upd_same) (R0.noslot hp) hp nO upd_same ⟨es, rfl, DenP.mono e4 _ _ he⟩
    · rw [if_neg hk] at f
      exact f.elim
end
end
end DL
set_option maxRecDepth 100000
namespace DL
open PySem PySem.Spec PyProof.Rows L2

/-! ### name[k] = v, the name's thing the frame's own -/
def SetD (X : Cx) (g : D → D → D → Option D) : Prop := ∃ t, PSet X t ∧ ∀ (O : List Addr) (H : Hp) (a : Addr) (u : HO) (d0 k v d' : D) (y z : V) (Q : Hp → Prop), Known O H → a ∈ O → H a = some u → Cont X.K X.w (Fz O H) a u d0 → Den X.K X.w (Fz O H) k y → Den X.K X.w (Fz O H) v z →
  g d0 k v = some d' → (∀ u', Cont X.K X.w (Fz O H) a u' d' → Q (upd H a u')) → t (.ref a) y z H Q
def sPut (i : Nat) (g : D → D → D → Option D) (εv εk : Se) : Ss := fun s => (εv s).bind fun q => R.opt (ownAt q.2 i) fun _ => (εk q.2).bind fun z => R.opt (ownAt z.2 i) fun d0 => R.opt (g d0 z.1 q.1) fun d' => .ok (.nx (setOwn z.2 i d'))
theorem FinS.bind2 {α β : Type} {ρ : Hp → α → β → Prop} {X : Cx} {W : WX} {p : Bool} {C : Cn} {own : List Addr} {σ : L2.St} {H : Hp} {s : Sv} {r : R (α × Sv)} {k : α × Sv → R Out} {D : Ends} {Q1 : β → Hp → Prop}
    (f : FinS X W C (r.bind k) D) (h : ∀ z v H', r = .ok z → Rep X C own σ H' z.2 → ρ (Fz (own ++ C.B) H') z.1 v → Same (Fz (own ++ C.B) H) (Fz (own ++ C.B) H') → FinS X W C (k z) D → Q1 v H') : Fin ρ X W p C own σ H s r Q1 := by
  cases r with
  | ok z => exact fun v H' hp hs hr hd => h z v H' rfl hr hd hs f
  | exn c x s' => exact fun own' H' cls dd hx hr => f own' σ H' cls dd hx hr
  | bad => exact f
section
variable {X : Cx} {W : WX}
theorem d1_put (i : Nat) {y : Str} {py pos' pos : Pos} {e k : Expr} {pe pk : Bool} {εv εk : Se} {g : D → D → D → Option D} (hg : SetD X g) (he : DX X W e pe εv) (hk : DX X W k pk εk)
    (hN : X.N[i]? = some y := by rfl) (hv : Vis X.env.scope y := by first | exact Or.inl rfl | exact Or.inr (Or.inl rfl) | exact Or.inr (Or.inr rfl)) (hd : (y == ("__debug__" : Str)) = false := by decide)
    (hcd : (y == ("__classdict__" : Str)) = false := by decide)
    (ha : ∀ v, assign (.Subscript (.Name y py) k pos') X.env v = (do
      let ov ← holding [v] (eval (.Name y py) X.env)
      let iv ← holding [v, ov] (eval k X.env)
      standAt pos'
      holding [v, ov, iv] (setItem ov iv v)
      release [v, ov, iv] []) := by intro _; rfl)
    (hs : swapsWithSole [.Subscript (.Name y py) k pos'] e pos.line X.env = pure false := by rfl) (hw : swappedStores [.Subscript (.Name y py) k pos'] e X.env = pure none := by rfl)
    (h1 : (assignEach [.Subscript (.Name y py) k pos'] X.env).map (·.2) = [assign (.Subscript (.Name y py) k pos') X.env] := by rfl) : D1 X W (.Assign [.Subscript (.Name y py) k pos'] e pos) (sPut i g εv εk) := by
  obtain ⟨t, ht, hg⟩ := hg
  obtain ⟨tv, hev, qv⟩ := he
  obtain ⟨tk, hek, qk⟩ := hk
  refine ⟨_, ps_asg hev (pg_sub (pe_var hN hv hd hcd) hek ht ha) hs hw h1, fun C own σ H s D R0 f => qv C own σ H s _ R0 (FinS.bind f fun q x H1 _ R1 d1 s1 f1 => ?_)⟩
  obtain ⟨d0, h0, f1⟩ := FinS.opt f1
  obtain ⟨a, u, g1, g2, g3, g4⟩ := R1.own1 (ownAt_some h0)
  refine ⟨.ref a, g1, qk C own σ H1 q.2 _ R1 (FinS.bind2 f1 fun z w H2 _ R2 d2 s2 f2 => ?_)⟩
  obtain ⟨d2', h2, f2⟩ := FinS.opt f2
  obtain ⟨d', hd', f2⟩ := FinS.opt f2
  obtain ⟨a', u2, k1, k2, k3, k4⟩ := R2.own1 (ownAt_some h2)
  rw [g1] at k1
  cases k1
  exact hg _ H2 a u2 d2' z.1 q.1 d' w x _ R2.kn k2 k3 k4 d2 (Den.mono s2 _ _ d1) hd' fun u' hc => f2 _ σ _ (R2.chg h2 g1 hc)
def putL (d0 k v : D) : Option D := match d0, k with
  | .list ds, .int i => (ixN ds.length i).map fun j => .list (ds.set j v)
  | _, _ => none
def putK (d0 k v : D) : Option D := match d0 with
  | .dict kvs => if good kvs && (keyOf k).isSome then (if kvs.length < 100000 then some (.dict (setK kvs k v)) else none) else none
  | _ => none
theorem DenL.set' {K : PySem.W.Frag} {w : World} {F : Hp} {ds : List DL.D} {vs : List V} {j : Nat} {d : DL.D} {v : V} (h : DenL K w F ds vs) (hd : Den K w F d v) : DenL K w F (ds.set j d) (vs.set j v) := DenL.set j h hd
theorem set_L : SetD X putL := by
  refine ⟨_, set_list, fun O H a u d0 k v d' y z Q hk hO hu hc h1 h2 e q => ?_⟩
  unfold putL at e
  split at e
  · next ds i =>
    obtain ⟨vs, rfl, hx⟩ := hc
    obtain ⟨j, h3, h4⟩ := Option.map_eq_some_iff.mp e
    subst h4
    exact ⟨a, vs, i, j, rfl, h1, hu, by rw [hx.length]; exact h3, q _ ⟨_, rfl, DenL.set' hx h2⟩⟩
  · cases e
def rSetDc (X : Cx) : TSet := fun o i v H Q => ∃ (F : Hp) (a : Addr) (es : List Ent) (kvs : List (D × D)) (kd dv : DL.D) (k : Option Key), o = .ref a ∧ i = keyV k ∧ keyOf kd = some k ∧ H a = some (dcO a es) ∧ DenP X.K X.w F kvs es ∧ good kvs = true ∧ kvs.length < 100000 ∧ Den X.K X.w F dv v ∧
  ∀ es', DenP X.K X.w F (setK kvs kd dv) es' → Q (upd H a (dcO a es'))
theorem set_dc : PSet X (rSetDc X) := by
  intro pins s σ H o i v ov iv u Q I ro ri rv h
  obtain ⟨F, a, es, kvs, kd, dv, k, rfl, rfl, ek, hH, hp, hg, hz, hd, q⟩ := h
  cases ro
  have c : DcOk a es s.heap := (I.hok a _ hH).1
  obtain ⟨vs, dd, r⟩ := to_dict (P := X.prog) hg hp c
  have hl := Paired.length r
  refine wpAny_setItem_pairs (nk_rel ri) dd (fun h' dd' hs => ?_) (by rw [← hl]; exact sz100 (Nat.le_of_lt hz))
  have hz2 : (setK kvs kd dv).length ≤ sizeLine := by
    have := setK_length kvs kd dv
    exact sz100 (by omega)
  obtain ⟨es', c1, c2⟩ := from_dict (setK_ents r ek hd rv) hz2 c.1 dd'
  obtain ⟨_, _, ob, _, _, ho, _⟩ := id c1
  exact ⟨_, d_write I (by rw [hH]; exact True.intro) hs ⟨ob, ho⟩ (dc_ok c1), q es' c2⟩
theorem set_K : SetD X putK := by
  refine ⟨_, set_dc, fun O H a u d0 k v d' y z Q hk hO hu hc h1 h2 e q => ?_⟩
  unfold putK at e
  split at e
  · next kvs =>
    obtain ⟨es, rfl, hx⟩ := hc
    obtain ⟨g1, ⟨k', ek⟩, e⟩ := good_key e
    by_cases hz : kvs.length < 100000
    · rw [if_pos hz] at e
      cases e
      exact ⟨_, a, es, kvs, k, v, k', rfl, keyOf_den ek h1, ek, hu, hx, g1, hz, h2, fun es' he => q _ ⟨es', rfl, he⟩⟩
    · rw [if_neg hz] at e; cases e
  · cases e
end
end DL
set_option maxRecDepth 100000
namespace DL
open PySem PySem.Spec PyProof.Rows L2

/-! ### repr -/
section
variable {prog : Program} {w : World} {h₀ : Heap}
/-- from the text shown to the call repr(v) -/
theorem repr_of_obj {M : Model} {Γ : PySem.Ctx} {v : Value} {p : Pos} {s : Shared} {Q : Value → Pos → Shared → Prop} {E : Value → Pos → Shared → Prop} (h : Sem.wp M Γ (pyReprObj v) Q E p s) :
    Sem.wp M Γ (Builtin.«repr» ⟨[v], []⟩) (fun r p s => ∃ u, r = .done (.ret u) ∧ Q u p s) E p s := by
  unfold pyReprObj at h
  unfold Builtin.«repr»
  show Sem.wp M Γ (pure v >>= _) _ _ _ _
  simp only [Sem.wp_bind', Sem.wp_pure'] at h ⊢
  have tail : ∀ (r : Value) (p : Pos) (s : Shared), Sem.wp M Γ (do
        let b ← isInstance r (Value.type "str")
        if b = true then pure r else do
          let n ← typeNameOf r
          raiseErrorMade "TypeError" (toString "__repr__ returned non-string (type " ++ toString n ++ toString ")")) Q E p s →
      Sem.wp M Γ (do
        let b ← isInstance r (Value.type "str")
        if b = true then ret r else do
          rule "repr.not-str"
          let n ← typeNameOf r
          raiseErrorMade "TypeError" (toString "__repr__ returned non-string (type " ++ toString n ++ toString ")")) (fun r p s => ∃ u, r = .done (.ret u) ∧ Q u p s) E p s := by
    intro r p s h
    simp only [Sem.wp_bind'] at h ⊢
    refine Sem.wp_mono _ _ _ (fun b p1 s1 h1 => ?_) (fun _ _ _ e => e) _ _ h
    cases b with
    | true =>
      rw [if_pos rfl] at h1 ⊢
      exact ⟨r, rfl, h1⟩
    | false =>
      rw [if_neg Bool.false_ne_true] at h1 ⊢
      simp only [Sem.wp_bind', Sem.wp_cmd_rule] at h1 ⊢
      refine Sem.wp_mono _ _ _ (fun n p2 s2 h2 => ?_) (fun _ _ _ e => e) _ _ h1
      unfold raiseErrorMade at h2 ⊢
      simp only [Sem.wp_bind'] at h2 ⊢
      refine Sem.wp_mono _ _ _ (fun x p3 s3 h3 => Sem.wp_mono _ _ _ (fun y p4 s4 h4 => ?_) (fun _ _ _ e => e) _ _ h3) (fun _ _ _ e => e) _ _ h2
      unfold raiseNew at h4 ⊢
      simp only [Sem.wp_bind'] at h4 ⊢
      refine Sem.wp_mono _ _ _ (fun o p5 s5 h5 => ?_) (fun _ _ _ e => e) _ _ h4
      split at h5
      · next a h =>
        by_cases c : (h != Value.ref a) = true
        · rw [if_pos c] at h5 ⊢
          simp only [Sem.wp_bind', Sem.wp_throw] at h5 ⊢
          exact h5
        · rw [if_neg c] at h5 ⊢
          simp only [Sem.wp_throw] at h5 ⊢
          exact h5
      · next hne =>
        simpa only [Sem.wp_throw] using h5
  refine Sem.wp_mono _ _ _ (fun _ p1 s1 h1 => Sem.wp_mono _ _ _ (fun x p2 s2 h2 => ?_) (fun _ _ _ e => e) _ _ h1) (fun _ _ _ e => e) _ _ h
  have tail2 : ∀ (p : Pos) (s : Shared), Sem.wp M Γ (do
      let __do_lift ← callSpecialIfBound? v (Str.ofString "__repr__")
      match __do_lift with
        | some r => do
          let b ← isInstance r (Value.type "str")
          if b = true then pure r else do
            let n ← typeNameOf r
            raiseErrorMade "TypeError" (toString "__repr__ returned non-string (type " ++ toString n ++ toString ")")
        | none => unsupported "repr:special-get-raises") Q E p s →
      Sem.wp M Γ (do
        let __do_lift ← callSpecialIfBound? v (Str.ofString "__repr__")
        match __do_lift with
          | some r => do
            let b ← isInstance r (Value.type "str")
            if b = true then ret r else do
              rule "repr.not-str"
              let n ← typeNameOf r
              raiseErrorMade "TypeError" (toString "__repr__ returned non-string (type " ++ toString n ++ toString ")")
          | x => unsupported "repr:special-get-raises") (fun r p s => ∃ u, r = .done (.ret u) ∧ Q u p s) E p s := by
    intro p s h
    simp only [Sem.wp_bind'] at h ⊢
    refine Sem.wp_mono _ _ _ (fun o p1 s1 h1 => ?_) (fun _ _ _ e => e) _ _ h
    cases o with
    | some r => simpa only [Sem.wp_bind'] using tail r p1 s1 (by simpa only [Sem.wp_bind'] using h1)
    | none => exact h1
  by_cases c : x.isNone = true
  · rw [if_pos c] at h2 ⊢
    exact h2
  · rw [if_neg c] at h2 ⊢
    exact tail2 _ _ h2
theorem obj_reads : ∀ {v : Value} {d : D} {as : List Addr}, Reads h₀ v d as → d.showable = true → (d.hasDict = true → sysModules ∉ as) → d.shown.length ≤ sizeLine → ∀ {A : Around} {E : Value → Shared → Prop} {s : Shared} {Q : Value → Shared → Prop},
    A.guards = some [] → A.units + d.depth < cLine → (∀ b o, h₀.get? b = some o → s.heap.get? b = some o) →
    (∀ h' tk u, (∀ b o, s.heap.get? b = some o → h'.get? b = some o) → Q (.str d.shown u) { s with heap := h', toks := tk }) → wpAny (model prog w) A (pyReprObj v) Q E s
  | _, _, _, .none, _, _, _, A, E, s, Q, _, _, _, q => by
    simp only [PyData.shown] at q
    exact pyReprObj_none (q s.heap _ _ fun _ _ e => e)
  | _, _, _, .bool b, _, _, _, A, E, s, Q, _, _, _, q => by
    simp only [PyData.shown] at q
    exact pyReprObj_bool (q s.heap _ _ fun _ _ e => e)
  | _, _, _, .int i t, hs, _, _, A, E, s, Q, _, _, _, q => by
    simp only [PyData.shown] at q
    exact pyReprObj_int (by simpa [PyData.showable] using hs) (q s.heap _ _ fun _ _ e => e)
  | _, _, _, .str x t, _, _, hz, A, E, s, Q, _, _, _, q => by
    simp only [PyData.shown] at q
    exact pyReprObj_str (q s.heap _ _ fun _ _ e => e) (by simpa only [PyData.shown] using hz)
  | _, _, _, .list (a := a) (vs := vs) (xs := xs) h1 h2 h3 h4, hs, hsm, hz, A, E, s, Q, hg, hu, hk0, q => by
    simp only [PyData.shown] at hz q
    simp only [PyData.depth] at hu
    obtain ⟨bs, hb, hk⟩ := ReprAllK.of_readsAll (prog := prog) (w := w) h4 (by simpa [PyData.showable] using hs) (fun hx hm => hsm (by simpa [PyData.hasDict] using hx) (List.mem_cons_of_mem _ hm)) fun t ht => Nat.le_trans (listText_mem_le ht) hz
    have off : a ∉ bs := not_mem_of_deeper (Reads.list h1 h2 h3 h4) (by simp only [PyData.depth]; omega) hb
    rcases vs with ⟨_ | ⟨x, l⟩⟩
    · cases (show ReadsAll h₀ [] xs _ from h4)
      simp only [PyData.shownAll, listText_nil] at q
      exact wpAny_pyReprObj_list_empty ⟨_, hk0 _ _ h1, h2⟩ (by omega) (hk0 _ _ h1) h3 (q s.heap _ _ fun _ _ e => e)
    · exact wpAny_pyReprObj_listK h1 h2 h3 off (by simpa using hk.length_eq) (fun i y e => hk.item i y (by simpa using e)) hg (fun b _ => Clear.nil b) (by omega) hk0 (fun h' u tk k => q h' tk u k) hz
  | _, _, _, .tuple (a := a) (xs := xs) h1 h2 h3 h4, hs, hsm, hz, A, E, s, Q, hg, hu, hk0, q => by
    simp only [PyData.shown] at hz q
    simp only [PyData.depth] at hu
    obtain ⟨bs, hb, hk⟩ := ReprAllK.of_readsAll (prog := prog) (w := w) h4 (by simpa [PyData.showable] using hs) (fun hx => hsm (by simpa [PyData.hasDict] using hx)) fun t ht => Nat.le_trans (tupleText_mem_le ht) hz
    have off : a ∉ bs := not_mem_of_deeper (Reads.tuple h1 h2 h3 h4) (by simp only [PyData.depth]; omega) hb
    exact wpAny_pyReprObj_tupleK h1 h2 h3 off hk hg (fun b _ => Clear.nil b) (by omega) hk0 (fun h' u tk k => q h' tk u k) hz
  | _, _, _, .dict (a := a) (es := es) (kvs := kvs) (as := as₁) (bs := bs₁) h1 h2 h3 h4 h5, hs, hsm, hz, A, E, s, Q, hg, hu, hk0, q => by
    have no := hsm (by simp only [PyData.hasDict])
    simp only [PyData.depth] at hu
    simp only [PyData.shown] at hz q
    obtain ⟨s1, s2⟩ := PyData.showableKv_split kvs (by simpa [PyData.showable] using hs)
    have fit : ∀ p ∈ PyData.shownKv kvs, p.length ≤ sizeLine := fun p hp => Nat.le_trans (dictText_mem_le hp) hz
    obtain ⟨b1, hb1, k1⟩ := ReprAllK.of_readsAll (prog := prog) (w := w) h4 s1 (fun _ hm => no (List.mem_cons_of_mem _ (List.mem_append_left _ hm))) fun t ht => let ⟨p, hp, hl⟩ := PyData.shownKv_key_le kvs t ht; Nat.le_trans hl (fit p hp)
    obtain ⟨b2, hb2, k2⟩ := ReprAllK.of_readsAll (prog := prog) (w := w) h5 s2 (fun _ hm => no (List.mem_cons_of_mem _ (List.mem_append_right _ hm))) fun t ht => let ⟨p, hp, hl⟩ := PyData.shownKv_val_le kvs t ht; Nat.le_trans hl (fit p hp)
    have off : a ∉ b1 ++ b2 := not_mem_of_deeper (Reads.dict h1 h2 h3 h4 h5) (n := PyData.depthKv kvs) (by simp only [PyData.depth]; omega) ((hb1.mono (PyData.depthAll_keys_le kvs)).append (hb2.mono (PyData.depthAll_vals_le kvs)))
    have two := ReprEntriesK.of_two es.toList _ _ (k1.more_le (fun b hb => List.mem_append_left b2 hb) (PyData.depthAll_keys_le kvs)) (k2.more_le (fun b hb => List.mem_append_right b1 hb) (PyData.depthAll_vals_le kvs))
    rw [PyData.shownKv_eq] at hz q
    exact wpAny_pyReprObj_dictK h1 h2 h3 (beq_eq_false_iff_ne.mpr fun e => no (e ▸ List.mem_cons_self)) off two hg (fun b _ => Clear.nil b) (by omega) hk0 (fun h' u tk k => q h' tk u k) hz
/-- what stands for d is shown as d's text -/
theorem call_repr_reads {v : Value} {d : D} {as : List Addr} (r : Reads h₀ v d as) (hs : d.showable = true) (hsm : d.hasDict = true → sysModules ∉ as) {A : Around} {E : Value → Shared → Prop} {s : Shared} {Q : Value → Shared → Prop}
    (hg : A.guards = some []) (hu : A.units + 1 + d.depth < cLine) (hk0 : ∀ b o, h₀.get? b = some o → s.heap.get? b = some o)
    (hQ : ∀ h' tk u, (∀ b o, s.heap.get? b = some o → h'.get? b = some o) → Q (.str d.shown u) { s with heap := h', toks := tk }) (hsz : d.shown.length ≤ sizeLine) :
    wpAny (model prog w) A (call (.builtin "repr") [v]) Q E s := by
  refine Calls.call_function_entry F.kind_repr F.plain_repr F.entry_repr (F.args_repr1 _) fun Γ p hΓ => ?_
  have h := obj_reads r hs hsm hsz (prog := prog) (w := w) (A := A.in1) (E := E) (s := s) (Q := Q) hg (by show A.units + 1 + d.depth < cLine; exact hu) hk0 hQ Γ p hΓ
  exact repr_of_obj h
end
/-! data whose every changeable thing is tracked -/
section
variable {X : Cx} {pins : List (Addr × Obj)} {σ : L2.St} {H : Hp} {s : Shared}
mutual
def noL : D → Bool
  | .list _ => false
  | .tuple ds => noLL ds
  | .dict kvs => noLP kvs
  | _ => true
def noLL : List D → Bool
  | [] => true
  | d :: ds => noL d && noLL ds
def noLP : List (D × D) → Bool
  | [] => true
  | p :: ps => noLQ p && noLP ps
def noLQ : D × D → Bool
  | (k, d) => noL k && noL d
end
abbrev Trk (b : Bool) (as : List Addr) : Prop := b = true → sysModules ∉ as
theorem trk_app {b c : Bool} {as bs : List Addr} (h : Trk b as) (k : Trk c bs) : Trk (b && c) (as ++ bs) := fun e ha => by
  rw [Bool.and_eq_true] at e
  exact (List.mem_append.mp ha).elim (h e.1) (k e.2)
mutual
theorem Den.readsT (I : Inv X pins σ H s) : ∀ (d : D) (v : V) (u : Value), Den X.K X.w H d v → RelV v u → ∃ as, Reads s.heap u d as ∧ Trk (noL d) as
  | .none, v, u, h, r => by cases (show v = .non from h); cases r; exact ⟨_, .none, fun _ h => by simp at h⟩
  | .bool b, v, u, h, r => by cases (show v = .bl b from h); cases r; exact ⟨_, .bool b, fun _ h => by simp at h⟩
  | .int i, v, u, h, r => by cases (show v = .int i from h); obtain ⟨t, rfl⟩ := r; exact ⟨_, .int i t, fun _ h => by simp at h⟩
  | .str x, v, u, h, r => by cases (show v = .str x from h); obtain ⟨t, rfl⟩ := r; exact ⟨_, .str x t, fun _ h => by simp at h⟩
  | .list ds, v, u, ⟨a, vs, e, hs, hd⟩, r => by
    subst e
    cases r
    obtain ⟨its, rv, ⟨o, n, ho, hc, _, ht⟩, _⟩ := I.list (.inl hs)
    obtain ⟨as, hr, ht'⟩ := DenL.readsT I ds vs its hd rv
    exact ⟨_, .list ho hc ht hr, fun e => nomatch (show false = true from e)⟩
  | .tuple ds, v, u, ⟨a, vs, e, hs, hd⟩, r => by
    subst e
    cases r
    obtain ⟨its, rv, ⟨o, ho, hc, n, ht⟩, _⟩ := I.tuple hs.seq
    obtain ⟨as, hr, ht'⟩ := DenL.readsT I ds vs its hd rv
    exact ⟨_, .tuple ho hc ht hr, ht'⟩
  | .dict kvs, v, u, ⟨a, o, es, e, hs, hd⟩, r => by
    subst e
    cases r
    obtain ⟨_, ⟨lo, _, ob, xs, ep, ho, hx, hdat, rel⟩, _⟩ := I.hok a _ hs
    obtain ⟨r1, r2⟩ := paired_keys rel
    obtain ⟨as, bs, q1, q2, q3, q4⟩ := DenP.readsT I kvs es _ _ hd r1 r2
    refine ⟨_, .dict ho hx.1 hdat q1 q2, fun e hb => ?_⟩
    have e : noLP kvs = true := e
    rcases List.mem_cons.mp hb with e' | hb
    · rw [← e'] at lo; exact absurd lo (by decide)
    · exact (List.mem_append.mp hb).elim (q3 e) (q4 e)
theorem DenL.readsT (I : Inv X pins σ H s) : ∀ (ds : List D) (vs : List V) (us : List Value), DenL X.K X.w H ds vs → Vals vs us → ∃ as, ReadsAll s.heap us ds as ∧ Trk (noLL ds) as
  | [], vs, us, h, r => by cases (show vs = [] from h); cases r; exact ⟨_, .nil, fun _ h => by simp at h⟩
  | d :: ds, vs, us, ⟨v, t, e, h1, h2⟩, r => by
    subst e
    cases r with
    | cons r1 r2 =>
      obtain ⟨as, q1, t1⟩ := Den.readsT I d _ _ h1 r1
      obtain ⟨bs, q2, t2⟩ := DenL.readsT I ds _ _ h2 r2
      exact ⟨_, .cons q1 q2, trk_app t1 t2⟩
theorem DenP.readsT (I : Inv X pins σ H s) : ∀ (ds : List (D × D)) (es : List Ent) (ks vs : List Value), DenP X.K X.w H ds es → Vals (es.map (·.2.1)) ks → Vals (es.map (·.2.2)) vs → ∃ as bs, ReadsAll s.heap ks (ds.map (·.1)) as ∧ ReadsAll s.heap vs (ds.map (·.2)) bs ∧ Trk (noLP ds) as ∧ Trk (noLP ds) bs
  | [], es, ks, vs, h, r1, r2 => by cases (show es = [] from h); cases r1; cases r2; exact ⟨_, _, .nil, .nil, fun _ h => by simp at h, fun _ h => by simp at h⟩
  | p :: ds, es, ks, vs, ⟨e, t, h0, h1, h2⟩, r1, r2 => by
    subst h0
    cases r1 with
    | cons r1 r1' =>
      cases r2 with
      | cons r2 r2' =>
        obtain ⟨as, bs, q1, q2, t1, t2⟩ := DenP.readsT I ds _ _ _ h2 r1' r2'
        obtain ⟨as', bs', q3, q4, t3, t4⟩ := DenQ.readsT I p e _ _ h1 r1 r2
        exact ⟨_, _, .cons q3 q1, .cons q4 q2, trk_app t3 t1, trk_app t4 t2⟩
theorem DenQ.readsT (I : Inv X pins σ H s) : ∀ (p : D × D) (e : Ent) (k v : Value), DenQ X.K X.w H p e → RelV e.2.1 k → RelV e.2.2 v → ∃ as bs, Reads s.heap k p.1 as ∧ Reads s.heap v p.2 bs ∧ Trk (noLQ p) as ∧ Trk (noLQ p) bs
  | (k, d), e, ku, vu, ⟨_, h2, h3⟩, r1, r2 => by
    obtain ⟨as, q1, t1⟩ := Den.readsT I k _ _ h2 r1
    obtain ⟨bs, q2, t2⟩ := Den.readsT I d _ _ h3 r2
    refine ⟨as, bs, q1, q2, fun e => t1 ?_, fun e => t2 ?_⟩
    · exact (Bool.and_eq_true _ _ ▸ (show (noL k && noL d) = true from e)).1
    · exact (Bool.and_eq_true _ _ ▸ (show (noL k && noL d) = true from e)).2
end
end
section
variable {X : Cx}
def reprG : List D → Option D
  | [d] => if (d.showable && (!d.hasDict || noL d)) && decide (d.depth ≤ 60) && decide (d.shown.length ≤ 100000) then some (.str d.shown) else none
  | _ => none
theorem call_reprG (hu : X.A.units + 128 < cLine) (hg : X.A.guards = some []) : CallD X (.builtin "repr") reprG := by
  refine ⟨fun xs H Q => ∃ (d : D) (x : V), xs = [x] ∧ Den X.K X.w H d x ∧ (d.showable && (!d.hasDict || noL d)) = true ∧ d.depth ≤ 60 ∧ d.shown.length ≤ 100000 ∧ Q (.str d.shown) H, ?_, ?_⟩
  · intro pins s σ H xs us Q I r ⟨d, x, ex, hd, h1, h2, h3, q⟩
    subst ex
    obtain ⟨u, rfl, ru⟩ := Vals.one r
    obtain ⟨as, hr, ht⟩ := Den.readsT I d x u hd ru
    rw [Bool.and_eq_true] at h1
    have off : d.hasDict = true → sysModules ∉ as := fun hh => ht (by have := h1.2; rw [hh] at this; exact this)
    exact call_repr_reads hr h1.1 off hg (by omega) (fun _ _ e => e) (fun h' tk u k => ⟨.str d.shown, H, I.kept (t' := tk) k, ⟨u, rfl⟩, q⟩) (sz100 h3)
  · intro O H ds d xs Q hk a e q
    unfold reprG at e
    split at e
    · obtain ⟨x, rfl, h1⟩ := den1 a
      obtain ⟨h2, h3⟩ := ite_some e
      obtain ⟨g1, g2, g3⟩ := and3 h2
      subst h3
      exact ⟨_, x, rfl, Den.mono (Fz.le _ _) _ _ h1, g1, of_decide_eq_true g2, of_decide_eq_true g3, q _ H (Same.refl H) rfl⟩
    · cases e
end
end DL
set_option maxRecDepth 100000
namespace HotOnes
open PySem PySem.Spec PyProof.Rows L2 HotX
section
variable {prog : Program} {w : World} {A : Around} {E : Value → Shared → Prop} {s : Shared}
/-- a list's iterator has nothing left, while an exception is handled -/
theorem list_end {it l x1 : Addr} {i : Nat} {items : Array Value} {Q : Option Value → Shared → Prop} (hot : HotAt A x1 s.heap) (hx1 : x1 ≠ it) (hit : s.heap.IsListIter it l i) (hl : s.heap.IsList l items) (hx : items[i]? = none)
    (hQ : ∀ h', Heap.ExtBut it s.heap h' → Q none { s with heap := h' }) : wpAny (model prog w) A (pyNext (.ref it)) Q E s := by
  obtain ⟨hh, o1, vs1, h1, d1, c1⟩ := hot
  obtain ⟨o, ho, hc, hd⟩ := id hit
  obtain ⟨ol, hol, _, nl, hdl⟩ := hl
  unfold pyNext
  refine wpAny_bind (wpAny_attempt (wpAny_callSpecial?_slot (name := Str.ofString "__next__") hit.typeIs slot_listiter_next (wpAny_call_entry slot_listiter_next hit.typeIs entry_listiter_next ?_ (args_listiter_next _))))
  show wpAny _ _ (field (.ref it) 0 >>= _) _ _ s
  refine wpAny_bind (wpAny_field ho hd (x := .ref l) rfl ?_)
  show wpAny _ _ (if (Value.ref l == Value.none) = true then _ else _) _ _ s
  rw [if_neg (show ¬ ((Value.ref l == Value.none) = true) from Bool.false_ne_true)]
  show wpAny _ _ (field (.ref it) 1 >>= _) _ _ s
  refine wpAny_bind (wpAny_field ho hd (x := .int i 0) rfl ?_)
  show wpAny _ _ (seqItems? (.ref l) >>= _) _ _ s
  refine wpAny_bind (wpAny_seqItems hol hdl ?_)
  simp only [Int.toNat_natCast, hx]
  refine wpAny_bind (wpAny_rule (wpAny_bind (wpAny_setField ho hd (by simp) ?_)))
  have h1' : (s.heap.update it (Obj.mapFields (·.setIfInBounds 0 Value.none))).get? x1 = some o1 := (Heap.get?_update_other _ _ (Ne.symm hx1)).trans h1
  show wpAny _ _ (newExc (.type "StopIteration") [] >>= _) _ _ _
  refine wpAny_bind ?_
  simp only [newExc, newTuple]
  refine wpAny_bind (wpAny_newObj_type ?_ (by size_fits))
  refine wpAny_bind (m := firstArgMember _ _) (wpAny_of_eq (a := Value.none) (by first | rfl | (simp only [firstArgMember]; rfl)) ?_)
  refine wpAny_newObj_type ?_ (by size_fits)
  refine raiseNew_hot ⟨hh, o1, vs1, Heap.get?_push_of_some _ (Heap.get?_push_of_some _ h1'), d1, c1⟩ (Nat.ne_of_lt (Heap.lt_size (Heap.get?_push_of_some _ h1'))) (Heap.get?_push_size _ rfl) rfl (by first | (simp; done) | (simp; omega) | (simp only [Array.size_append]; simp; omega)) ?_
  refine wpAny_bind (wpAny_isInstance (T := "StopIteration") (b := true) ⟨_, Heap.get?_update_self _ (Heap.get?_push_size _ rfl) rfl, rfl⟩ isSubtype_stop ?_)
  refine wpAny_pure (hQ _ fun b ob hb e => ?_)
  have e1 : (s.heap.update it (Obj.mapFields (·.setIfInBounds 0 Value.none))).get? b = some ob := (Heap.get?_update_other _ _ (Ne.symm hb)).trans e
  rw [Heap.get?_update_other _ _ (Nat.ne_of_gt (Heap.lt_size (Heap.get?_push_of_some _ e1)))]
  exact Heap.get?_push_of_some _ (Heap.get?_push_of_some _ e1)
theorem hot_at {x1 : Addr} {h h' : Heap} (x : HotAt A x1 h) (k : ∀ o, h.get? x1 = some o → h'.get? x1 = some o) : HotAt A x1 h' := let ⟨hh, o, vs, e, r⟩ := x; ⟨hh, o, vs, k _ e, r⟩
theorem walks {target : Expr} {x1 : Addr} (I l : Addr) (hne : l ≠ I) (hx : x1 ≠ I) (items : Array Value) :
    Goes prog w A target I [I, l, x1] [I] items.size (fun i v _ => items[i]? = some v) (fun i h => h.IsListIter I l i ∧ h.IsList l items ∧ HotAt A x1 h) where
  sub := fun b hb => by simp at hb; simp [hb]
  frame := fun _ _ _ st hk => ⟨st.1.at fun o e => hk I (by simp) o e, st.2.1.at fun o e => hk l (by simp) o e, hot_at st.2.2 fun o e => hk x1 (by simp) o e⟩
  goes := fun i s Q E hi st hQ => by
    refine wpAny_pyNext_list_item st.1 st.2.1 (x := items[i]) (by simp [hi]) fun h' hit' hs' => ⟨_, rfl, ?_⟩
    obtain ⟨o, ho, hc, hd⟩ := id hit'
    exact letGo_of_cls (s := { s with heap := h' }) ho hc hd (by decide) (hQ _ h' s.toks (by simp [hi]) ⟨hit', st.2.1.extBut hs'.extBut hne, hot_at st.2.2 fun o e => hs'.extBut x1 o hx e⟩ (fun b o hb e => hs'.extBut b o (fun h => hb (by simp [h])) e) (Nat.le_refl _))
  stops := fun s Q E st hQ => list_end st.2.2 hx st.1 st.2.1 (by simp) fun h' he' => ⟨rfl, hQ h' s.toks (fun b o hb e => he' b o (fun h => hb (by simp [h])) e) (Nat.le_refl _)⟩
  self := fun _ _ _ _ st hQ => wpAny_pyIter_listiter st.1 hQ
end
theorem off1 {b N C D : Nat} (hb : b < N ∨ b = C) (hC : N + 1 ≤ C) (hD : N + 1 ≤ D) (h : D ≠ C) : ¬ (b = D ∨ b = N) := by omega
theorem ne1 {b N C : Nat} (hb : b < N + 1) (hC : N + 1 ≤ C) : b ≠ C := by omega
/-- how many are true -/
abbrev onesOf (bs : List Bool) : List V := (bs.filter id).map fun _ => V.int 1
theorem ones_step {bs : List Bool} {i : Nat} {b : Bool} (h : bs[i]? = some b) : onesOf (bs.take (i + 1)) = onesOf (bs.take i) ++ (if b then [V.int 1] else []) := by
  unfold onesOf
  rw [List.take_add_one, h, List.filter_append, List.map_append]
  cases b <;> rfl
section
variable {X : Cx}
def tOnes (K : PySem.W.Frag) (tk : TE) : TE := fun σ H Q => tk σ H fun x H1 => ∃ a bs, x = .ref a ∧ SqL K H1 a (bs.map V.bl) ∧ ∀ p, H1 p = none → Q (.ref p) (upd H1 p (.lst (onesOf bs)))
theorem pe_ones {x : Str} {iter : Expr} {scope : Scope} {cl : List (Str × Addr)} {te : TE} {pt pi pe pos : Pos} {kk : Nat} (hc : L2H.HotC X) (he : PE X iter te)
    (hclos : closureFor scope X.env = pure cl) (hcell : ∀ y ∈ scope.names, y.2 ≠ .cell) (hkind : scope.kind = .function) (hnames : ∀ y ∈ scope.names, y.2 = .local → scope.names.lookup y.1 = some .local)
    (hx : scope.names.lookup x = some .local) (hd : (x == ("__debug__" : Str)) = false)
    (hs : ∀ y, foldedSetIterable iter X.env y = pure y := by intro _; rfl) :
    PE X (.ListComp (.Constant (.int 1) kk pe) [⟨.Name x pt, iter, [.Name x pi], 0⟩] scope pos) (tOnes X.K te) := by
  refine ⟨fun pins s σ H Q I h => ?_⟩
  refine ListComp_goes hclos hcell hkind hnames (thn (he.run pins s σ H _ I h) fun u s1 ⟨v, H1, I1, r1, a, bs, ev, hq, q⟩ => ?_) hs
  subst ev
  obtain rfl : u = Value.ref a := r1
  obtain ⟨its, rv, p', hz⟩ := I1.list hq
  obtain ⟨x1, hot⟩ := hc.at I1
  have hl := p'.isList
  have hlt : (a : Nat) < s1.heap.objs.size := p'.lt
  have hx1 : (x1 : Nat) < s1.heap.objs.size := by obtain ⟨_, o, _, ho, _⟩ := hot; exact Heap.lt_size ho
  have hsz : its.toArray.size ≤ sizeLine := by rw [List.size_toArray, ← rv.length]; exact hz
  refine wpAny_pyIter_list hl ?_
  refine ⟨_, _, _, _, _, _, rfl, walks (x1 := x1) s1.heap.objs.size a (Nat.ne_of_lt hlt) (Nat.ne_of_lt hx1) its.toArray, hsz, ⟨⟨_, Heap.get?_push_size _ rfl, rfl, rfl⟩, hl.push _, hot_at hot fun o e => Heap.get?_push_of_some _ e⟩, ?_, fun D C s₃ hB => ?_⟩
  · intro b hb
    show b < (s1.heap.push _).objs.size
    rw [Heap.size_push]
    have : b = s1.heap.objs.size ∨ b = a ∨ b = x1 := by simpa using hb
    rcases this with e | e | e
    · rw [e]; exact Nat.lt_succ_self _
    · rw [e]; exact Nat.lt_succ_of_lt hlt
    · rw [e]; exact Nat.lt_succ_of_lt hx1
  · obtain ⟨⟨h₃, tk₃, rfl⟩, old, nD, nC, hDC, hnm⟩ := hB
    have nC' : (s1.heap.objs.size + 1 : Nat) ≤ C := by
      have q : (s1.heap.push { cls := .type "list_iterator", data := .fields #[.ref a, .int 0 0] }).objs.size ≤ C := nC
      rw [Heap.size_push] at q
      exact q
    have nD' : (s1.heap.objs.size + 1 : Nat) ≤ D := by
      have q : (s1.heap.push { cls := .type "list_iterator", data := .fields #[.ref a, .int 0 0] }).objs.size ≤ D := nD
      rw [Heap.size_push] at q
      exact q
    have hDC' : (D : Nat) ≠ C := hDC
    have kx : (compEnvC scope cl C X.env).kindOf x = some .local := lookup_relabel_local hx
    have hp : ((compEnvC scope cl C X.env).scope.kind == .class || ((compEnvC scope cl C X.env).scope.kind == .module && (compEnvC scope cl C X.env).locals != (compEnvC scope cl C X.env).globals)) = false := by
      show (scope.kind == .class || (scope.kind == .module && _)) = false
      rw [hkind]; rfl
    have offC : ∀ b : Addr, b < s1.heap.objs.size + 1 → b ≠ C := fun b hb => ne1 hb nC'
    refine ⟨fun i vs s₁ => ∃ h' tk m, s₁ = { s1 with heap := h', toks := tk } ∧ h'.Ns C m ∧ Vals (onesOf (bs.take i)) vs ∧ ∀ b o, s1.heap.get? b = some o → h'.get? b = some o, ⟨h₃, tk₃, _, rfl, hnm, by simp [onesOf]; exact .nil, fun b o e => old b o (Heap.get?_push_of_some _ e)⟩, ?_, ?_, ?_⟩
    · rintro i vs s₁ h' tk ⟨h₄, tk₄, m, rfl, n₄, e₄, k₄⟩ hk' _
      have off : ∀ b : Addr, (b < s1.heap.objs.size ∨ b = C) → b ∉ D :: [s1.heap.objs.size] := fun b hb hm => off1 hb nC' nD' hDC' (by simpa using hm)
      exact ⟨h', tk, m, rfl, n₄.at' fun o e => hk' _ o (off _ (.inr rfl)) e, e₄, fun b o e => hk' b o (off _ (.inl (Heap.lt_size e))) (k₄ b o e)⟩
    · rintro i v vs s₁ hi hv st ⟨h₄, tk₄, m, rfl, n₄, e₄, k₄⟩ hpl
      have hv' : its[i]? = some v := by simpa using hv
      obtain ⟨w', hw1, hw2⟩ := DL.paired_at rv i v hv'
      obtain ⟨b, hb1, hb2⟩ := List.getElem?_map .. ▸ hw1 |> Option.map_eq_some_iff.mp
      subst hb2
      cases (show v = Value.bool b from hw2)
      refine wpAny_assign_Name (wpAny_storeName_local kx n₄ (fun h₅ n₅ s₅ => ?_) hp)
      refine wpAny_tests_one ?_
      show wpAny _ _ (do let v ← eval (.Name x pi) _; standAt _; holding [v] (truthy v)) _ _ _
      rw [eval_Name _ _ _ hd]
      refine wpAny_bind (wpAny_bind (wpAny_standAt (wpAny_loadName_local hkind kx n₅ (v := .bool b) (if_pos rfl) ?_)))
      refine wpAny_bind (wpAny_standAt (wpAny_holding ?_))
      show wpAny _ _ (pure b) _ _ _
      refine wpAny_pure ?_
      have stH := (⟨st.1.at fun o e => s₅.extBut _ o (offC _ (Nat.lt_succ_self _)) e, st.2.1.at fun o e => s₅.extBut _ o (offC _ (Nat.lt_succ_of_lt hlt)) e, hot_at st.2.2 fun o e => s₅.extBut _ o (offC _ (Nat.lt_succ_of_lt hx1)) e⟩ : h₅.IsListIter s1.heap.objs.size a (i + 1) ∧ h₅.IsList a its.toArray ∧ HotAt X.A x1 h₅)
      have kk : ∀ b o, s1.heap.get? b = some o → h₅.get? b = some o := fun b o e => s₅.extBut b o (offC b (Nat.lt_succ_of_lt (Heap.lt_size e))) (k₄ b o e)
      cases b with
      | true =>
        rw [if_pos rfl]
        refine wpAny_Constant_int ⟨⟨h₅, _, _, rfl, n₅, ?_, kk⟩, stH, hpl.at fun o e => s₅.extBut _ o hDC e⟩
        rw [ones_step hb1]
        exact e₄.append (.cons ⟨_, rfl⟩ .nil)
      | false =>
        rw [if_neg Bool.false_ne_true]
        refine ⟨⟨h₅, _, _, rfl, n₅, ?_, kk⟩, stH, hpl.at fun o e => s₅.extBut _ o hDC e⟩
        rw [ones_step hb1]
        simpa using e₄
    · rintro vs s₁ ⟨h₄, tk₄, m, rfl, n₄, e₄, k₄⟩ hpl
      refine ⟨m, n₄, fun h' hs' => ?_⟩
      obtain ⟨k, hpl'⟩ := hpl.extBut hs'.extBut hDC
      have old' : ∀ b o, s1.heap.get? b = some o → h'.get? b = some o := fun b o e => hs'.extBut b o (offC b (Nat.lt_succ_of_lt (Heap.lt_size e))) (k₄ b o e)
      have nDs : s1.heap.objs.size ≤ D := Nat.le_trans (Nat.le_succ _) nD'
      have full : onesOf (bs.take its.toArray.size) = onesOf bs := by
        rw [List.take_of_length_le (by rw [List.size_toArray, ← rv.length, List.length_map]; exact Nat.le_refl _)]
      rw [full] at e₄
      have len : (onesOf bs).length ≤ sizeLine := by
        unfold onesOf
        rw [List.length_map]
        refine Nat.le_trans (List.length_filter_le _ _) ?_
        rw [← List.length_map (f := V.bl)]
        exact hz
      exact ⟨.ref D, _, I1.laid (t' := tk₄) (o := .lst (onesOf bs)) old' nDs ⟨len, vs, k, e₄, hpl'⟩, rfl, q _ (I1.hok.fresh nDs)⟩
end
end HotOnes
set_option maxRecDepth 100000
namespace DL
open PySem PySem.Spec PyProof.Rows L2 L2H HotX

/-! ### a def called in an except suite with the exception that is handled -/
structure FnP (P : Program) (w : World) (K : PySem.W.Frag) (mg : Str → Option Value) (base : Heap) (k : Nat) (f : Addr) (fd : FuncData) (ps : List Str) (sp : Sp) (p : Addr × Obj) : Prop where
  len : ∀ vs H Q E, sp vs H Q E → vs.length = ps.length
  run : ∀ (A : Around) (outer : List Env) (s : Shared) (H : Hp) (args : Args) (us : List Value) (vs : List V) (Q : VK) (E : XK), RoomH k A → Hot1 A p → PinOk outer H s p → Env0 P w K mg base A outer s H → BindsTo s fd args (ps.zip us) → Vals vs us → sp vs H Q E →
    codeAny (model P w) A (.call (.ref f) args) (CR (L2N.CX P w) outer P w H s Q E) s
section
variable {P : Program} {w : World} {K : PySem.W.Frag} {mg : Str → Option Value} {base : Heap} {k : Nat} {f : Addr} {ps : List Str} {sp : Sp} {p : Addr × Obj}
theorem fn_ofP {name qual : Str} {params : Arguments} {body : List Stmt} {scope : Scope} {dV kV doc pm cdv ct oc : Value} {an od : Option Addr} {osl : Array (Option Value)} {N : List Str}
    (lk : K.lookup f = some ⟨oc, od, .func (PySem.W.fnOf name qual params body scope dV kV doc pm an cdv ct), osl⟩) (hcd : PySem.W.codeIn K cdv qual = true) (S : FnScope N ps scope) (len : ∀ vs H Q E, sp vs H Q E → vs.length = ps.length)
    (hbody : ∀ (A : Around) (outer : List Env) (s : Shared) (H : Hp) (vs : List V) (Q : VK) (E : XK), Hot1 A p → sp vs H Q E →
      ∃ t, PSs (cxH (L2N.CX P w) P w K mg base N qual scope f cdv A outer s H E p) body t ∧ t { nx := fun _ H' => Q .non H', rt := Q } (L2.start N vs) H) :
    FnP P w K mg base (k + 1) f (PySem.W.fnOf name qual params body scope dV kV doc pm an cdv ct) ps sp p where
  len := len
  run := by
    intro A outer s H args us vs Q E hr hot pin e0 hb r hsp
    have kept : K.In s.heap := e0.mod.kin.keeps fun b o e => (e0.bs b o e).1
    have free : s.heap.NoLimit := e0.mod.nolimit.keeps fun b o e => (e0.bs b o e).1
    refine codeAny_call_function hr.depth (kept _ _ lk) rfl S.co S.gen rfl (PySem.W.codeRec_of kept hcd) (hb _ _ _ _ (wpAny_newFunctionEnv_cells S.kind ?_ ?_))
    · rintro ⟨y, z⟩ hy
      exact (S.par y (List.of_mem_zip hy).1).imp (fun q => q) fun q => ⟨q, PySem.W.cellsFrom_some _ _ _ (.inl q)⟩
    · rintro env rfl s1 x
      refine ⟨free.keeps x.toInCall.keep, codeAny_func ?_⟩
      obtain ⟨t, ht, hq⟩ := hbody A outer s H vs Q E hot hsp
      refine wpAny_mono (ht.run [] s1 (L2.start N vs) H _ (inv_startH S pin e0 (len _ _ _ _ hsp) r x) hq) (fun fl s2 g => ?_) fun _ _ g => g
      cases fl with
      | ret u => exact let ⟨v, _, H2, J, rv, q⟩ := g; ⟨v, H2, J.os, J.bare, J.base, J.hok, rv, q⟩
      | next => exact let ⟨_, H2, J, q⟩ := g; ⟨.non, H2, J.os, J.bare, J.base, J.hok, rfl, q⟩
      | brk => exact let ⟨_, _, _, q⟩ := g; q.elim
      | cont => exact let ⟨_, _, _, q⟩ := g; q.elim
end
section
variable {X : Cx} {k : Nat} {f : Addr} {fd : FuncData} {ps : List Str} {sp : Sp} {x : Str} {q pos : Pos} {e : Expr} {es : List Expr} {t : TA} {p : Addr × Obj}
theorem pe_callP (F : FnP X.prog X.w X.K X.mg X.base k f fd ps sp p) (hr : RoomH k X.A) (hot : Hot1 X.A p) (hp : p ∈ X.pn) (hg : Gl X x) (hm : X.mg x = some (.ref f)) (hk : PySem.W.keepIn X.K (.ref f) = true) (hb : Binds X.K fd ps [])
    (ha : PA X (e :: es) t) (hdb : (x == ("__debug__" : Str)) = false := by decide) (he : starEach (e :: es) X.env = (false, eval e X.env) :: starEach es X.env := by rfl) (hpl : (backTo pos (starEach es X.env)).any (·.1) = false := by rfl) :
    PE X (.Call (.Name x q) (e :: es) [] pos) (tCallSD sp [] (fun _ _ _ _ => False) t) where
  run := by
    intro pins s σ H Q I h
    refine wpAny_Call_Name_kw (ld_glob I hg hm (PySem.W.callWith_K (h₀ := X.base) I.ok.mod.kin hk (thn (ha.run pos pins s σ H _ I h) ?_) he hpl) hdb)
    rintro us s1 ⟨vs, H1, I1, r, q⟩
    have q : sp (vs ++ []) H1 Q (fun _ _ _ => False) := q
    rw [List.append_nil] at q
    have hl : us.length = ps.length := r.length.symm.trans (F.len _ _ _ _ q)
    have bind := hb s1 us I1.kIn (by rw [List.append_nil]; exact hl)
    rw [List.append_nil] at bind
    obtain ⟨p1, p2, p3, p4, p5⟩ := I1.pin p (List.mem_append_left _ hp)
    have pin : PinOk X.stack H1 s1 p := ⟨p1, p2, fun hm => (List.mem_cons.mp (I1.stkSub p.1 hm)).elim p3 p4, p5⟩
    refine ⟨I1.kIn, wpAny_call (codeAny_mono (F.run X.A X.stack s1 H1 ⟨us, []⟩ us vs Q (fun _ _ _ => False) hr hot pin I1.env0 bind r q) fun z s2 g => ?_)⟩
    cases z with
    | error c =>
      obtain ⟨_, _, _, _, _, _, _, _, _, _, _, _, z⟩ := g
      exact z.elim
    | ok fl => cases fl with
      | ret u => exact I1.after g
      | next => exact g.elim
      | brk => exact g.elim
      | cont => exact g.elim
end

/-! ### isinstance of the exception that is handled -/
section
variable {X : Cx}
theorem call_isP {a Dc : Addr} {oe : Obj} (C : ExcC X.K Dc) (hp : (a, oe) ∈ X.pn) (h1 : oe.cls = .ref Dc) (h2 : oe.dict = none) (hf : ∃ vs, oe.data = .fields vs) : CallR X (.builtin "isinstance") (rIsE X.K Dc a) := by
  intro pins s σ H xs us Q I r h
  obtain ⟨c, cv, b, rfl, hcv, e, q⟩ := h
  cases r with
  | cons rx rr =>
    cases rr with
    | cons rt rr =>
      cases rr
      cases rx
      have ec := hcv _ rt
      subst ec
      have get := (I.pin (a, oe) (List.mem_append_left _ hp)).1
      obtain ⟨vs, hv⟩ := hf
      have J : PySem.W.InstAt s.heap a oe Dc none := by
        obtain ⟨oc, od, oda, osl⟩ := oe
        dsimp only at h1 h2 hv
        subst h1 h2 hv
        exact ⟨get, rfl, rfl, trivial⟩
      exact PySem.W.kia_one (PySem.W.handS_kitx_exc C.hg C.hk C.hs C.hd C.ha C.hn C.ht C.hm) I.kIn J e (fun z => nomatch z) fun tk => ⟨.bl b, H, I.kept (t' := tk) fun _ _ z => z, rfl, q⟩
/-- [isinstance(e, C), ..], e in slot i -/
def PIs (X : Cx) (i : Nat) (a : Addr) (es : List Expr) (bs : List Bool) : Prop := ∃ t : TA, PA X es t ∧ ∀ σ H Q, σ[i]? = some (some (.ref a)) → Q (bs.map V.bl) H → t σ H Q
theorem pis_nil {i : Nat} {a : Addr} : PIs X i a [] [] := ⟨_, pa_nil, fun σ H Q _ q => q⟩
theorem pis_cons {i : Nat} {a c Dc : Addr} {oe : Obj} {es : List Expr} {bs : List Bool} {b : Bool} {n x : Str} {p1 p2 p3 pos : Pos} (C : ExcC X.K Dc) (hp : (a, oe) ∈ X.pn) (h1 : oe.cls = .ref Dc) (h2 : oe.dict = none) (hf : ∃ vs, oe.data = .fields vs)
    (hmi : X.mg "isinstance" = none) (hmc : X.mg x = some (.ref c)) (hkc : PySem.W.kitOne X.K (.ref Dc) (.ref c) = some b) (hN : X.N[i]? = some n) (hr : PIs X i a es bs) (hv : Vis X.env.scope n := by first | exact Or.inl rfl | exact Or.inr (Or.inl rfl) | exact Or.inr (Or.inr rfl))
    (hgi : Gl X "isinstance" := by rfl) (hgc : Gl X x := by rfl) (hd : (n == ("__debug__" : Str)) = false := by decide) (hcd : (n == ("__classdict__" : Str)) = false := by decide) (hxb : (x == ("__debug__" : Str)) = false := by decide)
    (e2 : starEach [.Name x p3] X.env = (false, eval (.Name x p3) X.env) :: starEach [] X.env := by rfl) (e1 : starEach [.Name n p2, .Name x p3] X.env = (false, eval (.Name n p2) X.env) :: starEach [.Name x p3] X.env := by rfl) (epl : (backTo pos (starEach [.Name x p3] X.env)).any (·.1) = false := by rfl)
    (e0 : starEach (.Call (.Name "isinstance" p1) [.Name n p2, .Name x p3] [] pos :: es) X.env = (false, eval (.Call (.Name "isinstance" p1) [.Name n p2, .Name x p3] [] pos) X.env) :: starEach es X.env := by rfl) : PIs X i a (.Call (.Name "isinstance" p1) [.Name n p2, .Name x p3] [] pos :: es) (b :: bs) := by
  obtain ⟨t, ht, q⟩ := hr
  have hc : PE X (.Name x p3) (tC (.ref c)) := pe_glob hgc hmc rfl hxb
  refine ⟨_, pa_cons (pe_callB (call_isP C hp h1 h2 hf) hgi hmi PyProof.Rows.boot_isinstance (pa_cons (pe_var hN hv hd hcd) (pa_cons hc pa_nil e2) e1) (by decide) (by decide) e1 epl) ht e0, fun σ H Q hi hq => ?_⟩
  refine ⟨.ref a, hi, ?_⟩
  exact ⟨.ref c, .ref c, b, rfl, fun u r => r, hkc, q σ H _ hi hq⟩
end
end DL
set_option maxRecDepth 100000
namespace DL
open PySem PySem.Spec PyProof.Rows L2 L2H HotX

def raisedD (bs : List Bool) (j : Nat) : D := .tuple [.str "raised", .int (j : Nat), .int (((bs.filter id).length : Nat) : Int)]
theorem blt_len : bootBuiltins "len" = some (.builtin "len") := by decide +kernel
theorem eqV_bl (a b : Bool) : eqV (.bl a) (.bl b) = (a == b) := by cases a <;> cases b <;> rfl
theorem raised_ex {Y : Cx} {i j : Nat} {a : Addr} {es : List Expr} {bs : List Bool} {kn on : Str} {scope : Scope} {cl : List (Str × Addr)} {k0 k1 k2 k3 : Nat} {p1 p2 p3 p4 p5 p6 p7 p8 p9 p10 p11 p12 p13 p14 p15 p16 p17 : Pos}
    (hI : PIs Y i a es bs) (hj : bs.findIdx? id = some j) (hot : HotC Y) (hb : bs.length ≤ 1000) (hml : Y.mg "len" = none) (hNd : Y.N.Nodup) (n : Nat) (hn : Y.N[n]? = some kn)
    (hclos : closureFor scope Y.env = pure cl) (hcell : ∀ y ∈ scope.names, y.2 ≠ .cell) (hkind : scope.kind = .function) (hnames : ∀ y ∈ scope.names, y.2 = .local → scope.names.lookup y.1 = some .local) (hon : scope.names.lookup on = some .local)
    (hloc : Loc Y.env.scope kn) (hvis : Vis Y.env.scope kn) (hfn : Y.fn kn = true ∨ Y.env.scope.names.lookup kn = some .local) (hsw : swapsWith (.List es p2) (some (.Name kn p1)) p3.line Y.env = pure false)
    (hd1 : (kn == ("__debug__" : Str)) = false) (hd2 : (kn == ("__classdict__" : Str)) = false) (hd3 : (on == ("__debug__" : Str)) = false) (hgl : Gl Y "len")
    (hbase : attributeBase (.Name kn p5) "index" Y.env (eval (.Name kn p5) Y.env) = eval (.Name kn p5) Y.env)
    (hfew : ((backTo p8 (starEach [.Constant (.bool true) k1 p7] Y.env)).all (fun x => !x.1) && (backToKw p8 (keywordEach [] Y.env)).all (fun x => x.1.isSome)
      && decide (([.Constant (.bool true) k1 p7] : List Expr).length + ([] : List Keyword).length + (if ([] : List Keyword).isEmpty then 0 else 1) < 30)) = true)
    (hline : (p6.endLine == p8.line) = true) (hsb : starEach [.Constant (.bool true) k1 p7] Y.env = (false, eval (.Constant (.bool true) k1 p7) Y.env) :: starEach [] Y.env) (hpb : (backTo p8 (starEach [] Y.env)).any (·.1) = false)
    (hfold : ∀ y, foldedSetIterable (.Name kn p12) Y.env y = pure y)
    (hsl : starEach [.ListComp (.Constant (.int 1) k2 p10) [⟨.Name on p11, .Name kn p12, [.Name on p13], 0⟩] scope p14] Y.env = (false, eval (.ListComp (.Constant (.int 1) k2 p10) [⟨.Name on p11, .Name kn p12, [.Name on p13], 0⟩] scope p14) Y.env) :: starEach [] Y.env)
    (hpl : (backTo p15 (starEach [] Y.env)).any (·.1) = false)
    (hs3 : starEach [.Call (.Name "len" p9) [.ListComp (.Constant (.int 1) k2 p10) [⟨.Name on p11, .Name kn p12, [.Name on p13], 0⟩] scope p14] [] p15] Y.env = (false, eval (.Call (.Name "len" p9) [.ListComp (.Constant (.int 1) k2 p10) [⟨.Name on p11, .Name kn p12, [.Name on p13], 0⟩] scope p14] [] p15) Y.env) :: starEach [] Y.env)
    (hs2 : starEach [.Call (.Attribute (.Name kn p5) "index" p6) [.Constant (.bool true) k1 p7] [] p8, .Call (.Name "len" p9) [.ListComp (.Constant (.int 1) k2 p10) [⟨.Name on p11, .Name kn p12, [.Name on p13], 0⟩] scope p14] [] p15] Y.env = (false, eval (.Call (.Attribute (.Name kn p5) "index" p6) [.Constant (.bool true) k1 p7] [] p8) Y.env) :: starEach [.Call (.Name "len" p9) [.ListComp (.Constant (.int 1) k2 p10) [⟨.Name on p11, .Name kn p12, [.Name on p13], 0⟩] scope p14] [] p15] Y.env)
    (hs1 : starEach [.Constant (.str "raised") k0 p4, .Call (.Attribute (.Name kn p5) "index" p6) [.Constant (.bool true) k1 p7] [] p8, .Call (.Name "len" p9) [.ListComp (.Constant (.int 1) k2 p10) [⟨.Name on p11, .Name kn p12, [.Name on p13], 0⟩] scope p14] [] p15] Y.env = (false, eval (.Constant (.str "raised") k0 p4) Y.env) :: starEach [.Call (.Attribute (.Name kn p5) "index" p6) [.Constant (.bool true) k1 p7] [] p8, .Call (.Name "len" p9) [.ListComp (.Constant (.int 1) k2 p10) [⟨.Name on p11, .Name kn p12, [.Name on p13], 0⟩] scope p14] [] p15] Y.env) :
    ∃ t, PSs Y [.Assign [.Name kn p1] (.List es p2) p3, .Return (some (.Tuple [.Constant (.str "raised") k0 p4, .Call (.Attribute (.Name kn p5) "index" p6) [.Constant (.bool true) k1 p7] [] p8, .Call (.Name "len" p9) [.ListComp (.Constant (.int 1) k2 p10) [⟨.Name on p11, .Name kn p12, [.Name on p13], 0⟩] scope p14] [] p15] k3 p16)) p17] t ∧
      ∀ (σ : L2.St) (H : Hp) (O : List Addr) (D : Ends), σ[i]? = some (some (.ref a)) → n < σ.length → Known O H → (∀ v H', Same H H' → Den Y.K Y.w (Fz O H') (raisedD bs j) v → D.rt v H') → t D σ H := by
  obtain ⟨ti, hi, qi⟩ := hI
  have s1 : PS Y (.Assign [.Name kn p1] (.List es p2) p3) (tAsg (tLst ti) (gName n)) := ps_set hNd hn hloc (pe_lst hi) hsw hfn
  have eK : ∀ {p : Pos}, PE Y (.Name kn p) (tVar n) := pe_var hn hvis hd1 hd2
  have eI := pe_bmG (X := Y) PySem.F.plainAttrs_list PySem.F.slot_list_index PySem.F.type_list_index mt_index (eK (p := p5)) (pa_cons (pe_bl (X := Y) (b := true) (j := k1) (pos := p7)) pa_nil hsb) hbase hfew hline hsb hpb
  have eO := HotOnes.pe_ones (X := Y) (kk := k2) (pe := p10) (pos := p14) (pt := p11) (pi := p13) hot (eK (p := p12)) hclos hcell hkind hnames hon hd3 hfold
  have eL := pe_callB (X := Y) (x := "len") (p := p9) (pos := p15) call_len_seq hgl hml blt_len (pa_cons eO pa_nil hsl) (by decide) (by decide) hsl hpl
  have eR := pe_tupN (X := Y) (pos := p16) (x1 := k3) (pa_cons (pe_str (X := Y) (x := "raised") (j := k0) (pos := p4)) (pa_cons eI (pa_cons eL pa_nil hs3) hs2) hs1)
  refine ⟨_, pss_cons s1 (pss_cons (ps_ret eR) pss_nil), fun σ H O D hσ hlen hk q => ?_⟩
  refine qi σ H _ hσ ⟨sz100 (by rw [List.length_map]; omega), fun p hp => ?_⟩
  have hget : ((σ.set n (some (V.ref p))) : L2.St)[n]? = some (some (.ref p)) := List.getElem?_set_self hlen
  have hpH : upd H p (.lst (bs.map V.bl)) p = some (.lst (bs.map V.bl)) := upd_same
  obtain ⟨z, hz, hzt, hno⟩ : ∃ z, bs[j]? = some z ∧ z = true ∧ ∀ m z', m < j → bs[m]? = some z' → z' = false := by
    obtain ⟨h1, h2, h3⟩ := List.findIdx?_eq_some_iff_getElem.mp hj
    refine ⟨bs[j], List.getElem?_eq_getElem h1, h2, fun m z' hm hz => ?_⟩
    obtain ⟨hm', e⟩ := List.getElem?_eq_some_iff.mp hz
    have := h3 m hm
    rw [e] at this
    simpa using this
  subst hzt
  have flat : (bs.map V.bl).all flatV = true := by
    rw [List.all_map]
    exact List.all_eq_true.mpr fun _ _ => rfl
  have nO := new_out hk hp
  refine ⟨.ref p, hget, tyG_lst (.inl hpH), p, bs.map V.bl, .bl true, j, .bl true, rfl, rfl, .inl (.inl hpH), rfl, flat, by rw [List.getElem?_map, hz]; rfl, by decide, fun m z' hm hz' => ?_, ?_⟩
  · rw [List.getElem?_map] at hz'
    obtain ⟨b, hb1, hb2⟩ := Option.map_eq_some_iff.mp hz'
    rw [← hb2, hno m b hm hb1]
    decide
  · refine ⟨.ref p, hget, p, bs, rfl, .inl (.inl hpH), fun p2 hp2 => ⟨p2, HotOnes.onesOf bs, rfl, .inl (.inl (.inl upd_same)), by show 3 ≤ sizeLine; rw [sizeLine_eq]; decide, fun T o hT ho => ?_⟩⟩
    have e1 : Same H (upd H p (.lst (bs.map V.bl))) := same_new hp
    have e2 := same_new (o := HO.lst (HotOnes.onesOf bs)) hp2
    have e3 := same_new (o := HO.frz o (.tup [.str "raised", .int (j : Nat), .int ((HotOnes.onesOf bs).length : Nat)])) hT
    refine q _ _ (e1.trans (e2.trans e3)) ⟨T, [.str "raised", .int (j : Nat), .int ((HotOnes.onesOf bs).length : Nat)], rfl, sqn_new ?_ ho, ?_⟩
    · rw [Fz.out (new_out (H := upd (upd H p (.lst (bs.map V.bl))) p2 (.lst (HotOnes.onesOf bs))) (fun b hb => let ⟨o, h⟩ := hk b hb; ⟨o, e2 b o (e1 b o h)⟩) hT)]
      exact upd_same
    · refine .cons rfl (.cons rfl (.cons ?_ .nil))
      show V.int _ = V.int _
      rw [show (HotOnes.onesOf bs).length = (bs.filter id).length from List.length_map _]
end DL
set_option maxRecDepth 100000
namespace DL
open PySem PySem.Spec PyProof.Rows L2 L2H HotX

/-! ### try: body, except C as n: return f(n) -/
def spR (K : PySem.W.Frag) (w : World) (p : Addr × Obj) (d : D) : Sp := fun vs H Q _ => vs = [.ref p.1] ∧ ∃ O, Known O H ∧ ∀ v H', Same H H' → Den K w (Fz O H') d v → Q v H'
def sTry (i : Nat) (h : Str → Option D) (ς : Ss) : Ss := fun s => match ς s with
  | .exn c x s' => (match h c with
    | some d => R.opt (put s' i .un) fun s2 => .ok (.rt d s2)
    | none => .bad)
  | r => r
theorem FinS.to {X Y : Cx} (hK : Y.K = X.K) (hw : Y.w = X.w) (hm : Y.mg = X.mg) {W : WX} {C : Cn} {r : R Out} {D : Ends} (f : FinS X W C r D) : FinS Y W C r D := by
  cases r with
  | ok o => cases o with
    | nx s => exact fun own σ H R => f own σ H (R.to hK.symm hw.symm)
    | bk s => exact fun own σ H R => f own σ H (R.to hK.symm hw.symm)
    | ct s => exact fun own σ H R => f own σ H (R.to hK.symm hw.symm)
    | rt d s => exact fun own σ H v R hv => f own σ H v (R.to hK.symm hw.symm) (by rw [hK, hw] at hv; exact hv)
    | rf d s => exact fun own σ H p u R h0 hp hc => f own σ H p u (R.to hK.symm hw.symm) h0 hp (by rw [hK, hw] at hc; exact hc)
  | exn c x s => exact fun own σ H cls dd hx R => f own σ H cls dd (by obtain ⟨a, h1, h2⟩ := hx; exact ⟨a, by rw [hm] at h1; exact h1, h2⟩) (R.to hK.symm hw.symm)
  | bad => exact f
def sCan (X : Cx) (W : WX) (ς : Ss) : TS := fun D σ H => ∃ C own s, Rep X C own σ H s ∧ FinS X W C (ς s) D
theorem pss_canS {X Y : Cx} (hK : Y.K = X.K) (hw : Y.w = X.w) (hm : Y.mg = X.mg) {W : WX} {b : List Stmt} {ς : Ss} (h : DS Y W b ς) : PSs Y b (sCan X W ς) := by
  obtain ⟨t, ht, q⟩ := h
  exact ⟨fun pins s σ H D I ⟨C, own, s', R0, f⟩ => ht.run pins s σ H D I (q C own σ H s' D (R0.to hK hw) (f.to hK hw hm))⟩
theorem spR_len {K : PySem.W.Frag} {w : World} {p : Addr × Obj} {d : D} {x : Str} (vs : List V) (H : Hp) (Q : VK) (E : XK) (h : spR K w p d vs H Q E) : vs.length = [x].length := by rw [h.1]; rfl
section
variable {X : Cx} {W : WX}
theorem d1_try (i : Nat) {k : Nat} {x n fr pn0 : Str} {CL : Value} {f : Addr} {fd : FuncData} {body : List Stmt} {ς : Ss} {h : Str → Option DL.D} {np pos pos' pos2 pos3 q q2 : Pos} (hs : X.stack = X.env :: X.outer) (hf : X.env.frame = some X.env.locals) (hN : X.N.Nodup) (hr : RoomG k X.A) (hc : Names X x CL)
    (hb : ∀ (W : WX) (pn : List (Addr × Obj)) (xe : Value → Shared → Prop), L2N.Takes (X.tr pn xe) W → PassesOwn (model X.prog X.w) X.A X.env xe → DS (X.tr pn xe) W body ς)
    (hH : ∀ c d, h c = some d → ∃ ca, X.mg c = some (.ref ca) ∧ PySem.W.exmOne X.K (.ref ca) CL = some true ∧ ∀ (a : Addr) (oe : Obj), oe.cls = .ref ca → oe.dict = none → (∃ vs, oe.data = .fields vs) → FnP X.prog X.w X.K X.mg X.base k f fd [pn0] (spR X.K X.w (a, oe) d) (a, oe))
    (hmf : X.mg fr = some (.ref f)) (hk : PySem.W.keepIn X.K (.ref f) = true) (hbd : Binds X.K fd [pn0] [])
    (hi : X.N[i]? = some n := by rfl) (hln : X.env.kindOf n = some .local := by rfl) (hgf : Gl X fr := by rfl) (hd1 : (n == ("__debug__" : Str)) = false := by decide) (hd2 : (n == ("__classdict__" : Str)) = false := by decide) (hd3 : (fr == ("__debug__" : Str)) = false := by decide)
    (he : starEach [.Name n q2] X.env = (false, eval (.Name n q2) X.env) :: starEach [] X.env := by rfl) (hpl : (backTo pos3 (starEach [] X.env)).any (·.1) = false := by rfl) :
    D1 X W (.Try body [.ExceptHandler (some (.Name x np)) (some n) [.Return (some (.Call (.Name fr q) [.Name n q2] [] pos3)) pos2] pos'] [] [] pos) (sTry i h ς) := by
  let ts : Addr → Value → Option Addr → TS := fun a cls dd D σ H => ∃ c d0, h c = some d0 ∧ (∃ ca, X.mg c = some (.ref ca) ∧ cls = .ref ca) ∧ dd = none ∧ σ[i]? = some (some (.ref a)) ∧ ∃ O, Known O H ∧ ∀ v H', Same H H' → Den X.K X.w (Fz O H') d0 v → D.rt v H'
  refine ⟨_, L2N.ps_try_as (tb := fun W => sCan X W ς) (ts := ts) (Wout := fun _ _ _ _ => False) hs hf hN hi hln hc takes0N (fun W pn xe tk hp => pss_canS (X := X) (Y := X.tr pn xe) rfl rfl rfl (hb W pn xe tk hp)) ?_, fun C own σ H s D R0 fin => ⟨C, own, s, R0, ?_⟩⟩
  · intro a oe cls dd pn hz hv
    refine ⟨fun pins s σ H D I ⟨c, d0, hcd, ⟨ca, mca, ec⟩, ed, hσ, O, hkO, q0⟩ => ?_⟩
    obtain ⟨cb, mcb, _, F⟩ := hH c d0 hcd
    rw [mca] at mcb
    cases mcb
    obtain ⟨z1, z2, z3⟩ := hz
    have F := F a oe (z1.trans ec) (z2.trans ed) hv
    obtain ⟨vs, hvs⟩ := hv
    have hot : Hot1 (X.suite a ((a, oe) :: pn)).A (a, oe) := ⟨rfl, vs, hvs, z3 vs hvs⟩
    have room : RoomH k (X.suite a ((a, oe) :: pn)).A := ⟨hr.room.dp, hr.room.un⟩
    exact (pss_cons (ps_ret (pe_callP (X := X.suite a ((a, oe) :: pn)) F room hot List.mem_cons_self hgf hmf hk hbd (pa_cons (pe_var (X := X.suite a ((a, oe) :: pn)) hi (.inl hln) hd1 hd2) pa_nil he) hd3 he hpl)) pss_nil).run pins s σ H D I ⟨.ref a, hσ, rfl, O, hkO, q0⟩
  · unfold sTry at fin
    revert fin
    cases ς s with
    | ok o =>
      intro fin
      cases o <;> exact fin
    | bad => exact fun fin => fin
    | exn c x' s' =>
      intro fin own' σ' H' cls dd hx R1
      cases hcd : h c with
      | none =>
        dsimp only at fin
        rw [hcd] at fin
        exact fin.elim
      | some d0 =>
        dsimp only at fin
        rw [hcd] at fin
        obtain ⟨ca, mca, exm, _⟩ := hH c d0 hcd
        obtain ⟨cb, mcb, e1, _, e2⟩ := hx
        rw [mca] at mcb
        cases mcb
        subst e1
        obtain ⟨s2, hput, fin⟩ := FinS.opt fin
        obtain ⟨hlt, hno, rfl⟩ := put_some hput
        refine ⟨true, exm, fun _ a na => ?_, fun z => nomatch z⟩
        have R2 := R1.kill (i := i) (x := some (.ref a)) hlt hno
        exact ⟨c, d0, hcd, ⟨ca, mca, rfl⟩, e2, List.getElem?_set_self (by rw [R1.len]; exact hlt), own' ++ C.B, R2.kn, fun v H2 sm hd => fin own' (σ'.set i (some (.ref a))) H2 v (R2.same sm) hd⟩
end
end DL
set_option maxRecDepth 100000
namespace DL
open PySem PySem.Spec PyProof.Rows L2

theorem RoomG.u {k : Nat} {A : Around} (r : RoomG k A) : A.units + 128 < cLine := by have := r.room.un; omega
theorem al_nil : ∀ s z, aNil s = .ok z → z.1.length = 0 := fun s z h => by cases h; rfl
theorem al_cons {ε : Se} {α : Sv → R (List D × Sv)} {n : Nat} (h : ∀ s z, α s = .ok z → z.1.length = n) : ∀ s z, aCons ε α s = .ok z → z.1.length = n + 1 := fun s z e => by
  obtain ⟨q, _, e⟩ := R.bind_ok e
  obtain ⟨y, h2, e⟩ := R.bind_ok e
  cases e
  show (q.1 :: y.1).length = n + 1
  rw [List.length_cons, h _ _ h2]
/-! a loan in a test -/
section
variable {X : Cx} {W : WX} {e : Expr}
theorem pt_lock {t : TT} (h : PT X e t) : PT X e (fun σ H Q => ∃ d u, H d = some u ∧ Mut (some u) ∧ ∀ od, t σ (upd H d (.frz od u)) fun b H' => H' d = some (.frz od u) ∧ Q b (upd H' d u)) := by
  refine ⟨fun pins s σ H Q I hw => ?_⟩
  obtain ⟨d, u, hd, mu, hw⟩ := hw
  obtain ⟨od, I1⟩ := I.lock hd mu
  exact thn (h.run pins s σ _ _ I1 (hw od)) fun b s1 ⟨H1, I2, e2, q⟩ => ⟨_, I2.unlock e2 (I.nofrz hd mu), q⟩
def cLend (i : Nat) (τ : St2) : St2 := fun s => R.opt (ownAt s i) fun d0 => match τ (s.set i (.sh d0)) with
  | .ok q => .ok (q.1, s)
  | _ => .bad
theorem dt_lend (i : Nat) {τ : St2} (h : DT X W e true τ) : DT X W e true (cLend i τ) := by
  obtain ⟨t, h, q⟩ := h
  refine ⟨_, pt_lock h, fun C own σ H s Q r f => ?_⟩
  obtain ⟨d0, h0, f1⟩ := Fin.opt f
  have hs := ownAt_some h0
  obtain ⟨a, u, h1, h2, h3, h4⟩ := r.own1 hs
  refine ⟨a, u, h3, h4.mut, fun od => q (lentC C i a) (less own a) σ _ _ _ (r.lent hs h1 h3 h2 h4) ?_⟩
  revert f1
  cases τ (s.set i (.sh d0)) with
  | ok z =>
    intro f1 v H' hp _ _ hd
    obtain ⟨e1, _⟩ := hp rfl
    obtain ⟨g1, g2, g3⟩ := lent_back h3 h4.mut h2 e1
    exact ⟨g1, Fin.done f1 r g2 hd⟩
  | exn c x s' => exact fun f1 => f1.elim
  | bad => exact fun f1 => f1.elim
end
section
variable {X : Cx}
/-! more of the built-in functions -/
def orC (g g' : List D → Option D) (ds : List D) : Option D := match g ds with
  | some x => some x
  | none => g' ds
def lenA : List D → Option D := orC lenG lenK
theorem call_lenA : CallD X (.builtin "len") lenA := by
  obtain ⟨r, h1, h2⟩ := call_lenG (X := X)
  obtain ⟨r', h1', h2'⟩ := call_lenK (X := X)
  refine ⟨_, CallR.or h1 h1', fun O H ds d xs Q hk a e q => ?_⟩
  unfold lenA orC at e
  cases hg : lenG ds with
  | some z => rw [hg] at e; cases e; exact .inl (h2 O H ds _ xs Q hk a hg q)
  | none => rw [hg] at e; exact .inr (h2' O H ds d xs Q hk a e q)
def listA : List D → Option D := orC listG listK
theorem call_listA (hc : X.calm = true) : CallF X (.type "list") listA := by
  obtain ⟨r, h1, h2⟩ := call_listG (X := X)
  obtain ⟨r', h1', h2'⟩ := call_listK (X := X) hc
  refine ⟨_, CallR.or h1 h1', fun O H ds d xs Q hk a e q => ?_⟩
  unfold listA orC at e
  cases hg : listG ds with
  | some z => rw [hg] at e; cases e; exact .inl (h2 O H ds _ xs Q hk a hg q)
  | none => rw [hg] at e; exact .inr (h2' O H ds d xs Q hk a e q)
def inA : D → D → Option D := orG inG (orG inS inK)
def ninA : D → D → Option D := orG nnG (orG ninS ninK)
theorem op_inA (hu : X.A.units + 128 < cLine) : OpD X (compareOp .In) inA := (op_inSeq hu).or (op_inS.or op_inK)
theorem op_ninA (hu : X.A.units + 128 < cLine) : OpD X (compareOp .NotIn) ninA := (op_notInSeq hu).or (op_ninS.or op_ninK)
def idxL (d : D) (ds : List D) : Option D := match d with | .list _ => idxG d ds | _ => none
def idxT (d : D) (ds : List D) : Option D := match d with | .tuple _ => idxG d ds | _ => none
def cntL (d : D) (ds : List D) : Option D := match d with | .list _ => cntG d ds | _ => none
def cntT (d : D) (ds : List D) : Option D := match d with | .tuple _ => cntG d ds | _ => none
theorem dx_const {W : WX} {x : Str} {pos : Pos} {d : D} (h : ∃ u, X.mg x = some u ∧ ∃ v : V, RelV v u ∧ ∀ F, Den X.K X.w F d v) (hg : Gl X x := by rfl) (hb : (x == ("__debug__" : Str)) = false := by decide) : DX X W (.Name x pos) true (eC d) := by
  obtain ⟨u, h1, v, h2, h3⟩ := h
  exact dx_glob h1 h2 h3 hg hb
/-! += and the like -/
theorem ipD {op : Operator} {C : Int → Int → Prop} [DecidableRel C] {k : Int → Int → Int} (h : PIp X op (fun x y H Q => ∃ i j, x = .int i ∧ y = .int j ∧ C i j ∧ Q (.int (k i j)) H)) : IpD X op (fun d e => match d, e with | .int i, .int j => if C i j then some (.int (k i j)) else none | _, _ => none) := by
  refine ⟨_, h, fun O H d1 d2 d x y Q hk a b e q => ?_⟩
  dsimp only at e
  split at e
  · next i j =>
    by_cases hc : C i j
    · rw [if_pos hc] at e
      cases e
      exact ⟨i, j, a, b, hc, q _ H (Same.refl H) rfl⟩
    · rw [if_neg hc] at e; cases e
  · cases e
theorem IpD.congr {op : Operator} {g g' : D → D → Option D} (h : IpD X op g) (e : ∀ a b d, g' a b = some d → g a b = some d) : IpD X op g' := by
  obtain ⟨r, h1, h2⟩ := h
  exact ⟨r, h1, fun O H d1 d2 d x y Q hk a b ee q => h2 O H d1 d2 d x y Q hk a b (e _ _ _ ee) q⟩
def addI (d e : D) : Option D := match d, e with
  | .int i, .int j => some (.int (i + j))
  | _, _ => none
def subI (d e : D) : Option D := match d, e with
  | .int i, .int j => some (.int (i - j))
  | _, _ => none
theorem ip_addI : IpD X .Add addI := (ipD (C := fun _ _ => True) (k := fun i j => i + j) fun pins s σ H x y v u Q I r1 r2 ⟨i, j, e1, e2, _, q⟩ => ip_add pins s σ H x y v u Q I r1 r2 ⟨i, j, e1, e2, q⟩).congr fun a b d h => by
  unfold addI at h
  split at h
  · simpa using h
  · cases h
theorem ip_subI : IpD X .Sub subI := (ipD (C := fun _ _ => True) (k := fun i j => i - j) fun pins s σ H x y v u Q I r1 r2 ⟨i, j, e1, e2, _, q⟩ => ip_sub pins s σ H x y v u Q I r1 r2 ⟨i, j, e1, e2, q⟩).congr fun a b d h => by
  unfold subI at h
  split at h
  · simpa using h
  · cases h
theorem ip_mulI : IpD X .Mult mulI := (ipD (C := CMul) (k := fun i j => i * j) fun pins s σ H x y v u Q I r1 r2 ⟨i, j, e1, e2, hc, q⟩ => iop_mul pins s σ H x y v u Q I r1 r2 ⟨i, j, e1, e2, hc, q⟩).congr fun a b d h => by
  unfold mulI at h
  exact h
end
/-! list(range(..)) -/
section
variable {X : Cx}
def lrngG : List D → Option D
  | [.int n] => if 0 ≤ n ∧ n ≤ 100000 then some (.list (rangeD 0 n)) else none
  | _ => none
theorem rgV_den {K : PySem.W.Frag} {w : World} {F : Hp} {a b : Int} : DenL K w F (rangeD a b) (rgV a b) := by
  unfold rangeD rgV
  generalize (b - a).toNat = n
  have key : ∀ (f : Nat → Int) (m : Nat), DenL K w F ((List.range m).map fun i => PyData.int (f i)) ((List.range m).map fun i => V.int (f i)) := by
    intro f m
    induction m generalizing f with
    | zero => rfl
    | succ m ih =>
      rw [List.range_succ_eq_map, List.map_cons, List.map_cons, List.map_map, List.map_map]
      exact .cons rfl (ih fun i => f (i + 1))
  exact key (fun i => a + (i : Nat)) n
theorem df_lRng {W : WX} {a : Expr} {p : Bool} {α : Sv → R (List D × Sv)} {p0 p1 pos pos1 : Pos} (hc : X.calm = true) (hml : X.mg "list" = none) (hmr : X.mg "range" = none) (h : DX X W a p α1) (hα : α = aCons α1 aNil) (hgl : Gl X "list" := by rfl) (hgr : Gl X "range" := by rfl)
    (na : starEach [a] X.env = (false, eval a X.env) :: starEach [] X.env := by rfl) (nb : starEach [.Call (.Name "range" p1) [a] [] pos1] X.env = (false, eval (.Call (.Name "range" p1) [a] [] pos1) X.env) :: starEach [] X.env := by rfl) :
    DF X W (.Call (.Name "list" p0) [.Call (.Name "range" p1) [a] [] pos1] [] pos) (p && true) (eCall lrngG α) := by
  obtain ⟨t, ht, q⟩ := h
  subst hα
  refine ⟨_, pe_listRg hc hgl hml (prg_1 hgr hmr ht na) nb, fun C own σ H s Q R0 f => q C own σ H s _ R0 ?_⟩
  have f : FinF X W (p && true) C own σ H s ((α1 s).bind fun z => R.lift (lrngG [z.1]) z.2) Q := by
    unfold eCall aCons aNil at f
    cases hz : α1 s with
    | ok z => rw [hz] at f; exact f
    | exn c x s' => rw [hz] at f; exact f
    | bad => rw [hz] at f; exact f
  refine FinF.bind f fun z x H1 _ R1 d1 s1 f1 => ?_
  obtain ⟨d, e, f3⟩ := FinF.lift f1
  revert e d1
  generalize z.1 = a1
  intro d1 e
  unfold lrngG at e
  split at e
  · next n heq =>
    cases heq
    by_cases hn : 0 ≤ n ∧ n ≤ 100000
    · rw [if_pos hn] at e
      cases e
      exact ⟨n, d1, RgOk.of_le (by omega) (by omega) (by omega) hn.1, fun q hq => f3.made R1 hq (same_new hq) upd_same ⟨_, rfl, rgV_den⟩⟩
    · rw [if_neg hn] at e; cases e
  · cases e
theorem bt_len : bootBuiltins "len" = some (.builtin "len") := by decide +kernel
theorem bt_sum : bootBuiltins "sum" = some (.builtin "sum") := by decide +kernel
theorem bt_abs : bootBuiltins "abs" = some (.builtin "abs") := by decide +kernel
theorem bt_repr : bootBuiltins "repr" = some (.builtin "repr") := by decide +kernel
theorem bt_sorted : bootBuiltins "sorted" = some (.builtin "sorted") := by decide +kernel
theorem bt_all : bootBuiltins "all" = some (.builtin "all") := by decide +kernel
theorem bt_any : bootBuiltins "any" = some (.builtin "any") := by decide +kernel
theorem bt_tuple : bootBuiltins "tuple" = some (.type "tuple") := by decide +kernel
theorem bt_int : bootBuiltins "int" = some (.type "int") := by decide +kernel
theorem bt_str : bootBuiltins "str" = some (.type "str") := by decide +kernel
theorem bt_list : bootBuiltins "list" = some (.type "list") := by decide +kernel
theorem bt_dict : bootBuiltins "dict" = some (.type "dict") := by decide +kernel
theorem bt_bool : bootBuiltins "bool" = some (.type "bool") := by decide +kernel
end
end DL
set_option maxRecDepth 100000
namespace DL
open PySem PySem.Spec PyProof.Rows L2
section
variable {X : Cx}
def modI (d e : D) : Option D := match d, e with
  | .int i, .int j => if 0 < j then some (.int (i % j)) else none
  | _, _ => none
theorem ip_modI : IpD X .Mod modI := (ipD (C := fun _ j => 0 < j) (k := fun i j => i % j) fun pins s σ H x y v u Q I r1 r2 ⟨i, j, e1, e2, hc, q⟩ => iop_mod pins s σ H x y v u Q I r1 r2 ⟨i, j, e1, e2, hc, q⟩).congr fun a b d h => by
  unfold modI at h
  exact h
end
section
variable {P : Program} {w : World} {K : PySem.W.Frag} {mg : Str → Option Value} {base : Heap} {k n : Nat} {f : Addr} {fd : FuncData} {ps : List Str}
theorem vac_spD {m : List D → R D} (hn : ps.length = n) (h : ∀ ds, m ds = .bad) : FnG P w K mg base (L2N.CX P w) k f fd ps (spD K w mg n m) :=
  ⟨fun vs H Q E ⟨O, ds, _, hl, _, q⟩ => hl.trans hn.symm, fun A outer s H args us vs Q E _ _ _ _ ⟨O, ds, _, _, _, q⟩ => by rw [h ds] at q; exact q.elim⟩
theorem vac_spF {m : List D → R D} (hn : ps.length = n) (h : ∀ ds, m ds = .bad) : FnG P w K mg base (L2N.CX P w) k f fd ps (spF K w mg n m) :=
  ⟨fun vs H Q E ⟨O, ds, _, hl, _, q⟩ => hl.trans hn.symm, fun A outer s H args us vs Q E _ _ _ _ ⟨O, ds, _, _, _, q⟩ => by rw [h ds] at q; exact q.elim⟩
theorem vac_spI {m : D → List D → R (D × D)} (hn : ps.length = n) (h : ∀ d ds, m d ds = .bad) : FnG P w K mg base (L2N.CX P w) k f fd ps (spI K w mg n m) :=
  ⟨fun vs H Q E ⟨O, a, u, d0, ds, r, _, _, hl, _⟩ => hl.trans hn.symm, fun A outer s H args us vs Q E _ _ _ _ ⟨O, a, u, d0, ds, r, _, _, _, _, _, _, _, q⟩ => by rw [h d0 ds] at q; exact q.elim⟩
theorem vac_spIF {m : D → List D → R (D × D)} (hn : ps.length = n) (h : ∀ d ds, m d ds = .bad) : FnG P w K mg base (L2N.CX P w) k f fd ps (spIF K w mg n m) :=
  ⟨fun vs H Q E ⟨O, a, u, d0, ds, r, _, _, hl, _⟩ => hl.trans hn.symm, fun A outer s H args us vs Q E _ _ _ _ ⟨O, a, u, d0, ds, r, _, _, _, _, _, _, _, q⟩ => by rw [h d0 ds] at q; exact q.elim⟩
end
/-! [::-1] -/
section
variable {X : Cx}
def revS : D → Option D
  | .list ds => some (.list ds.reverse)
  | .tuple ds => some (.tuple ds.reverse)
  | _ => none
end
section
variable {X : Cx} {W : WX} {x : Str} {pos : Pos}
theorem dx_cS {c : Str} (h : ∃ t, X.mg x = some (.str c t)) (hg : Gl X x := by rfl) (hb : (x == ("__debug__" : Str)) = false := by decide) : DX X W (.Name x pos) true (eC (.str c)) := by
  obtain ⟨t, h⟩ := h
  exact dx_glob (v := .str c) h ⟨t, rfl⟩ (fun _ => rfl) hg hb
theorem dx_cI {c : Int} (h : ∃ t, X.mg x = some (.int c t)) (hg : Gl X x := by rfl) (hb : (x == ("__debug__" : Str)) = false := by decide) : DX X W (.Name x pos) true (eC (.int c)) := by
  obtain ⟨t, h⟩ := h
  exact dx_glob (v := .int c) h ⟨t, rfl⟩ (fun _ => rfl) hg hb
end
end DL
set_option maxRecDepth 100000
namespace DL
open PySem PySem.Spec PyProof.Rows L2
/-! [::-1] -/
theorem rev_places (n : Nat) : Builtin.Slice.slicePlaces ((n : Int) - 1) (-1) (-1) = n := by
  unfold Builtin.Slice.slicePlaces
  have h1 : ¬ ((-1 : Int) > 0) := by decide
  simp only [h1, if_false]
  by_cases h : (n : Int) - 1 > -1
  · have e : ((n : Int) - 1 - -1 - 1) / (- -1) + 1 = (n : Int) := by
      rw [show (- -1 : Int) = 1 by decide, Int.ediv_one]
      omega
    rw [if_pos h, e, Int.toNat_natCast]
  · have e : n = 0 := by omega
    subst e
    rfl
theorem fmap_congr {α β : Type} {f g : α → Option β} : ∀ {l : List α}, (∀ x, x ∈ l → f x = g x) → l.filterMap f = l.filterMap g
  | [], _ => rfl
  | a :: l, h => by
    rw [List.filterMap_cons, List.filterMap_cons, h a List.mem_cons_self, fmap_congr fun x hx => h x (List.mem_cons_of_mem _ hx)]
theorem rev_pick (xs : Array Value) : ((List.range xs.size).filterMap fun (k : Nat) => xs[((xs.size : Int) - 1 + (k : Int) * (-1)).toNat]?).toArray = xs.toList.reverse.toArray := by
  have e : (List.range xs.size).filterMap (fun (k : Nat) => xs[((xs.size : Int) - 1 + (k : Int) * (-1)).toNat]?) = ((List.range xs.size).map (fun k => xs.size - 1 - k)).filterMap (xs[·]?) := by
    rw [List.filterMap_map]
    refine fmap_congr fun k hk => ?_
    have := List.mem_range.mp hk
    have e2 : ((xs.size : Int) - 1 + (k : Int) * (-1)).toNat = xs.size - 1 - k := by omega
    rw [e2]
    rfl
  rw [e, PySem.W.krv_range, List.filterMap_reverse, PySem.W.krv_all]
section
variable {prog : Program} {w : World} {A : Around} {E : Value → Shared → Prop} {s : Shared}
theorem sliceApplied_rev {sl : Addr} {t : Tok} {n : Nat} {Q : Int × Int × Nat → Shared → Prop} (hs : s.heap.IsSliceOf sl .none .none (.int (-1) t))
    (h : Q ((n : Int) - 1, -1, n) s) : wpAny (model prog w) A (Builtin.Slice.sliceApplied (.ref sl) (pure (n : Int))) Q E s := by
  obtain ⟨os, hos, hcs, hds⟩ := id hs
  unfold Builtin.Slice.sliceApplied Builtin.Slice.sliceFields
  refine wpAny_bind (wpAny_bind (wpAny_field hos hds (x := .none) rfl (wpAny_bind (wpAny_field hos hds (x := .none) rfl (wpAny_bind (wpAny_field hos hds (x := .int (-1) t) rfl (wpAny_pure ?_)))))))
  refine wpAny_bind (HT.slicePart_ (.int (-1) t) ?_)
  show wpAny _ _ (if ((-1 : Int) == 0) = true then _ else _) _ _ s
  rw [if_neg (by decide)]
  refine wpAny_bind (HT.slicePart_ .none (wpAny_bind (HT.slicePart_ .none (wpAny_bind (wpAny_pure ?_)))))
  show wpAny _ _ (pure ((n : Int) - 1, (-1 : Int), Builtin.Slice.slicePlaces ((n : Int) - 1) (-1) (-1))) _ _ s
  rw [rev_places]
  exact wpAny_pure h
theorem getItem_tuple_rev {t sl : Addr} {items : Array Value} {tk : Tok} {Q : Value → Shared → Prop} (ht : IsTup s.heap t items) (hs : s.heap.IsSliceOf sl .none .none (.int (-1) tk))
    (h : Q (.ref s.heap.objs.size) { s with heap := s.heap.push { cls := .type "tuple", data := .seq items.toList.reverse.toArray } })
    (hsz : items.size ≤ sizeLine) : wpAny (model prog w) A (getItem (.ref t) (.ref sl)) Q E s := by
  have htake : sizeOk (.seq items.toList.reverse.toArray) := by
    show items.toList.reverse.toArray.size ≤ sizeLine
    rw [List.size_toArray, List.length_reverse, Array.length_toList]
    exact hsz
  obtain ⟨os, hos, hcs, hds⟩ := id hs
  have hTs : s.TypeIs (.ref sl) "slice" := ⟨os, hos, hcs⟩
  unfold getItem
  try with_reducible refine wpAny_holding ?_
  first | refine wpAny_bind (wpAny_pure ?_) | skip
  refine wpAny_bind (wpAny_sequenceKey ht.typeIs (by decide) ?_)
  refine wpAny_bind (wpAny_callSpecial?_slot (name := Str.ofString "__getitem__") ht.typeIs PyProof.Rows.slot_tuple_getitem
    (wpAny_call_entry PyProof.Rows.slot_tuple_getitem ht.typeIs entry_tuple_getitem ?_ (args_tuple_getitem _ _)))
  show wpAny _ _ (Builtin.Tuple.tupleItemsOf (.ref t) >>= _) _ _ s
  refine wpAny_bind (tupleItemsOf_ ht ?_)
  refine wpAny_bind (wpAny_typeOf hTs ?_)
  rw [if_pos (by decide)]
  refine wpAny_bind (sliceApplied_rev hs ?_)
  have hno : ¬ ((((items.size : Int) - 1) == 0 && (-1 : Int) == 1 && items.size == items.size) = true) := by
    intro q
    rw [Bool.and_eq_true, Bool.and_eq_true] at q
    exact absurd q.1.2 (by decide)
  show wpAny _ _ (if (((items.size : Int) - 1) == 0 && (-1 : Int) == 1 && items.size == items.size) = true then _ else _) _ _ s
  rw [if_neg hno, rev_pick]
  first
    | exact wpAny_bind (m := Builtin.Tuple.tupleExact _) (wpAny_newObj_type (wpAny_pure ⟨_, rfl, wpAny_pure h⟩) htake)
    | exact wpAny_bind (m := Builtin.Tuple.tupleExact _) (wpAny_newObj_type (wpAny_bind (wpAny_pure (wpAny_pure ⟨_, rfl, wpAny_pure h⟩))) htake)
    | exact wpAny_bind (wpAny_bind (m := Builtin.Tuple.tupleExact _) (wpAny_newObj_type (wpAny_pure (wpAny_pure ⟨_, rfl, wpAny_pure h⟩)) htake))
    | exact wpAny_bind (wpAny_bind (m := Builtin.Tuple.tupleExact _) (wpAny_newObj_type (wpAny_pure ⟨_, rfl, wpAny_pure h⟩) htake))
end
section
variable {X : Cx} {W : WX}
def SlV (X : Cx) (r : V → Hp → VK → Prop) : Prop :=
  ∀ (pins : List (Addr × Obj)) (s : Shared) (σ : L2.St) (H : Hp) (x : V) (v : Value) (t : Tok) (sl : Addr) (Q : VK), Inv X pins σ H s → RelV x v → s.heap.IsSliceOf sl .none .none (.int (-1) t) → r x H Q →
    ∃ T id, typeLookup (.type T) "__getitem__" = pure (some (.builtin id)) ∧ s.TypeIs v T ∧ wpAny (model X.prog X.w) X.A (getItem v (.ref sl)) (EP X pins σ Q) X.xe s
theorem pe_rev {r : V → Hp → VK → Prop} {e : Expr} {te : TE} {j : Nat} {p1 p2 p3 pos : Pos} (hr : SlV X r) (he : PE X e te) :
    PE X (.Subscript e (.Slice none none (some (.UnaryOp .USub (.Constant (.int 1) j p1) p2)) p3) pos) (fun σ H Q => te σ H fun x H1 => r x H1 Q) := by
  refine ⟨fun pins s σ H Q I h => ?_⟩
  refine Subscript_ (thn (he.run pins s σ H _ I h) fun v s1 ⟨x, H1, I1, r1, q1⟩ => ?_)
  refine wpAny_Slice ?_
  rw [evalPart_none]
  refine wpAny_pure (wpAny_pure ?_)
  rw [evalPart_some]
  refine thn ((pe_un (X := X) un_neg (pe_int (i := 1) (j := j) (pos := p1))).run pins s1 σ H1 (fun y H2 => y = .int (-1) ∧ r x H2 Q) I1 ⟨1, rfl, rfl, q1⟩) fun vu s3 ⟨u, H3, I3, pu, eu, q3⟩ => ?_
  subst eu
  obtain ⟨t, rfl⟩ := pu
  have I4 : Inv X pins σ H3 { s3 with heap := s3.heap.push { cls := .type "slice", data := .fields #[.none, .none, .int (-1) t] } } := I3.kept (t' := s3.toks) fun b ob q => Heap.get?_push_of_some _ q
  obtain ⟨T, id, hT, ht, hg⟩ := hr pins { s3 with heap := s3.heap.push { cls := .type "slice", data := .fields #[.none, .none, .int (-1) t] } } σ H3 x v t s3.heap.objs.size Q I4 r1 (Heap.IsSliceOf.new ..) q3
  show wpAny (model X.prog X.w) X.A (subscriptTail e (.Slice none none (some (.UnaryOp .USub (.Constant (.int 1) j p1) p2)) p3) v (.ref s3.heap.objs.size)) (EP X pins σ Q) X.xe { s3 with heap := s3.heap.push { cls := .type "slice", data := .fields #[.none, .none, .int (-1) t] } }
  exact tail_any (ops := [v, .ref s3.heap.objs.size]) ht hT hg (by with_unfolding_all rfl)
def rRevQ (K : PySem.W.Frag) : V → Hp → VK → Prop := fun x H Q => ∃ a xs, x = .ref a ∧ ((SqL K H a xs ∧ ∀ p, H p = none → Q (.ref p) (upd H p (.lst xs.reverse))) ∨ (SqT K H a xs ∧ NewT H xs.reverse Q))
theorem sl_rev : SlV X (rRevQ X.K) := by
  intro pins s σ H x v t sl Q I rx hs h
  obtain ⟨a, xs, rfl, ⟨hx, q⟩ | ⟨hx, q⟩⟩ := h
  · cases rx
    obtain ⟨its, r, ht, hz⟩ := I.list hx
    have hlen := r.length
    refine ⟨"list", _, slot_list_getitem.lookup, ht.isList.typeIs, ?_⟩
    refine wpAny_getItem_list_slice ht.isList hs .none .none (.int (-1) t) (by decide) ?_ (by rw [List.size_toArray] <;> omega)
    rw [PySem.W.krv_pick]
    refine ⟨.ref s.heap.objs.size, _, I.laid (t' := s.toks) (o := .lst xs.reverse) (fun b ob q => Heap.get?_push_of_some _ q) (Nat.le_refl _) ?_, rfl, q _ (I.hok.fresh (Nat.le_refl _))⟩
    exact ⟨by rw [List.length_reverse]; exact hz, _, 0, r.reverse, Heap.get?_push_size _ rfl⟩
  · cases rx
    obtain ⟨its, r, ht, hz⟩ := I.tuple hx
    have hlen : its.toArray.size = xs.length := by rw [List.size_toArray]; exact r.length.symm
    refine ⟨"tuple", _, PyProof.Rows.slot_tuple_getitem.lookup, ht.typeIs, ?_⟩
    refine getItem_tuple_rev ht hs ?_ (by rw [hlen]; exact hz)
    exact Inv.ltup I r.reverse (by rw [List.length_reverse]; exact hz) q
theorem dx_revS {a : Expr} {pa : Bool} {εa : Se} {pos p1 p2 p3 : Pos} {j : Nat} (h : DX X W a pa εa) : DX X W (.Subscript a (.Slice none none (some (.UnaryOp .USub (.Constant (.int 1) j p1) p2)) p3) pos) (pa && true) (eUn revS εa) := by
  obtain ⟨t, h, q⟩ := h
  refine ⟨_, pe_rev sl_rev h, fun C own σ H s Q R0 f => q C own σ H s _ R0 (f.bind fun z x H1 _ R1 d1 s1 f1 => ?_)⟩
  obtain ⟨d, e, f3⟩ := f1.lift
  have d1 := d1
  revert e d1
  generalize z.1 = a1
  unfold revS
  split
  · next ds =>
    intro e ⟨p, xs, e1, h1, h2⟩
    cases e
    refine ⟨p, xs, e1, .inl ⟨.inl (rd_mono (Fz.le _ _) h1), fun q hq => f3.done R1 (same_new hq) ⟨q, _, rfl, .inl ?_, DenL.mono (Fz.same (same_new hq)) _ _ h2.reverse⟩⟩⟩
    rw [Fz.out (R1.new hq)]; exact upd_same
  · next ds =>
    intro e ⟨p, xs, e1, h1, h2⟩
    cases e
    refine ⟨p, xs, e1, .inr ⟨sqt_mono (Fz.le _ _) h1.seq, fun q o hq ho => f3.done R1 (same_new hq) ⟨q, _, rfl, sqn_new ?_ ho, DenL.mono (Fz.same (same_new hq)) _ _ h2.reverse⟩⟩⟩
    rw [Fz.out (R1.new hq)]; exact upd_same
  · intro e; cases e
end
end DL
set_option maxRecDepth 100000
namespace DL
open PySem PySem.Spec PyProof.Rows L2
/-! the law's head -/
def noList (K : PySem.W.Frag) : Bool := K.all fun p => !(p.2.cls == .type "list")
theorem noList_out {K : PySem.W.Frag} (h : noList K = true) {a : Addr} {o : Obj} : K.lookup a = some o → o.cls = .type "list" → False := by
  unfold noList at h
  induction K with
  | nil => intro e; cases e
  | cons p K ih =>
    rw [List.all_cons, Bool.and_eq_true] at h
    intro e c
    rw [List.lookup_cons] at e
    split at e
    · cases e
      have h1 := h.1
      rw [c] at h1
      simp at h1
    · exact ih h.2 e c
def spL (K : PySem.W.Frag) (w : World) (m : List D → R D) : Sp := fun vs H Q _ => ∃ O ds, Known O H ∧ vs.length = 1 ∧ DenL K w (Fz O H) ds vs ∧ ∃ d, m ds = .ok d ∧ ∀ v H', Same H H' → Den K w (Fz O H') d v → Q v H'
theorem FnG.law {P : Program} {w : World} {K : PySem.W.Frag} {mg : Str → Option Value} {base : Heap} {CX : CXT} {k : Nat} {f : Addr} {fd : FuncData} {x : Str} {m : List D → R D} (F : FnG P w K mg base CX k f fd [x] (spD K w mg 1 m)) : FnG P w K mg base CX k f fd [x] (spL K w m) :=
  ⟨fun vs H Q E ⟨O, ds, _, hl, _⟩ => hl, fun A outer s H args us vs Q E hr e hb r ⟨O, ds, h1, h2, h3, d, h4, h5⟩ => F.run A outer s H args us vs Q E hr e hb r ⟨O, ds, h1, h2, h3, by rw [h4]; exact h5⟩⟩
theorem den_ints {K : PySem.W.Frag} {w : World} {H : Hp} : ∀ {ns : List Int}, DenL K w H (ns.map .int) (ns.map V.int)
  | [] => rfl
  | i :: ns => ⟨.int i, ns.map V.int, rfl, rfl, den_ints⟩
theorem walk_ofN {l : PySem.W.OpenLaw} {n k : Nat} {q : Program} {loose : List Str} {XP : (Str → Option Value) → Heap → Prop} {YP : World → Heap → Prop} {d : DefRec} {K : Params → PySem.W.Frag} {m : List D → R D} {x : Str}
    (hn : l.most = some n) (hn2 : n ≤ sizeLine) (hdf : d.params.defaults = []) (hr : Room k callerA)
    (hY : ∀ (w : World) (h : Heap), YP w h → (K w.params).In h) (hno : ∀ w : World, noList (K w.params) = true)
    (F : ∀ (w : World) (mg : Str → Option Value) (fa : Addr) (h : Heap), (K w.params).In h → h.Ns mainGlobals mg → mg d.name = some (.ref fa) →
      ∃ fd : FuncData, (∀ (s : Shared) (u : Value), BindsTo s fd ⟨[u], []⟩ [(x, u)]) ∧ ∀ base : Heap, (K w.params).In base → base.Ns mainGlobals mg → FnG l.prog w (K w.params) mg base (L2N.CX l.prog w) k fa fd [x] (spD (K w.params) w mg 1 m))
    (hlaw : ∀ ns : List Int, ns.length ≤ n → (∀ i ∈ ns, Builtin.Int.intBits i ≤ 1048576) → m [.list (ns.map .int)] = .ok (.bool true)) :
    PySem.W.WalkO q loose XP YP l.row.toRowW d [] (fun f vs => PySem.call f vs) := by
  refine walk_ofG (n := n) (k := k) (x := x) (CX := fun w => L2N.CX l.prog w) (sp := fun w => spL (K w.params) w m) hn hn2 hdf hr hY (fun w mg fa h a b c => ?_) (fun w H a ns hl ho hS hb => ?_) fun w H s e s' ⟨a, B, H', cls, d, _, _, _, _, _, _, _, z⟩ => z
  · obtain ⟨fd, h1, h2⟩ := F w mg fa h a b c
    exact ⟨fd, h1, fun base p q => (h2 base p q).law⟩
  · refine ⟨[], [.list (ns.map .int)], fun b h => (List.not_mem_nil h).elim, rfl, ⟨.ref a, [], rfl, ⟨a, ns.map V.int, rfl, ?_, den_ints⟩, rfl⟩, .bool true, hlaw ns hl hb, fun v H' _ e => e⟩
    rcases hS with hS | ⟨o, its, nn, lk, c, _⟩
    · have : Fz [] H a = H a ∨ True := .inr trivial
      rcases hS with h | ⟨o, h⟩
      · rcases ho a with z | ⟨o, xs, z⟩
        · rw [h] at z; cases z
        · rw [h] at z; cases z
      · exact .inr ⟨o, by rw [Fz.out (List.not_mem_nil)]; exact h⟩
    · exact (noList_out (hno w) lk c).elim
end DL
set_option maxRecDepth 100000
namespace DL
open PySem
/-! ### the mirrors, read: plain equations -/
section
variable {ε ε1 ε2 ε3 : Se} {α : Sv → R (List D × Sv)} {τ τ1 τ2 : St2} {a b : Ss} {s : Sv} {i n : Nat} {d : D}
/-- the data in a slot -/
def shAt (s : Sv) (i : Nat) : Option D := match s[i]? with
  | some (.sh d) => some d
  | _ => none
@[simp] theorem shAt_0 {r : Sv} : shAt (.sh d :: r) 0 = some d := (rfl)
@[simp] theorem shAt_succ {r : Sv} {y : Sl} : shAt (y :: r) (n + 1) = shAt r n := by
  unfold shAt
  rw [List.getElem?_cons_succ]
@[simp] theorem eC_s  : eC d s = .ok (d, s) := (rfl)
def kVar (s : Sv) : D → R (D × Sv) := fun d => .ok (d, s)
@[simp] theorem kVar_s {s : Sv} {d : D} : kVar s d = .ok (d, s) := (rfl)
@[simp] theorem eVar_d  : eVar i s = R.opt (shAt s i) (kVar s) := by
  unfold eVar shAt
  cases s[i]? with
  | none => rfl
  | some z => cases z <;> rfl
def kOp1 (g : D → D → Option D) (e : D) : D × Sv → R (D × Sv) := fun q => R.lift (g e q.1) q.2
@[simp] theorem kOp1_s {g : D → D → Option D} {e : D} {d : D} {s : Sv} : kOp1 g e (d, s) = R.lift (g e d) s := (rfl)
def kOp (g : D → D → Option D) (ε2 : Se) : D × Sv → R (D × Sv) := fun q => R.bind (ε2 q.2) (kOp1 g q.1)
@[simp] theorem kOp_s {g : D → D → Option D} {ε2 : Se} {d : D} {s : Sv} : kOp g ε2 (d, s) = R.bind (ε2 s) (kOp1 g d) := (rfl)
@[simp] theorem eOp_s {g : D → D → Option D} : eOp g ε1 ε2 s = R.bind (ε1 s) (kOp g ε2) := (rfl)
def kUn (g : D → Option D) : D × Sv → R (D × Sv) := fun q => R.lift (g q.1) q.2
@[simp] theorem kUn_s {g : D → Option D} {d : D} {s : Sv} : kUn g (d, s) = R.lift (g d) s := (rfl)
@[simp] theorem eUn_s {g : D → Option D} : eUn g ε s = R.bind (ε s) (kUn g) := (rfl)
def kB  : D × Sv → R (Bool × Sv) := fun q => R.lift (isBl q.1) q.2
@[simp] theorem kB_s  {d : D} {s : Sv} : kB  (d, s) = R.lift (isBl d) s := (rfl)
@[simp] theorem cB_s  : cB ε s = R.bind (ε s) kB := (rfl)
@[simp] theorem isBl_bool {x : Bool} : isBl (.bool x) = some x := (rfl)
def kNot  : Bool × Sv → R (Bool × Sv) := fun q => .ok (!q.1, q.2)
@[simp] theorem kNot_s  {b : Bool} {s : Sv} : kNot  (b, s) = .ok (!b, s) := (rfl)
@[simp] theorem cNot_s  : cNot τ s = R.bind (τ s) kNot := (rfl)
def kIf {A : Type} (x y : Sv → R A) : Bool × Sv → R A := fun q => if q.1 then x q.2 else y q.2
@[simp] theorem kIf_s {A : Type} {x y : Sv → R A} {b : Bool} {s : Sv} : kIf x y (b, s) = if b then x s else y s := (rfl)
def okB (b : Bool) : St2 := fun s => .ok (b, s)
@[simp] theorem okB_s {b : Bool} : okB b s = .ok (b, s) := (rfl)
def okD (d : D) : Se := fun s => .ok (d, s)
@[simp] theorem okD_s : okD d s = .ok (d, s) := (rfl)
@[simp] theorem cAnd_s  : cAnd τ τ1 s = R.bind (τ s) (kIf τ1 (okB false)) := (rfl)
@[simp] theorem cOr_s  : cOr τ τ1 s = R.bind (τ s) (kIf (okB true) τ1) := (rfl)
@[simp] theorem cYes_s  : cYes s = .ok (true, s) := (rfl)
@[simp] theorem eIf_s  : eIf τ ε1 ε2 s = R.bind (τ s) (kIf ε1 ε2) := (rfl)
@[simp] theorem aNil_s  : aNil s = .ok ([], s) := (rfl)
def kCons1 (e : D) : List D × Sv → R (List D × Sv) := fun q => .ok (e :: q.1, q.2)
@[simp] theorem kCons1_s {e : D} {l : List D} {s : Sv} : kCons1 e (l, s) = .ok (e :: l, s) := (rfl)
def kCons (α : Sv → R (List D × Sv)) : D × Sv → R (List D × Sv) := fun q => R.bind (α q.2) (kCons1 q.1)
@[simp] theorem kCons_s {α : Sv → R (List D × Sv)} {d : D} {s : Sv} : kCons α (d, s) = R.bind (α s) (kCons1 d) := (rfl)
@[simp] theorem aCons_s  : aCons ε α s = R.bind (ε s) (kCons α) := (rfl)
def kTup  : List D × Sv → R (D × Sv) := fun q => if q.1.length ≤ 100000 then .ok (.tuple q.1, q.2) else .bad
@[simp] theorem kTup_s  {l : List D} {s : Sv} : kTup  (l, s) = if l.length ≤ 100000 then .ok (.tuple l, s) else .bad := (rfl)
@[simp] theorem eTup_s  : eTup α s = R.bind (α s) kTup := (rfl)
def kLst  : List D × Sv → R (D × Sv) := fun q => if q.1.length ≤ 100000 then .ok (.list q.1, q.2) else .bad
@[simp] theorem kLst_s  {l : List D} {s : Sv} : kLst  (l, s) = if l.length ≤ 100000 then .ok (.list l, s) else .bad := (rfl)
@[simp] theorem eLst_s  : eLst α s = R.bind (α s) kLst := (rfl)
def kCall (g : List D → Option D) : List D × Sv → R (D × Sv) := fun q => R.lift (g q.1) q.2
@[simp] theorem kCall_s {g : List D → Option D} {l : List D} {s : Sv} : kCall g (l, s) = R.lift (g l) s := (rfl)
@[simp] theorem eCall_s {g : List D → Option D} : eCall g α s = R.bind (α s) (kCall g) := (rfl)
def kFz  : D × Sv → R (D × Sv) := fun q => if isLst q.1 then .ok (q.1, q.2) else .bad
@[simp] theorem kFz_s  {d : D} {s : Sv} : kFz  (d, s) = if isLst d then .ok (d, s) else .bad := (rfl)
@[simp] theorem eFz_s  : eFz ε s = R.bind (ε s) kFz := (rfl)
@[simp] theorem isLst_list {ds : List D} : isLst (.list ds) = true := (rfl)
@[simp] theorem sNext_s  : sNext s = .ok (.nx s) := (rfl)
def kNx  : Sv → R (Out) := fun s' => .ok (.nx s')
@[simp] theorem kNx_s  {s' : Sv} : kNx  s' = .ok (.nx s') := (rfl)
def kSet (i : Nat) : D × Sv → R (Out) := fun q => R.opt (put q.2 i (.sh q.1)) kNx
@[simp] theorem kSet_s {i : Nat} {d : D} {s : Sv} : kSet i (d, s) = R.opt (put s i (.sh d)) kNx := (rfl)
@[simp] theorem sSet_s  : sSet i ε s = R.bind (ε s) (kSet i) := (rfl)
def kSetF (i : Nat) : D × Sv → R (Out) := fun q => R.opt (put q.2 i (.ow q.1)) kNx
@[simp] theorem kSetF_s {i : Nat} {d : D} {s : Sv} : kSetF i (d, s) = R.opt (put s i (.ow d)) kNx := (rfl)
@[simp] theorem sSetF_s  : sSetF i ε s = R.bind (ε s) (kSetF i) := (rfl)
@[simp] theorem sIf_s  : sIf τ a b s = R.bind (τ s) (kIf a b) := (rfl)
def kRet  : D × Sv → R (Out) := fun q => .ok (.rt q.1 q.2)
@[simp] theorem kRet_s  {d : D} {s : Sv} : kRet  (d, s) = .ok (.rt d s) := (rfl)
@[simp] theorem sRet_s  : sRet ε s = R.bind (ε s) kRet := (rfl)
def kRetF  : D × Sv → R (Out) := fun q => .ok (.rf q.1 q.2)
@[simp] theorem kRetF_s  {d : D} {s : Sv} : kRetF  (d, s) = .ok (.rf d s) := (rfl)
@[simp] theorem sRetF_s  : sRetF ε s = R.bind (ε s) kRetF := (rfl)
def kDrop  : D × Sv → R (Out) := fun q => .ok (.nx q.2)
@[simp] theorem kDrop_s  {d : D} {s : Sv} : kDrop  (d, s) = .ok (.nx s) := (rfl)
@[simp] theorem sDrop_s  : sDrop ε s = R.bind (ε s) kDrop := (rfl)
@[simp] theorem sRaise_s {c : Str} : sRaise c s = .exn c .none s := (rfl)
def kFor (γ : D → Sv → Option Sv) (b : Ss) : List D × Sv → R (Out) := fun q => forGo γ b q.1 q.2
@[simp] theorem kFor_s {γ : D → Sv → Option Sv} {b : Ss} {l : List D} {s : Sv} : kFor γ b (l, s) = forGo γ b l s := (rfl)
@[simp] theorem sFor_s {γ : D → Sv → Option Sv} {ι : Sv → R (List D × Sv)} : sFor γ ι b s = R.bind (ι s) (kFor γ b) := (rfl)
def kCallL (g : List D → Option (List D)) : List D × Sv → R (List D × Sv) := fun q => R.lift (g q.1) q.2
@[simp] theorem kCallL_s {g : List D → Option (List D)} {l : List D} {s : Sv} : kCallL g (l, s) = R.lift (g l) s := (rfl)
def kUnL (g : D → Option (List D)) : D × Sv → R (List D × Sv) := fun q => R.lift (g q.1) q.2
@[simp] theorem kUnL_s {g : D → Option (List D)} {d : D} {s : Sv} : kUnL g (d, s) = R.lift (g d) s := (rfl)
@[simp] theorem iRng_s  : iRng α s = R.bind (α s) (kCallL rngG) := (rfl)
@[simp] theorem iSrc_s {g : D → Option (List D)} : iSrc g ε s = R.bind (ε s) (kUnL g) := (rfl)
@[simp] theorem iArg_s {g : List D → Option (List D)} : iArg g α s = R.bind (α s) (kCallL g) := (rfl)
@[simp] theorem put_un {r : Sv} {x : Sl} : put (.un :: r) 0 x = some (x :: r) := (rfl)
@[simp] theorem put_sh {r : Sv} {x : Sl} : put (.sh d :: r) 0 x = some (x :: r) := (rfl)
@[simp] theorem put_ow {r : Sv} {x : Sl} : put (.ow d :: r) 0 x = some (x :: r) := (rfl)
@[simp] theorem put_succ {r : Sv} {x y : Sl} : put (y :: r) (n + 1) x = (put r n x).map (y :: ·) := by
  unfold put
  rw [List.getElem?_cons_succ]
  cases r[n]? with
  | none => rfl
  | some z => cases z <;> rfl
/-- a slot that may be empty -/
def os : Option D → Sl
  | none => .un
  | some d => .sh d
@[simp] theorem put_os {r : Sv} {x : Sl} {o : Option D} : put (os o :: r) 0 x = some (x :: r) := by cases o <;> rfl
@[simp] theorem ownAt_ow {r : Sv} : ownAt (.ow d :: r) 0 = some d := (rfl)
@[simp] theorem ownAt_io {r : Sv} : ownAt (.io d :: r) 0 = some d := (rfl)
@[simp] theorem ownAt_succ {r : Sv} {y : Sl} : ownAt (y :: r) (n + 1) = ownAt r n := by
  unfold ownAt
  rw [List.getElem?_cons_succ]
@[simp] theorem setOwn_ow {r : Sv} {d' : D} : setOwn (.ow d :: r) 0 d' = .ow d' :: r := (rfl)
@[simp] theorem setOwn_io {r : Sv} {d' : D} : setOwn (.io d :: r) 0 d' = .io d' :: r := (rfl)
@[simp] theorem setOwn_succ {r : Sv} {y : Sl} {d' : D} : setOwn (y :: r) (n + 1) d' = y :: setOwn r n d' := by
  unfold setOwn
  rw [List.getElem?_cons_succ]
  cases r[n]? with
  | none => rfl
  | some z => cases z <;> rfl
@[simp] theorem thaw_ow {r : Sv} : thaw (.ow d :: r) 0 = some (.sh d :: r) := (rfl)
@[simp] theorem thaw_succ {r : Sv} {y : Sl} : thaw (y :: r) (n + 1) = (thaw r n).map (y :: ·) := by
  unfold thaw
  rw [List.getElem?_cons_succ]
  cases r[n]? with
  | none => rfl
  | some z => cases z <;> rfl
@[simp] theorem sFrz_s  : sFrz i a s = R.opt (thaw s i) a := (rfl)
@[simp] theorem sKill_s  : sKill i a s = R.opt (put s i .un) a := (rfl)
@[simp] theorem gVar_s  : gVar i d s = put s i (.sh d) := (rfl)
@[simp] theorem sRetN_s  : sRetN s = .ok (.rt .none s) := (rfl)
@[simp] theorem sBrk_s  : sBrk s = .ok (.bk s) := (rfl)
@[simp] theorem sCnt_s  : sCnt s = .ok (.ct s) := (rfl)
def kEAnd (ε2 : Se) : D × Sv → R (D × Sv) := fun q => R.bind (R.lift (isBl q.1) q.2) (kIf ε2 (okD (.bool false)))
@[simp] theorem kEAnd_s {ε2 : Se} {d : D} {s : Sv} : kEAnd ε2 (d, s) = R.bind (R.lift (isBl d) s) (kIf ε2 (okD (.bool false))) := (rfl)
@[simp] theorem eAnd_t : eAnd ε1 ε2 s = R.bind (ε1 s) (kEAnd ε2) := by
  show (ε1 s).bind _ = _
  congr 1
  funext q
  obtain ⟨d, s⟩ := q
  cases d <;> first | rfl | (next b => cases b <;> rfl)
def kEOr (ε2 : Se) : D × Sv → R (D × Sv) := fun q => R.bind (R.lift (isBl q.1) q.2) (kIf (okD (.bool true)) ε2)
@[simp] theorem kEOr_s {ε2 : Se} {d : D} {s : Sv} : kEOr ε2 (d, s) = R.bind (R.lift (isBl d) s) (kIf (okD (.bool true)) ε2) := (rfl)
@[simp] theorem eOr_t : eOr ε1 ε2 s = R.bind (ε1 s) (kEOr ε2) := by
  show (ε1 s).bind _ = _
  congr 1
  funext q
  obtain ⟨d, s⟩ := q
  cases d <;> first | rfl | (next b => cases b <;> rfl)
def notB : D → Option D
  | .bool b => some (.bool !b)
  | _ => none
@[simp] theorem notB_b {b : Bool} : notB (.bool b) = some (.bool !b) := (rfl)
@[simp] theorem eNot_t  : eNot ε s = R.bind (ε s) (kUn notB) := (rfl)
def kCh2 (g' : D → D → Option D) (ε3 : Se) (e : D) : Se := fun s => R.bind (ε3 s) (kOp1 g' e)
@[simp] theorem kCh2_s {g' : D → D → Option D} {e : D} : kCh2 g' ε3 e s = R.bind (ε3 s) (kOp1 g' e) := (rfl)
def kCh1 (g g' : D → D → Option D) (ε3 : Se) (e : D) : D × Sv → R (D × Sv) := fun q => R.bind (R.lift ((g e q.1).bind isBl) q.2) (kIf (kCh2 g' ε3 q.1) (okD (.bool false)))
@[simp] theorem kCh1_s {g g' : D → D → Option D} {ε3 : Se} {e : D} {d : D} {s : Sv} : kCh1 g g' ε3 e (d, s) = R.bind (R.lift ((g e d).bind isBl) s) (kIf (kCh2 g' ε3 d) (okD (.bool false))) := (rfl)
def kCh (g g' : D → D → Option D) (ε2 ε3 : Se) : D × Sv → R (D × Sv) := fun q => R.bind (ε2 q.2) (kCh1 g g' ε3 q.1)
@[simp] theorem kCh_s {g g' : D → D → Option D} {ε2 ε3 : Se} {d : D} {s : Sv} : kCh g g' ε2 ε3 (d, s) = R.bind (ε2 s) (kCh1 g g' ε3 d) := (rfl)
@[simp] theorem eChain_t {g g' : D → D → Option D} : eChain g g' ε1 ε2 ε3 s = R.bind (ε1 s) (kCh g g' ε2 ε3) := by
  show (ε1 s).bind _ = _
  congr 1
  funext q
  show (ε2 q.2).bind _ = (ε2 q.2).bind _
  congr 1
  funext z
  show _ = R.bind (R.lift ((g q.1 z.1).bind isBl) z.2) _
  cases g q.1 z.1 with
  | none => rfl
  | some d => cases d <;> first | rfl | (next b => cases b <;> rfl)
/-- what a call gives, as regular functions -/
def R.res (r : R D) (s : Sv) : R (D × Sv) := match r with
  | .ok d => .ok (d, s)
  | .exn c x _ => .exn c x s
  | .bad => .bad
@[simp] theorem R.res_ok : R.res (.ok d) s = .ok (d, s) := (rfl)
@[simp] theorem R.res_exn {c : Str} {x : D} {s' : Sv} : R.res (.exn c x s') s = .exn c x s := (rfl)
def R.resI (r : R (D × D)) (i : Nat) (s : Sv) : R (D × Sv) := match r with
  | .ok z => .ok (z.1, setOwn s i z.2)
  | _ => .bad
@[simp] theorem R.resI_ok {z : D × D} : R.resI (.ok z) i s = .ok (z.1, setOwn s i z.2) := (rfl)
def R.lend {A : Type} (r : R (A × Sv)) (ok : A → Bool) (s : Sv) : R (A × Sv) := match r with
  | .ok q => if ok q.1 then .ok (q.1, s) else .bad
  | _ => .bad
@[simp] theorem R.lend_ok {A : Type} {q : A × Sv} {ok : A → Bool} : R.lend (.ok q) ok s = if ok q.1 then .ok (q.1, s) else .bad := (rfl)
def Out.andThen (b : Ss) (o : Out) : R Out := match o with
  | .nx s' => b s'
  | o => .ok o
@[simp] theorem Out.then_nx {s' : Sv} : Out.andThen b (.nx s') = b s' := (rfl)
@[simp] theorem Out.then_rt {s' : Sv} : Out.andThen b (.rt d s') = .ok (.rt d s') := (rfl)
@[simp] theorem Out.then_rf {s' : Sv} : Out.andThen b (.rf d s') = .ok (.rf d s') := (rfl)
@[simp] theorem Out.then_bk {s' : Sv} : Out.andThen b (.bk s') = .ok (.bk s') := (rfl)
@[simp] theorem Out.then_ct {s' : Sv} : Out.andThen b (.ct s') = .ok (.ct s') := (rfl)
@[simp] theorem sSeq_s  : sSeq a b s = R.bind (a s) (Out.andThen b) := (rfl)
def kFn (m : List D → R D) : List D × Sv → R (D × Sv) := fun q => R.res (m q.1) q.2
@[simp] theorem ret_then {r : R (D × Sv)} : R.bind (R.bind r kRet) (Out.andThen b) = R.bind r kRet := by cases r <;> rfl
@[simp] theorem retF_then {r : R (D × Sv)} : R.bind (R.bind r kRetF) (Out.andThen b) = R.bind r kRetF := by cases r <;> rfl
@[simp] theorem kFn_s {m : List D → R D} {l : List D} {s : Sv} : kFn m (l, s) = R.res (m l) s := (rfl)
@[simp] theorem eFn_s {m : List D → R D} : eFn m α s = R.bind (α s) (kFn m) := (rfl)
def kFnI1 (i : Nat) (m : D → List D → R (D × D)) (l : List D) (s : Sv) : D → R (D × Sv) := fun d0 => R.resI (m d0 l) i s
@[simp] theorem kFnI1_s {i : Nat} {m : D → List D → R (D × D)} {l : List D} {s : Sv} {d0 : D} : kFnI1 i m l s d0 = R.resI (m d0 l) i s := (rfl)
def kFnI (i : Nat) (m : D → List D → R (D × D)) : List D × Sv → R (D × Sv) := fun q => R.opt (ownAt q.2 i) (kFnI1 i m q.1 q.2)
@[simp] theorem kFnI_s {i : Nat} {m : D → List D → R (D × D)} {l : List D} {s : Sv} : kFnI i m (l, s) = R.opt (ownAt s i) (kFnI1 i m l s) := (rfl)
def kFnI0 (i : Nat) (m : D → List D → R (D × D)) (α : Sv → R (List D × Sv)) (s : Sv) : D → R (D × Sv) := fun d0 => R.bind (α s) (kFnI i m)
@[simp] theorem kFnI0_s {i : Nat} {m : D → List D → R (D × D)} {α : Sv → R (List D × Sv)} {s : Sv} {d0 : D} : kFnI0 i m α s d0 = R.bind (α s) (kFnI i m) := (rfl)
@[simp] theorem eFnI_s {m : D → List D → R (D × D)} : eFnI i m α s = R.opt (ownAt s i) (kFnI0 i m α s) := (rfl)
def kMeth1 (g : D → List D → Option D) (e : D) : List D × Sv → R (D × Sv) := fun q => R.lift (g e q.1) q.2
@[simp] theorem kMeth1_s {g : D → List D → Option D} {e : D} {l : List D} {s : Sv} : kMeth1 g e (l, s) = R.lift (g e l) s := (rfl)
def kMeth (T : String) (g : D → List D → Option D) (α : Sv → R (List D × Sv)) : D × Sv → R (D × Sv) := fun q => if tyN q.1 = T then R.bind (α q.2) (kMeth1 g q.1) else .bad
@[simp] theorem kMeth_s {T : String} {g : D → List D → Option D} {α : Sv → R (List D × Sv)} {d : D} {s : Sv} : kMeth T g α (d, s) = if tyN d = T then R.bind (α s) (kMeth1 g d) else .bad := (rfl)
@[simp] theorem eMeth_s {T : String} {g : D → List D → Option D} : eMeth T g ε α s = R.bind (ε s) (kMeth T g α) := (rfl)
def kMI3 (i : Nat) (s : Sv) : D × D → R (D × Sv) := fun y => .ok (y.1, setOwn s i y.2)
@[simp] theorem kMI3_s {i : Nat} {s : Sv} {y : D × D} : kMI3 i s y = .ok (y.1, setOwn s i y.2) := (rfl)
def kMI2 (i : Nat) (g : D → List D → Option (D × D)) (l : List D) (s : Sv) : D → R (D × Sv) := fun d0 => R.opt (g d0 l) (kMI3 i s)
@[simp] theorem kMI2_s {i : Nat} {g : D → List D → Option (D × D)} {l : List D} {s : Sv} {d0 : D} : kMI2 i g l s d0 = R.opt (g d0 l) (kMI3 i s) := (rfl)
def kMI1 (i : Nat) (g : D → List D → Option (D × D)) : List D × Sv → R (D × Sv) := fun q => R.opt (ownAt q.2 i) (kMI2 i g q.1 q.2)
@[simp] theorem kMI1_s {i : Nat} {g : D → List D → Option (D × D)} {l : List D} {s : Sv} : kMI1 i g (l, s) = R.opt (ownAt s i) (kMI2 i g l s) := (rfl)
def kMI (T : String) (i : Nat) (g : D → List D → Option (D × D)) (α : Sv → R (List D × Sv)) (s : Sv) : D → R (D × Sv) := fun d0 => if tyN d0 = T then R.bind (α s) (kMI1 i g) else .bad
@[simp] theorem kMI_s {T : String} {i : Nat} {g : D → List D → Option (D × D)} {α : Sv → R (List D × Sv)} {s : Sv} {d0 : D} : kMI T i g α s d0 = if tyN d0 = T then R.bind (α s) (kMI1 i g) else .bad := (rfl)
@[simp] theorem eMethI_s {T : String} {g : D → List D → Option (D × D)} : eMethI T i g α s = R.opt (ownAt s i) (kMI T i g α s) := (rfl)
def kLend (i : Nat) (ε : Se) (s : Sv) : D → R (D × Sv) := fun d0 => R.lend (ε (s.set i (.sh d0))) flat s
@[simp] theorem kLend_s {i : Nat} {ε : Se} {s : Sv} {d0 : D} : kLend i ε s d0 = R.lend (ε (s.set i (.sh d0))) flat s := (rfl)
@[simp] theorem eLend_s : eLend i ε s = R.opt (ownAt s i) (kLend i ε s) := by
  unfold eLend
  congr 1
  funext d0
  show _ = R.lend (ε (s.set i (.sh d0))) flat s
  generalize ε (s.set i (.sh d0)) = r
  cases r <;> rfl
def kLendC (i : Nat) (τ : St2) (s : Sv) : D → R (Bool × Sv) := fun d0 => R.lend (τ (s.set i (.sh d0))) (fun _ => true) s
@[simp] theorem kLendC_s {i : Nat} {τ : St2} {s : Sv} {d0 : D} : kLendC i τ s d0 = R.lend (τ (s.set i (.sh d0))) (fun _ => true) s := (rfl)
@[simp] theorem cLend_s : cLend i τ s = R.opt (ownAt s i) (kLendC i τ s) := by
  unfold cLend
  congr 1
  funext d0
  show _ = R.lend (τ (s.set i (.sh d0))) (fun _ => true) s
  generalize τ (s.set i (.sh d0)) = r
  cases r <;> rfl
def kAug2 (i : Nat) (s : Sv) : D → R (Out) := fun d => R.opt (put s i (.sh d)) kNx
@[simp] theorem kAug2_s {i : Nat} {s : Sv} {d : D} : kAug2 i s d = R.opt (put s i (.sh d)) kNx := (rfl)
def kAug1 (g : D → D → Option D) (i : Nat) (e : D) : D × Sv → R (Out) := fun q => R.opt (g e q.1) (kAug2 i q.2)
@[simp] theorem kAug1_s {g : D → D → Option D} {i : Nat} {e : D} {d : D} {s : Sv} : kAug1 g i e (d, s) = R.opt (g e d) (kAug2 i s) := (rfl)
def kAug (g : D → D → Option D) (i : Nat) (ε : Se) (s : Sv) : D → R (Out) := fun d0 => R.bind (ε s) (kAug1 g i d0)
@[simp] theorem kAug_s {g : D → D → Option D} {i : Nat} {ε : Se} {s : Sv} {d0 : D} : kAug g i ε s d0 = R.bind (ε s) (kAug1 g i d0) := (rfl)
@[simp] theorem sAug_s {g : D → D → Option D} : sAug g i ε s = R.opt (shAt s i) (kAug g i ε s) := by
  unfold sAug shAt
  cases s[i]? with
  | none => rfl
  | some z => cases z <;> rfl
def kPut4 (i : Nat) (s : Sv) : D → R (Out) := fun d => .ok (.nx (setOwn s i d))
@[simp] theorem kPut4_s {i : Nat} {s : Sv} {d : D} : kPut4 i s d = .ok (.nx (setOwn s i d)) := (rfl)
def kPut3 (i : Nat) (g : D → D → D → Option D) (v k : D) (s : Sv) : D → R (Out) := fun d0 => R.opt (g d0 k v) (kPut4 i s)
@[simp] theorem kPut3_s {i : Nat} {g : D → D → D → Option D} {v k : D} {s : Sv} {d0 : D} : kPut3 i g v k s d0 = R.opt (g d0 k v) (kPut4 i s) := (rfl)
def kPut2 (i : Nat) (g : D → D → D → Option D) (v : D) : D × Sv → R (Out) := fun q => R.opt (ownAt q.2 i) (kPut3 i g v q.1 q.2)
@[simp] theorem kPut2_s {i : Nat} {g : D → D → D → Option D} {v : D} {d : D} {s : Sv} : kPut2 i g v (d, s) = R.opt (ownAt s i) (kPut3 i g v d s) := (rfl)
def kPut1 (i : Nat) (g : D → D → D → Option D) (εk : Se) (v : D) (s : Sv) : D → R (Out) := fun d0 => R.bind (εk s) (kPut2 i g v)
@[simp] theorem kPut1_s {i : Nat} {g : D → D → D → Option D} {εk : Se} {v : D} {s : Sv} {d0 : D} : kPut1 i g εk v s d0 = R.bind (εk s) (kPut2 i g v) := (rfl)
def kPut (i : Nat) (g : D → D → D → Option D) (εk : Se) : D × Sv → R (Out) := fun q => R.opt (ownAt q.2 i) (kPut1 i g εk q.1 q.2)
@[simp] theorem kPut_s {i : Nat} {g : D → D → D → Option D} {εk : Se} {d : D} {s : Sv} : kPut i g εk (d, s) = R.opt (ownAt s i) (kPut1 i g εk d s) := (rfl)
@[simp] theorem sPut_s {g : D → D → D → Option D} : sPut i g ε1 ε2 s = R.bind (ε1 s) (kPut i g ε2) := (rfl)
def kIsT (T : String) : D × Sv → R (D × Sv) := fun q => R.lift ((isT T q.1).map .bool) q.2
@[simp] theorem kIsT_s {T : String} {d : D} {s : Sv} : kIsT T (d, s) = R.lift ((isT T d).map .bool) s := (rfl)
@[simp] theorem eIsT_s {T : String} : eIsT T ε s = R.bind (ε s) (kIsT T) := (rfl)
@[simp] theorem R.calm_ok' {A : Type} {a : A} : R.calm (.ok a) = .ok a := (rfl)
def kCompZ  : List D × Sv → R (D × Sv) := fun q => .ok (.list q.1, q.2)
@[simp] theorem kCompZ_s  {l : List D} {s : Sv} : kCompZ  (l, s) = .ok (.list l, s) := (rfl)
def kComp1 (γ : D → Sv → Option Sv) (τ : St2) (ε : Se) (vs : List Nat) (l : List D) : Sv → R (D × Sv) := fun s => R.bind (R.calm (compGo γ τ ε vs l s [])) kCompZ
@[simp] theorem kComp1_s {γ : D → Sv → Option Sv} {τ : St2} {ε : Se} {vs : List Nat} {l : List D} {s : Sv} : kComp1 γ τ ε vs l s = R.bind (R.calm (compGo γ τ ε vs l s [])) kCompZ := (rfl)
def kComp (γ : D → Sv → Option Sv) (τ : St2) (ε : Se) (vs : List Nat) : List D × Sv → R (D × Sv) := fun q => R.opt (wipeO q.2 vs) (kComp1 γ τ ε vs q.1)
@[simp] theorem kComp_s {γ : D → Sv → Option Sv} {τ : St2} {ε : Se} {vs : List Nat} {l : List D} {s : Sv} : kComp γ τ ε vs (l, s) = R.opt (wipeO s vs) (kComp1 γ τ ε vs l) := (rfl)
theorem eComp_s {γ : D → Sv → Option Sv} {ι : Sv → R (List D × Sv)} {vs : List Nat} : eComp γ ι τ ε vs s = R.bind (ι s) (kComp γ τ ε vs) := (rfl)
@[simp] theorem oNo_s  : oNo s = .ok (none, s) := (rfl)
def intO : D → Option (Option Int)
  | .int i => some (some i)
  | _ => none
@[simp] theorem intO_i {i : Int} : intO (.int i) = some (some i) := (rfl)
def kInt  : D × Sv → R (Option Int × Sv) := fun q => R.lift (intO q.1) q.2
@[simp] theorem kInt_s  {d : D} {s : Sv} : kInt  (d, s) = R.lift (intO d) s := (rfl)
@[simp] theorem oInt_s : oInt ε s = R.bind (ε s) kInt := by
  unfold oInt
  congr 1
  funext q
  obtain ⟨d, s⟩ := q
  cases d <;> rfl
def kSl2 (d : D) (l : Option Int) : Option Int × Sv → R (D × Sv) := fun q => R.lift (slG d l q.1) q.2
@[simp] theorem kSl2_s {l u : Option Int} : kSl2 d l (u, s) = R.lift (slG d l u) s := (rfl)
def kSl1 (ο' : Sv → R (Option Int × Sv)) (d : D) : Option Int × Sv → R (D × Sv) := fun q => R.bind (ο' q.2) (kSl2 d q.1)
@[simp] theorem kSl1_s {ο' : Sv → R (Option Int × Sv)} {l : Option Int} : kSl1 ο' d (l, s) = R.bind (ο' s) (kSl2 d l) := (rfl)
def kSl (ο ο' : Sv → R (Option Int × Sv)) : D × Sv → R (D × Sv) := fun q => R.bind (ο q.2) (kSl1 ο' q.1)
@[simp] theorem kSl_s {ο ο' : Sv → R (Option Int × Sv)} {d : D} {s : Sv} : kSl ο ο' (d, s) = R.bind (ο s) (kSl1 ο' d) := (rfl)
@[simp] theorem eSl_s {ο ο' : Sv → R (Option Int × Sv)} : eSl ε ο ο' s = R.bind (ε s) (kSl ο ο') := (rfl)
@[simp] theorem pNil_s  : pNil s = .ok ([], s) := (rfl)
def kP2 (k v : D) : List (D × D) × Sv → R (List (D × D) × Sv) := fun q => .ok ((k, v) :: q.1, q.2)
@[simp] theorem kP2_s {k v : D} {l : List (D × D)} : kP2 k v (l, s) = .ok ((k, v) :: l, s) := (rfl)
def kP1 (α : Sv → R (List (D × D) × Sv)) (k : D) : D × Sv → R (List (D × D) × Sv) := fun q => R.bind (α q.2) (kP2 k q.1)
@[simp] theorem kP1_s {α : Sv → R (List (D × D) × Sv)} {k : D} : kP1 α k (d, s) = R.bind (α s) (kP2 k d) := (rfl)
def kP (εv : Se) (α : Sv → R (List (D × D) × Sv)) : D × Sv → R (List (D × D) × Sv) := fun q => R.bind (εv q.2) (kP1 α q.1)
@[simp] theorem kP_s {εv : Se} {α : Sv → R (List (D × D) × Sv)} : kP εv α (d, s) = R.bind (εv s) (kP1 α d) := (rfl)
@[simp] theorem pCons_s {α : Sv → R (List (D × D) × Sv)} : pCons ε1 ε2 α s = R.bind (ε1 s) (kP ε2 α) := (rfl)
def kDc : List (D × D) × Sv → R (D × Sv) := fun q => if keyed q.1 then .ok (.dict (mergeD q.1), q.2) else .bad
@[simp] theorem kDc_s {l : List (D × D)} : kDc (l, s) = if keyed l then .ok (.dict (mergeD l), s) else .bad := (rfl)
@[simp] theorem eDc_s {α : Sv → R (List (D × D) × Sv)} : eDc α s = R.bind (α s) kDc := (rfl)
def R.hit (o : Option D) (i : Nat) (s : Sv) : R Out := match o with
  | some d => R.opt (put s i .un) fun s2 => .ok (.rt d s2)
  | none => .bad
@[simp] theorem R.hit_some : R.hit (some d) i s = R.opt (put s i .un) fun s2 => .ok (.rt d s2) := (rfl)
def R.tri (h : Str → Option D) (i : Nat) (r : R Out) : R Out := match r with
  | .exn c x s' => R.hit (h c) i s'
  | r => r
@[simp] theorem R.tri_ok {h : Str → Option D} {o : Out} : R.tri h i (.ok o) = .ok o := (rfl)
@[simp] theorem R.tri_exn {h : Str → Option D} {c : Str} {x : D} : R.tri h i (.exn c x s) = R.hit (h c) i s := (rfl)
@[simp] theorem sTry_s {h : Str → Option D} : sTry i h a s = R.tri h i (a s) := by
  unfold sTry R.tri
  cases a s <;> rfl
@[simp] theorem tyN_list {ds : List D} : tyN (.list ds) = "list" := (rfl)
@[simp] theorem tyN_tuple {ds : List D} : tyN (.tuple ds) = "tuple" := (rfl)
@[simp] theorem tyN_dict {ds : List (D × D)} : tyN (.dict ds) = "dict" := (rfl)
@[simp] theorem wipeO_nil : wipeO s [] = some s := (rfl)
@[simp] theorem wipeO_cons {vs : List Nat} : wipeO s (i :: vs) = (wipeO s vs).bind fun s' => put s' i .un := (rfl)
theorem callD_s {n : Nat} {ς : Ss} {ds : List D} : callD n ς ds = match ς (ds.map .sh ++ List.replicate (n - ds.length) .un) with
  | .ok (.rt d _) => .ok d
  | .ok (.nx _) => .ok .none
  | .exn c x _ => .exn c x []
  | _ => .bad := by
  unfold callD entry
  rw [List.length_map]
  try rfl
/-! loops -/
theorem forGo_inv {γ : D → Sv → Option Sv} {b : Ss} (Z : Nat → Sv → Prop) : ∀ (xs : List D) (k0 : Nat) (s : Sv), (∀ k x s, xs[k]? = some x → Z (k0 + k) s → ∃ s1 s2, γ x s = some s1 ∧ b s1 = .ok (.nx s2) ∧ Z (k0 + k + 1) s2) → Z k0 s →
    ∃ s', forGo γ b xs s = .ok (.nx s') ∧ Z (k0 + xs.length) s'
  | [], k0, s, _, r => ⟨s, rfl, r⟩
  | x :: xs, k0, s, h, r => by
    obtain ⟨s1, s2, h1, h2, h3⟩ := h 0 x s rfl r
    obtain ⟨s', h4, h5⟩ := forGo_inv Z xs (k0 + 1) s2 (fun k y s e r => by
      have := h (k + 1) y s (by simpa using e)
      rw [show k0 + (k + 1) = k0 + 1 + k by omega] at this
      exact this r) h3
    refine ⟨s', ?_, by rw [List.length_cons, show k0 + (xs.length + 1) = k0 + 1 + xs.length by omega]; exact h5⟩
    rw [forGo, h1, R.opt_some, h2]
    exact h4
theorem forGo_fold {α β : Type} {γ : D → Sv → Option Sv} {b : Ss} (Z : α → Sv → Prop) (step : α → β → α) (f : β → D) : ∀ (xs : List β) (a : α) (s : Sv),
    (∀ a x s, x ∈ xs → Z a s → ∃ s1 s2, γ (f x) s = some s1 ∧ b s1 = .ok (.nx s2) ∧ Z (step a x) s2) → Z a s →
    ∃ s', forGo γ b (xs.map f) s = .ok (.nx s') ∧ Z (xs.foldl step a) s'
  | [], a, s, _, r => ⟨s, rfl, r⟩
  | x :: xs, a, s, h, r => by
    obtain ⟨s1, s2, h1, h2, h3⟩ := h a x s List.mem_cons_self r
    obtain ⟨s', h4, h5⟩ := forGo_fold Z step f xs (step a x) s2 (fun a y s m r => h a y s (List.mem_cons_of_mem _ m) r) h3
    refine ⟨s', ?_, h5⟩
    rw [List.map_cons, forGo, h1, R.opt_some, h2]
    exact h4
end
end DL
set_option maxRecDepth 100000
namespace DL
open PySem PySem.Spec PyProof.Rows L2
/-! ### operations on typed data -/
abbrev dS (xs : List Str) : List D := xs.map PyData.str
abbrev dI (xs : List Int) : List D := xs.map PyData.int
def sLt (a b : Str) : Bool := decide (a.cps.toList < b.cps.toList)
/-- a text's signs -/
def cs (x : Str) : List Nat := x.cps.toList
@[simp] theorem cs_app (x y : Str) : cs (x ++ y) = cs x ++ cs y := by
  show (x.cps ++ y.cps).toList = _
  simp [cs]
@[simp] theorem cs_one (c : Nat) : cs ⟨#[c]⟩ = [c] := rfl
@[simp] theorem str_len (x : Str) : x.length = (cs x).length := by simp [Str.length, cs]
theorem cs_inj {x y : Str} (h : cs x = cs y) : x = y := PySem.W.str_of_cps h
section
variable {i j k : Int} {x y : Str} {ds es : List D} {d e : D} {b c : Bool} {n : Nat}
theorem eqG_of {α : Type} [DecidableEq α] [PySem.W.Datum α] (u v : α) (h : PySem.W.Datum.depth α ≤ 60) : eqG (PySem.W.Datum.toD u) (PySem.W.Datum.toD v) = some (.bool (decide (u = v))) := by
  have hd : ∀ z : α, deep (PySem.W.Datum.toD z) = true := fun z => by
    unfold deep
    rw [PySem.W.Datum.plain, Bool.true_and]
    exact decide_eq_true (Nat.le_trans (PySem.W.Datum.depth_le z) h)
  unfold eqG
  rw [hd, hd, PySem.W.Datum.eqv]
  rfl
theorem neG_eqG : neG d e = notG (eqG d e) := by
  unfold neG eqG notG
  split <;> rfl
@[simp] theorem notG_bool : notG (some (.bool b)) = some (.bool (!b)) := (rfl)
theorem neG_of {α : Type} [DecidableEq α] [PySem.W.Datum α] (u v : α) (h : PySem.W.Datum.depth α ≤ 60) : neG (PySem.W.Datum.toD u) (PySem.W.Datum.toD v) = some (.bool (!decide (u = v))) := by
  rw [neG_eqG, eqG_of u v h]; rfl
@[simp] theorem eqG_ii : eqG (.int i) (.int j) = some (.bool (decide (i = j))) := eqG_of i j (by decide)
@[simp] theorem neG_ii : neG (.int i) (.int j) = some (.bool (!decide (i = j))) := neG_of i j (by decide)
@[simp] theorem eqG_ss : eqG (.str x) (.str y) = some (.bool (decide (x = y))) := eqG_of x y (by decide)
@[simp] theorem neG_ss : neG (.str x) (.str y) = some (.bool (!decide (x = y))) := neG_of x y (by decide)
@[simp] theorem eqG_bb : eqG (.bool b) (.bool c) = some (.bool (decide (b = c))) := eqG_of b c (by decide)
@[simp] theorem neG_bb : neG (.bool b) (.bool c) = some (.bool (!decide (b = c))) := neG_of b c (by decide)
@[simp] theorem eqG_ls (xs ys : List Str) : eqG (.list (xs.map .str)) (.list (ys.map .str)) = some (.bool (decide (xs = ys))) := eqG_of xs ys (by decide)
@[simp] theorem neG_ls (xs ys : List Str) : neG (.list (xs.map .str)) (.list (ys.map .str)) = some (.bool (!decide (xs = ys))) := neG_of xs ys (by decide)
@[simp] theorem eqG_ts (xs ys : List Str) : eqG (.tuple (xs.map .str)) (.tuple (ys.map .str)) = some (.bool (decide (xs = ys))) := by
  have := eqG_of (PySem.W.Tup.mk xs) (PySem.W.Tup.mk ys) (by decide)
  rw [show decide (xs = ys) = decide (PySem.W.Tup.mk xs = PySem.W.Tup.mk ys) from decide_eq_decide.mpr (by simp)]
  exact this
@[simp] theorem addG_ii : addG (.int i) (.int j) = some (.int (i + j)) := (rfl)
@[simp] theorem subG_ii : subG (.int i) (.int j) = some (.int (i - j)) := (rfl)
@[simp] theorem addI_ii : addI (.int i) (.int j) = some (.int (i + j)) := (rfl)
@[simp] theorem subI_ii : subI (.int i) (.int j) = some (.int (i - j)) := (rfl)
@[simp] theorem addG_ss (h : (cs x).length + (cs y).length ≤ 100000) : addG (.str x) (.str y) = some (.str (x ++ y)) := if_pos (by rw [str_len, str_len]; exact h)
@[simp] theorem addG_ll (h : ds.length + es.length ≤ 100000) : addG (.list ds) (.list es) = some (.list (ds ++ es)) := if_pos h
@[simp] theorem addG_tt (h : ds.length + es.length ≤ 100000) : addG (.tuple ds) (.tuple es) = some (.tuple (ds ++ es)) := if_pos h
theorem mulI_ii : mulI (.int i) (.int j) = if CMul i j then some (.int (i * j)) else none := (rfl)
theorem mulG_of (h : CMul i j) : mulG (.int i) (.int j) = some (.int (i * j)) := by
  unfold mulG orG
  rw [mulI_ii, if_pos h]
@[simp] theorem mulG_l (h1 : -(2 ^ 64) < i) (h2 : i < 2 ^ 64) : mulG (.int i) (.int j) = some (.int (i * j)) := mulG_of (.inl ⟨h1, h2⟩)
@[simp] theorem mulG_r (h1 : -(2 ^ 64) < j) (h2 : j < 2 ^ 64) : mulG (.int i) (.int j) = some (.int (i * j)) := mulG_of (.inr ⟨h1, h2⟩)
@[simp] theorem mulI_l (h1 : -(2 ^ 64) < i) (h2 : i < 2 ^ 64) : mulI (.int i) (.int j) = some (.int (i * j)) := if_pos (.inl ⟨h1, h2⟩)
@[simp] theorem mulI_r (h1 : -(2 ^ 64) < j) (h2 : j < 2 ^ 64) : mulI (.int i) (.int j) = some (.int (i * j)) := if_pos (.inr ⟨h1, h2⟩)
@[simp] theorem divG_ii (h1 : 0 < j) (h2 : j < 1073741824) : divG (.int i) (.int j) = some (.int (i / j)) := if_pos ⟨h1, h2⟩
@[simp] theorem modG_ii (h : 0 < j) : modG (.int i) (.int j) = some (.int (i % j)) := if_pos h
@[simp] theorem modI_ii (h : 0 < j) : modI (.int i) (.int j) = some (.int (i % j)) := if_pos h
@[simp] theorem powG_ii (h1 : 0 ≤ j) (h2 : j ≤ 1000000) (h3 : i.natAbs < 2 ^ 64) : powG (.int i) (.int j) = some (.int (i ^ j.toNat)) := if_pos ⟨h1, h2, h3⟩
@[simp] theorem negG_i : negG (.int i) = some (.int (-i)) := (rfl)
@[simp] theorem ordOk_ii : ordOk (.int i) (.int j) = true := (rfl)
@[simp] theorem ltG_ii : ltG (.int i) (.int j) = some (.bool (decide (i < j))) := by
  unfold ltG; rw [ordOk_ii, if_pos rfl, PySem.W.dataLt_int]
@[simp] theorem gtG_ii : gtG (.int i) (.int j) = some (.bool (decide (j < i))) := by
  unfold gtG; rw [ordOk_ii, if_pos rfl, PySem.W.dataLt_int]
@[simp] theorem leG_ii : leG (.int i) (.int j) = some (.bool (decide (i ≤ j))) := by
  unfold leG; rw [ordOk_ii, if_pos rfl, PySem.W.dataLt_int, PySem.W.not_lt_int]
@[simp] theorem geG_ii : geG (.int i) (.int j) = some (.bool (decide (j ≤ i))) := by
  unfold geG; rw [ordOk_ii, if_pos rfl, PySem.W.dataLt_int, PySem.W.not_lt_int]
@[simp] theorem ordOk_ss : ordOk (.str x) (.str y) = true := (rfl)
@[simp] theorem ltG_ss : ltG (.str x) (.str y) = some (.bool (sLt x y)) := by
  unfold ltG; rw [ordOk_ss, if_pos rfl, PySem.W.dataLt_str]; rfl
@[simp] theorem gtG_ss : gtG (.str x) (.str y) = some (.bool (sLt y x)) := by
  unfold gtG; rw [ordOk_ss, if_pos rfl, PySem.W.dataLt_str]; rfl
@[simp] theorem lenA_l : lenA [.list ds] = some (.int ds.length) := (rfl)
@[simp] theorem lenA_t : lenA [.tuple ds] = some (.int ds.length) := (rfl)
@[simp] theorem lenA_d {kvs : List (D × D)} : lenA [.dict kvs] = some (.int kvs.length) := (rfl)
@[simp] theorem lenA_s (h : (cs x).length ≤ 100000) : lenA [.str x] = some (.int (cs x).length) := by
  rw [← str_len] at h ⊢
  show (match (if x.length ≤ 100000 then some (PyData.int x.length) else none) with | some x => some x | none => lenK _) = _
  rw [if_pos h]
@[simp] theorem absG_i : absG [.int i] = some (.int (if i < 0 then -i else i)) := (rfl)
@[simp] theorem intG_i : intG [.int i] = some (.int i) := (rfl)
@[simp] theorem intG_b : intG [.bool b] = some (.int (if b then 1 else 0)) := (rfl)
@[simp] theorem listA_l : listA [.list ds] = some (.list ds) := (rfl)
@[simp] theorem listA_t : listA [.tuple ds] = some (.list ds) := (rfl)
@[simp] theorem listA_d {kvs : List (D × D)} : listA [.dict kvs] = some (.list (kvs.map (·.1))) := (rfl)
@[simp] theorem tupleG_l : tupleG [.list ds] = some (.tuple ds) := (rfl)
@[simp] theorem tupleG_t : tupleG [.tuple ds] = some (.tuple ds) := (rfl)
@[simp] theorem intsOf_dI (xs : List Int) : intsOf (xs.map .int) = some xs := by
  induction xs with
  | nil => rfl
  | cons a r ih => rw [List.map_cons, intsOf, ih]; rfl
@[simp] theorem boolsOf_dB (xs : List Bool) : boolsOf (xs.map .bool) = some xs := by
  induction xs with
  | nil => rfl
  | cons a r ih => rw [List.map_cons, boolsOf, ih]; rfl
@[simp] theorem sumG_l (xs : List Int) : sumG [.list (xs.map .int)] = some (.int xs.sum) := by
  show (intsOf _).map _ = _; rw [intsOf_dI]; rfl
@[simp] theorem intsOf_cons {i : Int} {ds : List D} : intsOf (.int i :: ds) = (intsOf ds).map (i :: ·) := (rfl)
@[simp] theorem boolsOf_cons {b : Bool} {ds : List D} : boolsOf (.bool b :: ds) = (boolsOf ds).map (b :: ·) := (rfl)
@[simp] theorem intsOf_nil : intsOf [] = some [] := (rfl)
@[simp] theorem boolsOf_nil : boolsOf [] = some [] := (rfl)
@[simp] theorem allG_ds {ds : List D} : allG [.list ds] = (boolsOf ds).map fun bs => .bool (bs.all id) := (rfl)
@[simp] theorem intsOf_map {α : Type} (xs : List α) (f : α → Int) : intsOf (xs.map fun z => PyData.int (f z)) = some (xs.map f) := by
  rw [show (xs.map fun z => PyData.int (f z)) = (xs.map f).map PyData.int by simp]; exact intsOf_dI _
@[simp] theorem boolsOf_map {α : Type} (xs : List α) (f : α → Bool) : boolsOf (xs.map fun z => PyData.bool (f z)) = some (xs.map f) := by
  rw [show (xs.map fun z => PyData.bool (f z)) = (xs.map f).map PyData.bool by simp]; exact boolsOf_dB _
@[simp] theorem sumG_map {α : Type} (xs : List α) (f : α → Int) : sumG [.list (xs.map fun z => PyData.int (f z))] = some (.int (xs.map f).sum) := by
  show (intsOf _).map _ = _; rw [intsOf_map]; rfl
theorem allG_map {α : Type} (xs : List α) (f : α → Bool) : allG [.list (xs.map fun z => PyData.bool (f z))] = some (.bool (xs.all f)) := by
  show (boolsOf _).map _ = _
  rw [boolsOf_map]
  simp [List.all_map, Function.comp_def]
@[simp] theorem isT_str : isT "str" d = some d.isStr := (rfl)
@[simp] theorem isT_int : isT "int" d = some d.isInt := (rfl)
@[simp] theorem isT_bool : isT "bool" d = some d.isBool := (rfl)
@[simp] theorem isT_tuple : isT "tuple" d = some d.isTuple := (rfl)
@[simp] theorem isT_list : isT "list" d = some d.isList := (rfl)
@[simp] theorem isT_dict : isT "dict" d = some d.isDict := (rfl)
theorem smallI_nat (h : n < 2 ^ 62) : smallI (n : Int) = true := by
  unfold smallI; exact decide_eq_true (by omega)
theorem smallI_ok (h1 : -(2 ^ 62) ≤ i) (h2 : i < 2 ^ 62) : smallI i = true := decide_eq_true ⟨h1, h2⟩
@[simp] theorem rngG_1 (h1 : -(2 ^ 62) ≤ j) (h2 : j < 2 ^ 62) : rngG [.int j] = some (rangeD 0 j) := by
  have h := smallI_ok h1 h2
  show (if smallI j = true then _ else none) = _; rw [if_pos h]
@[simp] theorem rngG_2 (h1 : -(2 ^ 62) ≤ i) (h2 : i < 2 ^ 62) (h3 : -(2 ^ 62) ≤ j) (h4 : j < 2 ^ 62) : rngG [.int i, .int j] = some (rangeD i j) := by
  have h := smallI_ok h1 h2
  have h' := smallI_ok h3 h4
  show (if (smallI i && smallI j) = true then _ else none) = _; rw [h, h']; rfl
@[simp] theorem seqD_l : seqD (.list ds) = some ds := (rfl)
@[simp] theorem seqD_t : seqD (.tuple ds) = some ds := (rfl)
@[simp] theorem seqD_d {kvs : List (D × D)} : seqD (.dict kvs) = some (kvs.map (·.1)) := (rfl)
@[simp] theorem appG_l (h : ds.length < 100000) : appG (.list ds) [d] = some (.none, .list (ds ++ [d])) := if_pos h
@[simp] theorem ixA_l : ixA (.list ds) (.int i) = atI ds i := by
  show (match atI ds i with | some x => some x | none => ixK (.list ds) (.int i)) = _
  cases atI ds i <;> rfl
@[simp] theorem ixA_t : ixA (.tuple ds) (.int i) = atI ds i := by
  show (match atI ds i with | some x => some x | none => ixK (.tuple ds) (.int i)) = _
  cases atI ds i <;> rfl
end
@[simp] theorem flat_int {i : Int} : flat (.int i) = true := (rfl)
@[simp] theorem flat_bool {i : Bool} : flat (.bool i) = true := (rfl)
@[simp] theorem flat_str {i : Str} : flat (.str i) = true := (rfl)
theorem ixN_nat {n j : Nat} (h : j < n) : ixN n (j : Int) = some j := by
  unfold ixN
  simp [h]
theorem atI_nat {α : Type} {xs : List α} {j : Nat} (h : j < xs.length) : atI xs (j : Int) = some xs[j] := by
  unfold atI
  rw [ixN_nat h]
  simp [h]
@[simp] theorem popG_nat {ds : List D} {j : Nat} (hl : ds.length ≤ 100000) : popG (.list ds) [.int j] = ds[j]?.map fun d => (d, .list (ds.eraseIdx j)) := by
  unfold popG
  dsimp only
  by_cases hj : (j : Int) < 2 ^ 63
  rotate_left
  · rw [if_neg (by omega), List.getElem?_eq_none (by omega)]; rfl
  rw [if_pos (by omega)]
  by_cases h : j < ds.length
  · have : seqIndex? (j : Int) ds.length = some j := by
      unfold seqIndex?
      simp
      omega
    rw [this]
    simp [h]
  · have : seqIndex? (j : Int) ds.length = none := by
      unfold seqIndex?
      simp
      omega
    rw [this]
    simp [h]
@[simp] theorem atI_cast {α : Type} {xs : List α} {j : Nat} : atI xs (j : Int) = xs[j]? := by
  by_cases h : j < xs.length
  · rw [atI_nat h]; simp [h]
  · unfold atI ixN
    simp [h]
@[simp] theorem atI_lit {α : Type} {xs : List α} {j : Nat} : atI xs (no_index (OfNat.ofNat j : Int)) = xs[(OfNat.ofNat j : Nat)]? := atI_cast (j := j)
@[simp] theorem strG_i {i : Int} (h : i.natAbs < 2 ^ 1920) : strG [.int i] = some (.str (Str.ofString (toString i))) := by
  unfold strG
  dsimp only
  rw [if_pos]
  by_cases h0 : i.natAbs = 0
  · rw [h0]; decide
  · exact (Nat.log2_lt h0).mpr h
@[simp] theorem rangeD_0 (n : Nat) : rangeD 0 n = (List.range n).map fun i : Nat => PyData.int (i : Int) := by
  simp [rangeD]
@[simp] theorem eraseIdx_map {α β : Type} (f : α → β) : ∀ (l : List α) (i : Nat), (l.map f).eraseIdx i = (l.eraseIdx i).map f
  | [], _ => rfl
  | a :: l, 0 => rfl
  | a :: l, i + 1 => by simp [eraseIdx_map f l i]
@[simp] theorem rangeD_lit (n : Nat) : rangeD 0 (no_index (OfNat.ofNat n : Int)) = (List.range (OfNat.ofNat n)).map fun i : Nat => PyData.int (i : Int) := rangeD_0 n
theorem cons_eraseIdx_perm {α : Type} : ∀ (l : List α) (i : Nat) (h : i < l.length), (l[i] :: l.eraseIdx i).Perm l
  | a :: l, 0, _ => .refl _
  | a :: l, i + 1, h => (List.Perm.swap _ _ _).trans ((cons_eraseIdx_perm l i (Nat.lt_of_succ_lt_succ h)).cons a)
def isLow (c : Nat) : Bool := 97 ≤ c && c ≤ 122
def isFig (c : Nat) : Bool := 48 ≤ c && c ≤ 57
/-- a name -/
structure Nm (x : Str) : Prop where
  len : (cs x).length ≤ 12
  fst : ∃ c r, cs x = c :: r ∧ isLow c = true
  all : ∀ c ∈ cs x, isLow c = true ∨ isFig c = true
abbrev abc : Str := "abcdefghijklmnopqrstuvwxyz"
abbrev abc9 : Str := "abcdefghijklmnopqrstuvwxyz0123456789"
abbrev figs : Str := "0123456789"
theorem abc_l : cs abc = List.range' 97 26 := by decide +kernel
theorem abc9_l : cs abc9 = List.range' 97 26 ++ List.range' 48 10 := by decide +kernel
theorem figs_l : cs figs = List.range' 48 10 := by decide +kernel
@[simp] theorem mem_abc {c : Nat} : c ∈ cs abc ↔ isLow c = true := by
  rw [abc_l]; simp [isLow, List.mem_range'_1]; omega
@[simp] theorem mem_figs {c : Nat} : c ∈ cs figs ↔ isFig c = true := by
  rw [figs_l]; simp [isFig, List.mem_range'_1]; omega
theorem mem_abc9 {c : Nat} : c ∈ cs abc9 ↔ isLow c = true ∨ isFig c = true := by
  rw [abc9_l]; simp [isLow, isFig, List.mem_range'_1]; omega
@[simp] theorem inA_ls {x : Str} {ns : List Str} : inA (.str x) (.list (ns.map .str)) = some (.bool (decide (x ∈ ns))) := by
  show (match (if deep (.str x) && PyData.plainAll (ns.map PyData.str) then some (PyData.bool ((ns.map PyData.str).any fun y => PyData.eqv y (.str x))) else none) with | some x => some x | none => _) = _
  rw [show PyData.plainAll (ns.map PyData.str) = true from PySem.W.plainAll_map (α := Str) ns, show deep (.str x) = true from rfl]
  rw [show ((ns.map PyData.str).any fun y => PyData.eqv y (.str x)) = decide (x ∈ ns) from PySem.W.any_datum (α := Str) ns x]
  rfl
@[simp] theorem ninA_ls {x : Str} {ns : List Str} : ninA (.str x) (.list (ns.map .str)) = some (.bool (!decide (x ∈ ns))) := by
  show (match notG (if deep (.str x) && PyData.plainAll (ns.map PyData.str) then some (PyData.bool ((ns.map PyData.str).any fun y => PyData.eqv y (.str x))) else none) with | some x => some x | none => _) = _
  rw [show PyData.plainAll (ns.map PyData.str) = true from PySem.W.plainAll_map (α := Str) ns, show deep (.str x) = true from rfl]
  rw [show ((ns.map PyData.str).any fun y => PyData.eqv y (.str x)) = decide (x ∈ ns) from PySem.W.any_datum (α := Str) ns x]
  rfl

theorem nodup_snoc {α : Type} {l : List α} {x : α} (h : l.Nodup) (hx : x ∉ l) : (l ++ [x]).Nodup := List.nodup_append.mpr ⟨h, by simp, fun a ha b hb e => hx (by rw [List.mem_singleton.mp hb] at e; exact e ▸ ha)⟩
@[simp] theorem ixA_s {x : Str} {j : Nat} (h : (cs x).length ≤ 100000) : ixA (.str x) (.int j) = (cs x)[j]?.map fun c => .str ⟨#[c]⟩ := by
  show (match (if x.length ≤ 100000 then (atI x.cps.toList j).map fun c => PyData.str ⟨#[c]⟩ else none) with | some x => some x | none => ixK (.str x) (.int j)) = _
  rw [← str_len] at h
  rw [if_pos h, atI_cast]
  show (match (cs x)[j]?.map fun c => PyData.str ⟨#[c]⟩ with | some x => some x | none => none) = _
  cases (cs x)[j]? <;> rfl
@[simp] theorem ixA_s0 {x : Str} {j : Nat} (h : (cs x).length ≤ 100000) : ixA (.str x) (.int (no_index (OfNat.ofNat j : Int))) = (cs x)[(OfNat.ofNat j : Nat)]?.map fun c => .str ⟨#[c]⟩ := ixA_s h
@[simp] theorem seqD_s {x : Str} : seqD (.str x) = some ((cs x).map fun c => .str ⟨#[c]⟩) := (rfl)
@[simp] theorem inA_cs {c : Nat} {z : Str} : inA (.str ⟨#[c]⟩) (.str z) = some (.bool (decide (c ∈ cs z))) := by
  show some (PyData.bool ([c].all fun c => decide (c ∈ z.cps.toList))) = _
  simp [cs]
@[simp] theorem ninA_cs {c : Nat} {z : Str} : ninA (.str ⟨#[c]⟩) (.str z) = some (.bool (!decide (c ∈ cs z))) := by
  show some (PyData.bool (![c].all fun c => decide (c ∈ z.cps.toList))) = _
  simp [cs]
@[simp] theorem wipeO_2 {s : Sv} {i j : Nat} {vs : List Nat} : wipeO s (i :: j :: vs) = (wipeO s (j :: vs)).bind fun s' => put s' i .un := (rfl)
@[simp] theorem gTupD_s {n : Nat} {δ : List D → Sv → Option Sv} {ds : List D} {s : Sv} : gTupD n δ (.tuple ds) s = if ds.length = n then δ ds s else none := (rfl)
@[simp] theorem gsCons_s {γ : D → Sv → Option Sv} {δ : List D → Sv → Option Sv} {d : D} {r : List D} {s : Sv} : gsCons γ δ (d :: r) s = (γ d s).bind fun s' => δ r s' := (rfl)
@[simp] theorem gsNil_s {s : Sv} : gsNil [] s = some s := (rfl)
@[simp] theorem isStr_none : PyData.isStr PyData.none = false := (rfl)
@[simp] theorem isStr_bool {b : Bool} : PyData.isStr (PyData.bool b) = false := (rfl)
@[simp] theorem isStr_int {i : Int} : PyData.isStr (PyData.int i) = false := (rfl)
@[simp] theorem isStr_str {x : Str} : PyData.isStr (PyData.str x) = true := (rfl)
@[simp] theorem isStr_list {xs : List D} : PyData.isStr (PyData.list xs) = false := (rfl)
@[simp] theorem isStr_tuple {xs : List D} : PyData.isStr (PyData.tuple xs) = false := (rfl)
@[simp] theorem isStr_dict {xs : List (D × D)} : PyData.isStr (PyData.dict xs) = false := (rfl)
@[simp] theorem isInt_none : PyData.isInt PyData.none = false := (rfl)
@[simp] theorem isInt_bool {b : Bool} : PyData.isInt (PyData.bool b) = true := (rfl)
@[simp] theorem isInt_int {i : Int} : PyData.isInt (PyData.int i) = true := (rfl)
@[simp] theorem isInt_str {x : Str} : PyData.isInt (PyData.str x) = false := (rfl)
@[simp] theorem isInt_list {xs : List D} : PyData.isInt (PyData.list xs) = false := (rfl)
@[simp] theorem isInt_tuple {xs : List D} : PyData.isInt (PyData.tuple xs) = false := (rfl)
@[simp] theorem isInt_dict {xs : List (D × D)} : PyData.isInt (PyData.dict xs) = false := (rfl)
@[simp] theorem isBool_none : PyData.isBool PyData.none = false := (rfl)
@[simp] theorem isBool_bool {b : Bool} : PyData.isBool (PyData.bool b) = true := (rfl)
@[simp] theorem isBool_int {i : Int} : PyData.isBool (PyData.int i) = false := (rfl)
@[simp] theorem isBool_str {x : Str} : PyData.isBool (PyData.str x) = false := (rfl)
@[simp] theorem isBool_list {xs : List D} : PyData.isBool (PyData.list xs) = false := (rfl)
@[simp] theorem isBool_tuple {xs : List D} : PyData.isBool (PyData.tuple xs) = false := (rfl)
@[simp] theorem isBool_dict {xs : List (D × D)} : PyData.isBool (PyData.dict xs) = false := (rfl)
@[simp] theorem isTuple_none : PyData.isTuple PyData.none = false := (rfl)
@[simp] theorem isTuple_bool {b : Bool} : PyData.isTuple (PyData.bool b) = false := (rfl)
@[simp] theorem isTuple_int {i : Int} : PyData.isTuple (PyData.int i) = false := (rfl)
@[simp] theorem isTuple_str {x : Str} : PyData.isTuple (PyData.str x) = false := (rfl)
@[simp] theorem isTuple_list {xs : List D} : PyData.isTuple (PyData.list xs) = false := (rfl)
@[simp] theorem isTuple_tuple {xs : List D} : PyData.isTuple (PyData.tuple xs) = true := (rfl)
@[simp] theorem isTuple_dict {xs : List (D × D)} : PyData.isTuple (PyData.dict xs) = false := (rfl)
@[simp] theorem isList_none : PyData.isList PyData.none = false := (rfl)
@[simp] theorem isList_bool {b : Bool} : PyData.isList (PyData.bool b) = false := (rfl)
@[simp] theorem isList_int {i : Int} : PyData.isList (PyData.int i) = false := (rfl)
@[simp] theorem isList_str {x : Str} : PyData.isList (PyData.str x) = false := (rfl)
@[simp] theorem isList_list {xs : List D} : PyData.isList (PyData.list xs) = true := (rfl)
@[simp] theorem isList_tuple {xs : List D} : PyData.isList (PyData.tuple xs) = false := (rfl)
@[simp] theorem isList_dict {xs : List (D × D)} : PyData.isList (PyData.dict xs) = false := (rfl)
@[simp] theorem isDict_none : PyData.isDict PyData.none = false := (rfl)
@[simp] theorem isDict_bool {b : Bool} : PyData.isDict (PyData.bool b) = false := (rfl)
@[simp] theorem isDict_int {i : Int} : PyData.isDict (PyData.int i) = false := (rfl)
@[simp] theorem isDict_str {x : Str} : PyData.isDict (PyData.str x) = false := (rfl)
@[simp] theorem isDict_list {xs : List D} : PyData.isDict (PyData.list xs) = false := (rfl)
@[simp] theorem isDict_tuple {xs : List D} : PyData.isDict (PyData.tuple xs) = false := (rfl)
@[simp] theorem isDict_dict {xs : List (D × D)} : PyData.isDict (PyData.dict xs) = true := (rfl)
@[simp] theorem slG_l {ds : List D} {lo hi : Option Int} : slG (.list ds) lo hi = some (.list (cutD ds lo hi)) := (rfl)
@[simp] theorem slG_t {ds : List D} {lo hi : Option Int} : slG (.tuple ds) lo hi = some (.tuple (cutD ds lo hi)) := (rfl)
theorem sIx_n (n d k : Nat) : HT.sIx n d (some (k : Int)) = min k n := HT.sIx_nat n d k
@[simp] theorem cutD_lo {ds : List D} {k : Nat} : cutD ds (some (k : Int)) none = ds.drop k := by
  unfold cutD
  rw [sIx_n, HT.sIx_none]
  by_cases h : k ≤ ds.length
  · rw [Nat.min_eq_left h]
    exact List.take_of_length_le (by simp)
  · rw [Nat.min_eq_right (by omega), List.drop_eq_nil_of_le (Nat.le_refl _), List.drop_eq_nil_of_le (by omega)]
    simp
@[simp] theorem cutD_hi {ds : List D} {k : Nat} : cutD ds none (some (k : Int)) = ds.take k := by
  unfold cutD
  rw [sIx_n, HT.sIx_none]
  by_cases h : k ≤ ds.length
  · rw [Nat.min_eq_left h]; rfl
  · rw [Nat.min_eq_right (by omega), List.take_of_length_le (by simp), List.take_of_length_le (by omega)]; rfl
@[simp] theorem cutD_lo0 {ds : List D} {k : Nat} : cutD ds (some (no_index (OfNat.ofNat k : Int))) none = ds.drop (OfNat.ofNat k) := cutD_lo
@[simp] theorem cutD_hi0 {ds : List D} {k : Nat} : cutD ds none (some (no_index (OfNat.ofNat k : Int))) = ds.take (OfNat.ofNat k) := cutD_hi
theorem cutD_lh {ds : List D} {j k : Nat} : cutD ds (some (j : Int)) (some (k : Int)) = (ds.drop j).take (k - j) := by
  unfold cutD
  rw [sIx_n, sIx_n]
  by_cases h : j ≤ ds.length
  · rw [Nat.min_eq_left h]
    by_cases h2 : k ≤ ds.length
    · rw [Nat.min_eq_left h2]
    · rw [Nat.min_eq_right (by omega), List.take_of_length_le (by simp), List.take_of_length_le (by simp; omega)]
  · rw [Nat.min_eq_right (a := j) (by omega), List.drop_eq_nil_of_le (Nat.le_refl _), List.drop_eq_nil_of_le (by omega)]
    simp
@[simp] theorem zipG_tt {as bs : List D} : zipG [.tuple as, .tuple bs] = some (List.zipWith (fun x y => PyData.tuple [x, y]) as bs) := (rfl)
@[simp] theorem zipG_ll {as bs : List D} : zipG [.list as, .list bs] = some (List.zipWith (fun x y => PyData.tuple [x, y]) as bs) := (rfl)
@[simp] theorem zipG_tl {as bs : List D} : zipG [.tuple as, .list bs] = some (List.zipWith (fun x y => PyData.tuple [x, y]) as bs) := (rfl)
@[simp] theorem zipG_lt {as bs : List D} : zipG [.list as, .tuple bs] = some (List.zipWith (fun x y => PyData.tuple [x, y]) as bs) := (rfl)
end DL
set_option maxRecDepth 100000
namespace DL
open PySem PySem.Spec PyProof.Rows L2
/-! ### evaluation: more plain equations -/
section
variable {ε ε1 ε2 ε3 : Se} {α : Sv → R (List D × Sv)} {τ τ1 τ2 : St2} {a b : Ss} {s : Sv} {i n : Nat} {d : D}

@[simp] theorem R.bind_ite {A B : Type} {c : Prop} [Decidable c] {x y : R A} {k : A → R B} : (if c then x else y).bind k = if c then x.bind k else y.bind k := by split <;> rfl
@[simp] theorem R.lift_ite {A : Type} {c : Prop} [Decidable c] {x y : Option A} : R.lift (if c then x else y) s = if c then R.lift x s else R.lift y s := by split <;> rfl
@[simp] theorem R.opt_ite {A B : Type} {c : Prop} [Decidable c] {x y : Option A} {k : A → R B} : R.opt (if c then x else y) k = if c then R.opt x k else R.opt y k := by split <;> rfl
@[simp] theorem popG_nil {ds : List D} : popG (.list ds) [] = ds.getLast?.map fun d => (d, .list ds.dropLast) := (rfl)
theorem sSeq_nx {s' : Sv} (h : a s = .ok (.nx s')) : sSeq a b s = b s' := by rw [sSeq_s, h]; rfl
/-- what a def's body gives -/
theorem callD_rt {m : Nat} {ς : Ss} {ds : List D} {d : D} (h : ∃ s', ς (ds.map .sh ++ List.replicate (m - ds.length) .un) = .ok (.rt d s')) : callD m ς ds = .ok d := by
  obtain ⟨s', h⟩ := h
  rw [callD_s, h]
theorem callD_nx {m : Nat} {ς : Ss} {ds : List D} (h : ∃ s', ς (ds.map .sh ++ List.replicate (m - ds.length) .un) = .ok (.nx s')) : callD m ς ds = .ok .none := by
  obtain ⟨s', h⟩ := h
  rw [callD_s, h]
theorem callD_exn {m : Nat} {ς : Ss} {ds : List D} {c : Str} {x : D} (h : ∃ s', ς (ds.map .sh ++ List.replicate (m - ds.length) .un) = .exn c x s') : callD m ς ds = .exn c x [] := by
  obtain ⟨s', h⟩ := h
  rw [callD_s, h]
theorem callF_rf {m : Nat} {ς : Ss} {ds : List D} {d : D} (h : ∃ s', ς (ds.map .sh ++ List.replicate (m - ds.length) .un) = .ok (.rf d s')) : callF m ς ds = .ok d := by
  obtain ⟨s', h⟩ := h
  unfold callF entry
  rw [List.length_map, h]
theorem callI_rt {m : Nat} {ς : Ss} {d0 d d1 : D} {ds : List D} (h : ∃ s', ς (.io d0 :: (ds.map .sh ++ List.replicate (m - (ds.length + 1)) .un)) = .ok (.rt d (.io d1 :: s'))) : callI m ς d0 ds = .ok (d, d1) := by
  obtain ⟨s', h⟩ := h
  unfold callI entry
  rw [List.length_cons, List.length_map, List.cons_append, h]
  rfl
theorem callI_nx {m : Nat} {ς : Ss} {d0 d1 : D} {ds : List D} (h : ∃ s', ς (.io d0 :: (ds.map .sh ++ List.replicate (m - (ds.length + 1)) .un)) = .ok (.nx (.io d1 :: s'))) : callI m ς d0 ds = .ok (.none, d1) := by
  obtain ⟨s', h⟩ := h
  unfold callI entry
  rw [List.length_cons, List.length_map, List.cons_append, h]
  rfl
/-- what a function's own data give -/
def pops : List Int → Nat → Int × List Int
  | [], _ => (0, [])
  | a :: r, b => (a % (b : Int), r)
/-- a loop over typed items: what is left, the accumulator -/
theorem forGo_all {A B : Type} {γ : D → Sv → Option Sv} {b : Ss} (emb : B → D) (S : A → Sv) (I : List B → A → Prop) (h : ∀ x r a, I (x :: r) a → ∃ s1 a', γ (emb x) (S a) = some s1 ∧ b s1 = .ok (.nx (S a')) ∧ I r a') :
    ∀ (xs : List B) (a : A), I xs a → ∃ a', forGo γ b (xs.map emb) (S a) = .ok (.nx (S a')) ∧ I [] a'
  | [], a, r => ⟨a, rfl, r⟩
  | x :: xs, a, r => by
    obtain ⟨s1, a', h1, h2, h3⟩ := h x xs a r
    obtain ⟨a2, h4, h5⟩ := forGo_all emb S I h xs a' h3
    refine ⟨a2, ?_, h5⟩
    rw [List.map_cons, forGo, h1, R.opt_some, h2]
    exact h4
theorem forGo_foldl {A B : Type} {γ : D → Sv → Option Sv} {b : Ss} (emb : B → D) (S : A → Sv) (step : A → B → A) : ∀ (xs : List B) (a : A), (∀ a, ∀ x ∈ xs, ∃ s1, γ (emb x) (S a) = some s1 ∧ b s1 = .ok (.nx (S (step a x)))) →
    forGo γ b (xs.map emb) (S a) = .ok (.nx (S (xs.foldl step a)))
  | [], a, _ => rfl
  | x :: xs, a, h => by
    obtain ⟨s1, h1, h2⟩ := h a x List.mem_cons_self
    rw [List.map_cons, forGo, h1, R.opt_some, h2]
    exact forGo_foldl emb S step xs (step a x) fun a y m => h a y (List.mem_cons_of_mem _ m)
/-- a loop that may return -/
theorem forGo_ret {A B : Type} {γ : D → Sv → Option Sv} {b : Ss} (emb : B → D) (S : Sv) (P : B → Option D) : ∀ (xs : List B), (∀ x ∈ xs, ∃ s1, γ (emb x) S = some s1 ∧ match P x with | none => b s1 = .ok (.nx S) | some d => ∃ s2, b s1 = .ok (.rt d s2)) →
    match xs.findSome? P with | none => forGo γ b (xs.map emb) S = .ok (.nx S) | some d => ∃ s2, forGo γ b (xs.map emb) S = .ok (.rt d s2)
  | [], _ => rfl
  | x :: xs, h => by
    obtain ⟨s1, h1, h2⟩ := h x List.mem_cons_self
    have ih := forGo_ret (A := A) emb S P xs fun y m => h y (List.mem_cons_of_mem _ m)
    rw [List.findSome?_cons]
    cases hp : P x with
    | none =>
      rw [hp] at h2
      have h2 : b s1 = .ok (.nx S) := h2
      have e : forGo γ b ((x :: xs).map emb) S = forGo γ b (xs.map emb) S := by
        rw [List.map_cons, forGo, h1, R.opt_some, h2]; rfl
      rw [e]
      exact ih
    | some d =>
      rw [hp] at h2
      obtain ⟨s2, h2⟩ := h2
      exact ⟨s2, by rw [List.map_cons, forGo, h1, R.opt_some, h2]; rfl⟩
/-- a comprehension over typed items -/
theorem eComp_of {A : Type} {γ : D → Sv → Option Sv} {ι : Sv → R (List D × Sv)} {τ : St2} {ε : Se} {vs : List Nat} {s s1 s0 : Sv} (emb : A → D) {xs : List A} (t : A → Bool) (f : A → D) (hi : ι s = .ok (xs.map emb, s1)) (hw : wipeO s1 vs = some s0)
    (h : ∀ x ∈ xs, ∃ s1, γ (emb x) s0 = some s1 ∧ τ s1 = .ok (t x, s1) ∧ (t x = true → ε s1 = .ok (f x, s1)) ∧ wipeO s1 vs = some s0) (hl : xs.length ≤ 100000) :
    eComp γ ι τ ε vs s = .ok (.list ((xs.filter t).map f), s0) := by
  have key : ∀ (xs : List A) (acc : List D), (∀ x ∈ xs, ∃ s1, γ (emb x) s0 = some s1 ∧ τ s1 = .ok (t x, s1) ∧ (t x = true → ε s1 = .ok (f x, s1)) ∧ wipeO s1 vs = some s0) → acc.length + xs.length ≤ 100000 →
      compGo γ τ ε vs (xs.map emb) s0 acc = .ok (acc ++ (xs.filter t).map f, s0) := by
    intro xs
    induction xs with
    | nil => intro acc _ _; simp [compGo]
    | cons x xs ih =>
      intro acc h hl
      obtain ⟨s1, h1, h2, h3, h4⟩ := h x List.mem_cons_self
      have hl : acc.length + (xs.length + 1) ≤ 100000 := hl
      rw [List.map_cons, compGo, h1, R.opt_some, h2, R.ok_bind]
      cases ht : t x with
      | true =>
        rw [if_pos rfl, h3 ht, R.ok_bind, if_pos (by omega)]
        show R.opt (wipeO s1 vs) _ = _
        rw [h4, R.opt_some, ih _ (fun y m => h y (List.mem_cons_of_mem _ m)) (by simp; omega)]
        simp [ht]
      | false =>
        rw [if_neg (by simp)]
        show R.opt (wipeO s1 vs) _ = _
        rw [h4, R.opt_some, ih _ (fun y m => h y (List.mem_cons_of_mem _ m)) (by omega)]
        simp [ht]
  rw [eComp, hi, R.ok_bind, hw, R.opt_some, key xs [] h (by simpa using hl)]
  rfl
theorem eComp_map' {A : Type} {γ : D → Sv → Option Sv} {ι : Sv → R (List D × Sv)} {ε : Se} {vs : List Nat} {s s1 s0 : Sv} (emb : A → D) {xs : List A} (f : A → D) (hi : ι s = .ok (xs.map emb, s1)) (hw : wipeO s1 vs = some s0)
    (h : ∀ x ∈ xs, ∃ s1, γ (emb x) s0 = some s1 ∧ ε s1 = .ok (f x, s1) ∧ wipeO s1 vs = some s0) (hl : xs.length ≤ 100000) :
    eComp γ ι cYes ε vs s = .ok (.list (xs.map f), s0) := by
  have := eComp_of (τ := cYes) (ε := ε) emb (fun _ => true) f hi hw (fun x m => let ⟨s1, h1, h2, h3⟩ := h x m; ⟨s1, h1, rfl, fun _ => h2, h3⟩) hl
  rwa [List.filter_eq_self.mpr (fun _ _ => rfl)] at this
/-- the walk of a comprehension -/
theorem comp_of {A : Type} {γ : D → Sv → Option Sv} {τ : St2} {ε : Se} {vs : List Nat} {s0 : Sv} (emb : A → D) {xs : List A} (t : A → Bool) (f : A → D)
    (h : ∀ x ∈ xs, ∃ s1, γ (emb x) s0 = some s1 ∧ τ s1 = .ok (t x, s1) ∧ (t x = true → ε s1 = .ok (f x, s1)) ∧ wipeO s1 vs = some s0) (hl : xs.length ≤ 100000) : compGo γ τ ε vs (xs.map emb) s0 [] = .ok ((xs.filter t).map f, s0) := by
  have key : ∀ (xs : List A) (acc : List D), (∀ x ∈ xs, ∃ s1, γ (emb x) s0 = some s1 ∧ τ s1 = .ok (t x, s1) ∧ (t x = true → ε s1 = .ok (f x, s1)) ∧ wipeO s1 vs = some s0) → acc.length + xs.length ≤ 100000 →
      compGo γ τ ε vs (xs.map emb) s0 acc = .ok (acc ++ (xs.filter t).map f, s0) := by
    intro xs
    induction xs with
    | nil => intro acc _ _; simp [compGo]
    | cons x xs ih =>
      intro acc h hl
      obtain ⟨s1, h1, h2, h3, h4⟩ := h x List.mem_cons_self
      have hl : acc.length + (xs.length + 1) ≤ 100000 := hl
      rw [List.map_cons, compGo, h1, R.opt_some, h2, R.ok_bind]
      cases ht : t x with
      | true =>
        rw [if_pos rfl, h3 ht, R.ok_bind, if_pos (by omega)]
        show R.opt (wipeO s1 vs) _ = _
        rw [h4, R.opt_some, ih _ (fun y m => h y (List.mem_cons_of_mem _ m)) (by simp; omega)]
        simp [ht]
      | false =>
        rw [if_neg (by simp)]
        show R.opt (wipeO s1 vs) _ = _
        rw [h4, R.opt_some, ih _ (fun y m => h y (List.mem_cons_of_mem _ m)) (by omega)]
        simp [ht]
  simpa using key xs [] h (by simpa using hl)
theorem comp_map {A : Type} {γ : D → Sv → Option Sv} {ε : Se} {vs : List Nat} {s0 : Sv} (emb : A → D) {xs : List A} (f : A → D)
    (h : ∀ x ∈ xs, ∃ s1, γ (emb x) s0 = some s1 ∧ ε s1 = .ok (f x, s1) ∧ wipeO s1 vs = some s0) (hl : xs.length ≤ 100000) : compGo γ cYes ε vs (xs.map emb) s0 [] = .ok (xs.map f, s0) := by
  have := comp_of (τ := cYes) (ε := ε) (vs := vs) (γ := γ) emb (fun _ => true) f (fun x m => let ⟨s1, h1, h2, h3⟩ := h x m; ⟨s1, h1, rfl, fun _ => h2, h3⟩) hl
  rwa [List.filter_eq_self.mpr (fun _ _ => rfl)] at this
end
end DL
set_option maxRecDepth 100000
namespace DL
open PySem PySem.Spec PyProof.Rows L2
open PySem.PyData (strOk)
/-! ### texts in order -/
theorem sLt_irrefl (a : Str) : sLt a a = false := decide_eq_false (List.lt_irrefl _)
theorem sLt_trans {a b c : Str} (h : sLt a b = true) (h' : sLt b c = true) : sLt a c = true := decide_eq_true (List.lt_trans (of_decide_eq_true h) (of_decide_eq_true h'))
theorem sLt_asymm {a b : Str} (h : sLt a b = true) : sLt b a = false := decide_eq_false (List.lt_asymm (of_decide_eq_true h))
theorem sLt_tri {a b : Str} (h : sLt a b = false) (h' : sLt b a = false) : a = b := PySem.W.str_of_cps (List.le_antisymm (of_decide_eq_false h') (of_decide_eq_false h))
theorem sLt_ne {a b : Str} (h : sLt a b = true) : a ≠ b := fun e => by rw [e, sLt_irrefl] at h; cases h
def sLe (a b : Str) : Bool := !sLt b a
theorem sLe_trans (a b c : Str) (h : sLe a b = true) (h' : sLe b c = true) : sLe a c = true := by
  unfold sLe at *
  simp only [Bool.not_eq_true'] at *
  cases e : sLt c a with
  | false => rfl
  | true =>
    cases e2 : sLt b c with
    | true => rw [sLt_trans e2 e] at h; cases h
    | false => rw [sLt_tri e2 h', e] at h; cases h
theorem sLe_total (a b : Str) : (sLe a b || sLe b a) = true := by
  unfold sLe
  cases e : sLt b a with
  | false => rfl
  | true => rw [sLt_asymm e]; rfl
def sortS (xs : List Str) : List Str := xs.mergeSort sLe
theorem sortS_perm (xs : List Str) : (sortS xs).Perm xs := List.mergeSort_perm _ _
theorem sortS_sorted (xs : List Str) : (sortS xs).Pairwise (fun a b => sLe a b = true) := List.pairwise_mergeSort sLe_trans sLe_total xs
/-- strictly ascending -/
abbrev Asc (xs : List Str) : Prop := xs.Pairwise fun a b => sLt a b = true
theorem Asc.le {xs : List Str} (h : Asc xs) : xs.Pairwise (fun a b => sLe a b = true) := List.Pairwise.imp (fun h => by unfold sLe; rw [sLt_asymm h]; rfl) h
theorem Asc.nodup {xs : List Str} (h : Asc xs) : xs.Nodup := List.Pairwise.imp (fun h => sLt_ne h) h
theorem sortS_asc {xs : List Str} (h : xs.Nodup) : Asc (sortS xs) := by
  have h1 := sortS_sorted xs
  have h2 : (sortS xs).Nodup := (sortS_perm xs).nodup_iff.mpr h
  refine List.Pairwise.imp₂ (fun a b hle hne => ?_) h1 h2
  unfold sLe at hle
  simp only [Bool.not_eq_true'] at hle
  cases e : sLt a b with
  | true => rfl
  | false => exact absurd (sLt_tri e hle) hne
theorem sLe_antisymm {a b : Str} (h : sLe a b = true) (h' : sLe b a = true) : a = b := by
  unfold sLe at *
  simp only [Bool.not_eq_true'] at *
  exact sLt_tri h' h
theorem sorted_unique {xs ys : List Str} (hx : xs.Pairwise (fun a b => sLe a b = true)) (hy : ys.Pairwise (fun a b => sLe a b = true)) (h : xs.Perm ys) : xs = ys :=
  List.Perm.eq_of_pairwise (fun a b _ _ h h' => sLe_antisymm h h') hx hy h
theorem sortS_of_asc {xs : List Str} (h : Asc xs) : sortS xs = xs := sorted_unique (sortS_sorted xs) h.le (sortS_perm xs)
theorem sortS_eq_iff {xs ys : List Str} (h : Asc ys) : sortS xs = ys ↔ xs.Perm ys :=
  ⟨fun e => e ▸ (sortS_perm xs).symm, fun p => sorted_unique (sortS_sorted xs) h.le ((sortS_perm xs).trans p)⟩
theorem sortable_strs {xs : List Str} (h : xs.length ≤ 100000) : sortable (xs.map .str) = true := by
  unfold sortable
  simp only [Bool.and_eq_true, List.all_map, decide_eq_true_eq, Bool.or_eq_true]
  refine ⟨⟨⟨List.all_eq_true.mpr fun a _ => List.all_eq_true.mpr fun b _ => ?_, .inr (List.all_eq_true.mpr fun a _ => rfl)⟩, List.all_eq_true.mpr fun a _ => rfl⟩, by simpa using h⟩
  show PySem.W.alike (.str a) (.str b) = true
  simp only [PySem.W.alike]
theorem sortD_strs (xs : List Str) : sortD (xs.map .str) = (sortS xs).map .str := by
  unfold sortD sortS
  symm
  refine List.map_mergeSort fun a _ b _ => ?_
  show (!sLt b a) = !PySem.W.dataLt (.str b) (.str a)
  rw [PySem.W.dataLt_str]
  rfl
@[simp] theorem sortedG_sl {xs : List Str} (h : xs.length ≤ 100000) : sortedG [.list (xs.map .str)] = some (.list ((sortS xs).map .str)) := by
  show (if sortable _ = true then some (PyData.list (sortD _)) else none) = _
  rw [if_pos (sortable_strs h), sortD_strs]
@[simp] theorem sortedG_st {xs : List Str} (h : xs.length ≤ 100000) : sortedG [.tuple (xs.map .str)] = some (.list ((sortS xs).map .str)) := by
  show (if sortable _ = true then some (PyData.list (sortD _)) else none) = _
  rw [if_pos (sortable_strs h), sortD_strs]
/-- ascending, neighbour by neighbour -/
def adjB (ns : List Str) : Bool := (ns.zip ns.tail).all fun p => sLt p.1 p.2
theorem adjB_cons {a b : Str} {r : List Str} : adjB (a :: b :: r) = (sLt a b && adjB (b :: r)) := rfl
theorem adjB_iff : ∀ {ns : List Str}, adjB ns = true ↔ Asc ns
  | [] => by simp [adjB]
  | [a] => by simp [adjB]
  | a :: b :: r => by
    rw [adjB_cons, Bool.and_eq_true, adjB_iff (ns := b :: r), show Asc (a :: b :: r) ↔ (∀ c ∈ b :: r, sLt a c = true) ∧ Asc (b :: r) from List.pairwise_cons]
    refine ⟨fun ⟨h1, h2⟩ => ⟨fun c hc => ?_, h2⟩, fun ⟨h1, h2⟩ => ⟨h1 b List.mem_cons_self, h2⟩⟩
    rcases List.mem_cons.mp hc with rfl | hc
    · exact h1
    · exact sLt_trans h1 ((List.pairwise_cons.mp h2).1 c hc)
theorem strOk_nm {x : Str} (h : ∀ c ∈ cs x, c < 0x110000) : strOk x = true := by
  unfold strOk
  rw [← Array.all_toList, List.all_eq_true]
  exact fun c hc => decide_eq_true (h c hc)
theorem Nm.strOk {x : Str} (h : Nm x) : strOk x = true := strOk_nm fun c hc => by
  rcases h.all c hc with h | h
  · unfold isLow at h; simp at h; omega
  · unfold isFig at h; simp at h; omega
theorem canLay_strs {ns : List Str} (h : ∀ x ∈ ns, strOk x = true) : PyData.canLayAll0 (ns.map .str) = true := by
  induction ns with
  | nil => rfl
  | cons a r ih => rw [List.map_cons, PyData.canLayAll0, PyData.canLay0, h a List.mem_cons_self, ih fun x hx => h x (List.mem_cons_of_mem _ hx)]; rfl
theorem idxG_l {ns : List Str} {x : Str} (h : ∀ x ∈ ns, strOk x = true) (hx : strOk x = true) (hl : ns.length ≤ 100000) : idxG (.list (ns.map .str)) [.str x] = (ns.findIdx? fun z => decide (z = x)).map fun (j : Nat) => PyData.int (j : Int) := by
  show (if PyData.canLayAll0 (ns.map PyData.str) && lay (.str x) && decide ((ns.map PyData.str).length ≤ 100000) then _ else _) = _
  rw [canLay_strs h, show lay (.str x) = true from by unfold lay; rw [PyData.canLay0, hx]; rfl, List.length_map, decide_eq_true hl]
  show ((ns.map PyData.str).findIdx? _).map _ = _
  rw [List.findIdx?_map]
  congr 2
theorem idxG_t {ns : List Str} {x : Str} (h : ∀ x ∈ ns, strOk x = true) (hx : strOk x = true) (hl : ns.length ≤ 100000) : idxG (.tuple (ns.map .str)) [.str x] = (ns.findIdx? fun z => decide (z = x)).map fun (j : Nat) => PyData.int (j : Int) := by
  show (if PyData.canLayAll0 (ns.map PyData.str) && lay (.str x) && decide ((ns.map PyData.str).length ≤ 100000) then _ else _) = _
  rw [canLay_strs h, show lay (.str x) = true from by unfold lay; rw [PyData.canLay0, hx]; rfl, List.length_map, decide_eq_true hl]
  show ((ns.map PyData.str).findIdx? _).map _ = _
  rw [List.findIdx?_map]
  congr 2
/-- the place of x -/
theorem findIdx_mem {α : Type} [DecidableEq α] {ns : List α} {x : α} (h : x ∈ ns) : ns.findIdx? (fun z => decide (z = x)) = some (ns.idxOf x) ∧ ns.idxOf x < ns.length := by
  have h1 : ns.idxOf x < ns.length := List.idxOf_lt_length_of_mem h
  refine ⟨List.findIdx?_eq_some_iff_findIdx_eq.mpr ⟨h1, ?_⟩, h1⟩
  unfold List.idxOf
  congr 1
@[simp] theorem idxL_s {ns : List Str} {x : Str} (h : ∀ x ∈ ns, strOk x = true) (hx : x ∈ ns) (hl : ns.length ≤ 100000) : idxL (.list (ns.map .str)) [.str x] = some (.int (ns.idxOf x)) := by
  show idxG (.list (ns.map .str)) [.str x] = _
  rw [idxG_l h (h x hx) hl, (findIdx_mem hx).1]; rfl
@[simp] theorem idxT_s {ns : List Str} {x : Str} (h : ∀ x ∈ ns, strOk x = true) (hx : x ∈ ns) (hl : ns.length ≤ 100000) : idxT (.tuple (ns.map .str)) [.str x] = some (.int (ns.idxOf x)) := by
  show idxG (.tuple (ns.map .str)) [.str x] = _
  rw [idxG_t h (h x hx) hl, (findIdx_mem hx).1]; rfl
/-- a loop over the first n numbers -/
theorem forGo_rng {A : Type} {γ : D → Sv → Option Sv} {b : Ss} (S : A → Sv) (I : Nat → A → Prop) (f : Nat → D) (n : Nat) (h : ∀ k a, k < n → I k a → ∃ s1 a', γ (f k) (S a) = some s1 ∧ b s1 = .ok (.nx (S a')) ∧ I (k + 1) a') (a : A) (h0 : I 0 a) :
    ∃ a', forGo γ b ((List.range n).map f) (S a) = .ok (.nx (S a')) ∧ I n a' := by
  have key : ∀ (m k : Nat) (a : A), k + m = n → I k a → ∃ a', forGo γ b ((List.range' k m).map f) (S a) = .ok (.nx (S a')) ∧ I n a' := by
    intro m
    induction m with
    | zero => intro k a e r; exact ⟨a, rfl, by rw [← e]; exact r⟩
    | succ m ih =>
      intro k a e r
      obtain ⟨s1, a1, h1, h2, h3⟩ := h k a (by omega) r
      obtain ⟨a2, h4, h5⟩ := ih (k + 1) a1 (by omega) h3
      refine ⟨a2, ?_, h5⟩
      rw [List.range'_succ, List.map_cons, forGo, h1, R.opt_some, h2]
      exact h4
  rw [List.range_eq_range']
  exact key n 0 a (by omega) h0
end DL
namespace DL
open PySem PySem.Spec PyProof.Rows L2
/-! ### dicts with texts as keys -/
abbrev kv {β : Type} (e : β → D) (ps : List (Str × β)) : List (D × D) := ps.map fun p => (.str p.1, e p.2)
def aget {β : Type} (ps : List (Str × β)) (x : Str) : Option β := (ps.find? fun p => decide (p.1 = x)).map (·.2)
def aset {β : Type} (ps : List (Str × β)) (x : Str) (v : β) : List (Str × β) := if x ∈ ps.map (·.1) then ps.map fun p => if p.1 = x then (p.1, v) else p else ps ++ [(x, v)]
abbrev Keys {β : Type} (ps : List (Str × β)) : Prop := (ps.map (·.1)).Nodup
section
variable {β : Type} {e : β → D} {ps : List (Str × β)} {x : Str} {v : β}
@[simp] theorem keyOf_str : keyOf (.str x) = some (some (.inr x)) := (rfl)
theorem keyOf_str_eq {y : Str} : keyOf (.str x) = keyOf (.str y) ↔ x = y := by simp
theorem good_kv (h : Keys ps) (hl : ps.length ≤ 100000) : good (kv e ps) = true := by
  unfold good
  simp only [Bool.and_eq_true, decide_eq_true_eq, List.all_map, List.length_map, List.map_map]
  refine ⟨⟨List.all_eq_true.mpr fun p _ => rfl, ?_⟩, hl⟩
  show (ps.map fun p => (some (some (.inr p.1)) : Option (Option Key))).Nodup
  have : (ps.map fun p => (some (some (.inr p.1)) : Option (Option Key))) = (ps.map (·.1)).map fun x => some (some (.inr x)) := by simp
  rw [this]
  exact List.Pairwise.map _ (fun a b h e => h (by simpa using e)) h
theorem getK_kv : getK (kv e ps) (.str x) = (aget ps x).map e := by
  unfold getK aget
  rw [List.find?_map, Option.map_map, Option.map_map]
  congr 1
  congr 1
  funext p
  simp
theorem setK_kv : setK (kv e ps) (.str x) (e v) = kv e (aset ps x v) := by
  unfold setK aset
  have h1 : (kv e ps).any (fun q => decide (keyOf q.1 = keyOf (.str x))) = decide (x ∈ ps.map (·.1)) := by
    rw [List.any_map, Bool.eq_iff_iff, List.any_eq_true, decide_eq_true_eq, List.mem_map]
    simp
  rw [h1]
  by_cases h : x ∈ ps.map (·.1)
  · rw [if_pos (by simpa using h), if_pos h]
    simp only [kv, List.map_map]
    refine List.map_congr_left fun p _ => ?_
    show (if keyOf (.str p.1) = keyOf (.str x) then (PyData.str p.1, e v) else (.str p.1, e p.2)) = (.str (if p.1 = x then (p.1, v) else p).1, e (if p.1 = x then (p.1, v) else p).2)
    by_cases hp : p.1 = x
    · rw [if_pos (keyOf_str_eq.mpr hp), if_pos hp]
    · rw [if_neg (mt keyOf_str_eq.mp hp), if_neg hp]
  · rw [if_neg (by simpa using h), if_neg h]
    simp [kv]
@[simp] theorem ixA_kv (h : Keys ps) (hl : ps.length ≤ 100000) : ixA (.dict (kv e ps)) (.str x) = (aget ps x).map e := by
  show (if good (kv e ps) && (keyOf (.str x)).isSome then getK (kv e ps) (.str x) else none) = _
  rw [good_kv h hl, getK_kv]
  rfl
@[simp] theorem putK_kv (h : Keys ps) (hl : ps.length < 100000) : putK (.dict (kv e ps)) (.str x) (e v) = some (.dict (kv e (aset ps x v))) := by
  show (if good (kv e ps) && (keyOf (.str x)).isSome then (if (kv e ps).length < 100000 then some (PyData.dict (setK (kv e ps) (.str x) (e v))) else none) else none) = _
  rw [good_kv h (by omega), show (true && (keyOf (.str x)).isSome) = true from rfl, if_pos rfl, if_pos (by simpa using hl), setK_kv]
@[simp] theorem dictK_kv (h : Keys ps) (hl : ps.length ≤ 100000) : dictK [.dict (kv e ps)] = some (.dict (kv e ps)) := by
  show (if good (kv e ps) = true then _ else _) = _
  rw [good_kv h hl, if_pos rfl]
@[simp] theorem inA_kv (h : Keys ps) (hl : ps.length ≤ 100000) : inA (.str x) (.dict (kv e ps)) = some (.bool (decide (x ∈ ps.map (·.1)))) := by
  show (if good (kv e ps) && (keyOf (.str x)).isSome then some (PyData.bool (getK (kv e ps) (.str x)).isSome) else none) = _
  rw [good_kv h hl, getK_kv, show (true && (keyOf (.str x)).isSome) = true from rfl, if_pos rfl]
  congr 2
  rw [Option.isSome_map, aget, Option.isSome_map, Bool.eq_iff_iff, List.find?_isSome, decide_eq_true_eq, List.mem_map]
  simp
theorem aget_mem (h : Keys ps) {p : Str × β} (hp : p ∈ ps) : aget ps p.1 = some p.2 := by
  unfold aget
  induction ps with
  | nil => cases hp
  | cons q r ih =>
    have h := List.nodup_cons.mp h
    rw [List.find?_cons]
    by_cases e : q.1 = p.1
    · rw [decide_eq_true e]
      rcases List.mem_cons.mp hp with rfl | hp
      · rfl
      · exact absurd (List.mem_map.mpr ⟨p, hp, e.symm⟩) h.1
    · rw [decide_eq_false e]
      rcases List.mem_cons.mp hp with rfl | hp
      · exact absurd rfl e
      · exact ih h.2 hp
theorem aset_new (h : x ∉ ps.map (·.1)) : aset ps x v = ps ++ [(x, v)] := if_neg h
theorem aset_old (h : x ∈ ps.map (·.1)) : aset ps x v = ps.map fun p => if p.1 = x then (p.1, v) else p := if_pos h
theorem aset_keys : Keys ps → Keys (aset ps x v) := fun h => by
  by_cases hx : x ∈ ps.map (·.1)
  · rw [aset_old hx]
    have : (ps.map fun p => if p.1 = x then (p.1, v) else p).map (·.1) = ps.map (·.1) := by
      rw [List.map_map]
      exact List.map_congr_left fun p _ => by show (if p.1 = x then (p.1, v) else p).1 = p.1; split <;> rfl
    show (List.map _ _).Nodup
    rw [this]; exact h
  · rw [aset_new hx]
    show (List.map _ _).Nodup
    rw [List.map_append]
    exact nodup_snoc h hx
theorem aset_length : (aset ps x v).length ≤ ps.length + 1 := by
  unfold aset
  split <;> simp
end
end DL
set_option maxRecDepth 100000
namespace DL
open PySem PySem.Spec PyProof.Rows L2
/-! ### how long what repr tells is -/
mutual
def sw : D → Nat
  | .none => 5
  | .bool _ => 5
  | .int i => (Str.ofString (toString i)).length
  | .str x => if (x.cps.toList.all fun c => decide (c < 16 ^ 8)) then 10 * x.length + 2 else (reprText x).length
  | .list ds => swL ds + 4
  | .tuple ds => swL ds + 4
  | .dict ps => swP ps + 4
def swL : List D → Nat
  | [] => 0
  | d :: ds => sw d + 2 + swL ds
def swP : List (D × D) → Nat
  | [] => 0
  | (k, v) :: ps => sw k + sw v + 4 + swP ps
end
theorem piled_le {ts : List Str} : (Str.join ", " ts).length ≤ piled ts := by
  by_cases h : ts = []
  · subst h; exact Nat.zero_le _
  · have := join_length_add ts h; omega
theorem listText_le (ts : List Str) : (listText ts).length ≤ piled ts + 4 := by
  have key : ∀ (ts : List Str) (k : Nat) (acc : Str), (textFrom k acc ts).length ≤ acc.length + piled ts := by
    intro ts
    induction ts with
    | nil => intro k acc; exact Nat.le_refl _
    | cons t r ih =>
      intro k acc
      have := ih (k + 1) (acc ++ (if k > 0 then ", " else "" : String) ++ t)
      have e : (acc ++ (if k > 0 then ", " else "" : String) ++ t).length = acc.length + (if k > 0 then 2 else 0) + t.length := by
        rw [strLen_append, strLen_append]
        by_cases hk : k > 0
        · rw [if_pos hk, if_pos hk]; rfl
        · rw [if_neg hk, if_neg hk]; rfl
      have e2 : textFrom k acc (t :: r) = textFrom (k + 1) (acc ++ (if k > 0 then ", " else "" : String) ++ t) r := rfl
      have e3 : piled (t :: r) = t.length + 2 + piled r := rfl
      rw [e2, e3]
      have e5 : (if k > 0 then 2 else 0) ≤ 2 := by split <;> omega
      omega
  have := key ts 0 "["
  show (textFrom 0 "[" ts ++ "]").length ≤ _
  rw [strLen_append]
  have e1 : (("[" : String) : Str).length = 1 := rfl
  have e2 : (("]" : String) : Str).length = 1 := rfl
  omega
theorem tupleText_le (ts : List Str) : (tupleText ts).length ≤ piled ts + 4 := by
  unfold tupleText
  rw [strLen_append, strLen_append]
  have := piled_le (ts := ts)
  have e1 : (("(" : String) : Str).length = 1 := rfl
  have e2 : ((if ts.length == 1 then ",)" else ")" : String) : Str).length ≤ 2 := by split <;> decide
  omega
theorem dictText_le (ts : List Str) : (dictText ts).length ≤ piled ts + 4 := by
  unfold dictText
  rw [strLen_append, strLen_append]
  have := piled_le (ts := ts)
  have e1 : (("{" : String) : Str).length = 1 := rfl
  have e2 : (("}" : String) : Str).length = 1 := rfl
  omega
mutual
theorem shown_le : ∀ d : D, d.shown.length ≤ sw d
  | .none => by decide
  | .bool b => by cases b <;> decide
  | .int i => by rw [PyData.shown, sw]; exact Nat.le_refl _
  | .str x => by
    rw [PyData.shown, sw]
    split
    · next h => exact PySem.StrLaws.reprText_len x fun c hc => by simpa using List.all_eq_true.mp h c hc
    · exact Nat.le_refl _
  | .list ds => by
    rw [PyData.shown, sw]
    exact Nat.le_trans (listText_le _) (Nat.add_le_add_right (shownL_le ds) _)
  | .tuple ds => by
    rw [PyData.shown, sw]
    exact Nat.le_trans (tupleText_le _) (Nat.add_le_add_right (shownL_le ds) _)
  | .dict ps => by
    rw [PyData.shown, sw]
    exact Nat.le_trans (dictText_le _) (Nat.add_le_add_right (shownP_le ps) _)
theorem shownL_le : ∀ ds : List D, piled (PyData.shownAll ds) ≤ swL ds
  | [] => by rw [PyData.shownAll, swL]; exact Nat.le_refl _
  | d :: ds => by
    rw [PyData.shownAll, swL]
    have h1 := shown_le d
    have h2 := shownL_le ds
    have e3 : piled (d.shown :: PyData.shownAll ds) = d.shown.length + 2 + piled (PyData.shownAll ds) := rfl
    omega
theorem shownP_le : ∀ ps : List (D × D), piled (PyData.shownKv ps) ≤ swP ps
  | [] => by rw [PyData.shownKv, swP]; exact Nat.le_refl _
  | (k, v) :: ps => by
    rw [PyData.shownKv, swP]
    have h1 := shown_le k
    have h2 := shown_le v
    have h3 := shownP_le ps
    have e3 : piled ((k.shown ++ ": " ++ v.shown) :: PyData.shownKv ps) = (k.shown ++ ": " ++ v.shown).length + 2 + piled (PyData.shownKv ps) := rfl
    have e4 : ((": " : String) : Str).length = 2 := rfl
    rw [e3, strLen_append, strLen_append, e4]
    omega
end
theorem reprG_of {d : D} (h1 : d.showable = true) (h2 : d.hasDict = false ∨ noL d = true) (h3 : d.depth ≤ 60) (h4 : sw d ≤ 100000) : reprG [d] = some (.str d.shown) := by
  have h5 := shown_le d
  show (if (d.showable && (!d.hasDict || noL d)) && decide (d.depth ≤ 60) && decide (d.shown.length ≤ 100000) then some (PyData.str d.shown) else none) = _
  rw [h1, decide_eq_true h3, decide_eq_true (show d.shown.length ≤ 100000 by omega)]
  rcases h2 with h2 | h2
  · rw [h2]; rfl
  · rw [h2]; cases d.hasDict <;> rfl
theorem sw_int {i : Int} {k : Nat} (h : i.natAbs < 10 ^ k) (hk : 0 < k) : sw (.int i) ≤ k + 1 := by
  rw [sw]
  show (Str.ofString (toString i)).length ≤ _
  rw [Str.ofString_eq_toList]
  show ((toString i).toList.map Char.toNat).toArray.size ≤ _
  rw [List.size_toArray, List.length_map]
  have h1 : ∀ n : Nat, n < 10 ^ k → (toString n).toList.length ≤ k := fun n hn => by
    have : (Nat.toDigits 10 n).length ≤ k := (Nat.length_toDigits_le_iff (by decide) hk).mpr hn
    show (Nat.repr n).toList.length ≤ k
    rw [Nat.repr, String.toList_ofList]
    exact this
  cases i with
  | ofNat n =>
    have := h1 n h
    exact Nat.le_succ_of_le this
  | negSucc n =>
    have := h1 (n + 1) h
    show ("-" ++ Nat.repr (n + 1)).toList.length ≤ _
    rw [String.toList_append, List.length_append]
    have h2 : ("-" : String).toList.length = 1 := rfl
    have h3 : (Nat.repr (n + 1)).toList.length ≤ k := this
    omega
theorem sw_nm {x : Str} (h : Nm x) : sw (.str x) ≤ 122 := by
  rw [sw, if_pos]
  · rw [str_len]; have := h.len; omega
  · refine List.all_eq_true.mpr fun c hc => decide_eq_true ?_
    rcases h.all c hc with h | h
    · unfold isLow at h; simp at h; omega
    · unfold isFig at h; simp at h; omega
theorem swP_le {ps : List (D × D)} {B : Nat} (h : ∀ p ∈ ps, sw p.1 + sw p.2 ≤ B) : swP ps ≤ ps.length * (B + 4) := by
  induction ps with
  | nil => rw [swP]; exact Nat.zero_le _
  | cons p r ih =>
    obtain ⟨k, v⟩ := p
    rw [swP, List.length_cons, Nat.succ_mul]
    have h1 := h (k, v) List.mem_cons_self
    have h2 := ih fun p hp => h p (List.mem_cons_of_mem _ hp)
    dsimp only at h1
    omega
theorem swL_le {ds : List D} {B : Nat} (h : ∀ d ∈ ds, sw d ≤ B) : swL ds ≤ ds.length * (B + 2) := by
  induction ds with
  | nil => rw [swL]; exact Nat.zero_le _
  | cons p r ih =>
    rw [swL, List.length_cons, Nat.succ_mul]
    have h1 := h p List.mem_cons_self
    have h2 := ih fun p hp => h p (List.mem_cons_of_mem _ hp)
    omega

/-! ### more -/
theorem eqG_self {d : D} (h : deep d = true) : eqG d d = some (.bool true) := by
  unfold eqG
  rw [h]
  show some (PyData.bool (PyData.eqv d d)) = _
  rw [PySem.SeqAt.eqv_refl_plain d (deep_plain h)]
theorem neG_self {d : D} (h : deep d = true) : neG d d = some (.bool false) := by
  rw [neG_eqG, eqG_self h]; rfl
@[simp] theorem isG_bb {a b : Bool} : isG (.bool a) (.bool b) = some (.bool (decide (a = b))) := (rfl)
@[simp] theorem nisG_bb {a b : Bool} : nisG (.bool a) (.bool b) = some (.bool (!decide (a = b))) := (rfl)
@[simp] theorem cutD_lo1 {ds : List D} {k : Nat} : cutD ds (some ((k : Int) + 1)) none = ds.drop (k + 1) := cutD_lo (k := k + 1)
@[simp] theorem revG_l {ds : List D} : revG (.list ds) = some (.list ds.reverse) := (rfl)
@[simp] theorem revS_t {ds : List D} : revS (.tuple ds) = some (.tuple ds.reverse) := (rfl)
@[simp] theorem revS_l {ds : List D} : revS (.list ds) = some (.list ds.reverse) := (rfl)
@[simp] theorem valsOf_d {ps : List (D × D)} : valsOf (.dict ps) = some (ps.map (·.2)) := (rfl)
@[simp] theorem itemsOf_d {ps : List (D × D)} : itemsOf (.dict ps) = some (ps.map fun q => .tuple [q.1, q.2]) := (rfl)
@[simp] theorem lrngG_n {n : Nat} (h : n ≤ 100000) : lrngG [.int n] = some (.list ((List.range n).map fun i : Nat => .int i)) := by
  show (if 0 ≤ (n : Int) ∧ (n : Int) ≤ 100000 then some (PyData.list (rangeD 0 n)) else none) = _
  rw [if_pos (by omega), rangeD_0]
@[simp] theorem sWhile_s {n : Sv → Nat} {τ : St2} {b : Ss} {s : Sv} : sWhile n τ b s = whileGo τ b (n s) s := (rfl)
theorem perm_strs {es : List D} {ns : List Str} (h : es.Perm (ns.map .str)) : ∃ os : List Str, es = os.map .str ∧ os.Perm ns := by
  let g : D → Str := fun d => match d with | .str x => x | _ => Str.empty
  refine ⟨es.map g, ?_, ?_⟩
  · rw [List.map_map]
    conv => lhs; rw [← List.map_id es]
    refine List.map_congr_left fun d hd => ?_
    obtain ⟨x, _, rfl⟩ := List.mem_map.mp (h.subset hd)
    rfl
  · have := h.map g
    rw [List.map_map] at this
    have e : (ns.map (g ∘ PyData.str)) = ns := by
      conv => rhs; rw [← List.map_id ns]
      exact List.map_congr_left fun x _ => rfl
    rwa [e] at this
theorem putK_any {kvs : List (D × D)} {k d : D} (h : good kvs = true) (hk : (keyOf k).isSome = true) (hl : kvs.length < 100000) : putK (.dict kvs) k d = some (.dict (setK kvs k d)) := by
  show (if good kvs && (keyOf k).isSome then (if kvs.length < 100000 then some (PyData.dict (setK kvs k d)) else none) else none) = _
  rw [h, hk, show (true && true) = true from rfl, if_pos rfl, if_pos hl]
theorem setK_mem {kvs : List (D × D)} {k d : D} : ∃ q ∈ setK kvs k d, keyOf q.1 = keyOf k ∧ q.2 = d := by
  unfold setK
  by_cases h : kvs.any (fun q => decide (keyOf q.1 = keyOf k)) = true
  · rw [if_pos h]
    obtain ⟨q, hq, e⟩ := List.any_eq_true.mp h
    have e := of_decide_eq_true e
    exact ⟨_, List.mem_map.mpr ⟨q, hq, rfl⟩, by rw [if_pos e]; exact e, by rw [if_pos e]⟩
  · rw [if_neg h]
    exact ⟨(k, d), by simp, rfl, rfl⟩
theorem setK_sub {kvs : List (D × D)} {k d : D} {q : D × D} (h : q ∈ setK kvs k d) : q.1 = k ∨ ∃ p ∈ kvs, p.1 = q.1 := by
  unfold setK at h
  split at h
  · obtain ⟨p, hp, e⟩ := List.mem_map.mp h
    split at e
    · subst e; exact .inr ⟨p, hp, rfl⟩
    · subst e; exact .inr ⟨p, hp, rfl⟩
  · rcases List.mem_append.mp h with h | h
    · exact .inr ⟨q, h, rfl⟩
    · rw [List.mem_singleton.mp h]; exact .inl rfl
theorem keyOf_same {k k' : D} (hk : (keyOf k).isSome = true) (h : keyOf k' = keyOf k) : k' = k := by
  obtain ⟨z, hz⟩ := Option.isSome_iff_exists.mp hk
  exact keyOf_inj (h.trans hz) hz
@[simp] theorem cutD_lh0 {ds : List D} {j k : Nat} : DL.cutD ds (some (no_index (OfNat.ofNat j : Int))) (some (no_index (OfNat.ofNat k : Int))) = (ds.drop (OfNat.ofNat j)).take (OfNat.ofNat k - OfNat.ofNat j) := cutD_lh
end DL
set_option maxRecDepth 100000
namespace K78
open PySem PySem.Spec PyProof.Rows L2 DL
def topS (i : Nat) : Stmt := PySem.Challenge.pw_laurelhall_k78_whole_lots_and_draws.main.body.getD i (.Pass ⟨0, 0, 0, 0⟩)
abbrev S_is_name : Stmt := topS 9
abbrev S_is_integer : Stmt := topS 10
abbrev S_are_names : Stmt := topS 11
abbrev S_check_lot : Stmt := topS 14
abbrev S_count_for : Stmt := topS 15
abbrev S_orders_count : Stmt := topS 16
abbrev S_order_at : Stmt := topS 17
abbrev S_order_with : Stmt := topS 18
abbrev S_check_order : Stmt := topS 19
abbrev S_place_of : Stmt := topS 20
abbrev S_number_of : Stmt := topS 21
abbrev S_is_drawn : Stmt := topS 22
abbrev S_is_draw : Stmt := topS 23
abbrev S_check_draw : Stmt := topS 24
abbrev S_order_of : Stmt := topS 25
abbrev S_integer_for : Stmt := topS 26
abbrev S__law_draws : Stmt := topS 28
abbrev S__law_take : Stmt := topS 29
abbrev S__law_pick : Stmt := topS 30
abbrev S__law_shuffled : Stmt := topS 31
abbrev S__law_same : Stmt := topS 32
abbrev S__law_names : Stmt := topS 34
abbrev S__law_orders : Stmt := topS 35
abbrev S__law_count : Stmt := topS 36
abbrev S__law_number : Stmt := topS 37
abbrev S__law_told : Stmt := topS 38
abbrev S__law_drawn : Stmt := topS 39
abbrev S__law_is_draw_right : Stmt := topS 40
abbrev S__law_mirror : Stmt := topS 41
abbrev S_law : Stmt := topS 42
abbrev S__law_raised : Stmt := topS 33
theorem sc_is_name : FnScope ["value", "sign"] ["value"] (defScope S_is_name) := ⟨rfl, rfl, rfl, by decide +kernel, rfl, by decide +kernel, by decide +kernel⟩
theorem sc_is_integer : FnScope ["value"] ["value"] (defScope S_is_integer) := ⟨rfl, rfl, rfl, by decide +kernel, rfl, by decide +kernel, by decide +kernel⟩
theorem sc_are_names : FnScope ["value", "one", "other"] ["value"] (defScope S_are_names) := ⟨rfl, rfl, rfl, by decide +kernel, rfl, by decide +kernel, by decide +kernel⟩
theorem sc_check_lot : FnScope ["names"] ["names"] (defScope S_check_lot) := ⟨rfl, rfl, rfl, by decide +kernel, rfl, by decide +kernel, by decide +kernel⟩
theorem sc_count_for : FnScope ["many", "found", "number"] ["many"] (defScope S_count_for) := ⟨rfl, rfl, rfl, by decide +kernel, rfl, by decide +kernel, by decide +kernel⟩
theorem sc_orders_count : FnScope ["names"] ["names"] (defScope S_orders_count) := ⟨rfl, rfl, rfl, by decide +kernel, rfl, by decide +kernel, by decide +kernel⟩
theorem sc_order_at : FnScope ["names", "number", "left", "found", "size"] ["names", "number"] (defScope S_order_at) := ⟨rfl, rfl, rfl, by decide +kernel, rfl, by decide +kernel, by decide +kernel⟩
theorem sc_order_with : FnScope ["names", "number"] ["names", "number"] (defScope S_order_with) := ⟨rfl, rfl, rfl, by decide +kernel, rfl, by decide +kernel, by decide +kernel⟩
theorem sc_check_order : FnScope ["names", "order"] ["names", "order"] (defScope S_check_order) := ⟨rfl, rfl, rfl, by decide +kernel, rfl, by decide +kernel, by decide +kernel⟩
theorem sc_place_of : FnScope ["names", "order", "left", "found", "name", "at"] ["names", "order"] (defScope S_place_of) := ⟨rfl, rfl, rfl, by decide +kernel, rfl, by decide +kernel, by decide +kernel⟩
theorem sc_number_of : FnScope ["names", "order"] ["names", "order"] (defScope S_number_of) := ⟨rfl, rfl, rfl, by decide +kernel, rfl, by decide +kernel, by decide +kernel⟩
theorem sc_is_drawn : FnScope ["names", "value", "number", "juror"] ["names", "value"] (defScope S_is_drawn) := ⟨rfl, rfl, rfl, by decide +kernel, rfl, by decide +kernel, by decide +kernel⟩
theorem sc_is_draw : FnScope ["names", "value"] ["names", "value"] (defScope S_is_draw) := ⟨rfl, rfl, rfl, by decide +kernel, rfl, by decide +kernel, by decide +kernel⟩
theorem sc_check_draw : FnScope ["names", "draw"] ["names", "draw"] (defScope S_check_draw) := ⟨rfl, rfl, rfl, by decide +kernel, rfl, by decide +kernel, by decide +kernel⟩
theorem sc_order_of : FnScope ["names", "draw"] ["names", "draw"] (defScope S_order_of) := ⟨rfl, rfl, rfl, by decide +kernel, rfl, by decide +kernel, by decide +kernel⟩
theorem sc_integer_for : FnScope ["names", "draw", "juror", "order", "others", "name", "number"] ["names", "draw", "juror", "order"] (defScope S_integer_for) := ⟨rfl, rfl, rfl, by decide +kernel, rfl, by decide +kernel, by decide +kernel⟩
theorem sc__law_draws : FnScope ["script", "draws", "cell", "seed", "k", "number", "first"] ["script"] (defScope S__law_draws) := ⟨rfl, rfl, rfl, by decide +kernel, rfl, by decide +kernel, by decide +kernel⟩
theorem sc__law_take : FnScope ["draws", "bound"] ["draws", "bound"] (defScope S__law_take) := ⟨rfl, rfl, rfl, by decide +kernel, rfl, by decide +kernel, by decide +kernel⟩
theorem sc__law_pick : FnScope ["draws", "items"] ["draws", "items"] (defScope S__law_pick) := ⟨rfl, rfl, rfl, by decide +kernel, rfl, by decide +kernel, by decide +kernel⟩
theorem sc__law_shuffled : FnScope ["draws", "items", "waiting", "found", "k"] ["draws", "items"] (defScope S__law_shuffled) := ⟨rfl, rfl, rfl, by decide +kernel, rfl, by decide +kernel, by decide +kernel⟩
theorem sc__law_same : FnScope ["told", "due", "key", "k"] ["told", "due"] (defScope S__law_same) := ⟨rfl, rfl, rfl, by decide +kernel, rfl, by decide +kernel, by decide +kernel⟩
theorem sc__law_names : FnScope ["draws", "count", "spare", "found", "k", "name", "turn", "other"] ["draws", "count"] (defScope S__law_names) := ⟨rfl, rfl, rfl, by decide +kernel, rfl, by decide +kernel, by decide +kernel⟩
theorem sc__law_orders : FnScope ["names", "found", "name", "rest", "one"] ["names"] (defScope S__law_orders) := ⟨rfl, rfl, rfl, by decide +kernel, rfl, by decide +kernel, by decide +kernel⟩
theorem sc__law_count : FnScope ["many", "found", "k"] ["many"] (defScope S__law_count) := ⟨rfl, rfl, rfl, by decide +kernel, rfl, by decide +kernel, by decide +kernel⟩
theorem sc__law_number : FnScope ["order", "found", "k", "one"] ["order"] (defScope S__law_number) := ⟨rfl, rfl, rfl, by decide +kernel, rfl, by decide +kernel, by decide +kernel⟩
theorem sc__law_told : FnScope ["kind", "names", "thing", "juror", "order", "error"] ["kind", "names", "thing", "juror", "order"] (defScope S__law_told) := ⟨rfl, rfl, rfl, by decide +kernel, rfl, by decide +kernel, by decide +kernel⟩
theorem sc__law_drawn : FnScope ["draws", "many", "found", "juror"] ["draws", "many"] (defScope S__law_drawn) := ⟨rfl, rfl, rfl, by decide +kernel, rfl, by decide +kernel, by decide +kernel⟩
theorem sc__law_is_draw_right : FnScope ["draws", "names", "many", "drawn", "kept", "number", "order", "other", "juror", "bad", "strange", "one", "told", "led"] ["draws", "names"] (defScope S__law_is_draw_right) := ⟨rfl, rfl, rfl, by decide +kernel, rfl, by decide +kernel, by decide +kernel⟩
theorem sc__law_mirror : FnScope ["names", "order", "name"] ["names", "order"] (defScope S__law_mirror) := ⟨rfl, rfl, rfl, by decide +kernel, rfl, by decide +kernel, by decide +kernel⟩
theorem sc_law : FnScope ["script", "draws", "names", "orders", "many", "count", "order", "one", "some", "told", "thirteen", "bad", "k", "kind"] ["script"] (defScope S_law) := ⟨rfl, rfl, rfl, by decide +kernel, rfl, by decide +kernel, by decide +kernel⟩
def hRaised : Str → Option D := fun c => if c = ("NotRight" : Str) then some (raisedD [true, false, false, false] 0) else if c = ("NotThere" : Str) then some (raisedD [false, true, false, false] 1) else if c = ("NoAnswer" : Str) then some (raisedD [false, false, true, false] 2) else if c = ("TooLarge" : Str) then some (raisedD [false, false, false, true] 3) else none
def e_is_name_1 : Se := (eOr (eOp inA (eVar 1) (eC (.str "abcdefghijklmnopqrstuvwxyz"))) (eOp inA (eVar 1) (eC (.str "0123456789"))))
def s_is_name : Ss := (sSeq (sIf (cOr (cNot (cB (eIsT "str" (eVar 0)))) (cOr (cNot (cB (eChain leG leG (eC (.int 1)) (eCall lenA (aCons (eVar 0) aNil)) (eC (.int 12))))) (cB (eOp ninA (eOp ixA (eVar 0) (eC (.int 0))) (eC (.str "abcdefghijklmnopqrstuvwxyz")))))) (sSeq (sRet (eC (.bool false))) sNext) sNext) (sSeq (sRet (eCall allG (aCons (eFz (eComp (gVar 1) (iSrc seqD (eVar 0)) cYes e_is_name_1 [1])) aNil))) sNext))
def m_is_name : List D → R D := callD 2 s_is_name
def s_is_integer : Ss := (sSeq (sRet (eAnd (eIsT "int" (eVar 0)) (eNot (eIsT "bool" (eVar 0))))) sNext)
def m_is_integer : List D → R D := callD 1 s_is_integer
def e_are_names_1 : Se := (eFn m_is_name (aCons (eVar 1) aNil))
def e_are_names_2 : Se := (eOp ltG (eVar 1) (eVar 2))
def s_are_names : Ss := (sSeq (sIf (cOr (cNot (cB (eIsT "tuple" (eVar 0)))) (cNot (cB (eCall allG (aCons (eFz (eComp (gVar 1) (iSrc seqD (eVar 0)) cYes e_are_names_1 [1])) aNil))))) (sSeq (sRet (eC (.bool false))) sNext) sNext) (sSeq (sRet (eCall allG (aCons (eFz (eComp (gTupD 2 (gsCons (gVar 1) (gsCons (gVar 2) gsNil))) (iArg zipG (aCons (eVar 0) (aCons (eSl (eVar 0) (oInt (eC (.int 1))) oNo) aNil))) cYes e_are_names_2 [1, 2])) aNil))) sNext))
def m_are_names : List D → R D := callD 3 s_are_names
def s_check_lot : Ss := (sSeq (sIf (cOr (cNot (cB (eFn m_are_names (aCons (eVar 0) aNil)))) (cNot (cB (eChain leG leG (eC (.int 1)) (eCall lenA (aCons (eVar 0) aNil)) (eC (.int 12)))))) (sSeq (sRaise ("NotRight" : Str)) sNext) sNext) sNext)
def m_check_lot : List D → R D := callD 1 s_check_lot
def b_count_for_1 : Ss := (sSeq (sAug mulI 1 (eVar 2)) (sKill 2 sNext))
def s_count_for : Ss := (sSeq (sSet 1 (eC (.int 1))) (sSeq (sFor (gVar 2) (iRng (aCons (eC (.int 2)) (aCons (eOp addG (eVar 0) (eC (.int 1))) aNil))) b_count_for_1) (sKill 2 (sSeq (sRet (eVar 1)) sNext))))
def m_count_for : List D → R D := callD 3 s_count_for
def s_orders_count : Ss := (sSeq (sDrop (eFn m_check_lot (aCons (eVar 0) aNil))) (sSeq (sRet (eFn m_count_for (aCons (eCall lenA (aCons (eVar 0) aNil)) aNil))) sNext))
def m_orders_count : List D → R D := callD 1 s_orders_count
def b_order_at_1 : Ss := (sSeq (sSet 4 (eFn m_count_for (aCons (eOp subG (eLend 2 (eCall lenA (aCons (eVar 2) aNil))) (eC (.int 1))) aNil))) (sSeq (sDrop (eMethI "list" 3 appG (aCons (eMethI "list" 2 popG (aCons (eOp divG (eVar 1) (eVar 4)) aNil)) aNil))) (sSeq (sAug modI 1 (eVar 4)) (sKill 4 sNext))))
def t_order_at_2 : St2 := (cB (eOp gtG (eLend 2 (eCall lenA (aCons (eVar 2) aNil))) (eC (.int 0))))
def s_order_at : Ss := (sSeq (sSetF 2 (eCall listA (aCons (eVar 0) aNil))) (sSeq (sSetF 3 (eLst aNil)) (sSeq (sWhile (fun _ => 100) t_order_at_2 b_order_at_1) (sKill 1 (sKill 4 (sFrz 3 (sFrz 2 (sSeq (sRet (eCall tupleG (aCons (eVar 3) aNil))) sNext))))))))
def m_order_at : List D → R D := callD 5 s_order_at
def s_order_with : Ss := (sSeq (sDrop (eFn m_check_lot (aCons (eVar 0) aNil))) (sSeq (sIf (cNot (cB (eChain leG ltG (eC (.int 0)) (eVar 1) (eFn m_count_for (aCons (eCall lenA (aCons (eVar 0) aNil)) aNil))))) (sSeq (sRaise ("NotThere" : Str)) sNext) sNext) (sSeq (sRet (eFn m_order_at (aCons (eVar 0) (aCons (eVar 1) aNil)))) sNext)))
def m_order_with : List D → R D := callD 2 s_order_with
def s_check_order : Ss := (sSeq (sIf (cB (eOp neG (eFz (eCall sortedG (aCons (eVar 1) aNil))) (eFz (eCall listA (aCons (eVar 0) aNil))))) (sSeq (sRaise ("NotThere" : Str)) sNext) sNext) sNext)
def m_check_order : List D → R D := callD 2 s_check_order
def b_place_of_1 : Ss := (sSeq (sSet 5 (eLend 2 (eMeth "list" idxL (eVar 2) (aCons (eVar 4) aNil)))) (sSeq (sAug addI 3 (eOp mulG (eVar 5) (eFn m_count_for (aCons (eOp subG (eLend 2 (eCall lenA (aCons (eVar 2) aNil))) (eC (.int 1))) aNil)))) (sSeq (sDrop (eMethI "list" 2 popG (aCons (eVar 5) aNil))) (sKill 4 (sKill 5 sNext)))))
def s_place_of : Ss := (sSeq (sSetF 2 (eCall listA (aCons (eVar 0) aNil))) (sSeq (sSet 3 (eC (.int 0))) (sSeq (sFor (gVar 4) (iSrc seqD (eVar 1)) b_place_of_1) (sKill 4 (sKill 5 (sFrz 2 (sSeq (sRet (eVar 3)) sNext)))))))
def m_place_of : List D → R D := callD 6 s_place_of
def s_number_of : Ss := (sSeq (sDrop (eFn m_check_lot (aCons (eVar 0) aNil))) (sSeq (sDrop (eFn m_check_order (aCons (eVar 0) (aCons (eVar 1) aNil)))) (sSeq (sRet (eFn m_place_of (aCons (eVar 0) (aCons (eVar 1) aNil)))) sNext)))
def m_number_of : List D → R D := callD 2 s_number_of
def e_is_drawn_1 : Se := (eFn m_is_name (aCons (eVar 3) aNil))
def e_is_drawn_2 : Se := (eAnd (eFn m_is_integer (aCons (eVar 2) aNil)) (eChain leG ltG (eC (.int 0)) (eVar 2) (eFn m_count_for (aCons (eCall lenA (aCons (eVar 0) aNil)) aNil))))
def s_is_drawn : Ss := (sSeq (sIf (cOr (cNot (cB (eIsT "dict" (eVar 1)))) (cOr (cB (eOp eqG (eCall lenA (aCons (eVar 1) aNil)) (eC (.int 0)))) (cNot (cB (eCall allG (aCons (eFz (eComp (gVar 3) (iSrc seqD (eVar 1)) cYes e_is_drawn_1 [3])) aNil)))))) (sSeq (sRet (eC (.bool false))) sNext) sNext) (sSeq (sRet (eCall allG (aCons (eFz (eComp (gVar 2) (iSrc valsOf (eVar 1)) cYes e_is_drawn_2 [2])) aNil))) sNext))
def m_is_drawn : List D → R D := callD 4 s_is_drawn
def s_is_draw : Ss := (sSeq (sDrop (eFn m_check_lot (aCons (eVar 0) aNil))) (sSeq (sRet (eFn m_is_drawn (aCons (eVar 0) (aCons (eVar 1) aNil)))) sNext))
def m_is_draw : List D → R D := callD 2 s_is_draw
def s_check_draw : Ss := (sSeq (sDrop (eFn m_check_lot (aCons (eVar 0) aNil))) (sSeq (sIf (cNot (cB (eFn m_is_drawn (aCons (eVar 0) (aCons (eVar 1) aNil))))) (sSeq (sRaise ("NotRight" : Str)) sNext) sNext) sNext))
def m_check_draw : List D → R D := callD 2 s_check_draw
def s_order_of : Ss := (sSeq (sDrop (eFn m_check_draw (aCons (eVar 0) (aCons (eVar 1) aNil)))) (sSeq (sRet (eFn m_order_at (aCons (eVar 0) (aCons (eOp modG (eUn sumVG (eVar 1)) (eFn m_count_for (aCons (eCall lenA (aCons (eVar 0) aNil)) aNil))) aNil)))) sNext))
def m_order_of : List D → R D := callD 2 s_order_of
def e_integer_for_1 : Se := (eVar 6)
def t_integer_for_2 : St2 := (cB (eOp neG (eVar 5) (eVar 2)))
def s_integer_for : Ss := (sSeq (sDrop (eFn m_check_draw (aCons (eVar 0) (aCons (eVar 1) aNil)))) (sSeq (sIf (cNot (cB (eFn m_is_name (aCons (eVar 2) aNil)))) (sSeq (sRaise ("NotRight" : Str)) sNext) sNext) (sSeq (sDrop (eFn m_check_order (aCons (eVar 0) (aCons (eVar 3) aNil)))) (sSeq (sSet 4 (eCall sumG (aCons (eFz (eComp (gTupD 2 (gsCons (gVar 5) (gsCons (gVar 6) gsNil))) (iSrc itemsOf (eVar 1)) t_integer_for_2 e_integer_for_1 [5, 6])) aNil))) (sSeq (sRet (eOp modG (eOp subG (eFn m_place_of (aCons (eVar 0) (aCons (eVar 3) aNil))) (eVar 4)) (eFn m_count_for (aCons (eCall lenA (aCons (eVar 0) aNil)) aNil)))) sNext)))))
def m_integer_for : List D → R D := callD 7 s_integer_for
def b__law_drawsF_1 : Ss := (sSeq (sIf (cB (eOp gtG (eVar 5) (eC (.int 0)))) (sSeq (sDrop (eMethI "list" 1 appG (aCons (eOp modG (eCall intG (aCons (eVar 5) aNil)) (eC (.int 997))) aNil))) (sSeq (sSet 5 (eOp divG (eVar 5) (eC (.int 997)))) sNext)) sNext) (sKill 4 sNext))
def b__law_drawsF_2 : Ss := (sSeq (sSet 5 (eCall absG (aCons (eVar 2) aNil))) (sSeq (sIf (cB (eOp ltG (eVar 5) (eOp powG (eC (.int 10)) (eC (.int 18))))) (sSeq (sSet 6 (eOp modG (eCall intG (aCons (eOp addG (eOp mulG (eVar 5) (eC (.int 48271))) (eC (.int 11))) aNil)) (eC (.int 2147483647)))) (sSeq (sDrop (eMethI "list" 1 appG (aCons (eOp modG (eCall intG (aCons (eOp addG (eOp mulG (eVar 6) (eC (.int 69621))) (eVar 5)) aNil)) (eC (.int 2147483629))) aNil))) (sSeq (sDrop (eMethI "list" 1 appG (aCons (eOp modG (eCall intG (aCons (eOp addG (eVar 6) (eOp divG (eVar 5) (eC (.int 7)))) aNil)) (eC (.int 1000003))) aNil))) (sSeq (sSet 5 (eC (.int 0))) sNext)))) sNext) (sKill 6 (sSeq (sFor (gVar 4) (iRng (aCons (eC (.int 60)) aNil)) b__law_drawsF_1) (sKill 2 (sKill 4 (sKill 5 (sKill 6 sNext))))))))
def b__law_drawsF_3 : Ss := (sSeq (sSet 3 (eOp modG (eCall intG (aCons (eOp addG (eOp mulG (eVar 3) (eC (.int 48271))) (eC (.int 69621))) aNil)) (eC (.int 2147483647)))) (sSeq (sDrop (eMethI "list" 1 appG (aCons (eOp divG (eVar 3) (eC (.int 5))) aNil))) (sKill 4 sNext)))
def s__law_drawsF : Ss := (sSeq (sSetF 1 (eLst aNil)) (sSeq (sFor (gVar 2) (iSrc seqD (eVar 0)) b__law_drawsF_2) (sKill 2 (sKill 4 (sKill 5 (sKill 6 (sSeq (sSet 3 (eC (.int 1))) (sSeq (sIf (cB (eOp gtG (eCall lenA (aCons (eVar 0) aNil)) (eC (.int 0)))) (sSeq (sSet 3 (eOp addG (eC (.int 1)) (eCall absG (aCons (eOp ixA (eVar 0) (eC (.int 0))) aNil)))) sNext) sNext) (sSeq (sFor (gVar 4) (iRng (aCons (eC (.int 900)) aNil)) b__law_drawsF_3) (sKill 3 (sKill 4 (sFrz 1 (sSeq (sRetF (eUn revG (eVar 1))) sNext)))))))))))))
def m__law_drawsF : List D → R D := callF 7 s__law_drawsF
def s__law_takeI : Ss := (sSeq (sIf (cB (eOp eqG (eLend 0 (eCall lenA (aCons (eVar 0) aNil))) (eC (.int 0)))) (sSeq (sRet (eC (.int 0))) sNext) sNext) (sSeq (sRet (eOp modG (eCall intG (aCons (eMethI "list" 0 popG aNil) aNil)) (eVar 1))) sNext))
def m__law_takeI : D → List D → R (D × D) := callI 2 s__law_takeI
def s__law_pickI : Ss := (sSeq (sRet (eOp ixA (eVar 1) (eFnI 0 m__law_takeI (aCons (eCall lenA (aCons (eVar 1) aNil)) aNil)))) sNext)
def m__law_pickI : D → List D → R (D × D) := callI 2 s__law_pickI
def b__law_shuffledI_1 : Ss := (sSeq (sDrop (eMethI "list" 3 appG (aCons (eMethI "list" 2 popG (aCons (eFnI 0 m__law_takeI (aCons (eLend 2 (eCall lenA (aCons (eVar 2) aNil))) aNil)) aNil)) aNil))) (sKill 4 sNext))
def s__law_shuffledI : Ss := (sSeq (sSetF 2 (eCall listA (aCons (eVar 1) aNil))) (sSeq (sSetF 3 (eLst aNil)) (sSeq (sFor (gVar 4) (iRng (aCons (eCall lenA (aCons (eVar 1) aNil)) aNil)) b__law_shuffledI_1) (sKill 4 (sFrz 3 (sFrz 2 (sSeq (sRet (eVar 3)) sNext)))))))
def m__law_shuffledI : D → List D → R (D × D) := callI 5 s__law_shuffledI
def e__law_same_1 (rc : List D → R D) : Se := (eFn rc (aCons (eOp ixA (eVar 0) (eVar 2)) (aCons (eOp ixA (eVar 1) (eVar 2)) aNil)))
def e__law_same_2 (rc : List D → R D) : Se := (eFn rc (aCons (eOp ixA (eVar 0) (eVar 3)) (aCons (eOp ixA (eVar 1) (eVar 3)) aNil)))
def m__law_same : Nat → List D → R D
  | 0 => fun _ => .bad
  | j + 1 => callD 4 (sSeq (sIf (cB (eIsT "dict" (eVar 1))) (sSeq (sIf (cOr (cNot (cB (eIsT "dict" (eVar 0)))) (cB (eOp neG (eFz (eCall sortedG (aCons (eFz (eCall listA (aCons (eVar 0) aNil))) aNil))) (eFz (eCall sortedG (aCons (eFz (eCall listA (aCons (eVar 1) aNil))) aNil)))))) (sSeq (sRet (eC (.bool false))) sNext) sNext) (sSeq (sRet (eCall allG (aCons (eFz (eComp (gVar 2) (iSrc seqD (eVar 1)) cYes (e__law_same_1 (m__law_same j)) [2])) aNil))) sNext)) sNext) (sSeq (sIf (cOr (cB (eIsT "tuple" (eVar 1))) (cB (eIsT "list" (eVar 1)))) (sSeq (sIf (cOr (cB (eOp neG (eIsT "tuple" (eVar 1)) (eIsT "tuple" (eVar 0)))) (cB (eOp neG (eIsT "list" (eVar 1)) (eIsT "list" (eVar 0))))) (sSeq (sRet (eC (.bool false))) sNext) sNext) (sSeq (sRet (eAnd (eOp eqG (eCall lenA (aCons (eVar 0) aNil)) (eCall lenA (aCons (eVar 1) aNil))) (eCall allG (aCons (eFz (eComp (gVar 3) (iRng (aCons (eCall lenA (aCons (eVar 1) aNil)) aNil)) cYes (e__law_same_2 (m__law_same j)) [3])) aNil)))) sNext)) sNext) (sSeq (sIf (cB (eOp isG (eVar 1) (eC .none))) (sSeq (sRet (eOp isG (eVar 0) (eC .none))) sNext) sNext) (sSeq (sIf (cB (eOp neG (eIsT "bool" (eVar 1)) (eIsT "bool" (eVar 0)))) (sSeq (sRet (eC (.bool false))) sNext) sNext) (sSeq (sIf (cOr (cB (eOp neG (eIsT "int" (eVar 1)) (eIsT "int" (eVar 0)))) (cB (eOp neG (eIsT "str" (eVar 1)) (eIsT "str" (eVar 0))))) (sSeq (sRet (eC (.bool false))) sNext) sNext) (sSeq (sRet (eOp eqG (eVar 0) (eVar 1))) sNext))))))
def e__law_namesI_1 : Se := (eOp addG (eC (.str "n")) (eCall strG (aCons (eVar 6) aNil)))
def b__law_namesI_2 : Ss := (sSeq (sSet 5 (eOp addG (eVar 5) (eFnI 0 m__law_pickI (aCons (eC (.str "abcdefghijklmnopqrstuvwxyz0123456789")) aNil)))) (sKill 6 sNext))
def e__law_namesI_3 : Se := (eVar 7)
def t__law_namesI_4 : St2 := (cLend 3 (cB (eOp ninA (eVar 7) (eVar 3))))
def b__law_namesI_5 : Ss := (sSeq (sSet 5 (eFnI 0 m__law_pickI (aCons (eC (.str "abcdefghijklmnopqrstuvwxyz")) aNil))) (sSeq (sFor (gVar 6) (iRng (aCons (eFnI 0 m__law_pickI (aCons (eFz (eLst (aCons (eC (.int 0)) (aCons (eC (.int 1)) (aCons (eC (.int 2)) (aCons (eC (.int 2)) (aCons (eC (.int 11)) aNil))))))) aNil)) aNil)) b__law_namesI_2) (sKill 6 (sSeq (sIf (cLend 3 (cB (eOp inA (eVar 5) (eVar 3)))) (sSeq (sSet 5 (eOp ixA (eFz (eComp (gVar 7) (iSrc seqD (eVar 2)) t__law_namesI_4 e__law_namesI_3 [7])) (eC (.int 0)))) sNext) sNext) (sSeq (sDrop (eMethI "list" 3 appG (aCons (eVar 5) aNil))) (sKill 4 (sKill 5 (sKill 6 sNext))))))))
def s__law_namesI : Ss := (sSeq (sSet 2 (eFz (eComp (gVar 6) (iRng (aCons (eC (.int 60)) aNil)) cYes e__law_namesI_1 [6]))) (sSeq (sSetF 3 (eLst aNil)) (sSeq (sFor (gVar 4) (iRng (aCons (eVar 1) aNil)) b__law_namesI_5) (sKill 4 (sKill 5 (sKill 6 (sFrz 3 (sSeq (sRet (eVar 3)) sNext))))))))
def m__law_namesI : D → List D → R (D × D) := callI 8 s__law_namesI
def e__law_orders_1 (rc : List D → R D) : Se := (eVar 4)
def t__law_orders_2 (rc : List D → R D) : St2 := (cB (eOp neG (eVar 4) (eVar 2)))
def e__law_orders_3 (rc : List D → R D) : Se := (eOp addG (eTup (aCons (eVar 2) aNil)) (eVar 3))
def b__law_orders_4 (rc : List D → R D) : Ss := (sSeq (sSet 1 (eOp addG (eVar 1) (eFz (eComp (gVar 3) (iSrc seqD (eFn rc (aCons (eCall tupleG (aCons (eFz (eComp (gVar 4) (iSrc seqD (eVar 0)) (t__law_orders_2 rc) (e__law_orders_1 rc) [4])) aNil)) aNil))) cYes (e__law_orders_3 rc) [3])))) (sKill 2 sNext))
def m__law_orders : Nat → List D → R D
  | 0 => fun _ => .bad
  | j + 1 => callD 5 (sSeq (sIf (cB (eOp eqG (eVar 0) (eTup aNil))) (sSeq (sRet (eFz (eLst (aCons (eTup aNil) aNil)))) sNext) sNext) (sSeq (sSet 1 (eFz (eLst aNil))) (sSeq (sFor (gVar 2) (iSrc seqD (eVar 0)) (b__law_orders_4 (m__law_orders j))) (sKill 2 (sSeq (sRet (eVar 1)) sNext)))))
def b__law_count_1 : Ss := (sSeq (sSet 1 (eOp mulG (eVar 1) (eOp addG (eVar 2) (eC (.int 1))))) (sKill 2 sNext))
def s__law_count : Ss := (sSeq (sSet 1 (eC (.int 1))) (sSeq (sFor (gVar 2) (iRng (aCons (eVar 0) aNil)) b__law_count_1) (sKill 2 (sSeq (sRet (eVar 1)) sNext))))
def m__law_count : List D → R D := callD 3 s__law_count
def e__law_number_1 : Se := (eVar 3)
def t__law_number_2 : St2 := (cB (eOp ltG (eVar 3) (eOp ixA (eVar 0) (eVar 2))))
def b__law_number_3 : Ss := (sSeq (sAug addI 1 (eOp mulG (eCall lenA (aCons (eFz (eComp (gVar 3) (iSrc seqD (eSl (eVar 0) (oInt (eOp addG (eVar 2) (eC (.int 1)))) oNo)) t__law_number_2 e__law_number_1 [3])) aNil)) (eFn m__law_count (aCons (eOp subG (eOp subG (eCall lenA (aCons (eVar 0) aNil)) (eC (.int 1))) (eVar 2)) aNil)))) (sKill 2 sNext))
def s__law_number : Ss := (sSeq (sSet 1 (eC (.int 0))) (sSeq (sFor (gVar 2) (iRng (aCons (eCall lenA (aCons (eVar 0) aNil)) aNil)) b__law_number_3) (sKill 2 (sSeq (sRet (eVar 1)) sNext))))
def m__law_number : List D → R D := callD 4 s__law_number
def s__law_told : Ss := (sSeq (sTry 5 hRaised (sSeq (sIf (cB (eOp eqG (eVar 0) (eC (.int 0)))) (sSeq (sRet (eFn m_orders_count (aCons (eVar 1) aNil))) sNext) sNext) (sSeq (sIf (cB (eOp eqG (eVar 0) (eC (.int 1)))) (sSeq (sRet (eFn m_order_with (aCons (eVar 1) (aCons (eVar 2) aNil)))) sNext) sNext) (sSeq (sIf (cB (eOp eqG (eVar 0) (eC (.int 2)))) (sSeq (sRet (eFn m_number_of (aCons (eVar 1) (aCons (eVar 4) aNil)))) sNext) sNext) (sSeq (sIf (cB (eOp eqG (eVar 0) (eC (.int 3)))) (sSeq (sRet (eFn m_is_draw (aCons (eVar 1) (aCons (eVar 2) aNil)))) sNext) sNext) (sSeq (sIf (cB (eOp eqG (eVar 0) (eC (.int 4)))) (sSeq (sRet (eFn m_order_of (aCons (eVar 1) (aCons (eVar 2) aNil)))) sNext) sNext) (sSeq (sRet (eFn m_integer_for (aCons (eVar 1) (aCons (eVar 2) (aCons (eVar 3) (aCons (eVar 4) aNil)))))) sNext))))))) sNext)
def m__law_told : List D → R D := callD 6 s__law_told
def b__law_drawnI_1 : Ss := (sSeq (sPut 2 putK (eFnI 0 m__law_pickI (aCons (eFz (eLst (aCons (eC (.int 0)) (aCons (eOp subG (eVar 1) (eC (.int 1))) (aCons (eOp modG (eCall intG (aCons (eOp addG (eOp mulG (eFnI 0 m__law_takeI (aCons (eC (.int 997)) aNil)) (eC (.int 1000003))) (eFnI 0 m__law_takeI (aCons (eC (.int 997)) aNil))) aNil)) (eVar 1)) aNil))))) aNil)) (eVar 3)) (sKill 3 sNext))
def s__law_drawnI : Ss := (sSeq (sSetF 2 (eC (.dict []))) (sSeq (sFor (gVar 3) (iSrc seqD (eFnI 0 m__law_namesI (aCons (eOp addG (eC (.int 1)) (eFnI 0 m__law_takeI (aCons (eC (.int 5)) aNil))) aNil))) b__law_drawnI_1) (sKill 3 (sFrz 2 (sSeq (sRet (eVar 2)) sNext)))))
def m__law_drawnI : D → List D → R (D × D) := callI 4 s__law_drawnI
def e__law_is_draw_rightI_1 : Se := (eOp ixA (eVar 3) (eVar 8))
def e__law_is_draw_rightI_2 : Se := (eOp ixA (eVar 13) (eVar 11))
def b__law_is_draw_rightI_3 : Ss := (sSeq (sSet 12 (eFn m__law_told (aCons (eC (.int 5)) (aCons (eVar 1) (aCons (eVar 3) (aCons (eVar 8) (aCons (eVar 7) aNil))))))) (sSeq (sIf (cOr (cNot (cB (eIsT "int" (eVar 12)))) (cOr (cB (eIsT "bool" (eVar 12))) (cNot (cB (eChain leG ltG (eC (.int 0)) (eVar 12) (eVar 2)))))) (sSeq (sRet (eC (.bool false))) sNext) sNext) (sSeq (sSetF 13 (eCall dictK (aCons (eVar 3) aNil))) (sSeq (sPut 13 putK (eVar 12) (eVar 8)) (sFrz 13 (sSeq (sIf (cOr (cB (eOp neG (eOp modG (eCall intG (aCons (eCall sumG (aCons (eFz (eComp (gVar 11) (iSrc seqD (eVar 13)) cYes e__law_is_draw_rightI_2 [11])) aNil)) aNil)) (eVar 2)) (eFn m__law_number (aCons (eVar 7) aNil)))) (cNot (cB (eFn (m__law_same 8) (aCons (eFn m__law_told (aCons (eC (.int 4)) (aCons (eVar 1) (aCons (eVar 13) (aCons (eC (.str "")) (aCons (eTup aNil) aNil)))))) (aCons (eVar 7) aNil)))))) (sSeq (sRet (eC (.bool false))) sNext) sNext) (sKill 8 (sKill 12 (sKill 13 sNext)))))))))
def b__law_is_draw_rightI_4 : Ss := (sSeq (sIf (cOr (cB (eOp nisG (eFn m__law_told (aCons (eC (.int 3)) (aCons (eVar 1) (aCons (eVar 11) (aCons (eC (.str "")) (aCons (eTup aNil) aNil)))))) (eC (.bool false)))) (cB (eOp neG (eFn m__law_told (aCons (eC (.int 4)) (aCons (eVar 1) (aCons (eVar 11) (aCons (eC (.str "")) (aCons (eTup aNil) aNil)))))) (eTup (aCons (eC (.str "raised")) (aCons (eC (.int 0)) (aCons (eC (.int 1)) aNil))))))) (sSeq (sRet (eC (.bool false))) sNext) sNext) (sSeq (sIf (cB (eOp neG (eFn m__law_told (aCons (eC (.int 5)) (aCons (eVar 1) (aCons (eVar 11) (aCons (eC (.str "a")) (aCons (eVar 1) aNil)))))) (eTup (aCons (eC (.str "raised")) (aCons (eC (.int 0)) (aCons (eC (.int 1)) aNil)))))) (sSeq (sRet (eC (.bool false))) sNext) sNext) (sKill 11 sNext)))
def e__law_is_draw_rightI_5 : Se := (eFn m__law_told (aCons (eC (.int 5)) (aCons (eVar 1) (aCons (eVar 3) (aCons (eVar 11) (aCons (eOp addG (eVar 1) (eVar 1)) aNil))))))
def s__law_is_draw_rightI : Ss := (sSeq (sSet 2 (eFn m__law_count (aCons (eCall lenA (aCons (eVar 1) aNil)) aNil))) (sSeq (sSet 3 (eFnI 0 m__law_drawnI (aCons (eVar 2) aNil))) (sSeq (sSet 4 (eCall reprG (aCons (eVar 3) aNil))) (sSeq (sSet 5 (eOp modG (eCall intG (aCons (eCall sumG (aCons (eFz (eComp (gVar 8) (iSrc seqD (eVar 3)) cYes e__law_is_draw_rightI_1 [8])) aNil)) aNil)) (eVar 2))) (sSeq (sSet 6 (eFn m__law_told (aCons (eC (.int 4)) (aCons (eVar 1) (aCons (eVar 3) (aCons (eC (.str "")) (aCons (eTup aNil) aNil))))))) (sSeq (sIf (cOr (cB (eOp nisG (eFn m__law_told (aCons (eC (.int 3)) (aCons (eVar 1) (aCons (eVar 3) (aCons (eC (.str "")) (aCons (eTup aNil) aNil)))))) (eC (.bool true)))) (cOr (cNot (cB (eIsT "tuple" (eVar 6)))) (cOr (cB (eOp neG (eFz (eCall sortedG (aCons (eVar 6) aNil))) (eFz (eCall listA (aCons (eVar 1) aNil))))) (cB (eOp neG (eFn m__law_number (aCons (eVar 6) aNil)) (eVar 5)))))) (sSeq (sRet (eC (.bool false))) sNext) sNext) (sSeq (sSet 7 (eCall tupleG (aCons (eFnI 0 m__law_shuffledI (aCons (eVar 1) aNil)) aNil))) (sSeq (sFor (gVar 8) (iSrc seqD (eOp addG (eSl (eFz (eCall sortedG (aCons (eFz (eCall listA (aCons (eVar 3) aNil))) aNil))) oNo (oInt (eC (.int 2)))) (eFz (eLst (aCons (eC (.str "zz99zz99zz9")) aNil))))) b__law_is_draw_rightI_3) (sKill 8 (sKill 12 (sKill 13 (sSeq (sSetF 9 (eCall dictK (aCons (eVar 3) aNil))) (sSeq (sPut 9 putK (eFnI 0 m__law_pickI (aCons (eFz (eLst (aCons (eUn negG (eC (.int 1))) (aCons (eVar 2) (aCons (eC (.bool true)) (aCons (eC (.str "0")) (aCons (eC .none) aNil))))))) aNil)) (eFnI 0 m__law_pickI (aCons (eFz (eCall sortedG (aCons (eFz (eCall listA (aCons (eVar 3) aNil))) aNil))) aNil))) (sFrz 9 (sSeq (sSetF 10 (eCall dictK (aCons (eVar 3) aNil))) (sSeq (sPut 10 putK (eC (.int 0)) (eFnI 0 m__law_pickI (aCons (eFz (eLst (aCons (eC (.str "")) (aCons (eC (.str "1a")) (aCons (eC (.str "Aa")) (aCons (eC (.str "abcdefghijklm")) (aCons (eC (.int 5)) (aCons (eC .none) aNil)))))))) aNil))) (sFrz 10 (sSeq (sFor (gVar 11) (iSrc seqD (eFz (eLst (aCons (eVar 9) (aCons (eVar 10) (aCons (eC (.dict [])) (aCons (eC .none) (aCons (eFz (eCall sortedG (aCons (eFz (eCall listA (aCons (eVar 3) aNil))) aNil))) aNil)))))))) b__law_is_draw_rightI_4) (sKill 11 (sSeq (sSet 12 (eFz (eComp (gVar 11) (iSrc seqD (eFz (eLst (aCons (eC (.str "")) (aCons (eC (.str "1a")) (aCons (eC (.str "a")) aNil)))))) cYes e__law_is_draw_rightI_5 [11]))) (sSeq (sRet (eAnd (eOp eqG (eVar 12) (eFz (eLst (aCons (eTup (aCons (eC (.str "raised")) (aCons (eC (.int 0)) (aCons (eC (.int 1)) aNil)))) (aCons (eTup (aCons (eC (.str "raised")) (aCons (eC (.int 0)) (aCons (eC (.int 1)) aNil)))) (aCons (eTup (aCons (eC (.str "raised")) (aCons (eC (.int 1)) (aCons (eC (.int 1)) aNil)))) aNil)))))) (eOp eqG (eCall reprG (aCons (eVar 3) aNil)) (eVar 4)))) sNext)))))))))))))))))))))
def m__law_is_draw_rightI : D → List D → R (D × D) := callI 14 s__law_is_draw_rightI
def e__law_mirror_1 : Se := (eOp ixA (eVar 0) (eOp subG (eOp subG (eCall lenA (aCons (eVar 0) aNil)) (eC (.int 1))) (eMeth "tuple" idxT (eVar 0) (aCons (eVar 2) aNil))))
def s__law_mirror : Ss := (sSeq (sRet (eCall tupleG (aCons (eFz (eComp (gVar 2) (iSrc seqD (eVar 1)) cYes e__law_mirror_1 [2])) aNil))) sNext)
def m__law_mirror : List D → R D := callD 3 s__law_mirror
def e_law_1 : Se := (eFn m_order_with (aCons (eVar 2) (aCons (eVar 12) aNil)))
def e_law_2 : Se := (eFn m_number_of (aCons (eVar 2) (aCons (eVar 6) aNil)))
def b_law_3 : Ss := (sSeq (sIf (cB (eOp neG (eOp addG (eFn m_number_of (aCons (eVar 8) (aCons (eVar 7) aNil))) (eFn m_number_of (aCons (eVar 8) (aCons (eFn m__law_mirror (aCons (eVar 8) (aCons (eVar 7) aNil))) aNil)))) (eOp subG (eFn m_orders_count (aCons (eVar 8) aNil)) (eC (.int 1))))) (sSeq (sRet (eC (.bool false))) sNext) sNext) (sKill 7 (sKill 8 sNext)))
def e_law_4 : Se := (eFn m__law_told (aCons (eC (.int 2)) (aCons (eVar 4) (aCons (eC (.int 0)) (aCons (eC (.str "")) (aCons (eVar 7) aNil))))))
def e_law_5 : Se := (eOp addG (eC (.str "n")) (eCall strG (aCons (eOp addG (eC (.int 100)) (eVar 12)) aNil)))
def e_law_6 : Se := (eOp eqG (eFn m__law_told (aCons (eVar 13) (aCons (eVar 11) (aCons (eDc (pCons (eC (.str "a")) (eC (.int 0)) pNil)) (aCons (eC (.str "a")) (aCons (eTup aNil) aNil)))))) (eTup (aCons (eC (.str "raised")) (aCons (eC (.int 0)) (aCons (eC (.int 1)) aNil)))))
def b_law_7 : Ss := (sSeq (sIf (cOr (cNot (cB (eCall allG (aCons (eFz (eComp (gVar 13) (iSrc seqD (eFz (eLst (aCons (eC (.int 0)) (aCons (eC (.int 2)) (aCons (eC (.int 3)) (aCons (eC (.int 4)) (aCons (eC (.int 5)) aNil)))))))) cYes e_law_6 [13])) aNil)))) (cB (eOp neG (eFn m__law_told (aCons (eC (.int 1)) (aCons (eVar 11) (aCons (eC (.int 0)) (aCons (eC (.str "")) (aCons (eTup aNil) aNil)))))) (eTup (aCons (eC (.str "raised")) (aCons (eC (.int 0)) (aCons (eC (.int 1)) aNil))))))) (sSeq (sRet (eC (.bool false))) sNext) sNext) (sKill 11 sNext))
def s_law : Ss := (sSeq (sSetF 1 (eFn m__law_drawsF (aCons (eVar 0) aNil))) (sSeq (sSet 2 (eCall tupleG (aCons (eFz (eCall sortedG (aCons (eFnI 1 m__law_namesI (aCons (eOp addG (eC (.int 1)) (eFnI 1 m__law_takeI (aCons (eC (.int 5)) aNil))) aNil)) aNil))) aNil))) (sSeq (sSet 3 (eFn (m__law_orders 8) (aCons (eVar 2) aNil))) (sSeq (sIf (cOr (cNot (cB (eFn (m__law_same 8) (aCons (eFn m_orders_count (aCons (eVar 2) aNil)) (aCons (eCall lenA (aCons (eVar 3) aNil)) aNil))))) (cNot (cB (eFnI 1 m__law_is_draw_rightI (aCons (eVar 2) aNil))))) (sSeq (sRet (eC (.bool false))) sNext) sNext) (sSeq (sIf (cNot (cB (eFn (m__law_same 8) (aCons (eFz (eComp (gVar 12) (iRng (aCons (eCall lenA (aCons (eVar 3) aNil)) aNil)) cYes e_law_1 [12])) (aCons (eVar 3) aNil))))) (sSeq (sRet (eC (.bool false))) sNext) sNext) (sSeq (sIf (cNot (cB (eFn (m__law_same 8) (aCons (eFz (eComp (gVar 6) (iSrc seqD (eVar 3)) cYes e_law_2 [6])) (aCons (eFz (eCall lrngG (aCons (eCall lenA (aCons (eVar 3) aNil)) aNil))) aNil))))) (sSeq (sRet (eC (.bool false))) sNext) sNext) (sSeq (sSet 4 (eCall tupleG (aCons (eFz (eCall sortedG (aCons (eFnI 1 m__law_namesI (aCons (eOp addG (eC (.int 6)) (eFnI 1 m__law_takeI (aCons (eC (.int 7)) aNil))) aNil)) aNil))) aNil))) (sSeq (sSet 5 (eFn m__law_count (aCons (eCall lenA (aCons (eVar 4) aNil)) aNil))) (sSeq (sSet 6 (eCall tupleG (aCons (eFnI 1 m__law_shuffledI (aCons (eVar 4) aNil)) aNil))) (sSeq (sIf (cNot (cB (eFn (m__law_same 8) (aCons (eFz (eLst (aCons (eFn m_orders_count (aCons (eVar 4) aNil)) (aCons (eFn m_number_of (aCons (eVar 4) (aCons (eVar 6) aNil))) (aCons (eFn m_order_with (aCons (eVar 4) (aCons (eFn m__law_number (aCons (eVar 6) aNil)) aNil))) aNil))))) (aCons (eFz (eLst (aCons (eVar 5) (aCons (eFn m__law_number (aCons (eVar 6) aNil)) (aCons (eVar 6) aNil))))) aNil))))) (sSeq (sRet (eC (.bool false))) sNext) sNext) (sSeq (sFor (gTupD 2 (gsCons (gVar 7) (gsCons (gVar 8) gsNil))) (iSrc seqD (eFz (eLst (aCons (eTup (aCons (eVar 6) (aCons (eVar 4) aNil))) (aCons (eTup (aCons (eFnI 1 m__law_pickI (aCons (eVar 3) aNil)) (aCons (eVar 2) aNil))) aNil))))) b_law_3) (sKill 7 (sKill 8 (sSeq (sIf (cOr (cNot (cB (eFn (m__law_same 8) (aCons (eFz (eLst (aCons (eFn m_order_with (aCons (eVar 4) (aCons (eC (.int 0)) aNil))) (aCons (eFn m_order_with (aCons (eVar 4) (aCons (eOp subG (eVar 5) (eC (.int 1))) aNil))) aNil)))) (aCons (eFz (eLst (aCons (eVar 4) (aCons (eUn revS (eVar 4)) aNil)))) aNil))))) (cNot (cB (eFnI 1 m__law_is_draw_rightI (aCons (eVar 4) aNil))))) (sSeq (sRet (eC (.bool false))) sNext) sNext) (sFrz 1 (sSeq (sSet 9 (eFz (eLst (aCons (eFn m__law_told (aCons (eC (.int 1)) (aCons (eVar 4) (aCons (eUn negG (eC (.int 1))) (aCons (eC (.str "")) (aCons (eTup aNil) aNil)))))) (aCons (eFn m__law_told (aCons (eC (.int 1)) (aCons (eVar 4) (aCons (eVar 5) (aCons (eC (.str "")) (aCons (eTup aNil) aNil)))))) aNil))))) (sSeq (sSet 9 (eOp addG (eVar 9) (eFz (eComp (gVar 7) (iSrc seqD (eFz (eLst (aCons (eSl (eVar 6) (oInt (eC (.int 1))) oNo) (aCons (eOp addG (eVar 6) (eSl (eVar 6) oNo (oInt (eC (.int 1))))) (aCons (eOp addG (eSl (eVar 6) (oInt (eC (.int 1))) oNo) (eTup (aCons (eC (.str "zz99zz99zz9")) aNil))) (aCons (eOp addG (eSl (eVar 6) (oInt (eC (.int 1))) oNo) (eSl (eVar 6) (oInt (eC (.int 1))) (oInt (eC (.int 2))))) aNil))))))) cYes e_law_4 [7])))) (sSeq (sIf (cB (eOp neG (eVar 9) (eOp mulG (eFz (eLst (aCons (eTup (aCons (eC (.str "raised")) (aCons (eC (.int 1)) (aCons (eC (.int 1)) aNil)))) aNil))) (eC (.int 6))))) (sSeq (sRet (eC (.bool false))) sNext) sNext) (sSeq (sSet 10 (eCall tupleG (aCons (eFz (eCall sortedG (aCons (eFz (eComp (gVar 12) (iRng (aCons (eC (.int 13)) aNil)) cYes e_law_5 [12])) aNil))) aNil))) (sSeq (sFor (gVar 11) (iSrc seqD (eFz (eLst (aCons (eTup aNil) (aCons (eVar 10) (aCons (eFz (eCall listA (aCons (eVar 4) aNil))) (aCons (eUn revS (eVar 4)) (aCons (eOp addG (eVar 4) (eVar 4)) (aCons (eTup (aCons (eC (.str "a")) (aCons (eC (.str "A")) aNil))) (aCons (eC .none) (aCons (eC (.str "abc")) aNil))))))))))) b_law_7) (sKill 11 (sSeq (sRet (eFn (m__law_same 8) (aCons (eFn m_orders_count (aCons (eSl (eVar 10) oNo (oInt (eC (.int 12)))) aNil)) (aCons (eC (.int 479001600)) aNil)))) sNext))))))))))))))))))))))
def m_law : List D → R D := callD 14 s_law
end K78
set_option maxRecDepth 100000
namespace K78
open PySem PySem.Spec PyProof.Rows L2 DL L2H
structure Fx (P : Program) (w : World) (K : PySem.W.Frag) (mg : Str → Option Value) where
  a_is_name : Addr
  d_is_name : FuncData
  F_is_name : Fun K "is_name" "is_name" S_is_name a_is_name d_is_name
  g_is_name : mg "is_name" = some (.ref a_is_name)
  p_is_name : PySem.W.keepIn K (.ref a_is_name) = true
  b_is_name : Binds K d_is_name ["value"] []
  a_is_integer : Addr
  d_is_integer : FuncData
  F_is_integer : Fun K "is_integer" "is_integer" S_is_integer a_is_integer d_is_integer
  g_is_integer : mg "is_integer" = some (.ref a_is_integer)
  p_is_integer : PySem.W.keepIn K (.ref a_is_integer) = true
  b_is_integer : Binds K d_is_integer ["value"] []
  a_are_names : Addr
  d_are_names : FuncData
  F_are_names : Fun K "are_names" "are_names" S_are_names a_are_names d_are_names
  g_are_names : mg "are_names" = some (.ref a_are_names)
  p_are_names : PySem.W.keepIn K (.ref a_are_names) = true
  b_are_names : Binds K d_are_names ["value"] []
  a_check_lot : Addr
  d_check_lot : FuncData
  F_check_lot : Fun K "check_lot" "check_lot" S_check_lot a_check_lot d_check_lot
  g_check_lot : mg "check_lot" = some (.ref a_check_lot)
  p_check_lot : PySem.W.keepIn K (.ref a_check_lot) = true
  b_check_lot : Binds K d_check_lot ["names"] []
  a_count_for : Addr
  d_count_for : FuncData
  F_count_for : Fun K "count_for" "count_for" S_count_for a_count_for d_count_for
  g_count_for : mg "count_for" = some (.ref a_count_for)
  p_count_for : PySem.W.keepIn K (.ref a_count_for) = true
  b_count_for : Binds K d_count_for ["many"] []
  a_orders_count : Addr
  d_orders_count : FuncData
  F_orders_count : Fun K "orders_count" "orders_count" S_orders_count a_orders_count d_orders_count
  g_orders_count : mg "orders_count" = some (.ref a_orders_count)
  p_orders_count : PySem.W.keepIn K (.ref a_orders_count) = true
  b_orders_count : Binds K d_orders_count ["names"] []
  a_order_at : Addr
  d_order_at : FuncData
  F_order_at : Fun K "order_at" "order_at" S_order_at a_order_at d_order_at
  g_order_at : mg "order_at" = some (.ref a_order_at)
  p_order_at : PySem.W.keepIn K (.ref a_order_at) = true
  b_order_at : Binds K d_order_at ["names", "number"] []
  a_order_with : Addr
  d_order_with : FuncData
  F_order_with : Fun K "order_with" "order_with" S_order_with a_order_with d_order_with
  g_order_with : mg "order_with" = some (.ref a_order_with)
  p_order_with : PySem.W.keepIn K (.ref a_order_with) = true
  b_order_with : Binds K d_order_with ["names", "number"] []
  a_check_order : Addr
  d_check_order : FuncData
  F_check_order : Fun K "check_order" "check_order" S_check_order a_check_order d_check_order
  g_check_order : mg "check_order" = some (.ref a_check_order)
  p_check_order : PySem.W.keepIn K (.ref a_check_order) = true
  b_check_order : Binds K d_check_order ["names", "order"] []
  a_place_of : Addr
  d_place_of : FuncData
  F_place_of : Fun K "place_of" "place_of" S_place_of a_place_of d_place_of
  g_place_of : mg "place_of" = some (.ref a_place_of)
  p_place_of : PySem.W.keepIn K (.ref a_place_of) = true
  b_place_of : Binds K d_place_of ["names", "order"] []
  a_number_of : Addr
  d_number_of : FuncData
  F_number_of : Fun K "number_of" "number_of" S_number_of a_number_of d_number_of
  g_number_of : mg "number_of" = some (.ref a_number_of)
  p_number_of : PySem.W.keepIn K (.ref a_number_of) = true
  b_number_of : Binds K d_number_of ["names", "order"] []
  a_is_drawn : Addr
  d_is_drawn : FuncData
  F_is_drawn : Fun K "is_drawn" "is_drawn" S_is_drawn a_is_drawn d_is_drawn
  g_is_drawn : mg "is_drawn" = some (.ref a_is_drawn)
  p_is_drawn : PySem.W.keepIn K (.ref a_is_drawn) = true
  b_is_drawn : Binds K d_is_drawn ["names", "value"] []
  a_is_draw : Addr
  d_is_draw : FuncData
  F_is_draw : Fun K "is_draw" "is_draw" S_is_draw a_is_draw d_is_draw
  g_is_draw : mg "is_draw" = some (.ref a_is_draw)
  p_is_draw : PySem.W.keepIn K (.ref a_is_draw) = true
  b_is_draw : Binds K d_is_draw ["names", "value"] []
  a_check_draw : Addr
  d_check_draw : FuncData
  F_check_draw : Fun K "check_draw" "check_draw" S_check_draw a_check_draw d_check_draw
  g_check_draw : mg "check_draw" = some (.ref a_check_draw)
  p_check_draw : PySem.W.keepIn K (.ref a_check_draw) = true
  b_check_draw : Binds K d_check_draw ["names", "draw"] []
  a_order_of : Addr
  d_order_of : FuncData
  F_order_of : Fun K "order_of" "order_of" S_order_of a_order_of d_order_of
  g_order_of : mg "order_of" = some (.ref a_order_of)
  p_order_of : PySem.W.keepIn K (.ref a_order_of) = true
  b_order_of : Binds K d_order_of ["names", "draw"] []
  a_integer_for : Addr
  d_integer_for : FuncData
  F_integer_for : Fun K "integer_for" "integer_for" S_integer_for a_integer_for d_integer_for
  g_integer_for : mg "integer_for" = some (.ref a_integer_for)
  p_integer_for : PySem.W.keepIn K (.ref a_integer_for) = true
  b_integer_for : Binds K d_integer_for ["names", "draw", "juror", "order"] []
  a__law_draws : Addr
  d__law_draws : FuncData
  F__law_draws : Fun K "_law_draws" "_law_draws" S__law_draws a__law_draws d__law_draws
  g__law_draws : mg "_law_draws" = some (.ref a__law_draws)
  p__law_draws : PySem.W.keepIn K (.ref a__law_draws) = true
  b__law_draws : Binds K d__law_draws ["script"] []
  a__law_take : Addr
  d__law_take : FuncData
  F__law_take : Fun K "_law_take" "_law_take" S__law_take a__law_take d__law_take
  g__law_take : mg "_law_take" = some (.ref a__law_take)
  p__law_take : PySem.W.keepIn K (.ref a__law_take) = true
  b__law_take : Binds K d__law_take ["draws", "bound"] []
  a__law_pick : Addr
  d__law_pick : FuncData
  F__law_pick : Fun K "_law_pick" "_law_pick" S__law_pick a__law_pick d__law_pick
  g__law_pick : mg "_law_pick" = some (.ref a__law_pick)
  p__law_pick : PySem.W.keepIn K (.ref a__law_pick) = true
  b__law_pick : Binds K d__law_pick ["draws", "items"] []
  a__law_shuffled : Addr
  d__law_shuffled : FuncData
  F__law_shuffled : Fun K "_law_shuffled" "_law_shuffled" S__law_shuffled a__law_shuffled d__law_shuffled
  g__law_shuffled : mg "_law_shuffled" = some (.ref a__law_shuffled)
  p__law_shuffled : PySem.W.keepIn K (.ref a__law_shuffled) = true
  b__law_shuffled : Binds K d__law_shuffled ["draws", "items"] []
  a__law_same : Addr
  d__law_same : FuncData
  F__law_same : Fun K "_law_same" "_law_same" S__law_same a__law_same d__law_same
  g__law_same : mg "_law_same" = some (.ref a__law_same)
  p__law_same : PySem.W.keepIn K (.ref a__law_same) = true
  b__law_same : Binds K d__law_same ["told", "due"] []
  a__law_names : Addr
  d__law_names : FuncData
  F__law_names : Fun K "_law_names" "_law_names" S__law_names a__law_names d__law_names
  g__law_names : mg "_law_names" = some (.ref a__law_names)
  p__law_names : PySem.W.keepIn K (.ref a__law_names) = true
  b__law_names : Binds K d__law_names ["draws", "count"] []
  a__law_orders : Addr
  d__law_orders : FuncData
  F__law_orders : Fun K "_law_orders" "_law_orders" S__law_orders a__law_orders d__law_orders
  g__law_orders : mg "_law_orders" = some (.ref a__law_orders)
  p__law_orders : PySem.W.keepIn K (.ref a__law_orders) = true
  b__law_orders : Binds K d__law_orders ["names"] []
  a__law_count : Addr
  d__law_count : FuncData
  F__law_count : Fun K "_law_count" "_law_count" S__law_count a__law_count d__law_count
  g__law_count : mg "_law_count" = some (.ref a__law_count)
  p__law_count : PySem.W.keepIn K (.ref a__law_count) = true
  b__law_count : Binds K d__law_count ["many"] []
  a__law_number : Addr
  d__law_number : FuncData
  F__law_number : Fun K "_law_number" "_law_number" S__law_number a__law_number d__law_number
  g__law_number : mg "_law_number" = some (.ref a__law_number)
  p__law_number : PySem.W.keepIn K (.ref a__law_number) = true
  b__law_number : Binds K d__law_number ["order"] []
  a__law_told : Addr
  d__law_told : FuncData
  F__law_told : Fun K "_law_told" "_law_told" S__law_told a__law_told d__law_told
  g__law_told : mg "_law_told" = some (.ref a__law_told)
  p__law_told : PySem.W.keepIn K (.ref a__law_told) = true
  b__law_told : Binds K d__law_told ["kind", "names", "thing", "juror", "order"] []
  a__law_drawn : Addr
  d__law_drawn : FuncData
  F__law_drawn : Fun K "_law_drawn" "_law_drawn" S__law_drawn a__law_drawn d__law_drawn
  g__law_drawn : mg "_law_drawn" = some (.ref a__law_drawn)
  p__law_drawn : PySem.W.keepIn K (.ref a__law_drawn) = true
  b__law_drawn : Binds K d__law_drawn ["draws", "many"] []
  a__law_is_draw_right : Addr
  d__law_is_draw_right : FuncData
  F__law_is_draw_right : Fun K "_law_is_draw_right" "_law_is_draw_right" S__law_is_draw_right a__law_is_draw_right d__law_is_draw_right
  g__law_is_draw_right : mg "_law_is_draw_right" = some (.ref a__law_is_draw_right)
  p__law_is_draw_right : PySem.W.keepIn K (.ref a__law_is_draw_right) = true
  b__law_is_draw_right : Binds K d__law_is_draw_right ["draws", "names"] []
  a__law_mirror : Addr
  d__law_mirror : FuncData
  F__law_mirror : Fun K "_law_mirror" "_law_mirror" S__law_mirror a__law_mirror d__law_mirror
  g__law_mirror : mg "_law_mirror" = some (.ref a__law_mirror)
  p__law_mirror : PySem.W.keepIn K (.ref a__law_mirror) = true
  b__law_mirror : Binds K d__law_mirror ["names", "order"] []
  a_law : Addr
  d_law : FuncData
  F_law : Fun K "law" "law" S_law a_law d_law
  g_law : mg "law" = some (.ref a_law)
  p_law : PySem.W.keepIn K (.ref a_law) = true
  b_law : Binds K d_law ["script"] []
  a__law_raised : Addr
  d__law_raised : FuncData
  F__law_raised : Fun K "_law_raised" "_law_raised" S__law_raised a__law_raised d__law_raised
  g__law_raised : mg "_law_raised" = some (.ref a__law_raised)
  p__law_raised : PySem.W.keepIn K (.ref a__law_raised) = true
  b__law_raised : Binds K d__law_raised ["error"] []
  k_FIGURES : ∃ t, mg "FIGURES" = some (.str "0123456789" t)
  k_LETTERS : ∃ t, mg "LETTERS" = some (.str "abcdefghijklmnopqrstuvwxyz" t)
  k_LONGEST : ∃ t, mg "LONGEST" = some (.int 12 t)
  k_MOST_NAMES : ∃ t, mg "MOST_NAMES" = some (.int 12 t)
  z_abs : mg "abs" = none
  z_all : mg "all" = none
  z_bool : mg "bool" = none
  z_dict : mg "dict" = none
  z_int : mg "int" = none
  z_isinstance : mg "isinstance" = none
  z_len : mg "len" = none
  z_list : mg "list" = none
  z_range : mg "range" = none
  z_repr : mg "repr" = none
  z_reversed : mg "reversed" = none
  z_sorted : mg "sorted" = none
  z_str : mg "str" = none
  z_sum : mg "sum" = none
  z_tuple : mg "tuple" = none
  z_zip : mg "zip" = none
  c_LaurelError : Addr
  g_LaurelError : mg "LaurelError" = some (.ref c_LaurelError)
  c_NotRight : Addr
  g_NotRight : mg "NotRight" = some (.ref c_NotRight)
  c_NotThere : Addr
  g_NotThere : mg "NotThere" = some (.ref c_NotThere)
  c_NoAnswer : Addr
  g_NoAnswer : mg "NoAnswer" = some (.ref c_NoAnswer)
  c_TooLarge : Addr
  g_TooLarge : mg "TooLarge" = some (.ref c_TooLarge)
  x_NotRight : PySem.W.excIn K c_NotRight [.type "ValueError", .type "Exception", .type "BaseException", .type "object"] "ValueError.__new__" = true
  p_NotRight : PySem.W.keepIn K (.ref c_NotRight) = true
  s_NotRight : PySem.W.subIn K (.ref c_NotRight) (.type "BaseException") = some true
  t_NotRight : PySem.W.typeIn K (.ref c_NotRight) = some (.type "type")
  x_NotThere : PySem.W.excIn K c_NotThere [.type "ValueError", .type "Exception", .type "BaseException", .type "object"] "ValueError.__new__" = true
  p_NotThere : PySem.W.keepIn K (.ref c_NotThere) = true
  s_NotThere : PySem.W.subIn K (.ref c_NotThere) (.type "BaseException") = some true
  t_NotThere : PySem.W.typeIn K (.ref c_NotThere) = some (.type "type")
  C_NotRight : ExcC K c_NotRight
  i_NotRight_NotRight : PySem.W.kitOne K (.ref c_NotRight) (.ref c_NotRight) = some true
  i_NotRight_NotThere : PySem.W.kitOne K (.ref c_NotRight) (.ref c_NotThere) = some false
  i_NotRight_NoAnswer : PySem.W.kitOne K (.ref c_NotRight) (.ref c_NoAnswer) = some false
  i_NotRight_TooLarge : PySem.W.kitOne K (.ref c_NotRight) (.ref c_TooLarge) = some false
  m_NotRight : PySem.W.exmOne K (.ref c_NotRight) (.ref c_LaurelError) = some true
  C_NotThere : ExcC K c_NotThere
  i_NotThere_NotRight : PySem.W.kitOne K (.ref c_NotThere) (.ref c_NotRight) = some false
  i_NotThere_NotThere : PySem.W.kitOne K (.ref c_NotThere) (.ref c_NotThere) = some true
  i_NotThere_NoAnswer : PySem.W.kitOne K (.ref c_NotThere) (.ref c_NoAnswer) = some false
  i_NotThere_TooLarge : PySem.W.kitOne K (.ref c_NotThere) (.ref c_TooLarge) = some false
  m_NotThere : PySem.W.exmOne K (.ref c_NotThere) (.ref c_LaurelError) = some true
  C_NoAnswer : ExcC K c_NoAnswer
  i_NoAnswer_NotRight : PySem.W.kitOne K (.ref c_NoAnswer) (.ref c_NotRight) = some false
  i_NoAnswer_NotThere : PySem.W.kitOne K (.ref c_NoAnswer) (.ref c_NotThere) = some false
  i_NoAnswer_NoAnswer : PySem.W.kitOne K (.ref c_NoAnswer) (.ref c_NoAnswer) = some true
  i_NoAnswer_TooLarge : PySem.W.kitOne K (.ref c_NoAnswer) (.ref c_TooLarge) = some false
  m_NoAnswer : PySem.W.exmOne K (.ref c_NoAnswer) (.ref c_LaurelError) = some true
  C_TooLarge : ExcC K c_TooLarge
  i_TooLarge_NotRight : PySem.W.kitOne K (.ref c_TooLarge) (.ref c_NotRight) = some false
  i_TooLarge_NotThere : PySem.W.kitOne K (.ref c_TooLarge) (.ref c_NotThere) = some false
  i_TooLarge_NoAnswer : PySem.W.kitOne K (.ref c_TooLarge) (.ref c_NoAnswer) = some false
  i_TooLarge_TooLarge : PySem.W.kitOne K (.ref c_TooLarge) (.ref c_TooLarge) = some true
  m_TooLarge : PySem.W.exmOne K (.ref c_TooLarge) (.ref c_LaurelError) = some true
variable {P : Program} {w : World} {K : PySem.W.Frag} {mg : Str → Option Value} {base : Heap}
theorem sc__law_raised : FnScope ["error", "kinds"] ["error"] (defScope S__law_raised) := ⟨rfl, rfl, rfl, by decide +kernel, rfl, by decide +kernel, by decide +kernel⟩
theorem raised1 {f : Addr} {fd : FuncData} {k j : Nat} (F : Fun K "_law_raised" "_law_raised" S__law_raised f fd) {a c1 c2 c3 c4 ca : Addr} {oe : Obj} {b1 b2 b3 b4 : Bool} (C : ExcC K ca)
   (h1 : oe.cls = .ref ca) (h2 : oe.dict = none) (hf : ∃ vs, oe.data = .fields vs) (hmi : mg "isinstance" = none) (hml : mg "len" = none)
   (m1 : mg "NotRight" = some (.ref c1)) (m2 : mg "NotThere" = some (.ref c2)) (m3 : mg "NoAnswer" = some (.ref c3)) (m4 : mg "TooLarge" = some (.ref c4))
   (k1 : PySem.W.kitOne K (.ref ca) (.ref c1) = some b1) (k2 : PySem.W.kitOne K (.ref ca) (.ref c2) = some b2) (k3 : PySem.W.kitOne K (.ref ca) (.ref c3) = some b3) (k4 : PySem.W.kitOne K (.ref ca) (.ref c4) = some b4)
   (hj : [b1, b2, b3, b4].findIdx? id = some j) : FnP P w K mg base (k + 1) f fd ["error"] (spR K w (a, oe) (raisedD [b1, b2, b3, b4] j)) (a, oe) := by
  obtain ⟨oc, od, kV, doc, pm, an, cdv, ct, osl, rfl, lk, hcd⟩ := F.ex
  refine fn_ofP (p := (a, oe)) lk hcd sc__law_raised (fun vs H Q E h => spR_len vs H Q E h) fun A outer s H vs Q E hot hsp => ?_
  have key : ∃ t, PSs (cxH (L2N.CX P w) P w K mg base ["error", "kinds"] "_law_raised" (defScope S__law_raised) f cdv A outer s H E (a, oe)) (defBody S__law_raised) t ∧
      ∀ (σ : L2.St) (H : Hp) (O : List Addr) (D : Ends), σ[0]? = some (some (.ref a)) → 1 < σ.length → Known O H → (∀ v H', Same H H' → Den K w (Fz O H') (raisedD [b1, b2, b3, b4] j) v → D.rt v H') → t D σ H :=
    raised_ex (Y := cxH (L2N.CX P w) P w K mg base ["error", "kinds"] "_law_raised" (defScope S__law_raised) f cdv A outer s H E (a, oe)) (i := 0)
    (pis_cons C List.mem_cons_self h1 h2 hf hmi m1 k1 rfl (pis_cons C List.mem_cons_self h1 h2 hf hmi m2 k2 rfl (pis_cons C List.mem_cons_self h1 h2 hf hmi m3 k3 rfl (pis_cons C List.mem_cons_self h1 h2 hf hmi m4 k4 rfl pis_nil))))
    hj ⟨(a, oe), hot, List.mem_cons_self⟩ (show 4 ≤ 1000 by decide) hml sc__law_raised.nd 1 rfl rfl (by decide) rfl (by decide) rfl (by first | exact Or.inl rfl | exact Or.inr rfl | rfl) (by first | exact Or.inl rfl | exact Or.inr (Or.inl rfl) | exact Or.inr (Or.inr rfl)) (by first | exact Or.inl rfl | exact Or.inr rfl) rfl (by decide) (by decide) (by decide) rfl rfl rfl rfl rfl rfl (fun _ => rfl) rfl rfl rfl rfl rfl
  obtain ⟨t, ht, q⟩ := key
  refine ⟨t, ht, ?_⟩
  obtain ⟨rfl, O, hO, hq⟩ := hsp
  exact q _ H O _ rfl (show 1 < 2 by decide) hO hq
theorem hRaised_ok {k : Nat} (G : Fx P w K mg) : ∀ c d, hRaised c = some d → ∃ ca, mg c = some (.ref ca) ∧ PySem.W.exmOne K (.ref ca) (.ref G.c_LaurelError) = some true ∧ ∀ (a : Addr) (oe : Obj), oe.cls = .ref ca → oe.dict = none → (∃ vs, oe.data = .fields vs) → FnP P w K mg base (k + 1) G.a__law_raised G.d__law_raised ["error"] (spR K w (a, oe) d) (a, oe) := fun c d h => by
  unfold hRaised at h
  split at h
  · next e => subst e; cases h; exact ⟨G.c_NotRight, G.g_NotRight, G.m_NotRight, fun a oe h1 h2 h3 => raised1 G.F__law_raised G.C_NotRight h1 h2 h3 G.z_isinstance G.z_len G.g_NotRight G.g_NotThere G.g_NoAnswer G.g_TooLarge G.i_NotRight_NotRight G.i_NotRight_NotThere G.i_NotRight_NoAnswer G.i_NotRight_TooLarge rfl⟩
  split at h
  · next e => subst e; cases h; exact ⟨G.c_NotThere, G.g_NotThere, G.m_NotThere, fun a oe h1 h2 h3 => raised1 G.F__law_raised G.C_NotThere h1 h2 h3 G.z_isinstance G.z_len G.g_NotRight G.g_NotThere G.g_NoAnswer G.g_TooLarge G.i_NotThere_NotRight G.i_NotThere_NotThere G.i_NotThere_NoAnswer G.i_NotThere_TooLarge rfl⟩
  split at h
  · next e => subst e; cases h; exact ⟨G.c_NoAnswer, G.g_NoAnswer, G.m_NoAnswer, fun a oe h1 h2 h3 => raised1 G.F__law_raised G.C_NoAnswer h1 h2 h3 G.z_isinstance G.z_len G.g_NotRight G.g_NotThere G.g_NoAnswer G.g_TooLarge G.i_NoAnswer_NotRight G.i_NoAnswer_NotThere G.i_NoAnswer_NoAnswer G.i_NoAnswer_TooLarge rfl⟩
  split at h
  · next e => subst e; cases h; exact ⟨G.c_TooLarge, G.g_TooLarge, G.m_TooLarge, fun a oe h1 h2 h3 => raised1 G.F__law_raised G.C_TooLarge h1 h2 h3 G.z_isinstance G.z_len G.g_NotRight G.g_NotThere G.g_NoAnswer G.g_TooLarge G.i_TooLarge_NotRight G.i_TooLarge_NotThere G.i_TooLarge_NoAnswer G.i_TooLarge_TooLarge rfl⟩
  cases h
theorem fn_is_name (G : Fx P w K mg)  : FnG P w K mg base (L2N.CX P w) 1 G.a_is_name G.d_is_name ["value"] (spD K w mg 1 m_is_name) :=
  fnD (ς := s_is_name) G.F_is_name sc_is_name rfl (fun _ => rfl) (fun cdv A outer s H E hr => by
    have nd := sc_is_name.nd
    have tk := @takesN
    have hp := @passesN
    have hu := hr.u
    have hgd := hr.gd
    exact (ds_cons (d1_if (dt_w (dw_or (dt_not (dt_val (dx_isi (x := "") (dx_var 0) G.z_isinstance G.z_str bt_str))) (dw_or (dt_not (dt_chain (op_leG hu) (op_leG hu) dx_int (dx_callB (call_lenA) G.z_len bt_len (da_cons (dx_var 0) da_nil)) (dx_cI G.k_LONGEST))) (dw_or1 (dt_cmp (op_ninA hu) (dx_ixA (dx_var 0) dx_int) (dx_cS G.k_LETTERS)))))) (ds_cons (d1_ret dx_bl) ds_nil) ds_nil) (ds_cons (d1_ret (dx_callB (call_allG rfl) G.z_all bt_all (da_cons (dx_fz (df_comp (own := [("sign", 1)]) rfl nd (di_any (dx_var 0)) (blkOk_by rfl) (by decide) (fun _ _ _ _ _ => (dg_var 1 nd)) (fun _ _ _ _ _ => dts_nil) (fun _ _ _ _ _ => (dx_or (dx_cmp (op_inA hu) (dx_var 1) (dx_cS G.k_LETTERS)) (dx_one (dx_cmp (op_inA hu) (dx_var 1) (dx_cS G.k_FIGURES))))))) da_nil))) ds_nil)))
theorem fn_is_integer (G : Fx P w K mg)  : FnG P w K mg base (L2N.CX P w) 1 G.a_is_integer G.d_is_integer ["value"] (spD K w mg 1 m_is_integer) :=
  fnD (ς := s_is_integer) G.F_is_integer sc_is_integer rfl (fun _ => rfl) (fun cdv A outer s H E hr => by
    have nd := sc_is_integer.nd
    have tk := @takesN
    have hp := @passesN
    have hu := hr.u
    have hgd := hr.gd
    exact (ds_cons (d1_ret (dx_and (dx_isi (x := "") (dx_var 0) G.z_isinstance G.z_int bt_int) (dx_one (dx_not (dx_isi (x := "") (dx_var 0) G.z_isinstance G.z_bool bt_bool))))) ds_nil))
theorem fn_are_names (G : Fx P w K mg)  : FnG P w K mg base (L2N.CX P w) 2 G.a_are_names G.d_are_names ["value"] (spD K w mg 1 m_are_names) :=
  fnD (ς := s_are_names) G.F_are_names sc_are_names rfl (fun _ => rfl) (fun cdv A outer s H E hr => by
    have nd := sc_are_names.nd
    have tk := @takesN
    have hp := @passesN
    have hu := hr.u
    have hgd := hr.gd
    exact (ds_cons (d1_if (dt_w (dw_or (dt_not (dt_val (dx_isi (x := "") (dx_var 0) G.z_isinstance G.z_tuple bt_tuple))) (dw_or1 (dt_not (dt_val (dx_callB (call_allG rfl) G.z_all bt_all (da_cons (dx_fz (df_comp (own := [("one", 1)]) rfl nd (di_any (dx_var 0)) (blkOk_by rfl) (by decide) (fun _ _ _ _ _ => (dg_var 1 nd)) (fun _ _ _ _ _ => dts_nil) (fun _ _ _ _ _ => (dx_fn ((fn_is_name G).mono (by decide)) hr takes0N G.g_is_name G.p_is_name G.b_is_name rfl (da_cons (dx_var 1) da_nil) (al_cons al_nil))))) da_nil))))))) (ds_cons (d1_ret dx_bl) ds_nil) ds_nil) (ds_cons (d1_ret (dx_callB (call_allG rfl) G.z_all bt_all (da_cons (dx_fz (df_comp (own := [("one", 1), ("other", 2)]) rfl nd (di_zip G.z_zip (da_cons (dx_var 0) (da_cons (dx_sl (dx_var 0) (do_int dx_int) do_no) da_nil))) (blkOk_by rfl) (by decide) (fun _ _ _ _ _ => (dg_tup rfl (dgs_cons (dg_var 1 nd) (dgs_cons (dg_var 2 nd) dgs_nil)))) (fun _ _ _ _ _ => dts_nil) (fun _ _ _ _ _ => (dx_cmp (op_ltG hu) (dx_var 1) (dx_var 2))))) da_nil))) ds_nil)))
theorem fn_check_lot (G : Fx P w K mg)  : FnG P w K mg base (L2N.CX P w) 3 G.a_check_lot G.d_check_lot ["names"] (spD K w mg 1 m_check_lot) :=
  fnD (ς := s_check_lot) G.F_check_lot sc_check_lot rfl (fun _ => rfl) (fun cdv A outer s H E hr => by
    have nd := sc_check_lot.nd
    have tk := @takesN
    have hp := @passesN
    have hu := hr.u
    have hgd := hr.gd
    exact (ds_cons (d1_if (dt_w (dw_or (dt_not (dt_val (dx_fn ((fn_are_names G).mono (by decide)) hr tk G.g_are_names G.p_are_names G.b_are_names rfl (da_cons (dx_var 0) da_nil) (al_cons al_nil)))) (dw_or1 (dt_not (dt_chain (op_leG hu) (op_leG hu) dx_int (dx_callB (call_lenA) G.z_len bt_len (da_cons (dx_var 0) da_nil)) (dx_cI G.k_MOST_NAMES)))))) (ds_cons (d1_raise rfl tk PySem.F.excBase_ValueError G.x_NotRight G.g_NotRight G.p_NotRight (raises_own G.s_NotRight G.t_NotRight)) ds_nil) ds_nil) ds_nil))
theorem fn_count_for (G : Fx P w K mg)  : FnG P w K mg base (L2N.CX P w) 1 G.a_count_for G.d_count_for ["many"] (spD K w mg 1 m_count_for) :=
  fnD (ς := s_count_for) G.F_count_for sc_count_for rfl (fun _ => rfl) (fun cdv A outer s H E hr => by
    have nd := sc_count_for.nd
    have tk := @takesN
    have hp := @passesN
    have hu := hr.u
    have hgd := hr.gd
    exact (ds_cons (d1_set 1 dx_int nd) (ds_cons (d1_for hp rfl (di_range2 G.z_range (da_cons dx_int (da_cons (dx_op op_addG (dx_var 0) dx_int) da_nil)) (al_cons (al_cons al_nil))) (dg_var 2 nd) (ds_cons (d1_aug 1 ip_mulI (dx_var 2) nd) (ds_kill 2 ds_nil))) (ds_kill 2 (ds_cons (d1_ret (dx_var 1)) ds_nil)))))
theorem fn_orders_count (G : Fx P w K mg)  : FnG P w K mg base (L2N.CX P w) 4 G.a_orders_count G.d_orders_count ["names"] (spD K w mg 1 m_orders_count) :=
  fnD (ς := s_orders_count) G.F_orders_count sc_orders_count rfl (fun _ => rfl) (fun cdv A outer s H E hr => by
    have nd := sc_orders_count.nd
    have tk := @takesN
    have hp := @passesN
    have hu := hr.u
    have hgd := hr.gd
    exact (ds_cons (d1_expr (dx_fn ((fn_check_lot G).mono (by decide)) hr tk G.g_check_lot G.p_check_lot G.b_check_lot rfl (da_cons (dx_var 0) da_nil) (al_cons al_nil))) (ds_cons (d1_ret (dx_fn ((fn_count_for G).mono (by decide)) hr tk G.g_count_for G.p_count_for G.b_count_for rfl (da_cons (dx_callB (call_lenA) G.z_len bt_len (da_cons (dx_var 0) da_nil)) da_nil) (al_cons al_nil))) ds_nil)))
theorem fn_order_at (G : Fx P w K mg)  : FnG P w K mg base (L2N.CX P w) 2 G.a_order_at G.d_order_at ["names", "number"] (spD K w mg 2 m_order_at) :=
  fnD (ς := s_order_at) G.F_order_at sc_order_at rfl (fun _ => rfl) (fun cdv A outer s H E hr => by
    have nd := sc_order_at.nd
    have tk := @takesN
    have hp := @passesN
    have hu := hr.u
    have hgd := hr.gd
    exact (ds_cons (d1_setF 2 (df_callTy (call_listA rfl) G.z_list bt_list (da_cons (dx_var 0) da_nil)) nd) (ds_cons (d1_setF 3 (df_lst da_nil) nd) (ds_cons (d1_while (fun _ => 100) hp (dt_cmp (op_gtG hu) (dx_lend 2 (dx_callB (call_lenA) G.z_len bt_len (da_cons (dx_var 2) da_nil))) dx_int) (ds_cons (d1_set 4 (dx_fn ((fn_count_for G).mono (by decide)) hr tk G.g_count_for G.p_count_for G.b_count_for rfl (da_cons (dx_op op_subG (dx_lend 2 (dx_callB (call_lenA) G.z_len bt_len (da_cons (dx_var 2) da_nil))) dx_int) da_nil) (al_cons al_nil)) nd) (ds_cons (d1_expr (dx_methI 3 m_append PySem.F.plainAttrs_list PySem.F.slot_list_append PySem.F.type_list_append (da_cons (dx_methI 2 m_pop PySem.F.plainAttrs_list PySem.F.slot_list_pop PySem.F.type_list_pop (da_cons (dx_op op_divG (dx_var 1) (dx_var 4)) da_nil)) da_nil))) (ds_cons (d1_aug 1 ip_modI (dx_var 4) nd) (ds_kill 4 ds_nil))))) (ds_kill 1 (ds_kill 4 (ds_frz 3 (ds_frz 2 (ds_cons (d1_ret (dx_callTy (call_tupleG) G.z_tuple bt_tuple (da_cons (dx_var 3) da_nil))) ds_nil)))))))))
theorem fn_order_with (G : Fx P w K mg)  : FnG P w K mg base (L2N.CX P w) 4 G.a_order_with G.d_order_with ["names", "number"] (spD K w mg 2 m_order_with) :=
  fnD (ς := s_order_with) G.F_order_with sc_order_with rfl (fun _ => rfl) (fun cdv A outer s H E hr => by
    have nd := sc_order_with.nd
    have tk := @takesN
    have hp := @passesN
    have hu := hr.u
    have hgd := hr.gd
    exact (ds_cons (d1_expr (dx_fn ((fn_check_lot G).mono (by decide)) hr tk G.g_check_lot G.p_check_lot G.b_check_lot rfl (da_cons (dx_var 0) da_nil) (al_cons al_nil))) (ds_cons (d1_if (dt_not (dt_chain (op_leG hu) (op_ltG hu) dx_int (dx_var 1) (dx_fn ((fn_count_for G).mono (by decide)) hr tk G.g_count_for G.p_count_for G.b_count_for rfl (da_cons (dx_callB (call_lenA) G.z_len bt_len (da_cons (dx_var 0) da_nil)) da_nil) (al_cons al_nil)))) (ds_cons (d1_raise rfl tk PySem.F.excBase_ValueError G.x_NotThere G.g_NotThere G.p_NotThere (raises_own G.s_NotThere G.t_NotThere)) ds_nil) ds_nil) (ds_cons (d1_ret (dx_fn ((fn_order_at G).mono (by decide)) hr tk G.g_order_at G.p_order_at G.b_order_at rfl (da_cons (dx_var 0) (da_cons (dx_var 1) da_nil)) (al_cons (al_cons al_nil)))) ds_nil))))
theorem fn_check_order (G : Fx P w K mg)  : FnG P w K mg base (L2N.CX P w) 1 G.a_check_order G.d_check_order ["names", "order"] (spD K w mg 2 m_check_order) :=
  fnD (ς := s_check_order) G.F_check_order sc_check_order rfl (fun _ => rfl) (fun cdv A outer s H E hr => by
    have nd := sc_check_order.nd
    have tk := @takesN
    have hp := @passesN
    have hu := hr.u
    have hgd := hr.gd
    exact (ds_cons (d1_if (dt_cmp (op_neG hu) (dx_fz (df_callB (call_sortedG hu) G.z_sorted bt_sorted (da_cons (dx_var 1) da_nil))) (dx_fz (df_callTy (call_listA rfl) G.z_list bt_list (da_cons (dx_var 0) da_nil)))) (ds_cons (d1_raise rfl tk PySem.F.excBase_ValueError G.x_NotThere G.g_NotThere G.p_NotThere (raises_own G.s_NotThere G.t_NotThere)) ds_nil) ds_nil) ds_nil))
theorem fn_place_of (G : Fx P w K mg)  : FnG P w K mg base (L2N.CX P w) 2 G.a_place_of G.d_place_of ["names", "order"] (spD K w mg 2 m_place_of) :=
  fnD (ς := s_place_of) G.F_place_of sc_place_of rfl (fun _ => rfl) (fun cdv A outer s H E hr => by
    have nd := sc_place_of.nd
    have tk := @takesN
    have hp := @passesN
    have hu := hr.u
    have hgd := hr.gd
    exact (ds_cons (d1_setF 2 (df_callTy (call_listA rfl) G.z_list bt_list (da_cons (dx_var 0) da_nil)) nd) (ds_cons (d1_set 3 dx_int nd) (ds_cons (d1_for hp rfl (di_any (dx_var 1)) (dg_var 4 nd) (ds_cons (d1_set 5 (dx_lend 2 (dx_meth (m_index hu) PySem.F.plainAttrs_list PySem.F.slot_list_index PySem.F.type_list_index (dx_var 2) (da_cons (dx_var 4) da_nil))) nd) (ds_cons (d1_aug 3 ip_addI (dx_op op_mulG (dx_var 5) (dx_fn ((fn_count_for G).mono (by decide)) hr tk G.g_count_for G.p_count_for G.b_count_for rfl (da_cons (dx_op op_subG (dx_lend 2 (dx_callB (call_lenA) G.z_len bt_len (da_cons (dx_var 2) da_nil))) dx_int) da_nil) (al_cons al_nil))) nd) (ds_cons (d1_expr (dx_methI 2 m_pop PySem.F.plainAttrs_list PySem.F.slot_list_pop PySem.F.type_list_pop (da_cons (dx_var 5) da_nil))) (ds_kill 4 (ds_kill 5 ds_nil)))))) (ds_kill 4 (ds_kill 5 (ds_frz 2 (ds_cons (d1_ret (dx_var 3)) ds_nil))))))))
theorem fn_number_of (G : Fx P w K mg)  : FnG P w K mg base (L2N.CX P w) 4 G.a_number_of G.d_number_of ["names", "order"] (spD K w mg 2 m_number_of) :=
  fnD (ς := s_number_of) G.F_number_of sc_number_of rfl (fun _ => rfl) (fun cdv A outer s H E hr => by
    have nd := sc_number_of.nd
    have tk := @takesN
    have hp := @passesN
    have hu := hr.u
    have hgd := hr.gd
    exact (ds_cons (d1_expr (dx_fn ((fn_check_lot G).mono (by decide)) hr tk G.g_check_lot G.p_check_lot G.b_check_lot rfl (da_cons (dx_var 0) da_nil) (al_cons al_nil))) (ds_cons (d1_expr (dx_fn ((fn_check_order G).mono (by decide)) hr tk G.g_check_order G.p_check_order G.b_check_order rfl (da_cons (dx_var 0) (da_cons (dx_var 1) da_nil)) (al_cons (al_cons al_nil)))) (ds_cons (d1_ret (dx_fn ((fn_place_of G).mono (by decide)) hr tk G.g_place_of G.p_place_of G.b_place_of rfl (da_cons (dx_var 0) (da_cons (dx_var 1) da_nil)) (al_cons (al_cons al_nil)))) ds_nil))))
theorem fn_is_drawn (G : Fx P w K mg)  : FnG P w K mg base (L2N.CX P w) 2 G.a_is_drawn G.d_is_drawn ["names", "value"] (spD K w mg 2 m_is_drawn) :=
  fnD (ς := s_is_drawn) G.F_is_drawn sc_is_drawn rfl (fun _ => rfl) (fun cdv A outer s H E hr => by
    have nd := sc_is_drawn.nd
    have tk := @takesN
    have hp := @passesN
    have hu := hr.u
    have hgd := hr.gd
    exact (ds_cons (d1_if (dt_w (dw_or (dt_not (dt_val (dx_isi (x := "") (dx_var 1) G.z_isinstance G.z_dict bt_dict))) (dw_or (dt_cmp (op_eqG hu) (dx_callB (call_lenA) G.z_len bt_len (da_cons (dx_var 1) da_nil)) dx_int) (dw_or1 (dt_not (dt_val (dx_callB (call_allG rfl) G.z_all bt_all (da_cons (dx_fz (df_comp (own := [("juror", 3)]) rfl nd (di_any (dx_var 1)) (blkOk_by rfl) (by decide) (fun _ _ _ _ _ => (dg_var 3 nd)) (fun _ _ _ _ _ => dts_nil) (fun _ _ _ _ _ => (dx_fn ((fn_is_name G).mono (by decide)) hr takes0N G.g_is_name G.p_is_name G.b_is_name rfl (da_cons (dx_var 3) da_nil) (al_cons al_nil))))) da_nil)))))))) (ds_cons (d1_ret dx_bl) ds_nil) ds_nil) (ds_cons (d1_ret (dx_callB (call_allG rfl) G.z_all bt_all (da_cons (dx_fz (df_comp (own := [("number", 2)]) rfl nd (di_dv (dx_var 1)) (blkOk_by rfl) (by decide) (fun _ _ _ _ _ => (dg_var 2 nd)) (fun _ _ _ _ _ => dts_nil) (fun _ _ _ _ _ => (dx_and (dx_fn ((fn_is_integer G).mono (by decide)) hr takes0N G.g_is_integer G.p_is_integer G.b_is_integer rfl (da_cons (dx_var 2) da_nil) (al_cons al_nil)) (dx_one (dx_chain (op_leG hu) (op_ltG hu) dx_int (dx_var 2) (dx_fn ((fn_count_for G).mono (by decide)) hr takes0N G.g_count_for G.p_count_for G.b_count_for rfl (da_cons (dx_callB (call_lenA) G.z_len bt_len (da_cons (dx_var 0) da_nil)) da_nil) (al_cons al_nil)))))))) da_nil))) ds_nil)))
theorem fn_is_draw (G : Fx P w K mg)  : FnG P w K mg base (L2N.CX P w) 4 G.a_is_draw G.d_is_draw ["names", "value"] (spD K w mg 2 m_is_draw) :=
  fnD (ς := s_is_draw) G.F_is_draw sc_is_draw rfl (fun _ => rfl) (fun cdv A outer s H E hr => by
    have nd := sc_is_draw.nd
    have tk := @takesN
    have hp := @passesN
    have hu := hr.u
    have hgd := hr.gd
    exact (ds_cons (d1_expr (dx_fn ((fn_check_lot G).mono (by decide)) hr tk G.g_check_lot G.p_check_lot G.b_check_lot rfl (da_cons (dx_var 0) da_nil) (al_cons al_nil))) (ds_cons (d1_ret (dx_fn ((fn_is_drawn G).mono (by decide)) hr tk G.g_is_drawn G.p_is_drawn G.b_is_drawn rfl (da_cons (dx_var 0) (da_cons (dx_var 1) da_nil)) (al_cons (al_cons al_nil)))) ds_nil)))
theorem fn_check_draw (G : Fx P w K mg)  : FnG P w K mg base (L2N.CX P w) 4 G.a_check_draw G.d_check_draw ["names", "draw"] (spD K w mg 2 m_check_draw) :=
  fnD (ς := s_check_draw) G.F_check_draw sc_check_draw rfl (fun _ => rfl) (fun cdv A outer s H E hr => by
    have nd := sc_check_draw.nd
    have tk := @takesN
    have hp := @passesN
    have hu := hr.u
    have hgd := hr.gd
    exact (ds_cons (d1_expr (dx_fn ((fn_check_lot G).mono (by decide)) hr tk G.g_check_lot G.p_check_lot G.b_check_lot rfl (da_cons (dx_var 0) da_nil) (al_cons al_nil))) (ds_cons (d1_if (dt_not (dt_val (dx_fn ((fn_is_drawn G).mono (by decide)) hr tk G.g_is_drawn G.p_is_drawn G.b_is_drawn rfl (da_cons (dx_var 0) (da_cons (dx_var 1) da_nil)) (al_cons (al_cons al_nil))))) (ds_cons (d1_raise rfl tk PySem.F.excBase_ValueError G.x_NotRight G.g_NotRight G.p_NotRight (raises_own G.s_NotRight G.t_NotRight)) ds_nil) ds_nil) ds_nil)))
theorem fn_order_of (G : Fx P w K mg)  : FnG P w K mg base (L2N.CX P w) 5 G.a_order_of G.d_order_of ["names", "draw"] (spD K w mg 2 m_order_of) :=
  fnD (ς := s_order_of) G.F_order_of sc_order_of rfl (fun _ => rfl) (fun cdv A outer s H E hr => by
    have nd := sc_order_of.nd
    have tk := @takesN
    have hp := @passesN
    have hu := hr.u
    have hgd := hr.gd
    exact (ds_cons (d1_expr (dx_fn ((fn_check_draw G).mono (by decide)) hr tk G.g_check_draw G.p_check_draw G.b_check_draw rfl (da_cons (dx_var 0) (da_cons (dx_var 1) da_nil)) (al_cons (al_cons al_nil)))) (ds_cons (d1_ret (dx_fn ((fn_order_at G).mono (by decide)) hr tk G.g_order_at G.p_order_at G.b_order_at rfl (da_cons (dx_var 0) (da_cons (dx_op op_modG (dx_sumV rfl G.z_sum (dx_var 1)) (dx_fn ((fn_count_for G).mono (by decide)) hr tk G.g_count_for G.p_count_for G.b_count_for rfl (da_cons (dx_callB (call_lenA) G.z_len bt_len (da_cons (dx_var 0) da_nil)) da_nil) (al_cons al_nil))) da_nil)) (al_cons (al_cons al_nil)))) ds_nil)))
theorem fn_integer_for (G : Fx P w K mg)  : FnG P w K mg base (L2N.CX P w) 5 G.a_integer_for G.d_integer_for ["names", "draw", "juror", "order"] (spD K w mg 4 m_integer_for) :=
  fnD (ς := s_integer_for) G.F_integer_for sc_integer_for rfl (fun _ => rfl) (fun cdv A outer s H E hr => by
    have nd := sc_integer_for.nd
    have tk := @takesN
    have hp := @passesN
    have hu := hr.u
    have hgd := hr.gd
    exact (ds_cons (d1_expr (dx_fn ((fn_check_draw G).mono (by decide)) hr tk G.g_check_draw G.p_check_draw G.b_check_draw rfl (da_cons (dx_var 0) (da_cons (dx_var 1) da_nil)) (al_cons (al_cons al_nil)))) (ds_cons (d1_if (dt_not (dt_val (dx_fn ((fn_is_name G).mono (by decide)) hr tk G.g_is_name G.p_is_name G.b_is_name rfl (da_cons (dx_var 2) da_nil) (al_cons al_nil)))) (ds_cons (d1_raise rfl tk PySem.F.excBase_ValueError G.x_NotRight G.g_NotRight G.p_NotRight (raises_own G.s_NotRight G.t_NotRight)) ds_nil) ds_nil) (ds_cons (d1_expr (dx_fn ((fn_check_order G).mono (by decide)) hr tk G.g_check_order G.p_check_order G.b_check_order rfl (da_cons (dx_var 0) (da_cons (dx_var 3) da_nil)) (al_cons (al_cons al_nil)))) (ds_cons (d1_set 4 (dx_callB (call_sumG rfl) G.z_sum bt_sum (da_cons (dx_fz (df_comp (own := [("name", 5), ("number", 6)]) rfl nd (di_di (dx_var 1)) (blkOk_by rfl) (by decide) (fun _ _ _ _ _ => (dg_tup rfl (dgs_cons (dg_var 5 nd) (dgs_cons (dg_var 6 nd) dgs_nil)))) (fun _ _ _ _ _ => (dts_one (dt_cmp (op_neG hu) (dx_var 5) (dx_var 2)))) (fun _ _ _ _ _ => (dx_var 6)))) da_nil)) nd) (ds_cons (d1_ret (dx_op op_modG (dx_op op_subG (dx_fn ((fn_place_of G).mono (by decide)) hr tk G.g_place_of G.p_place_of G.b_place_of rfl (da_cons (dx_var 0) (da_cons (dx_var 3) da_nil)) (al_cons (al_cons al_nil))) (dx_var 4)) (dx_fn ((fn_count_for G).mono (by decide)) hr tk G.g_count_for G.p_count_for G.b_count_for rfl (da_cons (dx_callB (call_lenA) G.z_len bt_len (da_cons (dx_var 0) da_nil)) da_nil) (al_cons al_nil)))) ds_nil))))))
theorem fn__law_drawsF (G : Fx P w K mg)  : FnG P w K mg base (L2N.CX P w) 1 G.a__law_draws G.d__law_draws ["script"] (spF K w mg 1 m__law_drawsF) :=
  fnF (ς := s__law_drawsF) G.F__law_draws sc__law_draws rfl (fun _ => rfl) (fun cdv A outer s H E hr => by
    have nd := sc__law_draws.nd
    have tk := @takesN
    have hp := @passesN
    have hu := hr.u
    have hgd := hr.gd
    exact (ds_cons (d1_setF 1 (df_lst da_nil) nd) (ds_cons (d1_for hp rfl (di_any (dx_var 0)) (dg_var 2 nd) (ds_cons (d1_set 5 (dx_callB (call_absG) G.z_abs bt_abs (da_cons (dx_var 2) da_nil)) nd) (ds_cons (d1_if (dt_cmp (op_ltG hu) (dx_var 5) (dx_op op_powG dx_int dx_int)) (ds_cons (d1_set 6 (dx_op op_modG (dx_callTy (call_intG) G.z_int bt_int (da_cons (dx_op op_addG (dx_op op_mulG (dx_var 5) dx_int) dx_int) da_nil)) dx_int) nd) (ds_cons (d1_expr (dx_methI 1 m_append PySem.F.plainAttrs_list PySem.F.slot_list_append PySem.F.type_list_append (da_cons (dx_op op_modG (dx_callTy (call_intG) G.z_int bt_int (da_cons (dx_op op_addG (dx_op op_mulG (dx_var 6) dx_int) (dx_var 5)) da_nil)) dx_int) da_nil))) (ds_cons (d1_expr (dx_methI 1 m_append PySem.F.plainAttrs_list PySem.F.slot_list_append PySem.F.type_list_append (da_cons (dx_op op_modG (dx_callTy (call_intG) G.z_int bt_int (da_cons (dx_op op_addG (dx_var 6) (dx_op op_divG (dx_var 5) dx_int)) da_nil)) dx_int) da_nil))) (ds_cons (d1_set 5 dx_int nd) ds_nil)))) ds_nil) (ds_kill 6 (ds_cons (d1_for hp rfl (di_range1 G.z_range (da_cons dx_int da_nil) (hl := al_cons al_nil)) (dg_var 4 nd) (ds_cons (d1_if (dt_cmp (op_gtG hu) (dx_var 5) dx_int) (ds_cons (d1_expr (dx_methI 1 m_append PySem.F.plainAttrs_list PySem.F.slot_list_append PySem.F.type_list_append (da_cons (dx_op op_modG (dx_callTy (call_intG) G.z_int bt_int (da_cons (dx_var 5) da_nil)) dx_int) da_nil))) (ds_cons (d1_set 5 (dx_op op_divG (dx_var 5) dx_int) nd) ds_nil)) ds_nil) (ds_kill 4 ds_nil))) (ds_kill 2 (ds_kill 4 (ds_kill 5 (ds_kill 6 ds_nil))))))))) (ds_kill 2 (ds_kill 4 (ds_kill 5 (ds_kill 6 (ds_cons (d1_set 3 dx_int nd) (ds_cons (d1_if (dt_cmp (op_gtG hu) (dx_callB (call_lenA) G.z_len bt_len (da_cons (dx_var 0) da_nil)) dx_int) (ds_cons (d1_set 3 (dx_op op_addG dx_int (dx_callB (call_absG) G.z_abs bt_abs (da_cons (dx_ixA (dx_var 0) dx_int) da_nil))) nd) ds_nil) ds_nil) (ds_cons (d1_for hp rfl (di_range1 G.z_range (da_cons dx_int da_nil) (hl := al_cons al_nil)) (dg_var 4 nd) (ds_cons (d1_set 3 (dx_op op_modG (dx_callTy (call_intG) G.z_int bt_int (da_cons (dx_op op_addG (dx_op op_mulG (dx_var 3) dx_int) dx_int) da_nil)) dx_int) nd) (ds_cons (d1_expr (dx_methI 1 m_append PySem.F.plainAttrs_list PySem.F.slot_list_append PySem.F.type_list_append (da_cons (dx_op op_divG (dx_var 3) dx_int) da_nil))) (ds_kill 4 ds_nil)))) (ds_kill 3 (ds_kill 4 (ds_frz 1 (ds_cons (d1_retF (df_lRev rfl G.z_list G.z_reversed (dx_var 1))) ds_nil))))))))))))))
theorem fn__law_takeI (G : Fx P w K mg)  : FnG P w K mg base (L2N.CX P w) 1 G.a__law_take G.d__law_take ["draws", "bound"] (spI K w mg 2 m__law_takeI) :=
  fnI (ς := s__law_takeI) G.F__law_take sc__law_take rfl (fun _ _ => rfl) (fun cdv A outer s H E hr => by
    have nd := sc__law_take.nd
    have tk := @takes0N
    have hp := @passesN
    have hu := hr.u
    have hgd := hr.gd
    exact (ds_cons (d1_if (dt_cmp (op_eqG hu) (dx_lend 0 (dx_callB (call_lenA) G.z_len bt_len (da_cons (dx_var 0) da_nil))) dx_int) (ds_cons (d1_ret dx_int) ds_nil) ds_nil) (ds_cons (d1_ret (dx_op op_modG (dx_callTy (call_intG) G.z_int bt_int (da_cons (dx_methI0 0 m_pop PySem.F.plainAttrs_list PySem.F.slot_list_pop PySem.F.type_list_pop) da_nil)) (dx_var 1))) ds_nil)))
theorem fn__law_pickI (G : Fx P w K mg)  : FnG P w K mg base (L2N.CX P w) 2 G.a__law_pick G.d__law_pick ["draws", "items"] (spI K w mg 2 m__law_pickI) :=
  fnI (ς := s__law_pickI) G.F__law_pick sc__law_pick rfl (fun _ _ => rfl) (fun cdv A outer s H E hr => by
    have nd := sc__law_pick.nd
    have tk := @takes0N
    have hp := @passesN
    have hu := hr.u
    have hgd := hr.gd
    exact (ds_cons (d1_ret (dx_ixA (dx_var 1) (dx_fnI 0 ((fn__law_takeI G).mono (by decide)) hr tk G.g__law_take G.p__law_take G.b__law_take rfl (da_cons (dx_callB (call_lenA) G.z_len bt_len (da_cons (dx_var 1) da_nil)) da_nil) (al_cons al_nil)))) ds_nil))
theorem fn__law_shuffledI (G : Fx P w K mg)  : FnG P w K mg base (L2N.CX P w) 2 G.a__law_shuffled G.d__law_shuffled ["draws", "items"] (spI K w mg 2 m__law_shuffledI) :=
  fnI (ς := s__law_shuffledI) G.F__law_shuffled sc__law_shuffled rfl (fun _ _ => rfl) (fun cdv A outer s H E hr => by
    have nd := sc__law_shuffled.nd
    have tk := @takes0N
    have hp := @passesN
    have hu := hr.u
    have hgd := hr.gd
    exact (ds_cons (d1_setF 2 (df_callTy (call_listA rfl) G.z_list bt_list (da_cons (dx_var 1) da_nil)) nd) (ds_cons (d1_setF 3 (df_lst da_nil) nd) (ds_cons (d1_for hp rfl (di_range1 G.z_range (da_cons (dx_callB (call_lenA) G.z_len bt_len (da_cons (dx_var 1) da_nil)) da_nil) (hl := al_cons al_nil)) (dg_var 4 nd) (ds_cons (d1_expr (dx_methI 3 m_append PySem.F.plainAttrs_list PySem.F.slot_list_append PySem.F.type_list_append (da_cons (dx_methI 2 m_pop PySem.F.plainAttrs_list PySem.F.slot_list_pop PySem.F.type_list_pop (da_cons (dx_fnI 0 ((fn__law_takeI G).mono (by decide)) hr tk G.g__law_take G.p__law_take G.b__law_take rfl (da_cons (dx_lend 2 (dx_callB (call_lenA) G.z_len bt_len (da_cons (dx_var 2) da_nil))) da_nil) (al_cons al_nil)) da_nil)) da_nil))) (ds_kill 4 ds_nil))) (ds_kill 4 (ds_frz 3 (ds_frz 2 (ds_cons (d1_ret (dx_var 3)) ds_nil))))))))
theorem fn__law_same (G : Fx P w K mg)  : ∀ j : Nat, FnG P w K mg base (L2N.CX P w) (0 + j) G.a__law_same G.d__law_same ["told", "due"] (spD K w mg 2 (m__law_same j))
  | 0 => vac_spD rfl (fun _ => rfl)
  | j + 1 => by
    have ih := fn__law_same G j
    exact fnD (ς := _) G.F__law_same sc__law_same rfl (fun _ => rfl) (fun cdv A outer s H E hr => by
    have nd := sc__law_same.nd
    have tk := @takesN
    have hp := @passesN
    have hu := hr.u
    have hgd := hr.gd
    exact (ds_cons (d1_if (dt_val (dx_isi (x := "") (dx_var 1) G.z_isinstance G.z_dict bt_dict)) (ds_cons (d1_if (dt_w (dw_or (dt_not (dt_val (dx_isi (x := "") (dx_var 0) G.z_isinstance G.z_dict bt_dict))) (dw_or1 (dt_cmp (op_neG hu) (dx_fz (df_callB (call_sortedG hu) G.z_sorted bt_sorted (da_cons (dx_fz (df_callTy (call_listA rfl) G.z_list bt_list (da_cons (dx_var 0) da_nil))) da_nil))) (dx_fz (df_callB (call_sortedG hu) G.z_sorted bt_sorted (da_cons (dx_fz (df_callTy (call_listA rfl) G.z_list bt_list (da_cons (dx_var 1) da_nil))) da_nil))))))) (ds_cons (d1_ret dx_bl) ds_nil) ds_nil) (ds_cons (d1_ret (dx_callB (call_allG rfl) G.z_all bt_all (da_cons (dx_fz (df_comp (own := [("key", 2)]) rfl nd (di_any (dx_var 1)) (blkOk_by rfl) (by decide) (fun _ _ _ _ _ => (dg_var 2 nd)) (fun _ _ _ _ _ => dts_nil) (fun _ _ _ _ _ => (dx_fn ih hr takes0N G.g__law_same G.p__law_same G.b__law_same rfl (da_cons (dx_ixA (dx_var 0) (dx_var 2)) (da_cons (dx_ixA (dx_var 1) (dx_var 2)) da_nil)) (al_cons (al_cons al_nil)))))) da_nil))) ds_nil)) ds_nil) (ds_cons (d1_if (dt_w (dw_or (dt_val (dx_isi (x := "") (dx_var 1) G.z_isinstance G.z_tuple bt_tuple)) (dw_or1 (dt_val (dx_isi (x := "") (dx_var 1) G.z_isinstance G.z_list bt_list))))) (ds_cons (d1_if (dt_w (dw_or (dt_cmp (op_neG hu) (dx_isi (x := "") (dx_var 1) G.z_isinstance G.z_tuple bt_tuple) (dx_isi (x := "") (dx_var 0) G.z_isinstance G.z_tuple bt_tuple)) (dw_or1 (dt_cmp (op_neG hu) (dx_isi (x := "") (dx_var 1) G.z_isinstance G.z_list bt_list) (dx_isi (x := "") (dx_var 0) G.z_isinstance G.z_list bt_list))))) (ds_cons (d1_ret dx_bl) ds_nil) ds_nil) (ds_cons (d1_ret (dx_and (dx_cmp (op_eqG hu) (dx_callB (call_lenA) G.z_len bt_len (da_cons (dx_var 0) da_nil)) (dx_callB (call_lenA) G.z_len bt_len (da_cons (dx_var 1) da_nil))) (dx_one (dx_callB (call_allG rfl) G.z_all bt_all (da_cons (dx_fz (df_comp (own := [("k", 3)]) rfl nd (di_range1 G.z_range (da_cons (dx_callB (call_lenA) G.z_len bt_len (da_cons (dx_var 1) da_nil)) da_nil) (hl := al_cons al_nil)) (blkOk_by rfl) (by decide) (fun _ _ _ _ _ => (dg_var 3 nd)) (fun _ _ _ _ _ => dts_nil) (fun _ _ _ _ _ => (dx_fn ih hr takes0N G.g__law_same G.p__law_same G.b__law_same rfl (da_cons (dx_ixA (dx_var 0) (dx_var 3)) (da_cons (dx_ixA (dx_var 1) (dx_var 3)) da_nil)) (al_cons (al_cons al_nil)))))) da_nil))))) ds_nil)) ds_nil) (ds_cons (d1_if (dt_cmp (op_isG) (dx_var 1) dx_non) (ds_cons (d1_ret (dx_cmp (op_isG) (dx_var 0) dx_non)) ds_nil) ds_nil) (ds_cons (d1_if (dt_cmp (op_neG hu) (dx_isi (x := "") (dx_var 1) G.z_isinstance G.z_bool bt_bool) (dx_isi (x := "") (dx_var 0) G.z_isinstance G.z_bool bt_bool)) (ds_cons (d1_ret dx_bl) ds_nil) ds_nil) (ds_cons (d1_if (dt_w (dw_or (dt_cmp (op_neG hu) (dx_isi (x := "") (dx_var 1) G.z_isinstance G.z_int bt_int) (dx_isi (x := "") (dx_var 0) G.z_isinstance G.z_int bt_int)) (dw_or1 (dt_cmp (op_neG hu) (dx_isi (x := "") (dx_var 1) G.z_isinstance G.z_str bt_str) (dx_isi (x := "") (dx_var 0) G.z_isinstance G.z_str bt_str))))) (ds_cons (d1_ret dx_bl) ds_nil) ds_nil) (ds_cons (d1_ret (dx_cmp (op_eqG hu) (dx_var 0) (dx_var 1))) ds_nil)))))))
theorem fn__law_namesI (G : Fx P w K mg)  : FnG P w K mg base (L2N.CX P w) 3 G.a__law_names G.d__law_names ["draws", "count"] (spI K w mg 2 m__law_namesI) :=
  fnI (ς := s__law_namesI) G.F__law_names sc__law_names rfl (fun _ _ => rfl) (fun cdv A outer s H E hr => by
    have nd := sc__law_names.nd
    have tk := @takes0N
    have hp := @passesN
    have hu := hr.u
    have hgd := hr.gd
    exact (ds_cons (d1_setComp 2 (own := [("turn", 6)]) rfl nd (di_range1 G.z_range (da_cons dx_int da_nil) (hl := al_cons al_nil)) (blkOk_by rfl) (by decide) (fun _ _ _ _ _ => (dg_var 6 nd)) (fun _ _ _ _ _ => dts_nil) (fun _ _ _ _ _ => (dx_op op_addG dx_str (dx_callTy (call_strG) G.z_str bt_str (da_cons (dx_var 6) da_nil))))) (ds_cons (d1_setF 3 (df_lst da_nil) nd) (ds_cons (d1_for hp rfl (di_range1 G.z_range (da_cons (dx_var 1) da_nil) (hl := al_cons al_nil)) (dg_var 4 nd) (ds_cons (d1_set 5 (dx_fnI 0 ((fn__law_pickI G).mono (by decide)) hr tk G.g__law_pick G.p__law_pick G.b__law_pick rfl (da_cons dx_str da_nil) (al_cons al_nil)) nd) (ds_cons (d1_for hp rfl (di_range1 G.z_range (da_cons (dx_fnI 0 ((fn__law_pickI G).mono (by decide)) hr tk G.g__law_pick G.p__law_pick G.b__law_pick rfl (da_cons (dx_fz (df_lst (da_cons dx_int (da_cons dx_int (da_cons dx_int (da_cons dx_int (da_cons dx_int da_nil))))))) da_nil) (al_cons al_nil)) da_nil) (hl := al_cons al_nil)) (dg_var 6 nd) (ds_cons (d1_set 5 (dx_op op_addG (dx_var 5) (dx_fnI 0 ((fn__law_pickI G).mono (by decide)) hr tk G.g__law_pick G.p__law_pick G.b__law_pick rfl (da_cons dx_str da_nil) (al_cons al_nil))) nd) (ds_kill 6 ds_nil))) (ds_kill 6 (ds_cons (d1_if (dt_lend 3 (dt_cmp (op_inA hu) (dx_var 5) (dx_var 3))) (ds_cons (d1_set 5 (dx_ixA (dx_fz (df_comp (own := [("other", 7)]) rfl nd (di_any (dx_var 2)) (blkOk_by rfl) (by decide) (fun _ _ _ _ _ => (dg_var 7 nd)) (fun _ _ _ _ _ => (dts_one (dt_lend 3 (dt_cmp (op_ninA hu) (dx_var 7) (dx_var 3))))) (fun _ _ _ _ _ => (dx_var 7)))) dx_int) nd) ds_nil) ds_nil) (ds_cons (d1_expr (dx_methI 3 m_append PySem.F.plainAttrs_list PySem.F.slot_list_append PySem.F.type_list_append (da_cons (dx_var 5) da_nil))) (ds_kill 4 (ds_kill 5 (ds_kill 6 ds_nil))))))))) (ds_kill 4 (ds_kill 5 (ds_kill 6 (ds_frz 3 (ds_cons (d1_ret (dx_var 3)) ds_nil)))))))))
theorem fn__law_orders (G : Fx P w K mg)  : ∀ j : Nat, FnG P w K mg base (L2N.CX P w) (0 + j) G.a__law_orders G.d__law_orders ["names"] (spD K w mg 1 (m__law_orders j))
  | 0 => vac_spD rfl (fun _ => rfl)
  | j + 1 => by
    have ih := fn__law_orders G j
    exact fnD (ς := _) G.F__law_orders sc__law_orders rfl (fun _ => rfl) (fun cdv A outer s H E hr => by
    have nd := sc__law_orders.nd
    have tk := @takesN
    have hp := @passesN
    have hu := hr.u
    have hgd := hr.gd
    exact (ds_cons (d1_if (dt_cmp (op_eqG hu) (dx_var 0) (dx_tup da_nil)) (ds_cons (d1_ret (dx_fz (df_lst (da_cons (dx_tup da_nil) da_nil)))) ds_nil) ds_nil) (ds_cons (d1_set 1 (dx_fz (df_lst da_nil)) nd) (ds_cons (d1_for hp rfl (di_any (dx_var 0)) (dg_var 2 nd) (ds_cons (d1_set 1 (dx_op op_addG (dx_var 1) (dx_fz (df_comp (own := [("rest", 3)]) rfl nd (di_any (dx_fn ih hr tk G.g__law_orders G.p__law_orders G.b__law_orders rfl (da_cons (dx_callTy (call_tupleG) G.z_tuple bt_tuple (da_cons (dx_fz (df_comp (own := [("one", 4)]) rfl nd (di_any (dx_var 0)) (blkOk_by rfl) (by decide) (fun _ _ _ _ _ => (dg_var 4 nd)) (fun _ _ _ _ _ => (dts_one (dt_cmp (op_neG hu) (dx_var 4) (dx_var 2)))) (fun _ _ _ _ _ => (dx_var 4)))) da_nil)) da_nil) (al_cons al_nil))) (blkOk_by rfl) (by decide) (fun _ _ _ _ _ => (dg_var 3 nd)) (fun _ _ _ _ _ => dts_nil) (fun _ _ _ _ _ => (dx_op op_addG (dx_tup (da_cons (dx_var 2) da_nil)) (dx_var 3)))))) nd) (ds_kill 2 ds_nil))) (ds_kill 2 (ds_cons (d1_ret (dx_var 1)) ds_nil))))))
theorem fn__law_count (G : Fx P w K mg)  : FnG P w K mg base (L2N.CX P w) 1 G.a__law_count G.d__law_count ["many"] (spD K w mg 1 m__law_count) :=
  fnD (ς := s__law_count) G.F__law_count sc__law_count rfl (fun _ => rfl) (fun cdv A outer s H E hr => by
    have nd := sc__law_count.nd
    have tk := @takesN
    have hp := @passesN
    have hu := hr.u
    have hgd := hr.gd
    exact (ds_cons (d1_set 1 dx_int nd) (ds_cons (d1_for hp rfl (di_range1 G.z_range (da_cons (dx_var 0) da_nil) (hl := al_cons al_nil)) (dg_var 2 nd) (ds_cons (d1_set 1 (dx_op op_mulG (dx_var 1) (dx_op op_addG (dx_var 2) dx_int)) nd) (ds_kill 2 ds_nil))) (ds_kill 2 (ds_cons (d1_ret (dx_var 1)) ds_nil)))))
theorem fn__law_number (G : Fx P w K mg)  : FnG P w K mg base (L2N.CX P w) 2 G.a__law_number G.d__law_number ["order"] (spD K w mg 1 m__law_number) :=
  fnD (ς := s__law_number) G.F__law_number sc__law_number rfl (fun _ => rfl) (fun cdv A outer s H E hr => by
    have nd := sc__law_number.nd
    have tk := @takesN
    have hp := @passesN
    have hu := hr.u
    have hgd := hr.gd
    exact (ds_cons (d1_set 1 dx_int nd) (ds_cons (d1_for hp rfl (di_range1 G.z_range (da_cons (dx_callB (call_lenA) G.z_len bt_len (da_cons (dx_var 0) da_nil)) da_nil) (hl := al_cons al_nil)) (dg_var 2 nd) (ds_cons (d1_aug 1 ip_addI (dx_op op_mulG (dx_callB (call_lenA) G.z_len bt_len (da_cons (dx_fz (df_comp (own := [("one", 3)]) rfl nd (di_any (dx_sl (dx_var 0) (do_int (dx_op op_addG (dx_var 2) dx_int)) do_no)) (blkOk_by rfl) (by decide) (fun _ _ _ _ _ => (dg_var 3 nd)) (fun _ _ _ _ _ => (dts_one (dt_cmp (op_ltG hu) (dx_var 3) (dx_ixA (dx_var 0) (dx_var 2))))) (fun _ _ _ _ _ => (dx_var 3)))) da_nil)) (dx_fn ((fn__law_count G).mono (by decide)) hr tk G.g__law_count G.p__law_count G.b__law_count rfl (da_cons (dx_op op_subG (dx_op op_subG (dx_callB (call_lenA) G.z_len bt_len (da_cons (dx_var 0) da_nil)) dx_int) (dx_var 2)) da_nil) (al_cons al_nil))) nd) (ds_kill 2 ds_nil))) (ds_kill 2 (ds_cons (d1_ret (dx_var 1)) ds_nil)))))
theorem fn__law_told (G : Fx P w K mg)  : FnG P w K mg base (L2N.CX P w) 6 G.a__law_told G.d__law_told ["kind", "names", "thing", "juror", "order"] (spD K w mg 5 m__law_told) :=
  fnD (ς := s__law_told) G.F__law_told sc__law_told rfl (fun _ => rfl) (fun cdv A outer s H E hr => by
    have nd := sc__law_told.nd
    have tk := @takesN
    have hp := @passesN
    have hu := hr.u
    have hgd := hr.gd
    exact (ds_cons (d1_try 5 rfl rfl nd hr ⟨rfl, by decide, Or.inl G.g_LaurelError⟩ (fun W pn xe tk hp => (ds_cons (d1_if (dt_cmp (op_eqG hu) (dx_var 0) dx_int) (ds_cons (d1_ret (dx_fn ((fn_orders_count G).mono (by decide)) hr tk G.g_orders_count G.p_orders_count G.b_orders_count rfl (da_cons (dx_var 1) da_nil) (al_cons al_nil))) ds_nil) ds_nil) (ds_cons (d1_if (dt_cmp (op_eqG hu) (dx_var 0) dx_int) (ds_cons (d1_ret (dx_fn ((fn_order_with G).mono (by decide)) hr tk G.g_order_with G.p_order_with G.b_order_with rfl (da_cons (dx_var 1) (da_cons (dx_var 2) da_nil)) (al_cons (al_cons al_nil)))) ds_nil) ds_nil) (ds_cons (d1_if (dt_cmp (op_eqG hu) (dx_var 0) dx_int) (ds_cons (d1_ret (dx_fn ((fn_number_of G).mono (by decide)) hr tk G.g_number_of G.p_number_of G.b_number_of rfl (da_cons (dx_var 1) (da_cons (dx_var 4) da_nil)) (al_cons (al_cons al_nil)))) ds_nil) ds_nil) (ds_cons (d1_if (dt_cmp (op_eqG hu) (dx_var 0) dx_int) (ds_cons (d1_ret (dx_fn ((fn_is_draw G).mono (by decide)) hr tk G.g_is_draw G.p_is_draw G.b_is_draw rfl (da_cons (dx_var 1) (da_cons (dx_var 2) da_nil)) (al_cons (al_cons al_nil)))) ds_nil) ds_nil) (ds_cons (d1_if (dt_cmp (op_eqG hu) (dx_var 0) dx_int) (ds_cons (d1_ret (dx_fn ((fn_order_of G).mono (by decide)) hr tk G.g_order_of G.p_order_of G.b_order_of rfl (da_cons (dx_var 1) (da_cons (dx_var 2) da_nil)) (al_cons (al_cons al_nil)))) ds_nil) ds_nil) (ds_cons (d1_ret (dx_fn ((fn_integer_for G).mono (by decide)) hr tk G.g_integer_for G.p_integer_for G.b_integer_for rfl (da_cons (dx_var 1) (da_cons (dx_var 2) (da_cons (dx_var 3) (da_cons (dx_var 4) da_nil)))) (al_cons (al_cons (al_cons (al_cons al_nil)))))) ds_nil))))))) (hRaised_ok G) G.g__law_raised G.p__law_raised G.b__law_raised) ds_nil))
theorem fn__law_drawnI (G : Fx P w K mg)  : FnG P w K mg base (L2N.CX P w) 4 G.a__law_drawn G.d__law_drawn ["draws", "many"] (spI K w mg 2 m__law_drawnI) :=
  fnI (ς := s__law_drawnI) G.F__law_drawn sc__law_drawn rfl (fun _ _ => rfl) (fun cdv A outer s H E hr => by
    have nd := sc__law_drawn.nd
    have tk := @takes0N
    have hp := @passesN
    have hu := hr.u
    have hgd := hr.gd
    exact (ds_cons (d1_setF 2 df_dc0 nd) (ds_cons (d1_for hp rfl (di_any (dx_fnI 0 ((fn__law_namesI G).mono (by decide)) hr tk G.g__law_names G.p__law_names G.b__law_names rfl (da_cons (dx_op op_addG dx_int (dx_fnI 0 ((fn__law_takeI G).mono (by decide)) hr tk G.g__law_take G.p__law_take G.b__law_take rfl (da_cons dx_int da_nil) (al_cons al_nil))) da_nil) (al_cons al_nil))) (dg_var 3 nd) (ds_cons (d1_put 2 set_K (dx_fnI 0 ((fn__law_pickI G).mono (by decide)) hr tk G.g__law_pick G.p__law_pick G.b__law_pick rfl (da_cons (dx_fz (df_lst (da_cons dx_int (da_cons (dx_op op_subG (dx_var 1) dx_int) (da_cons (dx_op op_modG (dx_callTy (call_intG) G.z_int bt_int (da_cons (dx_op op_addG (dx_op op_mulG (dx_fnI 0 ((fn__law_takeI G).mono (by decide)) hr tk G.g__law_take G.p__law_take G.b__law_take rfl (da_cons dx_int da_nil) (al_cons al_nil)) dx_int) (dx_fnI 0 ((fn__law_takeI G).mono (by decide)) hr tk G.g__law_take G.p__law_take G.b__law_take rfl (da_cons dx_int da_nil) (al_cons al_nil))) da_nil)) (dx_var 1)) da_nil))))) da_nil) (al_cons al_nil)) (dx_var 3)) (ds_kill 3 ds_nil))) (ds_kill 3 (ds_frz 2 (ds_cons (d1_ret (dx_var 2)) ds_nil))))))
theorem fn__law_is_draw_rightI (G : Fx P w K mg)  : FnG P w K mg base (L2N.CX P w) 9 G.a__law_is_draw_right G.d__law_is_draw_right ["draws", "names"] (spI K w mg 2 m__law_is_draw_rightI) :=
  fnI (ς := s__law_is_draw_rightI) G.F__law_is_draw_right sc__law_is_draw_right rfl (fun _ _ => rfl) (fun cdv A outer s H E hr => by
    have nd := sc__law_is_draw_right.nd
    have tk := @takes0N
    have hp := @passesN
    have hu := hr.u
    have hgd := hr.gd
    exact (ds_cons (d1_set 2 (dx_fn ((fn__law_count G).mono (by decide)) hr tk G.g__law_count G.p__law_count G.b__law_count rfl (da_cons (dx_callB (call_lenA) G.z_len bt_len (da_cons (dx_var 1) da_nil)) da_nil) (al_cons al_nil)) nd) (ds_cons (d1_set 3 (dx_fnI 0 ((fn__law_drawnI G).mono (by decide)) hr tk G.g__law_drawn G.p__law_drawn G.b__law_drawn rfl (da_cons (dx_var 2) da_nil) (al_cons al_nil)) nd) (ds_cons (d1_set 4 (dx_callB (call_reprG hu hgd) G.z_repr bt_repr (da_cons (dx_var 3) da_nil)) nd) (ds_cons (d1_set 5 (dx_op op_modG (dx_callTy (call_intG) G.z_int bt_int (da_cons (dx_callB (call_sumG rfl) G.z_sum bt_sum (da_cons (dx_fz (df_comp (own := [("juror", 8)]) rfl nd (di_any (dx_var 3)) (blkOk_by rfl) (by decide) (fun _ _ _ _ _ => (dg_var 8 nd)) (fun _ _ _ _ _ => dts_nil) (fun _ _ _ _ _ => (dx_ixA (dx_var 3) (dx_var 8))))) da_nil)) da_nil)) (dx_var 2)) nd) (ds_cons (d1_set 6 (dx_fn ((fn__law_told G).mono (by decide)) hr tk G.g__law_told G.p__law_told G.b__law_told rfl (da_cons dx_int (da_cons (dx_var 1) (da_cons (dx_var 3) (da_cons dx_str (da_cons (dx_tup da_nil) da_nil))))) (al_cons (al_cons (al_cons (al_cons (al_cons al_nil)))))) nd) (ds_cons (d1_if (dt_w (dw_or (dt_cmp (op_nisG) (dx_fn ((fn__law_told G).mono (by decide)) hr tk G.g__law_told G.p__law_told G.b__law_told rfl (da_cons dx_int (da_cons (dx_var 1) (da_cons (dx_var 3) (da_cons dx_str (da_cons (dx_tup da_nil) da_nil))))) (al_cons (al_cons (al_cons (al_cons (al_cons al_nil)))))) dx_bl) (dw_or (dt_not (dt_val (dx_isi (x := "") (dx_var 6) G.z_isinstance G.z_tuple bt_tuple))) (dw_or (dt_cmp (op_neG hu) (dx_fz (df_callB (call_sortedG hu) G.z_sorted bt_sorted (da_cons (dx_var 6) da_nil))) (dx_fz (df_callTy (call_listA rfl) G.z_list bt_list (da_cons (dx_var 1) da_nil)))) (dw_or1 (dt_cmp (op_neG hu) (dx_fn ((fn__law_number G).mono (by decide)) hr tk G.g__law_number G.p__law_number G.b__law_number rfl (da_cons (dx_var 6) da_nil) (al_cons al_nil)) (dx_var 5))))))) (ds_cons (d1_ret dx_bl) ds_nil) ds_nil) (ds_cons (d1_set 7 (dx_callTy (call_tupleG) G.z_tuple bt_tuple (da_cons (dx_fnI 0 ((fn__law_shuffledI G).mono (by decide)) hr tk G.g__law_shuffled G.p__law_shuffled G.b__law_shuffled rfl (da_cons (dx_var 1) da_nil) (al_cons al_nil)) da_nil)) nd) (ds_cons (d1_for hp rfl (di_any (dx_op op_addG (dx_sl (dx_fz (df_callB (call_sortedG hu) G.z_sorted bt_sorted (da_cons (dx_fz (df_callTy (call_listA rfl) G.z_list bt_list (da_cons (dx_var 3) da_nil))) da_nil))) do_no (do_int dx_int)) (dx_fz (df_lst (da_cons dx_str da_nil))))) (dg_var 8 nd) (ds_cons (d1_set 12 (dx_fn ((fn__law_told G).mono (by decide)) hr tk G.g__law_told G.p__law_told G.b__law_told rfl (da_cons dx_int (da_cons (dx_var 1) (da_cons (dx_var 3) (da_cons (dx_var 8) (da_cons (dx_var 7) da_nil))))) (al_cons (al_cons (al_cons (al_cons (al_cons al_nil)))))) nd) (ds_cons (d1_if (dt_w (dw_or (dt_not (dt_val (dx_isi (x := "") (dx_var 12) G.z_isinstance G.z_int bt_int))) (dw_or (dt_val (dx_isi (x := "") (dx_var 12) G.z_isinstance G.z_bool bt_bool)) (dw_or1 (dt_not (dt_chain (op_leG hu) (op_ltG hu) dx_int (dx_var 12) (dx_var 2))))))) (ds_cons (d1_ret dx_bl) ds_nil) ds_nil) (ds_cons (d1_setF 13 (df_callTy (call_dictK) G.z_dict bt_dict (da_cons (dx_var 3) da_nil)) nd) (ds_cons (d1_put 13 set_K (dx_var 12) (dx_var 8)) (ds_frz 13 (ds_cons (d1_if (dt_w (dw_or (dt_cmp (op_neG hu) (dx_op op_modG (dx_callTy (call_intG) G.z_int bt_int (da_cons (dx_callB (call_sumG rfl) G.z_sum bt_sum (da_cons (dx_fz (df_comp (own := [("one", 11)]) rfl nd (di_any (dx_var 13)) (blkOk_by rfl) (by decide) (fun _ _ _ _ _ => (dg_var 11 nd)) (fun _ _ _ _ _ => dts_nil) (fun _ _ _ _ _ => (dx_ixA (dx_var 13) (dx_var 11))))) da_nil)) da_nil)) (dx_var 2)) (dx_fn ((fn__law_number G).mono (by decide)) hr tk G.g__law_number G.p__law_number G.b__law_number rfl (da_cons (dx_var 7) da_nil) (al_cons al_nil))) (dw_or1 (dt_not (dt_val (dx_fn ((fn__law_same G 8).mono (by decide)) hr tk G.g__law_same G.p__law_same G.b__law_same rfl (da_cons (dx_fn ((fn__law_told G).mono (by decide)) hr tk G.g__law_told G.p__law_told G.b__law_told rfl (da_cons dx_int (da_cons (dx_var 1) (da_cons (dx_var 13) (da_cons dx_str (da_cons (dx_tup da_nil) da_nil))))) (al_cons (al_cons (al_cons (al_cons (al_cons al_nil)))))) (da_cons (dx_var 7) da_nil)) (al_cons (al_cons al_nil)))))))) (ds_cons (d1_ret dx_bl) ds_nil) ds_nil) (ds_kill 8 (ds_kill 12 (ds_kill 13 ds_nil)))))))))) (ds_kill 8 (ds_kill 12 (ds_kill 13 (ds_cons (d1_setF 9 (df_callTy (call_dictK) G.z_dict bt_dict (da_cons (dx_var 3) da_nil)) nd) (ds_cons (d1_put 9 set_K (dx_fnI 0 ((fn__law_pickI G).mono (by decide)) hr tk G.g__law_pick G.p__law_pick G.b__law_pick rfl (da_cons (dx_fz (df_lst (da_cons (dx_un un_negG dx_int) (da_cons (dx_var 2) (da_cons dx_bl (da_cons dx_str (da_cons dx_non da_nil))))))) da_nil) (al_cons al_nil)) (dx_fnI 0 ((fn__law_pickI G).mono (by decide)) hr tk G.g__law_pick G.p__law_pick G.b__law_pick rfl (da_cons (dx_fz (df_callB (call_sortedG hu) G.z_sorted bt_sorted (da_cons (dx_fz (df_callTy (call_listA rfl) G.z_list bt_list (da_cons (dx_var 3) da_nil))) da_nil))) da_nil) (al_cons al_nil))) (ds_frz 9 (ds_cons (d1_setF 10 (df_callTy (call_dictK) G.z_dict bt_dict (da_cons (dx_var 3) da_nil)) nd) (ds_cons (d1_put 10 set_K dx_int (dx_fnI 0 ((fn__law_pickI G).mono (by decide)) hr tk G.g__law_pick G.p__law_pick G.b__law_pick rfl (da_cons (dx_fz (df_lst (da_cons dx_str (da_cons dx_str (da_cons dx_str (da_cons dx_str (da_cons dx_int (da_cons dx_non da_nil)))))))) da_nil) (al_cons al_nil))) (ds_frz 10 (ds_cons (d1_for hp rfl (di_any (dx_fz (df_lst (da_cons (dx_var 9) (da_cons (dx_var 10) (da_cons dx_dc0 (da_cons dx_non (da_cons (dx_fz (df_callB (call_sortedG hu) G.z_sorted bt_sorted (da_cons (dx_fz (df_callTy (call_listA rfl) G.z_list bt_list (da_cons (dx_var 3) da_nil))) da_nil))) da_nil)))))))) (dg_var 11 nd) (ds_cons (d1_if (dt_w (dw_or (dt_cmp (op_nisG) (dx_fn ((fn__law_told G).mono (by decide)) hr tk G.g__law_told G.p__law_told G.b__law_told rfl (da_cons dx_int (da_cons (dx_var 1) (da_cons (dx_var 11) (da_cons dx_str (da_cons (dx_tup da_nil) da_nil))))) (al_cons (al_cons (al_cons (al_cons (al_cons al_nil)))))) dx_bl) (dw_or1 (dt_cmp (op_neG hu) (dx_fn ((fn__law_told G).mono (by decide)) hr tk G.g__law_told G.p__law_told G.b__law_told rfl (da_cons dx_int (da_cons (dx_var 1) (da_cons (dx_var 11) (da_cons dx_str (da_cons (dx_tup da_nil) da_nil))))) (al_cons (al_cons (al_cons (al_cons (al_cons al_nil)))))) (dx_tup (da_cons dx_str (da_cons dx_int (da_cons dx_int da_nil)))))))) (ds_cons (d1_ret dx_bl) ds_nil) ds_nil) (ds_cons (d1_if (dt_cmp (op_neG hu) (dx_fn ((fn__law_told G).mono (by decide)) hr tk G.g__law_told G.p__law_told G.b__law_told rfl (da_cons dx_int (da_cons (dx_var 1) (da_cons (dx_var 11) (da_cons dx_str (da_cons (dx_var 1) da_nil))))) (al_cons (al_cons (al_cons (al_cons (al_cons al_nil)))))) (dx_tup (da_cons dx_str (da_cons dx_int (da_cons dx_int da_nil))))) (ds_cons (d1_ret dx_bl) ds_nil) ds_nil) (ds_kill 11 ds_nil)))) (ds_kill 11 (ds_cons (d1_setComp 12 (own := [("one", 11)]) rfl nd (di_any (dx_fz (df_lst (da_cons dx_str (da_cons dx_str (da_cons dx_str da_nil)))))) (blkOk_by rfl) (by decide) (fun _ _ _ _ _ => (dg_var 11 nd)) (fun _ _ _ _ _ => dts_nil) (fun _ _ _ _ _ => (dx_fn ((fn__law_told G).mono (by decide)) hr takes0N G.g__law_told G.p__law_told G.b__law_told rfl (da_cons dx_int (da_cons (dx_var 1) (da_cons (dx_var 3) (da_cons (dx_var 11) (da_cons (dx_op op_addG (dx_var 1) (dx_var 1)) da_nil))))) (al_cons (al_cons (al_cons (al_cons (al_cons al_nil)))))))) (ds_cons (d1_ret (dx_and (dx_cmp (op_eqG hu) (dx_var 12) (dx_fz (df_lst (da_cons (dx_tup (da_cons dx_str (da_cons dx_int (da_cons dx_int da_nil)))) (da_cons (dx_tup (da_cons dx_str (da_cons dx_int (da_cons dx_int da_nil)))) (da_cons (dx_tup (da_cons dx_str (da_cons dx_int (da_cons dx_int da_nil)))) da_nil)))))) (dx_one (dx_cmp (op_eqG hu) (dx_callB (call_reprG hu hgd) G.z_repr bt_repr (da_cons (dx_var 3) da_nil)) (dx_var 4))))) ds_nil))))))))))))))))))))))
theorem fn__law_mirror (G : Fx P w K mg)  : FnG P w K mg base (L2N.CX P w) 1 G.a__law_mirror G.d__law_mirror ["names", "order"] (spD K w mg 2 m__law_mirror) :=
  fnD (ς := s__law_mirror) G.F__law_mirror sc__law_mirror rfl (fun _ => rfl) (fun cdv A outer s H E hr => by
    have nd := sc__law_mirror.nd
    have tk := @takesN
    have hp := @passesN
    have hu := hr.u
    have hgd := hr.gd
    exact (ds_cons (d1_ret (dx_callTy (call_tupleG) G.z_tuple bt_tuple (da_cons (dx_fz (df_comp (own := [("name", 2)]) rfl nd (di_any (dx_var 1)) (blkOk_by rfl) (by decide) (fun _ _ _ _ _ => (dg_var 2 nd)) (fun _ _ _ _ _ => dts_nil) (fun _ _ _ _ _ => (dx_ixA (dx_var 0) (dx_op op_subG (dx_op op_subG (dx_callB (call_lenA) G.z_len bt_len (da_cons (dx_var 0) da_nil)) dx_int) (dx_meth (m_tindex hu) PySem.F.plainAttrs_tuple PySem.F.slot_tuple_index PySem.F.type_tuple_index (dx_var 0) (da_cons (dx_var 2) da_nil))))))) da_nil))) ds_nil))
theorem fn_law (G : Fx P w K mg)  : FnG P w K mg base (L2N.CX P w) 10 G.a_law G.d_law ["script"] (spD K w mg 1 m_law) :=
  fnD (ς := s_law) G.F_law sc_law rfl (fun _ => rfl) (fun cdv A outer s H E hr => by
    have nd := sc_law.nd
    have tk := @takesN
    have hp := @passesN
    have hu := hr.u
    have hgd := hr.gd
    exact (ds_cons (d1_setF 1 (df_fn ((fn__law_drawsF G).mono (by decide)) hr tk G.g__law_draws G.p__law_draws G.b__law_draws rfl (da_cons (dx_var 0) da_nil) (al_cons al_nil)) nd) (ds_cons (d1_set 2 (dx_callTy (call_tupleG) G.z_tuple bt_tuple (da_cons (dx_fz (df_callB (call_sortedG hu) G.z_sorted bt_sorted (da_cons (dx_fnI 1 ((fn__law_namesI G).mono (by decide)) hr tk G.g__law_names G.p__law_names G.b__law_names rfl (da_cons (dx_op op_addG dx_int (dx_fnI 1 ((fn__law_takeI G).mono (by decide)) hr tk G.g__law_take G.p__law_take G.b__law_take rfl (da_cons dx_int da_nil) (al_cons al_nil))) da_nil) (al_cons al_nil)) da_nil))) da_nil)) nd) (ds_cons (d1_set 3 (dx_fn ((fn__law_orders G 8).mono (by decide)) hr tk G.g__law_orders G.p__law_orders G.b__law_orders rfl (da_cons (dx_var 2) da_nil) (al_cons al_nil)) nd) (ds_cons (d1_if (dt_w (dw_or (dt_not (dt_val (dx_fn ((fn__law_same G 8).mono (by decide)) hr tk G.g__law_same G.p__law_same G.b__law_same rfl (da_cons (dx_fn ((fn_orders_count G).mono (by decide)) hr tk G.g_orders_count G.p_orders_count G.b_orders_count rfl (da_cons (dx_var 2) da_nil) (al_cons al_nil)) (da_cons (dx_callB (call_lenA) G.z_len bt_len (da_cons (dx_var 3) da_nil)) da_nil)) (al_cons (al_cons al_nil))))) (dw_or1 (dt_not (dt_val (dx_fnI 1 ((fn__law_is_draw_rightI G).mono (by decide)) hr tk G.g__law_is_draw_right G.p__law_is_draw_right G.b__law_is_draw_right rfl (da_cons (dx_var 2) da_nil) (al_cons al_nil))))))) (ds_cons (d1_ret dx_bl) ds_nil) ds_nil) (ds_cons (d1_if (dt_not (dt_val (dx_fn ((fn__law_same G 8).mono (by decide)) hr tk G.g__law_same G.p__law_same G.b__law_same rfl (da_cons (dx_fz (df_comp (own := [("k", 12)]) rfl nd (di_range1 G.z_range (da_cons (dx_callB (call_lenA) G.z_len bt_len (da_cons (dx_var 3) da_nil)) da_nil) (hl := al_cons al_nil)) (blkOk_by rfl) (by decide) (fun _ _ _ _ _ => (dg_var 12 nd)) (fun _ _ _ _ _ => dts_nil) (fun _ _ _ _ _ => (dx_fn ((fn_order_with G).mono (by decide)) hr takes0N G.g_order_with G.p_order_with G.b_order_with rfl (da_cons (dx_var 2) (da_cons (dx_var 12) da_nil)) (al_cons (al_cons al_nil)))))) (da_cons (dx_var 3) da_nil)) (al_cons (al_cons al_nil))))) (ds_cons (d1_ret dx_bl) ds_nil) ds_nil) (ds_cons (d1_if (dt_not (dt_val (dx_fn ((fn__law_same G 8).mono (by decide)) hr tk G.g__law_same G.p__law_same G.b__law_same rfl (da_cons (dx_fz (df_comp (own := [("order", 6)]) rfl nd (di_any (dx_var 3)) (blkOk_by rfl) (by decide) (fun _ _ _ _ _ => (dg_var 6 nd)) (fun _ _ _ _ _ => dts_nil) (fun _ _ _ _ _ => (dx_fn ((fn_number_of G).mono (by decide)) hr takes0N G.g_number_of G.p_number_of G.b_number_of rfl (da_cons (dx_var 2) (da_cons (dx_var 6) da_nil)) (al_cons (al_cons al_nil)))))) (da_cons (dx_fz (df_lRng rfl G.z_list G.z_range (dx_callB (call_lenA) G.z_len bt_len (da_cons (dx_var 3) da_nil)) rfl)) da_nil)) (al_cons (al_cons al_nil))))) (ds_cons (d1_ret dx_bl) ds_nil) ds_nil) (ds_cons (d1_set 4 (dx_callTy (call_tupleG) G.z_tuple bt_tuple (da_cons (dx_fz (df_callB (call_sortedG hu) G.z_sorted bt_sorted (da_cons (dx_fnI 1 ((fn__law_namesI G).mono (by decide)) hr tk G.g__law_names G.p__law_names G.b__law_names rfl (da_cons (dx_op op_addG dx_int (dx_fnI 1 ((fn__law_takeI G).mono (by decide)) hr tk G.g__law_take G.p__law_take G.b__law_take rfl (da_cons dx_int da_nil) (al_cons al_nil))) da_nil) (al_cons al_nil)) da_nil))) da_nil)) nd) (ds_cons (d1_set 5 (dx_fn ((fn__law_count G).mono (by decide)) hr tk G.g__law_count G.p__law_count G.b__law_count rfl (da_cons (dx_callB (call_lenA) G.z_len bt_len (da_cons (dx_var 4) da_nil)) da_nil) (al_cons al_nil)) nd) (ds_cons (d1_set 6 (dx_callTy (call_tupleG) G.z_tuple bt_tuple (da_cons (dx_fnI 1 ((fn__law_shuffledI G).mono (by decide)) hr tk G.g__law_shuffled G.p__law_shuffled G.b__law_shuffled rfl (da_cons (dx_var 4) da_nil) (al_cons al_nil)) da_nil)) nd) (ds_cons (d1_if (dt_not (dt_val (dx_fn ((fn__law_same G 8).mono (by decide)) hr tk G.g__law_same G.p__law_same G.b__law_same rfl (da_cons (dx_fz (df_lst (da_cons (dx_fn ((fn_orders_count G).mono (by decide)) hr tk G.g_orders_count G.p_orders_count G.b_orders_count rfl (da_cons (dx_var 4) da_nil) (al_cons al_nil)) (da_cons (dx_fn ((fn_number_of G).mono (by decide)) hr tk G.g_number_of G.p_number_of G.b_number_of rfl (da_cons (dx_var 4) (da_cons (dx_var 6) da_nil)) (al_cons (al_cons al_nil))) (da_cons (dx_fn ((fn_order_with G).mono (by decide)) hr tk G.g_order_with G.p_order_with G.b_order_with rfl (da_cons (dx_var 4) (da_cons (dx_fn ((fn__law_number G).mono (by decide)) hr tk G.g__law_number G.p__law_number G.b__law_number rfl (da_cons (dx_var 6) da_nil) (al_cons al_nil)) da_nil)) (al_cons (al_cons al_nil))) da_nil))))) (da_cons (dx_fz (df_lst (da_cons (dx_var 5) (da_cons (dx_fn ((fn__law_number G).mono (by decide)) hr tk G.g__law_number G.p__law_number G.b__law_number rfl (da_cons (dx_var 6) da_nil) (al_cons al_nil)) (da_cons (dx_var 6) da_nil))))) da_nil)) (al_cons (al_cons al_nil))))) (ds_cons (d1_ret dx_bl) ds_nil) ds_nil) (ds_cons (d1_for hp rfl (di_any (dx_fz (df_lst (da_cons (dx_tup (da_cons (dx_var 6) (da_cons (dx_var 4) da_nil))) (da_cons (dx_tup (da_cons (dx_fnI 1 ((fn__law_pickI G).mono (by decide)) hr tk G.g__law_pick G.p__law_pick G.b__law_pick rfl (da_cons (dx_var 3) da_nil) (al_cons al_nil)) (da_cons (dx_var 2) da_nil))) da_nil))))) (dg_tup rfl (dgs_cons (dg_var 7 nd) (dgs_cons (dg_var 8 nd) dgs_nil))) (ds_cons (d1_if (dt_cmp (op_neG hu) (dx_op op_addG (dx_fn ((fn_number_of G).mono (by decide)) hr tk G.g_number_of G.p_number_of G.b_number_of rfl (da_cons (dx_var 8) (da_cons (dx_var 7) da_nil)) (al_cons (al_cons al_nil))) (dx_fn ((fn_number_of G).mono (by decide)) hr tk G.g_number_of G.p_number_of G.b_number_of rfl (da_cons (dx_var 8) (da_cons (dx_fn ((fn__law_mirror G).mono (by decide)) hr tk G.g__law_mirror G.p__law_mirror G.b__law_mirror rfl (da_cons (dx_var 8) (da_cons (dx_var 7) da_nil)) (al_cons (al_cons al_nil))) da_nil)) (al_cons (al_cons al_nil)))) (dx_op op_subG (dx_fn ((fn_orders_count G).mono (by decide)) hr tk G.g_orders_count G.p_orders_count G.b_orders_count rfl (da_cons (dx_var 8) da_nil) (al_cons al_nil)) dx_int)) (ds_cons (d1_ret dx_bl) ds_nil) ds_nil) (ds_kill 7 (ds_kill 8 ds_nil)))) (ds_kill 7 (ds_kill 8 (ds_cons (d1_if (dt_w (dw_or (dt_not (dt_val (dx_fn ((fn__law_same G 8).mono (by decide)) hr tk G.g__law_same G.p__law_same G.b__law_same rfl (da_cons (dx_fz (df_lst (da_cons (dx_fn ((fn_order_with G).mono (by decide)) hr tk G.g_order_with G.p_order_with G.b_order_with rfl (da_cons (dx_var 4) (da_cons dx_int da_nil)) (al_cons (al_cons al_nil))) (da_cons (dx_fn ((fn_order_with G).mono (by decide)) hr tk G.g_order_with G.p_order_with G.b_order_with rfl (da_cons (dx_var 4) (da_cons (dx_op op_subG (dx_var 5) dx_int) da_nil)) (al_cons (al_cons al_nil))) da_nil)))) (da_cons (dx_fz (df_lst (da_cons (dx_var 4) (da_cons (dx_revS (dx_var 4)) da_nil)))) da_nil)) (al_cons (al_cons al_nil))))) (dw_or1 (dt_not (dt_val (dx_fnI 1 ((fn__law_is_draw_rightI G).mono (by decide)) hr tk G.g__law_is_draw_right G.p__law_is_draw_right G.b__law_is_draw_right rfl (da_cons (dx_var 4) da_nil) (al_cons al_nil))))))) (ds_cons (d1_ret dx_bl) ds_nil) ds_nil) (ds_frz 1 (ds_cons (d1_set 9 (dx_fz (df_lst (da_cons (dx_fn ((fn__law_told G).mono (by decide)) hr tk G.g__law_told G.p__law_told G.b__law_told rfl (da_cons dx_int (da_cons (dx_var 4) (da_cons (dx_un un_negG dx_int) (da_cons dx_str (da_cons (dx_tup da_nil) da_nil))))) (al_cons (al_cons (al_cons (al_cons (al_cons al_nil)))))) (da_cons (dx_fn ((fn__law_told G).mono (by decide)) hr tk G.g__law_told G.p__law_told G.b__law_told rfl (da_cons dx_int (da_cons (dx_var 4) (da_cons (dx_var 5) (da_cons dx_str (da_cons (dx_tup da_nil) da_nil))))) (al_cons (al_cons (al_cons (al_cons (al_cons al_nil)))))) da_nil)))) nd) (ds_cons (d1_set 9 (dx_op op_addG (dx_var 9) (dx_fz (df_comp (own := [("one", 7)]) rfl nd (di_any (dx_fz (df_lst (da_cons (dx_sl (dx_var 6) (do_int dx_int) do_no) (da_cons (dx_op op_addG (dx_var 6) (dx_sl (dx_var 6) do_no (do_int dx_int))) (da_cons (dx_op op_addG (dx_sl (dx_var 6) (do_int dx_int) do_no) (dx_tup (da_cons dx_str da_nil))) (da_cons (dx_op op_addG (dx_sl (dx_var 6) (do_int dx_int) do_no) (dx_sl (dx_var 6) (do_int dx_int) (do_int dx_int))) da_nil))))))) (blkOk_by rfl) (by decide) (fun _ _ _ _ _ => (dg_var 7 nd)) (fun _ _ _ _ _ => dts_nil) (fun _ _ _ _ _ => (dx_fn ((fn__law_told G).mono (by decide)) hr takes0N G.g__law_told G.p__law_told G.b__law_told rfl (da_cons dx_int (da_cons (dx_var 4) (da_cons dx_int (da_cons dx_str (da_cons (dx_var 7) da_nil))))) (al_cons (al_cons (al_cons (al_cons (al_cons al_nil)))))))))) nd) (ds_cons (d1_if (dt_cmp (op_neG hu) (dx_var 9) (dx_op op_mulG (dx_fz (df_lst (da_cons (dx_tup (da_cons dx_str (da_cons dx_int (da_cons dx_int da_nil)))) da_nil))) dx_int)) (ds_cons (d1_ret dx_bl) ds_nil) ds_nil) (ds_cons (d1_set 10 (dx_callTy (call_tupleG) G.z_tuple bt_tuple (da_cons (dx_fz (df_callB (call_sortedG hu) G.z_sorted bt_sorted (da_cons (dx_fz (df_comp (own := [("k", 12)]) rfl nd (di_range1 G.z_range (da_cons dx_int da_nil) (hl := al_cons al_nil)) (blkOk_by rfl) (by decide) (fun _ _ _ _ _ => (dg_var 12 nd)) (fun _ _ _ _ _ => dts_nil) (fun _ _ _ _ _ => (dx_op op_addG dx_str (dx_callTy (call_strG) G.z_str bt_str (da_cons (dx_op op_addG dx_int (dx_var 12)) da_nil)))))) da_nil))) da_nil)) nd) (ds_cons (d1_for hp rfl (di_any (dx_fz (df_lst (da_cons (dx_tup da_nil) (da_cons (dx_var 10) (da_cons (dx_fz (df_callTy (call_listA rfl) G.z_list bt_list (da_cons (dx_var 4) da_nil))) (da_cons (dx_revS (dx_var 4)) (da_cons (dx_op op_addG (dx_var 4) (dx_var 4)) (da_cons (dx_tup (da_cons dx_str (da_cons dx_str da_nil))) (da_cons dx_non (da_cons dx_str da_nil))))))))))) (dg_var 11 nd) (ds_cons (d1_if (dt_w (dw_or (dt_not (dt_val (dx_callB (call_allG rfl) G.z_all bt_all (da_cons (dx_fz (df_comp (own := [("kind", 13)]) rfl nd (di_any (dx_fz (df_lst (da_cons dx_int (da_cons dx_int (da_cons dx_int (da_cons dx_int (da_cons dx_int da_nil)))))))) (blkOk_by rfl) (by decide) (fun _ _ _ _ _ => (dg_var 13 nd)) (fun _ _ _ _ _ => dts_nil) (fun _ _ _ _ _ => (dx_cmp (op_eqG hu) (dx_fn ((fn__law_told G).mono (by decide)) hr takes0N G.g__law_told G.p__law_told G.b__law_told rfl (da_cons (dx_var 13) (da_cons (dx_var 11) (da_cons (dx_dcN (dps_cons dx_str dx_int dps_nil)) (da_cons dx_str (da_cons (dx_tup da_nil) da_nil))))) (al_cons (al_cons (al_cons (al_cons (al_cons al_nil)))))) (dx_tup (da_cons dx_str (da_cons dx_int (da_cons dx_int da_nil)))))))) da_nil)))) (dw_or1 (dt_cmp (op_neG hu) (dx_fn ((fn__law_told G).mono (by decide)) hr tk G.g__law_told G.p__law_told G.b__law_told rfl (da_cons dx_int (da_cons (dx_var 11) (da_cons dx_int (da_cons dx_str (da_cons (dx_tup da_nil) da_nil))))) (al_cons (al_cons (al_cons (al_cons (al_cons al_nil)))))) (dx_tup (da_cons dx_str (da_cons dx_int (da_cons dx_int da_nil)))))))) (ds_cons (d1_ret dx_bl) ds_nil) ds_nil) (ds_kill 11 ds_nil))) (ds_kill 11 (ds_cons (d1_ret (dx_fn ((fn__law_same G 8).mono (by decide)) hr tk G.g__law_same G.p__law_same G.b__law_same rfl (da_cons (dx_fn ((fn_orders_count G).mono (by decide)) hr tk G.g_orders_count G.p_orders_count G.b_orders_count rfl (da_cons (dx_sl (dx_var 10) do_no (do_int dx_int)) da_nil) (al_cons al_nil)) (da_cons dx_int da_nil)) (al_cons (al_cons al_nil)))) ds_nil)))))))))))))))))))))))
end K78
set_option maxRecDepth 100000
namespace K78
open PySem PySem.Spec PyProof.Rows L2 DL L2H
variable {P : Program} {w : World} {K : PySem.W.Frag} {mg : Str → Option Value}
set_option maxHeartbeats 0 in
theorem all_mk {h : Heap} {fa : Addr} (X : K.In h) (G : h.Ns mainGlobals mg) (hfa : mg "law" = some (.ref fa))
    {f_is_name : Addr} {od_is_name an_is_name : Option Addr} {sl_is_name : Array (Option Value)} {oc_is_name kV_is_name dc_is_name pm_is_name cd_is_name ct_is_name : Value}
    {f_is_integer : Addr} {od_is_integer an_is_integer : Option Addr} {sl_is_integer : Array (Option Value)} {oc_is_integer kV_is_integer dc_is_integer pm_is_integer cd_is_integer ct_is_integer : Value}
    {f_are_names : Addr} {od_are_names an_are_names : Option Addr} {sl_are_names : Array (Option Value)} {oc_are_names kV_are_names dc_are_names pm_are_names cd_are_names ct_are_names : Value}
    {f_check_lot : Addr} {od_check_lot an_check_lot : Option Addr} {sl_check_lot : Array (Option Value)} {oc_check_lot kV_check_lot dc_check_lot pm_check_lot cd_check_lot ct_check_lot : Value}
    {f_count_for : Addr} {od_count_for an_count_for : Option Addr} {sl_count_for : Array (Option Value)} {oc_count_for kV_count_for dc_count_for pm_count_for cd_count_for ct_count_for : Value}
    {f_orders_count : Addr} {od_orders_count an_orders_count : Option Addr} {sl_orders_count : Array (Option Value)} {oc_orders_count kV_orders_count dc_orders_count pm_orders_count cd_orders_count ct_orders_count : Value}
    {f_order_at : Addr} {od_order_at an_order_at : Option Addr} {sl_order_at : Array (Option Value)} {oc_order_at kV_order_at dc_order_at pm_order_at cd_order_at ct_order_at : Value}
    {f_order_with : Addr} {od_order_with an_order_with : Option Addr} {sl_order_with : Array (Option Value)} {oc_order_with kV_order_with dc_order_with pm_order_with cd_order_with ct_order_with : Value}
    {f_check_order : Addr} {od_check_order an_check_order : Option Addr} {sl_check_order : Array (Option Value)} {oc_check_order kV_check_order dc_check_order pm_check_order cd_check_order ct_check_order : Value}
    {f_place_of : Addr} {od_place_of an_place_of : Option Addr} {sl_place_of : Array (Option Value)} {oc_place_of kV_place_of dc_place_of pm_place_of cd_place_of ct_place_of : Value}
    {f_number_of : Addr} {od_number_of an_number_of : Option Addr} {sl_number_of : Array (Option Value)} {oc_number_of kV_number_of dc_number_of pm_number_of cd_number_of ct_number_of : Value}
    {f_is_drawn : Addr} {od_is_drawn an_is_drawn : Option Addr} {sl_is_drawn : Array (Option Value)} {oc_is_drawn kV_is_drawn dc_is_drawn pm_is_drawn cd_is_drawn ct_is_drawn : Value}
    {f_is_draw : Addr} {od_is_draw an_is_draw : Option Addr} {sl_is_draw : Array (Option Value)} {oc_is_draw kV_is_draw dc_is_draw pm_is_draw cd_is_draw ct_is_draw : Value}
    {f_check_draw : Addr} {od_check_draw an_check_draw : Option Addr} {sl_check_draw : Array (Option Value)} {oc_check_draw kV_check_draw dc_check_draw pm_check_draw cd_check_draw ct_check_draw : Value}
    {f_order_of : Addr} {od_order_of an_order_of : Option Addr} {sl_order_of : Array (Option Value)} {oc_order_of kV_order_of dc_order_of pm_order_of cd_order_of ct_order_of : Value}
    {f_integer_for : Addr} {od_integer_for an_integer_for : Option Addr} {sl_integer_for : Array (Option Value)} {oc_integer_for kV_integer_for dc_integer_for pm_integer_for cd_integer_for ct_integer_for : Value}
    {f__law_draws : Addr} {od__law_draws an__law_draws : Option Addr} {sl__law_draws : Array (Option Value)} {oc__law_draws kV__law_draws dc__law_draws pm__law_draws cd__law_draws ct__law_draws : Value}
    {f__law_take : Addr} {od__law_take an__law_take : Option Addr} {sl__law_take : Array (Option Value)} {oc__law_take kV__law_take dc__law_take pm__law_take cd__law_take ct__law_take : Value}
    {f__law_pick : Addr} {od__law_pick an__law_pick : Option Addr} {sl__law_pick : Array (Option Value)} {oc__law_pick kV__law_pick dc__law_pick pm__law_pick cd__law_pick ct__law_pick : Value}
    {f__law_shuffled : Addr} {od__law_shuffled an__law_shuffled : Option Addr} {sl__law_shuffled : Array (Option Value)} {oc__law_shuffled kV__law_shuffled dc__law_shuffled pm__law_shuffled cd__law_shuffled ct__law_shuffled : Value}
    {f__law_same : Addr} {od__law_same an__law_same : Option Addr} {sl__law_same : Array (Option Value)} {oc__law_same kV__law_same dc__law_same pm__law_same cd__law_same ct__law_same : Value}
    {f__law_names : Addr} {od__law_names an__law_names : Option Addr} {sl__law_names : Array (Option Value)} {oc__law_names kV__law_names dc__law_names pm__law_names cd__law_names ct__law_names : Value}
    {f__law_orders : Addr} {od__law_orders an__law_orders : Option Addr} {sl__law_orders : Array (Option Value)} {oc__law_orders kV__law_orders dc__law_orders pm__law_orders cd__law_orders ct__law_orders : Value}
    {f__law_count : Addr} {od__law_count an__law_count : Option Addr} {sl__law_count : Array (Option Value)} {oc__law_count kV__law_count dc__law_count pm__law_count cd__law_count ct__law_count : Value}
    {f__law_number : Addr} {od__law_number an__law_number : Option Addr} {sl__law_number : Array (Option Value)} {oc__law_number kV__law_number dc__law_number pm__law_number cd__law_number ct__law_number : Value}
    {f__law_told : Addr} {od__law_told an__law_told : Option Addr} {sl__law_told : Array (Option Value)} {oc__law_told kV__law_told dc__law_told pm__law_told cd__law_told ct__law_told : Value}
    {f__law_drawn : Addr} {od__law_drawn an__law_drawn : Option Addr} {sl__law_drawn : Array (Option Value)} {oc__law_drawn kV__law_drawn dc__law_drawn pm__law_drawn cd__law_drawn ct__law_drawn : Value}
    {f__law_is_draw_right : Addr} {od__law_is_draw_right an__law_is_draw_right : Option Addr} {sl__law_is_draw_right : Array (Option Value)} {oc__law_is_draw_right kV__law_is_draw_right dc__law_is_draw_right pm__law_is_draw_right cd__law_is_draw_right ct__law_is_draw_right : Value}
    {f__law_mirror : Addr} {od__law_mirror an__law_mirror : Option Addr} {sl__law_mirror : Array (Option Value)} {oc__law_mirror kV__law_mirror dc__law_mirror pm__law_mirror cd__law_mirror ct__law_mirror : Value}
    {f_law : Addr} {od_law an_law : Option Addr} {sl_law : Array (Option Value)} {oc_law kV_law dc_law pm_law cd_law ct_law : Value}
    {f__law_raised : Addr} {od__law_raised an__law_raised : Option Addr} {sl__law_raised : Array (Option Value)} {oc__law_raised kV__law_raised dc__law_raised pm__law_raised cd__law_raised ct__law_raised : Value}
    {t_FIGURES : Tok}
    {t_LETTERS : Tok}
    {t_LONGEST : Tok}
    {t_MOST_NAMES : Tok}
    {c_LaurelError : Addr}
    {c_NotRight : Addr}
    {c_NotThere : Addr}
    {c_NoAnswer : Addr}
    {c_TooLarge : Addr}
    (a_is_name : PySem.W.nsIn K mainGlobals "is_name" = some (some (.ref f_is_name)))
    (l_is_name : K.lookup f_is_name = some ⟨oc_is_name, od_is_name, .func (PySem.W.fnOf "is_name" "is_name" (defArgs S_is_name) (defBody S_is_name) (defScope S_is_name) .none kV_is_name dc_is_name pm_is_name an_is_name cd_is_name ct_is_name), sl_is_name⟩)
    (c_is_name : PySem.W.codeIn K cd_is_name "is_name" = true)
    (k_is_name : PySem.W.keepIn K (.ref f_is_name) = true)
    (a_is_integer : PySem.W.nsIn K mainGlobals "is_integer" = some (some (.ref f_is_integer)))
    (l_is_integer : K.lookup f_is_integer = some ⟨oc_is_integer, od_is_integer, .func (PySem.W.fnOf "is_integer" "is_integer" (defArgs S_is_integer) (defBody S_is_integer) (defScope S_is_integer) .none kV_is_integer dc_is_integer pm_is_integer an_is_integer cd_is_integer ct_is_integer), sl_is_integer⟩)
    (c_is_integer : PySem.W.codeIn K cd_is_integer "is_integer" = true)
    (k_is_integer : PySem.W.keepIn K (.ref f_is_integer) = true)
    (a_are_names : PySem.W.nsIn K mainGlobals "are_names" = some (some (.ref f_are_names)))
    (l_are_names : K.lookup f_are_names = some ⟨oc_are_names, od_are_names, .func (PySem.W.fnOf "are_names" "are_names" (defArgs S_are_names) (defBody S_are_names) (defScope S_are_names) .none kV_are_names dc_are_names pm_are_names an_are_names cd_are_names ct_are_names), sl_are_names⟩)
    (c_are_names : PySem.W.codeIn K cd_are_names "are_names" = true)
    (k_are_names : PySem.W.keepIn K (.ref f_are_names) = true)
    (a_check_lot : PySem.W.nsIn K mainGlobals "check_lot" = some (some (.ref f_check_lot)))
    (l_check_lot : K.lookup f_check_lot = some ⟨oc_check_lot, od_check_lot, .func (PySem.W.fnOf "check_lot" "check_lot" (defArgs S_check_lot) (defBody S_check_lot) (defScope S_check_lot) .none kV_check_lot dc_check_lot pm_check_lot an_check_lot cd_check_lot ct_check_lot), sl_check_lot⟩)
    (c_check_lot : PySem.W.codeIn K cd_check_lot "check_lot" = true)
    (k_check_lot : PySem.W.keepIn K (.ref f_check_lot) = true)
    (a_count_for : PySem.W.nsIn K mainGlobals "count_for" = some (some (.ref f_count_for)))
    (l_count_for : K.lookup f_count_for = some ⟨oc_count_for, od_count_for, .func (PySem.W.fnOf "count_for" "count_for" (defArgs S_count_for) (defBody S_count_for) (defScope S_count_for) .none kV_count_for dc_count_for pm_count_for an_count_for cd_count_for ct_count_for), sl_count_for⟩)
    (c_count_for : PySem.W.codeIn K cd_count_for "count_for" = true)
    (k_count_for : PySem.W.keepIn K (.ref f_count_for) = true)
    (a_orders_count : PySem.W.nsIn K mainGlobals "orders_count" = some (some (.ref f_orders_count)))
    (l_orders_count : K.lookup f_orders_count = some ⟨oc_orders_count, od_orders_count, .func (PySem.W.fnOf "orders_count" "orders_count" (defArgs S_orders_count) (defBody S_orders_count) (defScope S_orders_count) .none kV_orders_count dc_orders_count pm_orders_count an_orders_count cd_orders_count ct_orders_count), sl_orders_count⟩)
    (c_orders_count : PySem.W.codeIn K cd_orders_count "orders_count" = true)
    (k_orders_count : PySem.W.keepIn K (.ref f_orders_count) = true)
    (a_order_at : PySem.W.nsIn K mainGlobals "order_at" = some (some (.ref f_order_at)))
    (l_order_at : K.lookup f_order_at = some ⟨oc_order_at, od_order_at, .func (PySem.W.fnOf "order_at" "order_at" (defArgs S_order_at) (defBody S_order_at) (defScope S_order_at) .none kV_order_at dc_order_at pm_order_at an_order_at cd_order_at ct_order_at), sl_order_at⟩)
    (c_order_at : PySem.W.codeIn K cd_order_at "order_at" = true)
    (k_order_at : PySem.W.keepIn K (.ref f_order_at) = true)
    (a_order_with : PySem.W.nsIn K mainGlobals "order_with" = some (some (.ref f_order_with)))
    (l_order_with : K.lookup f_order_with = some ⟨oc_order_with, od_order_with, .func (PySem.W.fnOf "order_with" "order_with" (defArgs S_order_with) (defBody S_order_with) (defScope S_order_with) .none kV_order_with dc_order_with pm_order_with an_order_with cd_order_with ct_order_with), sl_order_with⟩)
    (c_order_with : PySem.W.codeIn K cd_order_with "order_with" = true)
    (k_order_with : PySem.W.keepIn K (.ref f_order_with) = true)
    (a_check_order : PySem.W.nsIn K mainGlobals "check_order" = some (some (.ref f_check_order)))
    (l_check_order : K.lookup f_check_order = some ⟨oc_check_order, od_check_order, .func (PySem.W.fnOf "check_order" "check_order" (defArgs S_check_order) (defBody S_check_order) (defScope S_check_order) .none kV_check_order dc_check_order pm_check_order an_check_order cd_check_order ct_check_order), sl_check_order⟩)
    (c_check_order : PySem.W.codeIn K cd_check_order "check_order" = true)
    (k_check_order : PySem.W.keepIn K (.ref f_check_order) = true)
    (a_place_of : PySem.W.nsIn K mainGlobals "place_of" = some (some (.ref f_place_of)))
    (l_place_of : K.lookup f_place_of = some ⟨oc_place_of, od_place_of, .func (PySem.W.fnOf "place_of" "place_of" (defArgs S_place_of) (defBody S_place_of) (defScope S_place_of) .none kV_place_of dc_place_of pm_place_of an_place_of cd_place_of ct_place_of), sl_place_of⟩)
    (c_place_of : PySem.W.codeIn K cd_place_of "place_of" = true)
    (k_place_of : PySem.W.keepIn K (.ref f_place_of) = true)
    (a_number_of : PySem.W.nsIn K mainGlobals "number_of" = some (some (.ref f_number_of)))
    (l_number_of : K.lookup f_number_of = some ⟨oc_number_of, od_number_of, .func (PySem.W.fnOf "number_of" "number_of" (defArgs S_number_of) (defBody S_number_of) (defScope S_number_of) .none kV_number_of dc_number_of pm_number_of an_number_of cd_number_of ct_number_of), sl_number_of⟩)
    (c_number_of : PySem.W.codeIn K cd_number_of "number_of" = true)
    (k_number_of : PySem.W.keepIn K (.ref f_number_of) = true)
    (a_is_drawn : PySem.W.nsIn K mainGlobals "is_drawn" = some (some (.ref f_is_drawn)))
    (l_is_drawn : K.lookup f_is_drawn = some ⟨oc_is_drawn, od_is_drawn, .func (PySem.W.fnOf "is_drawn" "is_drawn" (defArgs S_is_drawn) (defBody S_is_drawn) (defScope S_is_drawn) .none kV_is_drawn dc_is_drawn pm_is_drawn an_is_drawn cd_is_drawn ct_is_drawn), sl_is_drawn⟩)
    (c_is_drawn : PySem.W.codeIn K cd_is_drawn "is_drawn" = true)
    (k_is_drawn : PySem.W.keepIn K (.ref f_is_drawn) = true)
    (a_is_draw : PySem.W.nsIn K mainGlobals "is_draw" = some (some (.ref f_is_draw)))
    (l_is_draw : K.lookup f_is_draw = some ⟨oc_is_draw, od_is_draw, .func (PySem.W.fnOf "is_draw" "is_draw" (defArgs S_is_draw) (defBody S_is_draw) (defScope S_is_draw) .none kV_is_draw dc_is_draw pm_is_draw an_is_draw cd_is_draw ct_is_draw), sl_is_draw⟩)
    (c_is_draw : PySem.W.codeIn K cd_is_draw "is_draw" = true)
    (k_is_draw : PySem.W.keepIn K (.ref f_is_draw) = true)
    (a_check_draw : PySem.W.nsIn K mainGlobals "check_draw" = some (some (.ref f_check_draw)))
    (l_check_draw : K.lookup f_check_draw = some ⟨oc_check_draw, od_check_draw, .func (PySem.W.fnOf "check_draw" "check_draw" (defArgs S_check_draw) (defBody S_check_draw) (defScope S_check_draw) .none kV_check_draw dc_check_draw pm_check_draw an_check_draw cd_check_draw ct_check_draw), sl_check_draw⟩)
    (c_check_draw : PySem.W.codeIn K cd_check_draw "check_draw" = true)
    (k_check_draw : PySem.W.keepIn K (.ref f_check_draw) = true)
    (a_order_of : PySem.W.nsIn K mainGlobals "order_of" = some (some (.ref f_order_of)))
    (l_order_of : K.lookup f_order_of = some ⟨oc_order_of, od_order_of, .func (PySem.W.fnOf "order_of" "order_of" (defArgs S_order_of) (defBody S_order_of) (defScope S_order_of) .none kV_order_of dc_order_of pm_order_of an_order_of cd_order_of ct_order_of), sl_order_of⟩)
    (c_order_of : PySem.W.codeIn K cd_order_of "order_of" = true)
    (k_order_of : PySem.W.keepIn K (.ref f_order_of) = true)
    (a_integer_for : PySem.W.nsIn K mainGlobals "integer_for" = some (some (.ref f_integer_for)))
    (l_integer_for : K.lookup f_integer_for = some ⟨oc_integer_for, od_integer_for, .func (PySem.W.fnOf "integer_for" "integer_for" (defArgs S_integer_for) (defBody S_integer_for) (defScope S_integer_for) .none kV_integer_for dc_integer_for pm_integer_for an_integer_for cd_integer_for ct_integer_for), sl_integer_for⟩)
    (c_integer_for : PySem.W.codeIn K cd_integer_for "integer_for" = true)
    (k_integer_for : PySem.W.keepIn K (.ref f_integer_for) = true)
    (a__law_draws : PySem.W.nsIn K mainGlobals "_law_draws" = some (some (.ref f__law_draws)))
    (l__law_draws : K.lookup f__law_draws = some ⟨oc__law_draws, od__law_draws, .func (PySem.W.fnOf "_law_draws" "_law_draws" (defArgs S__law_draws) (defBody S__law_draws) (defScope S__law_draws) .none kV__law_draws dc__law_draws pm__law_draws an__law_draws cd__law_draws ct__law_draws), sl__law_draws⟩)
    (c__law_draws : PySem.W.codeIn K cd__law_draws "_law_draws" = true)
    (k__law_draws : PySem.W.keepIn K (.ref f__law_draws) = true)
    (a__law_take : PySem.W.nsIn K mainGlobals "_law_take" = some (some (.ref f__law_take)))
    (l__law_take : K.lookup f__law_take = some ⟨oc__law_take, od__law_take, .func (PySem.W.fnOf "_law_take" "_law_take" (defArgs S__law_take) (defBody S__law_take) (defScope S__law_take) .none kV__law_take dc__law_take pm__law_take an__law_take cd__law_take ct__law_take), sl__law_take⟩)
    (c__law_take : PySem.W.codeIn K cd__law_take "_law_take" = true)
    (k__law_take : PySem.W.keepIn K (.ref f__law_take) = true)
    (a__law_pick : PySem.W.nsIn K mainGlobals "_law_pick" = some (some (.ref f__law_pick)))
    (l__law_pick : K.lookup f__law_pick = some ⟨oc__law_pick, od__law_pick, .func (PySem.W.fnOf "_law_pick" "_law_pick" (defArgs S__law_pick) (defBody S__law_pick) (defScope S__law_pick) .none kV__law_pick dc__law_pick pm__law_pick an__law_pick cd__law_pick ct__law_pick), sl__law_pick⟩)
    (c__law_pick : PySem.W.codeIn K cd__law_pick "_law_pick" = true)
    (k__law_pick : PySem.W.keepIn K (.ref f__law_pick) = true)
    (a__law_shuffled : PySem.W.nsIn K mainGlobals "_law_shuffled" = some (some (.ref f__law_shuffled)))
    (l__law_shuffled : K.lookup f__law_shuffled = some ⟨oc__law_shuffled, od__law_shuffled, .func (PySem.W.fnOf "_law_shuffled" "_law_shuffled" (defArgs S__law_shuffled) (defBody S__law_shuffled) (defScope S__law_shuffled) .none kV__law_shuffled dc__law_shuffled pm__law_shuffled an__law_shuffled cd__law_shuffled ct__law_shuffled), sl__law_shuffled⟩)
    (c__law_shuffled : PySem.W.codeIn K cd__law_shuffled "_law_shuffled" = true)
    (k__law_shuffled : PySem.W.keepIn K (.ref f__law_shuffled) = true)
    (a__law_same : PySem.W.nsIn K mainGlobals "_law_same" = some (some (.ref f__law_same)))
    (l__law_same : K.lookup f__law_same = some ⟨oc__law_same, od__law_same, .func (PySem.W.fnOf "_law_same" "_law_same" (defArgs S__law_same) (defBody S__law_same) (defScope S__law_same) .none kV__law_same dc__law_same pm__law_same an__law_same cd__law_same ct__law_same), sl__law_same⟩)
    (c__law_same : PySem.W.codeIn K cd__law_same "_law_same" = true)
    (k__law_same : PySem.W.keepIn K (.ref f__law_same) = true)
    (a__law_names : PySem.W.nsIn K mainGlobals "_law_names" = some (some (.ref f__law_names)))
    (l__law_names : K.lookup f__law_names = some ⟨oc__law_names, od__law_names, .func (PySem.W.fnOf "_law_names" "_law_names" (defArgs S__law_names) (defBody S__law_names) (defScope S__law_names) .none kV__law_names dc__law_names pm__law_names an__law_names cd__law_names ct__law_names), sl__law_names⟩)
    (c__law_names : PySem.W.codeIn K cd__law_names "_law_names" = true)
    (k__law_names : PySem.W.keepIn K (.ref f__law_names) = true)
    (a__law_orders : PySem.W.nsIn K mainGlobals "_law_orders" = some (some (.ref f__law_orders)))
    (l__law_orders : K.lookup f__law_orders = some ⟨oc__law_orders, od__law_orders, .func (PySem.W.fnOf "_law_orders" "_law_orders" (defArgs S__law_orders) (defBody S__law_orders) (defScope S__law_orders) .none kV__law_orders dc__law_orders pm__law_orders an__law_orders cd__law_orders ct__law_orders), sl__law_orders⟩)
    (c__law_orders : PySem.W.codeIn K cd__law_orders "_law_orders" = true)
    (k__law_orders : PySem.W.keepIn K (.ref f__law_orders) = true)
    (a__law_count : PySem.W.nsIn K mainGlobals "_law_count" = some (some (.ref f__law_count)))
    (l__law_count : K.lookup f__law_count = some ⟨oc__law_count, od__law_count, .func (PySem.W.fnOf "_law_count" "_law_count" (defArgs S__law_count) (defBody S__law_count) (defScope S__law_count) .none kV__law_count dc__law_count pm__law_count an__law_count cd__law_count ct__law_count), sl__law_count⟩)
    (c__law_count : PySem.W.codeIn K cd__law_count "_law_count" = true)
    (k__law_count : PySem.W.keepIn K (.ref f__law_count) = true)
    (a__law_number : PySem.W.nsIn K mainGlobals "_law_number" = some (some (.ref f__law_number)))
    (l__law_number : K.lookup f__law_number = some ⟨oc__law_number, od__law_number, .func (PySem.W.fnOf "_law_number" "_law_number" (defArgs S__law_number) (defBody S__law_number) (defScope S__law_number) .none kV__law_number dc__law_number pm__law_number an__law_number cd__law_number ct__law_number), sl__law_number⟩)
    (c__law_number : PySem.W.codeIn K cd__law_number "_law_number" = true)
    (k__law_number : PySem.W.keepIn K (.ref f__law_number) = true)
    (a__law_told : PySem.W.nsIn K mainGlobals "_law_told" = some (some (.ref f__law_told)))
    (l__law_told : K.lookup f__law_told = some ⟨oc__law_told, od__law_told, .func (PySem.W.fnOf "_law_told" "_law_told" (defArgs S__law_told) (defBody S__law_told) (defScope S__law_told) .none kV__law_told dc__law_told pm__law_told an__law_told cd__law_told ct__law_told), sl__law_told⟩)
    (c__law_told : PySem.W.codeIn K cd__law_told "_law_told" = true)
    (k__law_told : PySem.W.keepIn K (.ref f__law_told) = true)
    (a__law_drawn : PySem.W.nsIn K mainGlobals "_law_drawn" = some (some (.ref f__law_drawn)))
    (l__law_drawn : K.lookup f__law_drawn = some ⟨oc__law_drawn, od__law_drawn, .func (PySem.W.fnOf "_law_drawn" "_law_drawn" (defArgs S__law_drawn) (defBody S__law_drawn) (defScope S__law_drawn) .none kV__law_drawn dc__law_drawn pm__law_drawn an__law_drawn cd__law_drawn ct__law_drawn), sl__law_drawn⟩)
    (c__law_drawn : PySem.W.codeIn K cd__law_drawn "_law_drawn" = true)
    (k__law_drawn : PySem.W.keepIn K (.ref f__law_drawn) = true)
    (a__law_is_draw_right : PySem.W.nsIn K mainGlobals "_law_is_draw_right" = some (some (.ref f__law_is_draw_right)))
    (l__law_is_draw_right : K.lookup f__law_is_draw_right = some ⟨oc__law_is_draw_right, od__law_is_draw_right, .func (PySem.W.fnOf "_law_is_draw_right" "_law_is_draw_right" (defArgs S__law_is_draw_right) (defBody S__law_is_draw_right) (defScope S__law_is_draw_right) .none kV__law_is_draw_right dc__law_is_draw_right pm__law_is_draw_right an__law_is_draw_right cd__law_is_draw_right ct__law_is_draw_right), sl__law_is_draw_right⟩)
    (c__law_is_draw_right : PySem.W.codeIn K cd__law_is_draw_right "_law_is_draw_right" = true)
    (k__law_is_draw_right : PySem.W.keepIn K (.ref f__law_is_draw_right) = true)
    (a__law_mirror : PySem.W.nsIn K mainGlobals "_law_mirror" = some (some (.ref f__law_mirror)))
    (l__law_mirror : K.lookup f__law_mirror = some ⟨oc__law_mirror, od__law_mirror, .func (PySem.W.fnOf "_law_mirror" "_law_mirror" (defArgs S__law_mirror) (defBody S__law_mirror) (defScope S__law_mirror) .none kV__law_mirror dc__law_mirror pm__law_mirror an__law_mirror cd__law_mirror ct__law_mirror), sl__law_mirror⟩)
    (c__law_mirror : PySem.W.codeIn K cd__law_mirror "_law_mirror" = true)
    (k__law_mirror : PySem.W.keepIn K (.ref f__law_mirror) = true)
    (a_law : PySem.W.nsIn K mainGlobals "law" = some (some (.ref f_law)))
    (l_law : K.lookup f_law = some ⟨oc_law, od_law, .func (PySem.W.fnOf "law" "law" (defArgs S_law) (defBody S_law) (defScope S_law) .none kV_law dc_law pm_law an_law cd_law ct_law), sl_law⟩)
    (c_law : PySem.W.codeIn K cd_law "law" = true)
    (k_law : PySem.W.keepIn K (.ref f_law) = true)
    (a__law_raised : PySem.W.nsIn K mainGlobals "_law_raised" = some (some (.ref f__law_raised)))
    (l__law_raised : K.lookup f__law_raised = some ⟨oc__law_raised, od__law_raised, .func (PySem.W.fnOf "_law_raised" "_law_raised" (defArgs S__law_raised) (defBody S__law_raised) (defScope S__law_raised) .none kV__law_raised dc__law_raised pm__law_raised an__law_raised cd__law_raised ct__law_raised), sl__law_raised⟩)
    (c__law_raised : PySem.W.codeIn K cd__law_raised "_law_raised" = true)
    (k__law_raised : PySem.W.keepIn K (.ref f__law_raised) = true)
    (q_FIGURES : PySem.W.nsIn K mainGlobals "FIGURES" = some (some (.str "0123456789" t_FIGURES)))
    (q_LETTERS : PySem.W.nsIn K mainGlobals "LETTERS" = some (some (.str "abcdefghijklmnopqrstuvwxyz" t_LETTERS)))
    (q_LONGEST : PySem.W.nsIn K mainGlobals "LONGEST" = some (some (.int 12 t_LONGEST)))
    (q_MOST_NAMES : PySem.W.nsIn K mainGlobals "MOST_NAMES" = some (some (.int 12 t_MOST_NAMES)))
    (z_abs : PySem.W.nsIn K mainGlobals "abs" = some none)
    (z_all : PySem.W.nsIn K mainGlobals "all" = some none)
    (z_bool : PySem.W.nsIn K mainGlobals "bool" = some none)
    (z_dict : PySem.W.nsIn K mainGlobals "dict" = some none)
    (z_int : PySem.W.nsIn K mainGlobals "int" = some none)
    (z_isinstance : PySem.W.nsIn K mainGlobals "isinstance" = some none)
    (z_len : PySem.W.nsIn K mainGlobals "len" = some none)
    (z_list : PySem.W.nsIn K mainGlobals "list" = some none)
    (z_range : PySem.W.nsIn K mainGlobals "range" = some none)
    (z_repr : PySem.W.nsIn K mainGlobals "repr" = some none)
    (z_reversed : PySem.W.nsIn K mainGlobals "reversed" = some none)
    (z_sorted : PySem.W.nsIn K mainGlobals "sorted" = some none)
    (z_str : PySem.W.nsIn K mainGlobals "str" = some none)
    (z_sum : PySem.W.nsIn K mainGlobals "sum" = some none)
    (z_tuple : PySem.W.nsIn K mainGlobals "tuple" = some none)
    (z_zip : PySem.W.nsIn K mainGlobals "zip" = some none)
    (aC_LaurelError : PySem.W.nsIn K mainGlobals "LaurelError" = some (some (.ref c_LaurelError)))
    (aC_NotRight : PySem.W.nsIn K mainGlobals "NotRight" = some (some (.ref c_NotRight)))
    (aC_NotThere : PySem.W.nsIn K mainGlobals "NotThere" = some (some (.ref c_NotThere)))
    (aC_NoAnswer : PySem.W.nsIn K mainGlobals "NoAnswer" = some (some (.ref c_NoAnswer)))
    (aC_TooLarge : PySem.W.nsIn K mainGlobals "TooLarge" = some (some (.ref c_TooLarge)))
    (x_NotRight : PySem.W.excIn K c_NotRight [.type "ValueError", .type "Exception", .type "BaseException", .type "object"] "ValueError.__new__" = true)
    (p_NotRight : PySem.W.keepIn K (.ref c_NotRight) = true)
    (s_NotRight : PySem.W.subIn K (.ref c_NotRight) (.type "BaseException") = some true)
    (t_NotRight : PySem.W.typeIn K (.ref c_NotRight) = some (.type "type"))
    (x_NotThere : PySem.W.excIn K c_NotThere [.type "ValueError", .type "Exception", .type "BaseException", .type "object"] "ValueError.__new__" = true)
    (p_NotThere : PySem.W.keepIn K (.ref c_NotThere) = true)
    (s_NotThere : PySem.W.subIn K (.ref c_NotThere) (.type "BaseException") = some true)
    (t_NotThere : PySem.W.typeIn K (.ref c_NotThere) = some (.type "type"))
    (Chg_NotRight : PySem.W.findIn K (.ref c_NotRight) "__getattribute__" = some (some (.builtin "BaseException.__getattribute__")))
    (Chk_NotRight : PySem.W.findIn K (.ref c_NotRight) "__getattr__" = some none)
    (Chs_NotRight : PySem.W.subIn K (.ref c_NotRight) (.type "BaseException") = some true)
    (Chd_NotRight : PySem.W.hasDictIn K c_NotRight = true)
    (Cha_NotRight : PySem.W.findIn K (.ref c_NotRight) "__class__" = some (some (.builtin "object.__class__")))
    (Chn_NotRight : PySem.W.specialIn K (.builtin "object.__class__") "__get__" = some (some (.builtin "getset_descriptor.__get__")))
    (Cht_NotRight : PySem.W.takesIn K (.builtin "object.__class__") = some true)
    (Chm_NotRight : PySem.W.mroIn K c_NotRight (.type "object") = some true)
    (i_NotRight_NotRight : PySem.W.kitOne K (.ref c_NotRight) (.ref c_NotRight) = some true)
    (i_NotRight_NotThere : PySem.W.kitOne K (.ref c_NotRight) (.ref c_NotThere) = some false)
    (i_NotRight_NoAnswer : PySem.W.kitOne K (.ref c_NotRight) (.ref c_NoAnswer) = some false)
    (i_NotRight_TooLarge : PySem.W.kitOne K (.ref c_NotRight) (.ref c_TooLarge) = some false)
    (m_NotRight : PySem.W.exmOne K (.ref c_NotRight) (.ref c_LaurelError) = some true)
    (Chg_NotThere : PySem.W.findIn K (.ref c_NotThere) "__getattribute__" = some (some (.builtin "BaseException.__getattribute__")))
    (Chk_NotThere : PySem.W.findIn K (.ref c_NotThere) "__getattr__" = some none)
    (Chs_NotThere : PySem.W.subIn K (.ref c_NotThere) (.type "BaseException") = some true)
    (Chd_NotThere : PySem.W.hasDictIn K c_NotThere = true)
    (Cha_NotThere : PySem.W.findIn K (.ref c_NotThere) "__class__" = some (some (.builtin "object.__class__")))
    (Chn_NotThere : PySem.W.specialIn K (.builtin "object.__class__") "__get__" = some (some (.builtin "getset_descriptor.__get__")))
    (Cht_NotThere : PySem.W.takesIn K (.builtin "object.__class__") = some true)
    (Chm_NotThere : PySem.W.mroIn K c_NotThere (.type "object") = some true)
    (i_NotThere_NotRight : PySem.W.kitOne K (.ref c_NotThere) (.ref c_NotRight) = some false)
    (i_NotThere_NotThere : PySem.W.kitOne K (.ref c_NotThere) (.ref c_NotThere) = some true)
    (i_NotThere_NoAnswer : PySem.W.kitOne K (.ref c_NotThere) (.ref c_NoAnswer) = some false)
    (i_NotThere_TooLarge : PySem.W.kitOne K (.ref c_NotThere) (.ref c_TooLarge) = some false)
    (m_NotThere : PySem.W.exmOne K (.ref c_NotThere) (.ref c_LaurelError) = some true)
    (Chg_NoAnswer : PySem.W.findIn K (.ref c_NoAnswer) "__getattribute__" = some (some (.builtin "BaseException.__getattribute__")))
    (Chk_NoAnswer : PySem.W.findIn K (.ref c_NoAnswer) "__getattr__" = some none)
    (Chs_NoAnswer : PySem.W.subIn K (.ref c_NoAnswer) (.type "BaseException") = some true)
    (Chd_NoAnswer : PySem.W.hasDictIn K c_NoAnswer = true)
    (Cha_NoAnswer : PySem.W.findIn K (.ref c_NoAnswer) "__class__" = some (some (.builtin "object.__class__")))
    (Chn_NoAnswer : PySem.W.specialIn K (.builtin "object.__class__") "__get__" = some (some (.builtin "getset_descriptor.__get__")))
    (Cht_NoAnswer : PySem.W.takesIn K (.builtin "object.__class__") = some true)
    (Chm_NoAnswer : PySem.W.mroIn K c_NoAnswer (.type "object") = some true)
    (i_NoAnswer_NotRight : PySem.W.kitOne K (.ref c_NoAnswer) (.ref c_NotRight) = some false)
    (i_NoAnswer_NotThere : PySem.W.kitOne K (.ref c_NoAnswer) (.ref c_NotThere) = some false)
    (i_NoAnswer_NoAnswer : PySem.W.kitOne K (.ref c_NoAnswer) (.ref c_NoAnswer) = some true)
    (i_NoAnswer_TooLarge : PySem.W.kitOne K (.ref c_NoAnswer) (.ref c_TooLarge) = some false)
    (m_NoAnswer : PySem.W.exmOne K (.ref c_NoAnswer) (.ref c_LaurelError) = some true)
    (Chg_TooLarge : PySem.W.findIn K (.ref c_TooLarge) "__getattribute__" = some (some (.builtin "BaseException.__getattribute__")))
    (Chk_TooLarge : PySem.W.findIn K (.ref c_TooLarge) "__getattr__" = some none)
    (Chs_TooLarge : PySem.W.subIn K (.ref c_TooLarge) (.type "BaseException") = some true)
    (Chd_TooLarge : PySem.W.hasDictIn K c_TooLarge = true)
    (Cha_TooLarge : PySem.W.findIn K (.ref c_TooLarge) "__class__" = some (some (.builtin "object.__class__")))
    (Chn_TooLarge : PySem.W.specialIn K (.builtin "object.__class__") "__get__" = some (some (.builtin "getset_descriptor.__get__")))
    (Cht_TooLarge : PySem.W.takesIn K (.builtin "object.__class__") = some true)
    (Chm_TooLarge : PySem.W.mroIn K c_TooLarge (.type "object") = some true)
    (i_TooLarge_NotRight : PySem.W.kitOne K (.ref c_TooLarge) (.ref c_NotRight) = some false)
    (i_TooLarge_NotThere : PySem.W.kitOne K (.ref c_TooLarge) (.ref c_NotThere) = some false)
    (i_TooLarge_NoAnswer : PySem.W.kitOne K (.ref c_TooLarge) (.ref c_NoAnswer) = some false)
    (i_TooLarge_TooLarge : PySem.W.kitOne K (.ref c_TooLarge) (.ref c_TooLarge) = some true)
    (m_TooLarge : PySem.W.exmOne K (.ref c_TooLarge) (.ref c_LaurelError) = some true) :
    ∃ fd : FuncData, (∀ (s : Shared) (u : Value), BindsTo s fd ⟨[u], []⟩ [("script", u)]) ∧ ∀ base : Heap, K.In base → base.Ns mainGlobals mg → FnG P w K mg base (L2N.CX P w) 10 fa fd ["script"] (spD K w mg 1 m_law) := by
  have e : fa = f_law := by
    have e := hfa.symm.trans (PySem.W.mg_of X G a_law)
    cases e
    rfl
  subst fa
  let Gx : Fx P w K mg := {
    a_is_name := f_is_name, d_is_name := PySem.W.fnOf "is_name" "is_name" (defArgs S_is_name) (defBody S_is_name) (defScope S_is_name) .none kV_is_name dc_is_name pm_is_name an_is_name cd_is_name ct_is_name, F_is_name := fun_mk (st := S_is_name) l_is_name c_is_name k_is_name, g_is_name := PySem.W.mg_of X G a_is_name, p_is_name := k_is_name, b_is_name := ((fun_mk (st := S_is_name) l_is_name c_is_name k_is_name).binds (ps := ["value"]) fun _ _ _ _ _ _ us hl => match us, hl with | [_], _ => rfl),
    a_is_integer := f_is_integer, d_is_integer := PySem.W.fnOf "is_integer" "is_integer" (defArgs S_is_integer) (defBody S_is_integer) (defScope S_is_integer) .none kV_is_integer dc_is_integer pm_is_integer an_is_integer cd_is_integer ct_is_integer, F_is_integer := fun_mk (st := S_is_integer) l_is_integer c_is_integer k_is_integer, g_is_integer := PySem.W.mg_of X G a_is_integer, p_is_integer := k_is_integer, b_is_integer := ((fun_mk (st := S_is_integer) l_is_integer c_is_integer k_is_integer).binds (ps := ["value"]) fun _ _ _ _ _ _ us hl => match us, hl with | [_], _ => rfl),
    a_are_names := f_are_names, d_are_names := PySem.W.fnOf "are_names" "are_names" (defArgs S_are_names) (defBody S_are_names) (defScope S_are_names) .none kV_are_names dc_are_names pm_are_names an_are_names cd_are_names ct_are_names, F_are_names := fun_mk (st := S_are_names) l_are_names c_are_names k_are_names, g_are_names := PySem.W.mg_of X G a_are_names, p_are_names := k_are_names, b_are_names := ((fun_mk (st := S_are_names) l_are_names c_are_names k_are_names).binds (ps := ["value"]) fun _ _ _ _ _ _ us hl => match us, hl with | [_], _ => rfl),
    a_check_lot := f_check_lot, d_check_lot := PySem.W.fnOf "check_lot" "check_lot" (defArgs S_check_lot) (defBody S_check_lot) (defScope S_check_lot) .none kV_check_lot dc_check_lot pm_check_lot an_check_lot cd_check_lot ct_check_lot, F_check_lot := fun_mk (st := S_check_lot) l_check_lot c_check_lot k_check_lot, g_check_lot := PySem.W.mg_of X G a_check_lot, p_check_lot := k_check_lot, b_check_lot := ((fun_mk (st := S_check_lot) l_check_lot c_check_lot k_check_lot).binds (ps := ["names"]) fun _ _ _ _ _ _ us hl => match us, hl with | [_], _ => rfl),
    a_count_for := f_count_for, d_count_for := PySem.W.fnOf "count_for" "count_for" (defArgs S_count_for) (defBody S_count_for) (defScope S_count_for) .none kV_count_for dc_count_for pm_count_for an_count_for cd_count_for ct_count_for, F_count_for := fun_mk (st := S_count_for) l_count_for c_count_for k_count_for, g_count_for := PySem.W.mg_of X G a_count_for, p_count_for := k_count_for, b_count_for := ((fun_mk (st := S_count_for) l_count_for c_count_for k_count_for).binds (ps := ["many"]) fun _ _ _ _ _ _ us hl => match us, hl with | [_], _ => rfl),
    a_orders_count := f_orders_count, d_orders_count := PySem.W.fnOf "orders_count" "orders_count" (defArgs S_orders_count) (defBody S_orders_count) (defScope S_orders_count) .none kV_orders_count dc_orders_count pm_orders_count an_orders_count cd_orders_count ct_orders_count, F_orders_count := fun_mk (st := S_orders_count) l_orders_count c_orders_count k_orders_count, g_orders_count := PySem.W.mg_of X G a_orders_count, p_orders_count := k_orders_count, b_orders_count := ((fun_mk (st := S_orders_count) l_orders_count c_orders_count k_orders_count).binds (ps := ["names"]) fun _ _ _ _ _ _ us hl => match us, hl with | [_], _ => rfl),
    a_order_at := f_order_at, d_order_at := PySem.W.fnOf "order_at" "order_at" (defArgs S_order_at) (defBody S_order_at) (defScope S_order_at) .none kV_order_at dc_order_at pm_order_at an_order_at cd_order_at ct_order_at, F_order_at := fun_mk (st := S_order_at) l_order_at c_order_at k_order_at, g_order_at := PySem.W.mg_of X G a_order_at, p_order_at := k_order_at, b_order_at := ((fun_mk (st := S_order_at) l_order_at c_order_at k_order_at).binds (ps := ["names", "number"]) fun _ _ _ _ _ _ us hl => match us, hl with | [_, _], _ => rfl),
    a_order_with := f_order_with, d_order_with := PySem.W.fnOf "order_with" "order_with" (defArgs S_order_with) (defBody S_order_with) (defScope S_order_with) .none kV_order_with dc_order_with pm_order_with an_order_with cd_order_with ct_order_with, F_order_with := fun_mk (st := S_order_with) l_order_with c_order_with k_order_with, g_order_with := PySem.W.mg_of X G a_order_with, p_order_with := k_order_with, b_order_with := ((fun_mk (st := S_order_with) l_order_with c_order_with k_order_with).binds (ps := ["names", "number"]) fun _ _ _ _ _ _ us hl => match us, hl with | [_, _], _ => rfl),
    a_check_order := f_check_order, d_check_order := PySem.W.fnOf "check_order" "check_order" (defArgs S_check_order) (defBody S_check_order) (defScope S_check_order) .none kV_check_order dc_check_order pm_check_order an_check_order cd_check_order ct_check_order, F_check_order := fun_mk (st := S_check_order) l_check_order c_check_order k_check_order, g_check_order := PySem.W.mg_of X G a_check_order, p_check_order := k_check_order, b_check_order := ((fun_mk (st := S_check_order) l_check_order c_check_order k_check_order).binds (ps := ["names", "order"]) fun _ _ _ _ _ _ us hl => match us, hl with | [_, _], _ => rfl),
    a_place_of := f_place_of, d_place_of := PySem.W.fnOf "place_of" "place_of" (defArgs S_place_of) (defBody S_place_of) (defScope S_place_of) .none kV_place_of dc_place_of pm_place_of an_place_of cd_place_of ct_place_of, F_place_of := fun_mk (st := S_place_of) l_place_of c_place_of k_place_of, g_place_of := PySem.W.mg_of X G a_place_of, p_place_of := k_place_of, b_place_of := ((fun_mk (st := S_place_of) l_place_of c_place_of k_place_of).binds (ps := ["names", "order"]) fun _ _ _ _ _ _ us hl => match us, hl with | [_, _], _ => rfl),
    a_number_of := f_number_of, d_number_of := PySem.W.fnOf "number_of" "number_of" (defArgs S_number_of) (defBody S_number_of) (defScope S_number_of) .none kV_number_of dc_number_of pm_number_of an_number_of cd_number_of ct_number_of, F_number_of := fun_mk (st := S_number_of) l_number_of c_number_of k_number_of, g_number_of := PySem.W.mg_of X G a_number_of, p_number_of := k_number_of, b_number_of := ((fun_mk (st := S_number_of) l_number_of c_number_of k_number_of).binds (ps := ["names", "order"]) fun _ _ _ _ _ _ us hl => match us, hl with | [_, _], _ => rfl),
    a_is_drawn := f_is_drawn, d_is_drawn := PySem.W.fnOf "is_drawn" "is_drawn" (defArgs S_is_drawn) (defBody S_is_drawn) (defScope S_is_drawn) .none kV_is_drawn dc_is_drawn pm_is_drawn an_is_drawn cd_is_drawn ct_is_drawn, F_is_drawn := fun_mk (st := S_is_drawn) l_is_drawn c_is_drawn k_is_drawn, g_is_drawn := PySem.W.mg_of X G a_is_drawn, p_is_drawn := k_is_drawn, b_is_drawn := ((fun_mk (st := S_is_drawn) l_is_drawn c_is_drawn k_is_drawn).binds (ps := ["names", "value"]) fun _ _ _ _ _ _ us hl => match us, hl with | [_, _], _ => rfl),
    a_is_draw := f_is_draw, d_is_draw := PySem.W.fnOf "is_draw" "is_draw" (defArgs S_is_draw) (defBody S_is_draw) (defScope S_is_draw) .none kV_is_draw dc_is_draw pm_is_draw an_is_draw cd_is_draw ct_is_draw, F_is_draw := fun_mk (st := S_is_draw) l_is_draw c_is_draw k_is_draw, g_is_draw := PySem.W.mg_of X G a_is_draw, p_is_draw := k_is_draw, b_is_draw := ((fun_mk (st := S_is_draw) l_is_draw c_is_draw k_is_draw).binds (ps := ["names", "value"]) fun _ _ _ _ _ _ us hl => match us, hl with | [_, _], _ => rfl),
    a_check_draw := f_check_draw, d_check_draw := PySem.W.fnOf "check_draw" "check_draw" (defArgs S_check_draw) (defBody S_check_draw) (defScope S_check_draw) .none kV_check_draw dc_check_draw pm_check_draw an_check_draw cd_check_draw ct_check_draw, F_check_draw := fun_mk (st := S_check_draw) l_check_draw c_check_draw k_check_draw, g_check_draw := PySem.W.mg_of X G a_check_draw, p_check_draw := k_check_draw, b_check_draw := ((fun_mk (st := S_check_draw) l_check_draw c_check_draw k_check_draw).binds (ps := ["names", "draw"]) fun _ _ _ _ _ _ us hl => match us, hl with | [_, _], _ => rfl),
    a_order_of := f_order_of, d_order_of := PySem.W.fnOf "order_of" "order_of" (defArgs S_order_of) (defBody S_order_of) (defScope S_order_of) .none kV_order_of dc_order_of pm_order_of an_order_of cd_order_of ct_order_of, F_order_of := fun_mk (st := S_order_of) l_order_of c_order_of k_order_of, g_order_of := PySem.W.mg_of X G a_order_of, p_order_of := k_order_of, b_order_of := ((fun_mk (st := S_order_of) l_order_of c_order_of k_order_of).binds (ps := ["names", "draw"]) fun _ _ _ _ _ _ us hl => match us, hl with | [_, _], _ => rfl),
    a_integer_for := f_integer_for, d_integer_for := PySem.W.fnOf "integer_for" "integer_for" (defArgs S_integer_for) (defBody S_integer_for) (defScope S_integer_for) .none kV_integer_for dc_integer_for pm_integer_for an_integer_for cd_integer_for ct_integer_for, F_integer_for := fun_mk (st := S_integer_for) l_integer_for c_integer_for k_integer_for, g_integer_for := PySem.W.mg_of X G a_integer_for, p_integer_for := k_integer_for, b_integer_for := ((fun_mk (st := S_integer_for) l_integer_for c_integer_for k_integer_for).binds (ps := ["names", "draw", "juror", "order"]) fun _ _ _ _ _ _ us hl => match us, hl with | [_, _, _, _], _ => rfl),
    a__law_draws := f__law_draws, d__law_draws := PySem.W.fnOf "_law_draws" "_law_draws" (defArgs S__law_draws) (defBody S__law_draws) (defScope S__law_draws) .none kV__law_draws dc__law_draws pm__law_draws an__law_draws cd__law_draws ct__law_draws, F__law_draws := fun_mk (st := S__law_draws) l__law_draws c__law_draws k__law_draws, g__law_draws := PySem.W.mg_of X G a__law_draws, p__law_draws := k__law_draws, b__law_draws := ((fun_mk (st := S__law_draws) l__law_draws c__law_draws k__law_draws).binds (ps := ["script"]) fun _ _ _ _ _ _ us hl => match us, hl with | [_], _ => rfl),
    a__law_take := f__law_take, d__law_take := PySem.W.fnOf "_law_take" "_law_take" (defArgs S__law_take) (defBody S__law_take) (defScope S__law_take) .none kV__law_take dc__law_take pm__law_take an__law_take cd__law_take ct__law_take, F__law_take := fun_mk (st := S__law_take) l__law_take c__law_take k__law_take, g__law_take := PySem.W.mg_of X G a__law_take, p__law_take := k__law_take, b__law_take := ((fun_mk (st := S__law_take) l__law_take c__law_take k__law_take).binds (ps := ["draws", "bound"]) fun _ _ _ _ _ _ us hl => match us, hl with | [_, _], _ => rfl),
    a__law_pick := f__law_pick, d__law_pick := PySem.W.fnOf "_law_pick" "_law_pick" (defArgs S__law_pick) (defBody S__law_pick) (defScope S__law_pick) .none kV__law_pick dc__law_pick pm__law_pick an__law_pick cd__law_pick ct__law_pick, F__law_pick := fun_mk (st := S__law_pick) l__law_pick c__law_pick k__law_pick, g__law_pick := PySem.W.mg_of X G a__law_pick, p__law_pick := k__law_pick, b__law_pick := ((fun_mk (st := S__law_pick) l__law_pick c__law_pick k__law_pick).binds (ps := ["draws", "items"]) fun _ _ _ _ _ _ us hl => match us, hl with | [_, _], _ => rfl),
    a__law_shuffled := f__law_shuffled, d__law_shuffled := PySem.W.fnOf "_law_shuffled" "_law_shuffled" (defArgs S__law_shuffled) (defBody S__law_shuffled) (defScope S__law_shuffled) .none kV__law_shuffled dc__law_shuffled pm__law_shuffled an__law_shuffled cd__law_shuffled ct__law_shuffled, F__law_shuffled := fun_mk (st := S__law_shuffled) l__law_shuffled c__law_shuffled k__law_shuffled, g__law_shuffled := PySem.W.mg_of X G a__law_shuffled, p__law_shuffled := k__law_shuffled, b__law_shuffled := ((fun_mk (st := S__law_shuffled) l__law_shuffled c__law_shuffled k__law_shuffled).binds (ps := ["draws", "items"]) fun _ _ _ _ _ _ us hl => match us, hl with | [_, _], _ => rfl),
    a__law_same := f__law_same, d__law_same := PySem.W.fnOf "_law_same" "_law_same" (defArgs S__law_same) (defBody S__law_same) (defScope S__law_same) .none kV__law_same dc__law_same pm__law_same an__law_same cd__law_same ct__law_same, F__law_same := fun_mk (st := S__law_same) l__law_same c__law_same k__law_same, g__law_same := PySem.W.mg_of X G a__law_same, p__law_same := k__law_same, b__law_same := ((fun_mk (st := S__law_same) l__law_same c__law_same k__law_same).binds (ps := ["told", "due"]) fun _ _ _ _ _ _ us hl => match us, hl with | [_, _], _ => rfl),
    a__law_names := f__law_names, d__law_names := PySem.W.fnOf "_law_names" "_law_names" (defArgs S__law_names) (defBody S__law_names) (defScope S__law_names) .none kV__law_names dc__law_names pm__law_names an__law_names cd__law_names ct__law_names, F__law_names := fun_mk (st := S__law_names) l__law_names c__law_names k__law_names, g__law_names := PySem.W.mg_of X G a__law_names, p__law_names := k__law_names, b__law_names := ((fun_mk (st := S__law_names) l__law_names c__law_names k__law_names).binds (ps := ["draws", "count"]) fun _ _ _ _ _ _ us hl => match us, hl with | [_, _], _ => rfl),
    a__law_orders := f__law_orders, d__law_orders := PySem.W.fnOf "_law_orders" "_law_orders" (defArgs S__law_orders) (defBody S__law_orders) (defScope S__law_orders) .none kV__law_orders dc__law_orders pm__law_orders an__law_orders cd__law_orders ct__law_orders, F__law_orders := fun_mk (st := S__law_orders) l__law_orders c__law_orders k__law_orders, g__law_orders := PySem.W.mg_of X G a__law_orders, p__law_orders := k__law_orders, b__law_orders := ((fun_mk (st := S__law_orders) l__law_orders c__law_orders k__law_orders).binds (ps := ["names"]) fun _ _ _ _ _ _ us hl => match us, hl with | [_], _ => rfl),
    a__law_count := f__law_count, d__law_count := PySem.W.fnOf "_law_count" "_law_count" (defArgs S__law_count) (defBody S__law_count) (defScope S__law_count) .none kV__law_count dc__law_count pm__law_count an__law_count cd__law_count ct__law_count, F__law_count := fun_mk (st := S__law_count) l__law_count c__law_count k__law_count, g__law_count := PySem.W.mg_of X G a__law_count, p__law_count := k__law_count, b__law_count := ((fun_mk (st := S__law_count) l__law_count c__law_count k__law_count).binds (ps := ["many"]) fun _ _ _ _ _ _ us hl => match us, hl with | [_], _ => rfl),
    a__law_number := f__law_number, d__law_number := PySem.W.fnOf "_law_number" "_law_number" (defArgs S__law_number) (defBody S__law_number) (defScope S__law_number) .none kV__law_number dc__law_number pm__law_number an__law_number cd__law_number ct__law_number, F__law_number := fun_mk (st := S__law_number) l__law_number c__law_number k__law_number, g__law_number := PySem.W.mg_of X G a__law_number, p__law_number := k__law_number, b__law_number := ((fun_mk (st := S__law_number) l__law_number c__law_number k__law_number).binds (ps := ["order"]) fun _ _ _ _ _ _ us hl => match us, hl with | [_], _ => rfl),
    a__law_told := f__law_told, d__law_told := PySem.W.fnOf "_law_told" "_law_told" (defArgs S__law_told) (defBody S__law_told) (defScope S__law_told) .none kV__law_told dc__law_told pm__law_told an__law_told cd__law_told ct__law_told, F__law_told := fun_mk (st := S__law_told) l__law_told c__law_told k__law_told, g__law_told := PySem.W.mg_of X G a__law_told, p__law_told := k__law_told, b__law_told := ((fun_mk (st := S__law_told) l__law_told c__law_told k__law_told).binds (ps := ["kind", "names", "thing", "juror", "order"]) fun _ _ _ _ _ _ us hl => match us, hl with | [_, _, _, _, _], _ => rfl),
    a__law_drawn := f__law_drawn, d__law_drawn := PySem.W.fnOf "_law_drawn" "_law_drawn" (defArgs S__law_drawn) (defBody S__law_drawn) (defScope S__law_drawn) .none kV__law_drawn dc__law_drawn pm__law_drawn an__law_drawn cd__law_drawn ct__law_drawn, F__law_drawn := fun_mk (st := S__law_drawn) l__law_drawn c__law_drawn k__law_drawn, g__law_drawn := PySem.W.mg_of X G a__law_drawn, p__law_drawn := k__law_drawn, b__law_drawn := ((fun_mk (st := S__law_drawn) l__law_drawn c__law_drawn k__law_drawn).binds (ps := ["draws", "many"]) fun _ _ _ _ _ _ us hl => match us, hl with | [_, _], _ => rfl),
    a__law_is_draw_right := f__law_is_draw_right, d__law_is_draw_right := PySem.W.fnOf "_law_is_draw_right" "_law_is_draw_right" (defArgs S__law_is_draw_right) (defBody S__law_is_draw_right) (defScope S__law_is_draw_right) .none kV__law_is_draw_right dc__law_is_draw_right pm__law_is_draw_right an__law_is_draw_right cd__law_is_draw_right ct__law_is_draw_right, F__law_is_draw_right := fun_mk (st := S__law_is_draw_right) l__law_is_draw_right c__law_is_draw_right k__law_is_draw_right, g__law_is_draw_right := PySem.W.mg_of X G a__law_is_draw_right, p__law_is_draw_right := k__law_is_draw_right, b__law_is_draw_right := ((fun_mk (st := S__law_is_draw_right) l__law_is_draw_right c__law_is_draw_right k__law_is_draw_right).binds (ps := ["draws", "names"]) fun _ _ _ _ _ _ us hl => match us, hl with | [_, _], _ => rfl),
    a__law_mirror := f__law_mirror, d__law_mirror := PySem.W.fnOf "_law_mirror" "_law_mirror" (defArgs S__law_mirror) (defBody S__law_mirror) (defScope S__law_mirror) .none kV__law_mirror dc__law_mirror pm__law_mirror an__law_mirror cd__law_mirror ct__law_mirror, F__law_mirror := fun_mk (st := S__law_mirror) l__law_mirror c__law_mirror k__law_mirror, g__law_mirror := PySem.W.mg_of X G a__law_mirror, p__law_mirror := k__law_mirror, b__law_mirror := ((fun_mk (st := S__law_mirror) l__law_mirror c__law_mirror k__law_mirror).binds (ps := ["names", "order"]) fun _ _ _ _ _ _ us hl => match us, hl with | [_, _], _ => rfl),
    a_law := f_law, d_law := PySem.W.fnOf "law" "law" (defArgs S_law) (defBody S_law) (defScope S_law) .none kV_law dc_law pm_law an_law cd_law ct_law, F_law := fun_mk (st := S_law) l_law c_law k_law, g_law := PySem.W.mg_of X G a_law, p_law := k_law, b_law := ((fun_mk (st := S_law) l_law c_law k_law).binds (ps := ["script"]) fun _ _ _ _ _ _ us hl => match us, hl with | [_], _ => rfl),
    a__law_raised := f__law_raised, d__law_raised := PySem.W.fnOf "_law_raised" "_law_raised" (defArgs S__law_raised) (defBody S__law_raised) (defScope S__law_raised) .none kV__law_raised dc__law_raised pm__law_raised an__law_raised cd__law_raised ct__law_raised, F__law_raised := fun_mk (st := S__law_raised) l__law_raised c__law_raised k__law_raised, g__law_raised := PySem.W.mg_of X G a__law_raised, p__law_raised := k__law_raised, b__law_raised := ((fun_mk (st := S__law_raised) l__law_raised c__law_raised k__law_raised).binds (ps := ["error"]) fun _ _ _ _ _ _ us hl => match us, hl with | [_], _ => rfl),
    k_FIGURES := ⟨_, PySem.W.mg_of X G q_FIGURES⟩,
    k_LETTERS := ⟨_, PySem.W.mg_of X G q_LETTERS⟩,
    k_LONGEST := ⟨_, PySem.W.mg_of X G q_LONGEST⟩,
    k_MOST_NAMES := ⟨_, PySem.W.mg_of X G q_MOST_NAMES⟩,
    z_abs := PySem.W.mg_none_of X G z_abs,
    z_all := PySem.W.mg_none_of X G z_all,
    z_bool := PySem.W.mg_none_of X G z_bool,
    z_dict := PySem.W.mg_none_of X G z_dict,
    z_int := PySem.W.mg_none_of X G z_int,
    z_isinstance := PySem.W.mg_none_of X G z_isinstance,
    z_len := PySem.W.mg_none_of X G z_len,
    z_list := PySem.W.mg_none_of X G z_list,
    z_range := PySem.W.mg_none_of X G z_range,
    z_repr := PySem.W.mg_none_of X G z_repr,
    z_reversed := PySem.W.mg_none_of X G z_reversed,
    z_sorted := PySem.W.mg_none_of X G z_sorted,
    z_str := PySem.W.mg_none_of X G z_str,
    z_sum := PySem.W.mg_none_of X G z_sum,
    z_tuple := PySem.W.mg_none_of X G z_tuple,
    z_zip := PySem.W.mg_none_of X G z_zip,
    c_LaurelError := c_LaurelError, g_LaurelError := PySem.W.mg_of X G aC_LaurelError,
    c_NotRight := c_NotRight, g_NotRight := PySem.W.mg_of X G aC_NotRight,
    c_NotThere := c_NotThere, g_NotThere := PySem.W.mg_of X G aC_NotThere,
    c_NoAnswer := c_NoAnswer, g_NoAnswer := PySem.W.mg_of X G aC_NoAnswer,
    c_TooLarge := c_TooLarge, g_TooLarge := PySem.W.mg_of X G aC_TooLarge,
    x_NotRight := x_NotRight, p_NotRight := p_NotRight, s_NotRight := s_NotRight, t_NotRight := t_NotRight,
    x_NotThere := x_NotThere, p_NotThere := p_NotThere, s_NotThere := s_NotThere, t_NotThere := t_NotThere,
    C_NotRight := ⟨Chg_NotRight, Chk_NotRight, Chs_NotRight, Chd_NotRight, Cha_NotRight, Chn_NotRight, Cht_NotRight, Chm_NotRight⟩,
    i_NotRight_NotRight := i_NotRight_NotRight,
    i_NotRight_NotThere := i_NotRight_NotThere,
    i_NotRight_NoAnswer := i_NotRight_NoAnswer,
    i_NotRight_TooLarge := i_NotRight_TooLarge,
    m_NotRight := m_NotRight,
    C_NotThere := ⟨Chg_NotThere, Chk_NotThere, Chs_NotThere, Chd_NotThere, Cha_NotThere, Chn_NotThere, Cht_NotThere, Chm_NotThere⟩,
    i_NotThere_NotRight := i_NotThere_NotRight,
    i_NotThere_NotThere := i_NotThere_NotThere,
    i_NotThere_NoAnswer := i_NotThere_NoAnswer,
    i_NotThere_TooLarge := i_NotThere_TooLarge,
    m_NotThere := m_NotThere,
    C_NoAnswer := ⟨Chg_NoAnswer, Chk_NoAnswer, Chs_NoAnswer, Chd_NoAnswer, Cha_NoAnswer, Chn_NoAnswer, Cht_NoAnswer, Chm_NoAnswer⟩,
    i_NoAnswer_NotRight := i_NoAnswer_NotRight,
    i_NoAnswer_NotThere := i_NoAnswer_NotThere,
    i_NoAnswer_NoAnswer := i_NoAnswer_NoAnswer,
    i_NoAnswer_TooLarge := i_NoAnswer_TooLarge,
    m_NoAnswer := m_NoAnswer,
    C_TooLarge := ⟨Chg_TooLarge, Chk_TooLarge, Chs_TooLarge, Chd_TooLarge, Cha_TooLarge, Chn_TooLarge, Cht_TooLarge, Chm_TooLarge⟩,
    i_TooLarge_NotRight := i_TooLarge_NotRight,
    i_TooLarge_NotThere := i_TooLarge_NotThere,
    i_TooLarge_NoAnswer := i_TooLarge_NoAnswer,
    i_TooLarge_TooLarge := i_TooLarge_TooLarge,
    m_TooLarge := m_TooLarge }
  exact ⟨Gx.d_law, fun s v => .of_eq rfl, fun base hb _ => fn_law Gx⟩
end K78
set_option maxRecDepth 100000
namespace K78
open PySem PySem.Spec PyProof.Rows L2 DL
/-- the draws that are left -/
abbrev dr (xs : List Int) : D := .list (xs.map .int)
theorem w_take (xs : List Int) {b : Int} (hb : 0 < b) : ∃ k ys, m__law_takeI (dr xs) [.int b] = .ok (.int k, dr ys) ∧ 0 ≤ k ∧ k < b := by
  rcases List.eq_nil_or_concat xs with rfl | ⟨ys, x, rfl⟩
  · refine ⟨0, [], callI_rt ?_, by omega, hb⟩
    simp (maxSteps := 10000000) (disch := first | omega | (simp; done) | (simp; omega)) [s__law_takeI]
  · refine ⟨x % b, ys, callI_rt ?_, Int.emod_nonneg _ (by omega), Int.emod_lt_of_pos _ hb⟩
    simp (maxSteps := 10000000) (disch := first | omega | (simp; done) | (simp; omega)) [s__law_takeI, hb, if_neg]
theorem w_takeN (xs : List Int) {b : Nat} (hb : 0 < b) : ∃ (k : Nat) (ys : List Int), m__law_takeI (dr xs) [.int b] = .ok (.int k, dr ys) ∧ k < b := by
  obtain ⟨k, ys, h1, h2, h3⟩ := w_take xs (b := b) (by omega)
  obtain ⟨j, rfl⟩ := Int.eq_ofNat_of_zero_le h2
  exact ⟨j, ys, h1, by omega⟩
theorem w_pick (xs : List Int) {ds : List D} (d : D) (hd : d = .list ds ∨ d = .tuple ds) (h : ds ≠ []) : ∃ y ys, m__law_pickI (dr xs) [d] = .ok (y, dr ys) ∧ y ∈ ds := by
  obtain ⟨j, ys, h1, hj⟩ := w_takeN xs (b := ds.length) (List.length_pos_iff.mpr h)
  refine ⟨ds[j], ys, callI_rt ?_, List.getElem_mem hj⟩
  rcases hd with rfl | rfl <;> simp (maxSteps := 10000000) (disch := first | omega | (simp; done) | (simp; omega)) [s__law_pickI, h1, atI_nat hj]
theorem w_pickS (xs : List Int) (x : Str) (h : x.length ≤ 100000) (h0 : cs x ≠ []) : ∃ c ys, m__law_pickI (dr xs) [.str x] = .ok (.str ⟨#[c]⟩, dr ys) ∧ c ∈ cs x := by
  have hl := str_len x
  obtain ⟨j, ys, h1, hj⟩ := w_takeN xs (b := (cs x).length) (List.length_pos_iff.mpr h0)
  exact ⟨(cs x)[j], ys, callI_rt (by simp (maxSteps := 10000000) (disch := first | omega | (simp; done) | (simp; omega)) [s__law_pickI, h1, hj]), List.getElem_mem hj⟩
theorem w_shuffled (xs : List Int) {ds : List D} (d : D) (hd : d = .list ds ∨ d = .tuple ds) (h : ds.length ≤ 1000) : ∃ es ys, m__law_shuffledI (dr xs) [d] = .ok (.list es, dr ys) ∧ es.Perm ds := by
  obtain ⟨⟨ys, w, f⟩, h1, h2, h3⟩ := forGo_all (γ := gVar 4) (b := b__law_shuffledI_1) (fun i : Nat => PyData.int (i : Int)) (fun (a : List Int × List D × List D) => [.io (dr a.1), .sh d, .ow (.list a.2.1), .ow (.list a.2.2), .un])
    (fun r a => a.2.1.length = r.length ∧ (a.2.2 ++ a.2.1).Perm ds) (fun x r a ha => by
      obtain ⟨ys, w, f⟩ := a
      obtain ⟨h1, h2⟩ := ha
      have hl := h2.length_eq
      simp at h1 hl
      obtain ⟨j, zs, h3, hj⟩ := w_takeN ys (b := w.length) (by omega)
      refine ⟨_, ⟨zs, w.eraseIdx j, f ++ [w[j]]⟩, rfl, ?_, ?_, ?_⟩
      · simp (maxSteps := 10000000) (disch := first | omega | (simp; done) | (simp; omega)) [b__law_shuffledI_1, h3, hj]
      · simp [List.length_eraseIdx, hj]; omega
      · rw [List.append_assoc]
        exact (List.Perm.append_left f (cons_eraseIdx_perm _ _ hj)).trans h2) (List.range ds.length) (xs, ds, []) (by simp)
  refine ⟨f, ys, callI_rt ?_, ?_⟩
  · rcases hd with rfl | rfl <;> simp (maxSteps := 10000000) (disch := first | omega | (simp; done) | (simp; omega)) [s__law_shuffledI, h1]
  · have : w = [] := by simpa using h2
    simpa [this] using h3

def spareL : List Str := (List.range 60).map fun i : Nat => ("n" : Str) ++ Str.ofString (toString (i : Int))
theorem spare_nodup : spareL.Nodup := by decide +kernel
theorem spare_nm : ∀ x ∈ spareL, Nm x := by
  have : spareL.all (fun x => decide ((cs x).length ≤ 12) && (match cs x with | [] => false | c :: _ => isLow c) && (cs x).all (fun c => isLow c || isFig c)) = true := by decide +kernel
  intro x hx
  have := List.all_eq_true.mp this x hx
  simp only [Bool.and_eq_true, decide_eq_true_eq] at this
  refine ⟨this.1.1, ?_, fun c hc => by simpa using List.all_eq_true.mp this.2 c hc⟩
  have h2 := this.1.2
  split at h2
  · cases h2
  · next c r e => exact ⟨c, r, e, h2⟩
theorem spare_len : ∀ x ∈ spareL, (cs x).length ≠ 11 := fun x hx => by
  have : spareL.all (fun x => decide ((cs x).length ≠ 11)) = true := by decide +kernel
  simpa using List.all_eq_true.mp this x hx
theorem names_loop (xs : List Int) (x : Str) {n m : Nat} (hx : (cs x).length = m) (hm : m + n ≤ 12) (hf : ∃ c r, cs x = c :: r ∧ isLow c = true) (ha : ∀ c ∈ cs x, isLow c = true ∨ isFig c = true) (a1 a2 a3 a4 a7 : Sl) :
    ∃ ys y, forGo (gVar 6) b__law_namesI_2 ((List.range n).map fun i : Nat => PyData.int (i : Int)) [.io (dr xs), a1, a2, a3, a4, .sh (.str x), .un, a7] = .ok (.nx [.io (dr ys), a1, a2, a3, a4, .sh (.str y), .un, a7]) ∧ Nm y ∧ (cs y).length = m + n := by
  obtain ⟨⟨ys, y⟩, h1, h2, h3, h4⟩ := forGo_all (γ := gVar 6) (b := b__law_namesI_2) (fun i : Nat => PyData.int (i : Int)) (fun (a : List Int × Str) => [.io (dr a.1), a1, a2, a3, a4, .sh (.str a.2), .un, a7])
    (fun r a => (cs a.2).length + r.length = m + n ∧ (∃ c r, cs a.2 = c :: r ∧ isLow c = true) ∧ (∀ c ∈ cs a.2, isLow c = true ∨ isFig c = true)) (fun k r a ⟨h1, h2, h3⟩ => by
      obtain ⟨ys, y⟩ := a
      obtain ⟨c, zs, g1, g2⟩ := w_pickS ys abc9 (by rw [str_len, abc9_l]; decide) (by rw [abc9_l]; decide)
      refine ⟨_, ⟨zs, y ++ ⟨#[c]⟩⟩, rfl, ?_, ?_, ?_, ?_⟩
      · simp at h1
        have : (y ++ ⟨#[c]⟩ : Str).length ≤ 100000 := by rw [str_len, cs_app]; simp [cs_one]; omega
        simp (maxSteps := 10000000) (disch := first | omega | (simp; done) | (simp; omega)) [b__law_namesI_2, g1]
      · simp [cs_app, cs_one] at h1 ⊢; omega
      · obtain ⟨c', r', e, l⟩ := h2
        exact ⟨c', r' ++ [c], by simp [cs_app, cs_one, show cs y = _ from e], l⟩
      · intro c' hc
        rw [cs_app] at hc
        rcases List.mem_append.mp hc with hc | hc
        · exact h3 c' hc
        · simp [cs_one] at hc; subst hc; exact mem_abc9.mp g2) (List.range n) (xs, x) ⟨by simp [hx], hf, ha⟩
  simp only [List.length_nil, Nat.add_zero] at h2
  exact ⟨ys, y, h1, ⟨by omega, h3, h4⟩, h2⟩
theorem spare_left {ns : List Str} (h : ns.length < 60) : ∃ x r, spareL.filter (fun x => !decide (x ∈ ns)) = x :: r := by
  cases e : spareL.filter (fun x => !decide (x ∈ ns)) with
  | cons x r => exact ⟨x, r, rfl⟩
  | nil =>
    have hs : spareL ⊆ ns := fun x hx => by
      have := List.filter_eq_nil_iff.mp e x hx
      simpa using this
    have := List.Nodup.length_le_of_subset spare_nodup hs
    have : spareL.length = 60 := by decide +kernel
    omega
theorem w_names (xs : List Int) {n : Nat} (hn : n ≤ 59) : ∃ (ns : List Str) (ys : List Int), m__law_namesI (dr xs) [.int n] = .ok (.list (ns.map .str), dr ys) ∧ ns.length = n ∧ ns.Nodup ∧ (∀ x ∈ ns, Nm x) ∧ ∀ x ∈ ns, (cs x).length ≠ 11 := by
  obtain ⟨⟨ys, ns⟩, h1, h2, h3, h4⟩ := forGo_all (γ := gVar 4) (b := b__law_namesI_5) (fun i : Nat => PyData.int (i : Int)) (fun (a : List Int × List Str) => [.io (dr a.1), .sh (.int n), .sh (.list (spareL.map .str)), .ow (.list (a.2.map .str)), .un, .un, .un, .un])
    (fun r a => a.2.length + r.length = n ∧ a.2.Nodup ∧ ∀ x ∈ a.2, Nm x ∧ (cs x).length ≠ 11) (fun k r a ⟨h1, h2, h3⟩ => by
      obtain ⟨ys, ns⟩ := a
      obtain ⟨c, zs, g1, g2⟩ := w_pickS ys abc (by rw [str_len, abc_l]; decide) (by rw [abc_l]; decide)
      obtain ⟨kd, ws, g3, g4⟩ := w_pick zs (ds := [.int 0, .int 1, .int 2, .int 2, .int 11]) _ (.inl rfl) (by simp)
      have : ∃ t : Nat, kd = .int t ∧ t ≤ 11 ∧ t ≠ 10 := by
        simp only [List.mem_cons, List.not_mem_nil, or_false] at g4
        rcases g4 with e | e | e | e | e <;> exact ⟨_, e, by decide, by decide⟩
      obtain ⟨t, rfl, ht, ht10⟩ := this
      obtain ⟨vs, y, g5, g6, g7⟩ := names_loop ws ⟨#[c]⟩ (n := t) (m := 1) rfl (by omega) ⟨c, [], rfl, mem_abc.mp g2⟩ (fun c' hc => by
        simp [cs_one] at hc; subst hc; exact .inl (mem_abc.mp g2)) (.sh (.int n)) (.sh (.list (spareL.map .str))) (.ow (.list (ns.map .str))) (.sh (.int k)) .un
      simp only [List.length_cons] at h1
      have hl : ns.length < 60 := by omega
      by_cases hy : y ∈ ns
      · obtain ⟨x, r', e⟩ := spare_left hl
        have hx : x ∈ spareL.filter (fun x => !decide (x ∈ ns)) := by rw [e]; exact List.mem_cons_self
        obtain ⟨hx1, hx2⟩ := List.mem_filter.mp hx
        have hx2 : x ∉ ns := by simpa using hx2
        refine ⟨_, ⟨vs, ns ++ [x]⟩, rfl, ?_, ?_, ?_, ?_⟩
        · have ec := eComp_of (γ := gVar 7) (ι := iSrc seqD (eVar 2)) (τ := t__law_namesI_4) (ε := e__law_namesI_3) (vs := [7]) (s := [.io (dr vs), .sh (.int n), .sh (.list (spareL.map .str)), .ow (.list (ns.map .str)), .sh (.int k), .sh (.str y), .un, .un])
            (s1 := [.io (dr vs), .sh (.int n), .sh (.list (spareL.map .str)), .ow (.list (ns.map .str)), .sh (.int k), .sh (.str y), .un, .un]) (s0 := [.io (dr vs), .sh (.int n), .sh (.list (spareL.map .str)), .ow (.list (ns.map .str)), .sh (.int k), .sh (.str y), .un, .un])
            PyData.str (fun x => !decide (x ∈ ns)) PyData.str (xs := spareL) (by simp) (by simp) (fun x _ => ⟨_, rfl, by simp [t__law_namesI_4, ninA_ls], fun _ => by simp (maxSteps := 10000000) (disch := first | omega | (simp; done) | (simp; omega)) [e__law_namesI_3], by simp⟩) (by decide +kernel)
          simp (maxSteps := 10000000) (disch := first | omega | (simp; done) | (simp; omega)) [b__law_namesI_5, g1, g3, g5, inA_ls, hy, ec, e]
        · simp; omega
        · exact nodup_snoc h2 hx2
        · intro z hz
          rcases List.mem_append.mp hz with hz | hz
          · exact h3 z hz
          · rw [List.mem_singleton.mp hz]; exact ⟨spare_nm x hx1, spare_len x hx1⟩
      · refine ⟨_, ⟨vs, ns ++ [y]⟩, rfl, ?_, ?_, ?_, ?_⟩
        · simp (maxSteps := 10000000) (disch := first | omega | (simp; done) | (simp; omega)) [b__law_namesI_5, g1, g3, g5, inA_ls, hy]
        · simp; omega
        · exact nodup_snoc h2 hy
        · intro z hz
          rcases List.mem_append.mp hz with hz | hz
          · exact h3 z hz
          · rw [List.mem_singleton.mp hz]; exact ⟨g6, by omega⟩) (List.range n) (xs, []) (by simp)
  refine ⟨ns, ys, callI_rt ?_, by simpa using h2, h3, fun x hx => (h4 x hx).1, fun x hx => (h4 x hx).2⟩
  have ec := eComp_map' (γ := gVar 6) (ι := iRng (aCons (eC (.int 60)) aNil)) (ε := e__law_namesI_1) (vs := [6]) (s := [.io (dr xs), .sh (.int n), .un, .un, .un, .un, .un, .un])
    (s1 := [.io (dr xs), .sh (.int n), .un, .un, .un, .un, .un, .un]) (s0 := [.io (dr xs), .sh (.int n), .un, .un, .un, .un, .un, .un])
    (fun i : Nat => PyData.int (i : Int)) (fun i => .str (("n" : Str) ++ Str.ofString (toString (i : Int)))) (xs := List.range 60) (by simp (maxSteps := 10000000) (disch := first | omega | (simp; done) | (simp; omega))) (by simp) (fun i hi => ⟨_, rfl, by
      have hi := List.mem_range.mp hi
      have h9 : ∀ i : Nat, i < 60 → (("n" : Str).length + (Str.ofString (toString (i : Int))).length ≤ 100000) := by decide +kernel
      have e1 : addG (.str "n") (.str (Str.ofString (toString (i : Int)))) = some (.str (("n" : Str) ++ Str.ofString (toString (i : Int)))) := addG_ss (h9 i hi)
      have e2 : strG [.int i] = some (.str (Str.ofString (toString (i : Int)))) := strG_i (by
        have : (2:Nat) ^ 6 ≤ 2 ^ 1920 := Nat.pow_le_pow_right (by decide) (by decide)
        omega)
      simp [e__law_namesI_1, e1, e2, -Int.toString_eq_repr], by simp⟩) (by decide)
  have e2 : ((List.range 60).map fun i : Nat => PyData.str (("n" : Str) ++ Str.ofString (toString (i : Int)))) = spareL.map .str := by simp [spareL]
  rw [e2] at ec
  simp at h1
  simp (maxSteps := 10000000) (disch := first | omega | (simp; done) | (simp; omega)) [s__law_namesI, ec, h1]
/-- the draws -/
theorem draws_l1 (d : List Int) (n : Int) (hd : d.length ≤ 90000) (a0 a2 a3 a6 : Sl) : ∃ (e : List Int) (m : Int), forGo (gVar 4) b__law_drawsF_1 ((List.range 60).map fun i : Nat => PyData.int (i : Int)) [a0, .ow (.list (d.map .int)), a2, a3, .un, .sh (.int n), a6] = .ok (.nx [a0, .ow (.list (e.map .int)), a2, a3, .un, .sh (.int m), a6]) ∧ e.length ≤ d.length + 60 := by
  obtain ⟨⟨e, m⟩, h1, h2⟩ := forGo_all (γ := gVar 4) (b := b__law_drawsF_1) (fun i : Nat => PyData.int (i : Int)) (fun (a : List Int × Int) => [a0, .ow (.list (a.1.map .int)), a2, a3, .un, .sh (.int a.2), a6])
    (fun r a => a.1.length + r.length ≤ d.length + 60) (fun k r a ha => by
      obtain ⟨e, m⟩ := a
      simp only [List.length_cons] at ha
      by_cases hm : 0 < m
      · exact ⟨_, ⟨e ++ [m % 997], m / 997⟩, rfl, by simp (maxSteps := 10000000) (disch := first | omega | (simp; done) | (simp; omega)) [b__law_drawsF_1, hm], by simp; omega⟩
      · exact ⟨_, ⟨e, m⟩, rfl, by simp (maxSteps := 10000000) (disch := first | omega | (simp; done) | (simp; omega)) [b__law_drawsF_1, hm], by simp; omega⟩) (List.range 60) (d, n) (by simp)
  exact ⟨e, m, h1, by simpa using h2⟩
theorem w_draws (ns : List Int) (h : ns.length ≤ 63) : ∃ ys : List Int, m__law_drawsF [.list (ns.map .int)] = .ok (dr ys) := by
  obtain ⟨d, h1, h2⟩ := forGo_all (γ := gVar 2) (b := b__law_drawsF_2) PyData.int (fun (a : List Int) => [.sh (.list (ns.map .int)), .ow (.list (a.map .int)), .un, .un, .un, .un, .un])
    (fun r a => a.length + 62 * r.length ≤ 62 * 63) (fun x r a ha => by
      simp only [List.length_cons] at ha
      by_cases hx : (if x < 0 then -x else x) < 1000000000000000000
      · obtain ⟨e, m, g1, g2⟩ := draws_l1 (a ++ [((((if x < 0 then -x else x) * 48271 + 11) % 2147483647 * 69621 + if x < 0 then -x else x) % 2147483629), ((((if x < 0 then -x else x) * 48271 + 11) % 2147483647 + (if x < 0 then -x else x) / 7) % 1000003)]) 0 (by simp; omega) (.sh (.list (ns.map .int))) (.sh (.int x)) .un .un
        simp at g1
        exact ⟨_, e, rfl, by simp (maxSteps := 10000000) (disch := first | omega | (simp; done) | (simp; omega)) [b__law_drawsF_2, hx, g1], by simp at g2; omega⟩
      · obtain ⟨e, m, g1, g2⟩ := draws_l1 a (if x < 0 then -x else x) (by omega) (.sh (.list (ns.map .int))) (.sh (.int x)) .un .un
        exact ⟨_, e, rfl, by simp (maxSteps := 10000000) (disch := first | omega | (simp; done) | (simp; omega)) [b__law_drawsF_2, hx, g1], by omega⟩) ns [] (by simp; omega)
  have key : ∀ s : Int, ∃ e : List Int, ∃ s' : Int, forGo (gVar 4) b__law_drawsF_3 ((List.range 900).map fun i : Nat => PyData.int (i : Int)) [.sh (.list (ns.map .int)), .ow (.list (d.map .int)), .un, .sh (.int s), .un, .un, .un] = .ok (.nx [.sh (.list (ns.map .int)), .ow (.list (e.map .int)), .un, .sh (.int s'), .un, .un, .un]) := by
    intro s
    obtain ⟨⟨e, m⟩, h3, _⟩ := forGo_all (γ := gVar 4) (b := b__law_drawsF_3) (fun i : Nat => PyData.int (i : Int)) (fun (a : List Int × Int) => [.sh (.list (ns.map .int)), .ow (.list (a.1.map .int)), .un, .sh (.int a.2), .un, .un, .un])
      (fun r a => a.1.length + r.length ≤ 62 * 63 + 900) (fun k r a ha => by
        obtain ⟨e, m⟩ := a
        simp only [List.length_cons] at ha
        exact ⟨_, ⟨e ++ [(m * 48271 + 69621) % 2147483647 / 5], (m * 48271 + 69621) % 2147483647⟩, rfl, by simp (maxSteps := 10000000) (disch := first | omega | (simp; done) | (simp; omega)) [b__law_drawsF_3], by simp; omega⟩) (List.range 900) (d, s) (by simp at h2 ⊢; omega)
    exact ⟨e, m, h3⟩
  cases ns with
  | nil =>
    obtain ⟨e, s', h3⟩ := key 1
    simp at h1 h3
    exact ⟨e.reverse, callF_rf (by simp (maxSteps := 10000000) (disch := first | omega | (simp; done) | (simp; omega)) [s__law_drawsF, h1, h3, revG])⟩
  | cons n ns =>
    obtain ⟨e, s', h3⟩ := key (1 + if n < 0 then -n else n)
    simp at h1 h3
    exact ⟨e.reverse, callF_rf (by simp (maxSteps := 10000000) (disch := first | omega | (simp; done) | (simp; omega)) [s__law_drawsF, h1, h3, revG])⟩
end K78
set_option maxRecDepth 100000
namespace K78
open PySem PySem.Spec PyProof.Rows L2 DL
/-! names -/
def nmB (x : Str) : Bool := decide ((cs x).length ≤ 12) && (match cs x with | [] => false | c :: _ => isLow c) && (cs x).all fun c => isLow c || isFig c
theorem nmB_iff {x : Str} : nmB x = true ↔ Nm x := by
  unfold nmB
  constructor
  · intro h
    simp only [Bool.and_eq_true, decide_eq_true_eq] at h
    refine ⟨h.1.1, ?_, fun c hc => by simpa using List.all_eq_true.mp h.2 c hc⟩
    have h2 := h.1.2
    split at h2
    · cases h2
    · next c r e => exact ⟨c, r, e, h2⟩
  · intro h
    obtain ⟨c, r, e, l⟩ := h.fst
    simp only [Bool.and_eq_true, decide_eq_true_eq]
    refine ⟨⟨h.len, by rw [e]; exact l⟩, List.all_eq_true.mpr fun c hc => by simpa using h.all c hc⟩
def nmD : D → Bool
  | .str x => nmB x
  | _ => false
theorem w_is_name (d : D) (h : ∀ x, d = .str x → (cs x).length ≤ 100000) : m_is_name [d] = .ok (.bool (nmD d)) := by
  refine callD_rt ?_
  cases d with
  | str x =>
    have h := h x rfl
    by_cases h1 : 1 ≤ (cs x).length ∧ (cs x).length ≤ 12
    · obtain ⟨c, r, e⟩ : ∃ c r, cs x = c :: r := by
        cases e : cs x with
        | nil => rw [e] at h1; simp at h1
        | cons c r => exact ⟨c, r, rfl⟩
      have ec := eComp_map' (γ := gVar 1) (ι := iSrc seqD (eVar 0)) (ε := e_is_name_1) (vs := [1]) (s := [.sh (.str x), .un]) (s1 := [.sh (.str x), .un]) (s0 := [.sh (.str x), .un])
        (fun c : Nat => PyData.str ⟨#[c]⟩) (fun c => .bool (isLow c || isFig c)) (xs := cs x) (by simp (maxSteps := 10000000) (disch := first | omega | (simp; done) | (simp; omega))) (by simp (maxSteps := 10000000) (disch := first | omega | (simp; done) | (simp; omega))) (fun c hc => ⟨_, rfl, by simp (maxSteps := 10000000) (disch := first | omega | (simp; done) | (simp; omega)) [e_is_name_1]; cases isLow c <;> rfl, by simp (maxSteps := 10000000) (disch := first | omega | (simp; done) | (simp; omega))⟩) (by omega)
      have hx : (cs x).length = r.length + 1 := by rw [e]; rfl
      rw [e] at ec
      cases h2 : isLow c <;> simp (maxSteps := 10000000) (disch := first | omega | (simp; done) | (simp; omega)) [s_is_name, ec, e, nmD, nmB, h2, h1, if_pos, if_neg, Function.comp_def]
      exact fun _ => by omega
    · by_cases h2 : 1 ≤ (cs x).length
      · have h3 : 12 < (cs x).length := by omega
        simp (maxSteps := 10000000) (disch := first | omega | (simp; done) | (simp; omega)) [s_is_name, nmD, nmB, if_pos, if_neg]
        exact fun h _ => by omega
      · have : cs x = [] := by
          cases e : cs x with
          | nil => rfl
          | cons => rw [e] at h2; simp at h2
        simp (maxSteps := 10000000) (disch := first | omega | (simp; done) | (simp; omega)) [s_is_name, nmD, nmB, this]
  | _ => simp (maxSteps := 10000000) (disch := first | omega | (simp; done) | (simp; omega)) [s_is_name, nmD]

theorem w_is_integer (d : D) : m_is_integer [d] = .ok (.bool (d.isInt && !d.isBool)) := by
  refine callD_rt ?_
  cases d <;> simp (maxSteps := 10000000) (disch := first | omega | (simp; done) | (simp; omega)) [s_is_integer]
theorem zipW (ns ms : List Str) : List.zipWith (fun x y => PyData.tuple [x, y]) (ns.map PyData.str) (ms.map PyData.str) = (ns.zip ms).map fun p => PyData.tuple [.str p.1, .str p.2] := by
  induction ns generalizing ms with
  | nil => rfl
  | cons a r ih => cases ms with
    | nil => rfl
    | cons b t => simp [ih]
theorem w_are_names (ns : List Str) (hl : ns.length ≤ 100000) (h : ∀ x ∈ ns, Nm x) : m_are_names [.tuple (ns.map .str)] = .ok (.bool (adjB ns)) := by
  refine callD_rt ?_
  have e1 := eComp_map' (γ := gVar 1) (ι := iSrc seqD (eVar 0)) (ε := e_are_names_1) (vs := [1]) (s := [.sh (.tuple (ns.map .str)), .un, .un]) (s1 := [.sh (.tuple (ns.map .str)), .un, .un]) (s0 := [.sh (.tuple (ns.map .str)), .un, .un])
    PyData.str (fun x => .bool (nmB x)) (xs := ns) (by simp (maxSteps := 10000000) (disch := first | omega | (simp; done) | (simp; omega))) (by simp (maxSteps := 10000000) (disch := first | omega | (simp; done) | (simp; omega))) (fun x hx => ⟨_, rfl, by simp (maxSteps := 10000000) (disch := first | omega | (simp; done) | (simp; omega)) [e_are_names_1, w_is_name (.str x) (fun z e => by cases (PyData.str.inj e); have := (h x hx).len; omega), nmD], by simp (maxSteps := 10000000) (disch := first | omega | (simp; done) | (simp; omega))⟩) hl
  have e2 := eComp_map' (γ := gTupD 2 (gsCons (gVar 1) (gsCons (gVar 2) gsNil))) (ι := iArg zipG (aCons (eVar 0) (aCons (eSl (eVar 0) (oInt (eC (.int 1))) oNo) aNil))) (ε := e_are_names_2) (vs := [1, 2]) (s := [.sh (.tuple (ns.map .str)), .un, .un]) (s1 := [.sh (.tuple (ns.map .str)), .un, .un]) (s0 := [.sh (.tuple (ns.map .str)), .un, .un])
    (fun p : Str × Str => PyData.tuple [.str p.1, .str p.2]) (fun p => .bool (sLt p.1 p.2)) (xs := ns.zip ns.tail) (by simp (maxSteps := 10000000) (disch := first | omega | (simp; done) | (simp; omega)); rw [← List.map_tail, zipW]) (by simp (maxSteps := 10000000) (disch := first | omega | (simp; done) | (simp; omega))) (fun p hp => ⟨_, rfl, by simp (maxSteps := 10000000) (disch := first | omega | (simp; done) | (simp; omega)) [e_are_names_2], by simp (maxSteps := 10000000) (disch := first | omega | (simp; done) | (simp; omega))⟩) (by simp; omega)
  have e3 : ns.all nmB = true := List.all_eq_true.mpr fun x hx => nmB_iff.mpr (h x hx)
  simp (maxSteps := 10000000) (disch := first | omega | (simp; done) | (simp; omega)) [s_are_names, e1, e2, e3, adjB, Function.comp_def]
theorem w_are_names_f (ds : List D) (hl : ds.length ≤ 100000) (hs : ∀ x, .str x ∈ ds → (cs x).length ≤ 100000) (h : ds.all nmD = false) : m_are_names [.tuple ds] = .ok (.bool false) := by
  refine callD_rt ?_
  have e1 := eComp_map' (γ := gVar 1) (ι := iSrc seqD (eVar 0)) (ε := e_are_names_1) (vs := [1]) (s := [.sh (.tuple ds), .un, .un]) (s1 := [.sh (.tuple ds), .un, .un]) (s0 := [.sh (.tuple ds), .un, .un])
    (fun d : D => d) (fun x => .bool (nmD x)) (xs := ds) (by simp (maxSteps := 10000000) (disch := first | omega | (simp; done) | (simp; omega))) (by simp (maxSteps := 10000000) (disch := first | omega | (simp; done) | (simp; omega))) (fun x hx => ⟨_, rfl, by simp (maxSteps := 10000000) (disch := first | omega | (simp; done) | (simp; omega)) [e_are_names_1, w_is_name x (fun z e => hs z (e ▸ hx))], by simp (maxSteps := 10000000) (disch := first | omega | (simp; done) | (simp; omega))⟩) hl
  simp (maxSteps := 10000000) (disch := first | omega | (simp; done) | (simp; omega)) [s_are_names, e1, h, Function.comp_def]
theorem w_are_names_o (d : D) (h : d.isTuple = false) : m_are_names [d] = .ok (.bool false) := by
  refine callD_rt ?_
  simp (maxSteps := 10000000) (disch := first | omega | (simp; done) | (simp; omega)) [s_are_names, h]
end K78
set_option maxRecDepth 100000
namespace K78
open PySem PySem.Spec PyProof.Rows L2 DL
def fac : Nat → Nat
  | 0 => 1
  | n + 1 => (n + 1) * fac n
theorem fac_pos : ∀ n, 0 < fac n
  | 0 => by decide
  | n + 1 => Nat.mul_pos (Nat.succ_pos n) (fac_pos n)
theorem fac_le12 {n : Nat} (h : n ≤ 12) : fac n ≤ 479001600 := by
  have : ∀ n : Fin 13, fac n.val ≤ 479001600 := by decide +kernel
  exact this ⟨n, by omega⟩
theorem w_count_forN (n : Nat) (hn : n ≤ 20) : m_count_for [.int n] = .ok (.int (fac n)) := by
  obtain ⟨a, h1, h2⟩ := forGo_rng (γ := gVar 2) (b := b_count_for_1) (fun a : Nat => [.sh (.int n), .sh (.int a), .un]) (fun k a => a = fac (k + 1)) (fun i : Nat => PyData.int (2 + (i : Int))) (n - 1) (fun k a hk ha => ⟨_, (k + 2) * a, rfl, by
    simp (maxSteps := 10000000) (disch := first | omega | (simp; done) | (simp; omega)) [b_count_for_1]
    rw [Int.mul_comm, Int.add_comm], by rw [ha]; rfl⟩) 1 rfl
  refine callD_rt ?_
  have e : ((n : Int) + 1 - 2).toNat = n - 1 := by omega
  have e2 : fac n = a := by
    rw [h2]
    cases n with
    | zero => rfl
    | succ n => rfl
  simp at h1
  simp (maxSteps := 10000000) (disch := first | omega | (simp; done) | (simp; omega)) [s_count_for, rangeD, e, h1, e2]
@[simp] theorem w_count_for {i : Int} (h0 : 0 ≤ i) (h1 : i ≤ 20) : m_count_for [.int i] = .ok (.int (fac i.toNat)) := by
  obtain ⟨n, rfl⟩ := Int.eq_ofNat_of_zero_le h0
  exact w_count_forN n (by omega)
theorem w_law_count (n : Nat) (hn : n ≤ 20) : m__law_count [.int n] = .ok (.int (fac n)) := by
  obtain ⟨a, h1, h2⟩ := forGo_rng (γ := gVar 2) (b := b__law_count_1) (fun a : Nat => [.sh (.int n), .sh (.int a), .un]) (fun k a => a = fac k) (fun i : Nat => PyData.int (i : Int)) n (fun k a hk ha => ⟨_, a * (k + 1), rfl, by
    simp (maxSteps := 10000000) (disch := first | omega | (simp; done) | (simp; omega)) [b__law_count_1], by rw [ha, Nat.mul_comm]; rfl⟩) 1 rfl
  refine callD_rt ?_
  simp at h1
  simp (maxSteps := 10000000) (disch := first | omega | (simp; done) | (simp; omega)) [s__law_count, h1, h2]
/-- names for a lot -/
structure Lot (ns : List Str) : Prop where
  nm : ∀ x ∈ ns, Nm x
  asc : Asc ns
  lo : 1 ≤ ns.length
  hi : ns.length ≤ 12
theorem w_check_lot {ns : List Str} (h : Lot ns) : m_check_lot [.tuple (ns.map .str)] = .ok .none := by
  refine callD_nx ?_
  have := h.lo
  have := h.hi
  simp (maxSteps := 10000000) (disch := first | omega | (simp; done) | (simp; omega)) [s_check_lot, w_are_names ns (by omega) h.nm, adjB_iff.mpr h.asc, if_pos, if_neg]
theorem w_check_lot_bad (d : D) (h : m_are_names [d] = .ok (.bool false)) : m_check_lot [d] = .exn "NotRight" .none [] := by
  refine callD_exn ?_
  simp (maxSteps := 10000000) (disch := first | omega | (simp; done) | (simp; omega)) [s_check_lot, h]
/-- the order with a number -/
def ordAt {α : Type} : Nat → List α → Nat → List α
  | 0, _, _ => []
  | n + 1, l, k => match l[k / fac n]? with
    | none => []
    | some x => x :: ordAt n (l.eraseIdx (k / fac n)) (k % fac n)
theorem order_at_while (nm : Sl) : ∀ (n : Nat) (l f : List D) (k fuel : Nat), l.length = n → n < fuel → k < fac n → n ≤ 12 → f.length + n ≤ 100 →
    ∃ k' : Int, whileGo t_order_at_2 b_order_at_1 fuel [nm, .sh (.int k), .ow (.list l), .ow (.list f), .un] = .ok (.nx [nm, .sh (.int k'), .ow (.list []), .ow (.list (f ++ ordAt n l k)), .un])
  | 0, l, f, k, fuel + 1, hl, hf, hk, hn, hs => by
    have : l = [] := List.length_eq_zero_iff.mp hl
    subst this
    refine ⟨k, ?_⟩
    unfold whileGo
    simp (maxSteps := 10000000) (disch := first | omega | (simp; done) | (simp; omega)) [t_order_at_2, ordAt]
  | n + 1, l, f, k, fuel + 1, hl, hf, hk, hn, hs => by
    have hq : k / fac n < l.length := by
      rw [hl]; exact (Nat.div_lt_iff_lt_mul (fac_pos n)).mpr hk
    obtain ⟨k', ih⟩ := order_at_while nm n (l.eraseIdx (k / fac n)) (f ++ [l[k / fac n]]) (k % fac n) fuel (by rw [List.length_eraseIdx_of_lt hq]; omega) (by omega) (Nat.mod_lt _ (fac_pos n)) (by omega) (by simp; omega)
    refine ⟨k', ?_⟩
    have h1 := fac_pos n
    have h2 := fac_le12 (show n ≤ 12 by omega)
    have e1 : ((k : Int) / (fac n : Int)) = ((k / fac n : Nat) : Int) := by simp
    have e2 : ((k : Int) % (fac n : Int)) = ((k % fac n : Nat) : Int) := by simp
    have e3 : ordAt (n + 1) l k = l[k / fac n] :: ordAt n (l.eraseIdx (k / fac n)) (k % fac n) := by
      rw [ordAt, List.getElem?_eq_getElem hq]
    rw [e3, List.append_cons, ← ih]
    conv => lhs; unfold whileGo
    simp (maxSteps := 10000000) (disch := first | omega | (simp; done) | (simp; omega)) [t_order_at_2]
    simp (maxSteps := 10000000) (disch := first | omega | (simp; done) | (simp; omega)) [b_order_at_1, hl, e1, e2, hq, -Int.natCast_ediv, -Int.natCast_emod]
theorem w_order_at {ds : List D} {d : D} (hd : d = .tuple ds) (k : Nat) (hk : k < fac ds.length) (hn : ds.length ≤ 12) : m_order_at [d, .int k] = .ok (.tuple (ordAt ds.length ds k)) := by
  subst hd
  obtain ⟨k', h⟩ := order_at_while (.sh (.tuple ds)) ds.length ds [] k 100 rfl (by omega) hk hn (by simp; omega)
  refine callD_rt ?_
  simp at h
  simp (maxSteps := 10000000) (disch := first | omega | (simp; done) | (simp; omega)) [s_order_at, sWhile, h]
end K78
set_option maxRecDepth 100000
namespace K78
open PySem PySem.Spec PyProof.Rows L2 DL
theorem w_orders_count {ns : List Str} (h : Lot ns) : m_orders_count [.tuple (ns.map .str)] = .ok (.int (fac ns.length)) := by
  refine callD_rt ?_
  have := h.hi
  simp (maxSteps := 10000000) (disch := first | omega | (simp; done) | (simp; omega)) [s_orders_count, w_check_lot h]
theorem ordAt_map {α β : Type} (f : α → β) : ∀ (n : Nat) (l : List α) (k : Nat), ordAt n (l.map f) k = (ordAt n l k).map f
  | 0, _, _ => rfl
  | n + 1, l, k => by
    rw [ordAt, ordAt, List.getElem?_map]
    cases l[k / fac n]? with
    | none => rfl
    | some x =>
      show f x :: ordAt n ((l.map f).eraseIdx _) _ = f x :: _
      rw [eraseIdx_map, ordAt_map f n]
theorem w_order_with {ns : List Str} (h : Lot ns) (k : Nat) (hk : k < fac ns.length) : m_order_with [.tuple (ns.map .str), .int k] = .ok (.tuple ((ordAt ns.length ns k).map .str)) := by
  refine callD_rt ?_
  have := h.hi
  have h2 := w_order_at (d := .tuple (ns.map .str)) rfl k (by simpa using hk) (by simpa using h.hi)
  rw [List.length_map, ordAt_map] at h2
  simp (maxSteps := 10000000) (disch := first | omega | (simp; done) | (simp; omega)) [s_order_with, w_check_lot h, hk, h2]
theorem w_order_with_no {ns : List Str} (h : Lot ns) (i : Int) (hi : i < 0 ∨ fac ns.length ≤ i) : m_order_with [.tuple (ns.map .str), .int i] = .exn "NotThere" .none [] := by
  refine callD_exn ?_
  have := h.hi
  by_cases h0 : 0 ≤ i
  · simp (maxSteps := 10000000) (disch := first | omega | (simp; done) | (simp; omega)) [s_order_with, w_check_lot h, h0, if_pos]
  · simp (maxSteps := 10000000) (disch := first | omega | (simp; done) | (simp; omega)) [s_order_with, w_check_lot h, h0]
theorem w_check_order {ns os : List Str} (h : Asc ns) (hl : os.length ≤ 100000) : m_check_order [.tuple (ns.map .str), .tuple (os.map .str)] = if os.Perm ns then .ok .none else .exn "NotThere" .none [] := by
  by_cases hp : os.Perm ns
  · rw [if_pos hp]
    refine callD_nx ?_
    simp (maxSteps := 10000000) (disch := first | omega | (simp; done) | (simp; omega)) [s_check_order, (sortS_eq_iff h).mpr hp]
  · rw [if_neg hp]
    refine callD_exn ?_
    simp (maxSteps := 10000000) (disch := first | omega | (simp; done) | (simp; omega)) [s_check_order, mt (sortS_eq_iff h).mp hp]
/-- the number of an order -/
def plOf {α : Type} [BEq α] : List α → List α → Nat
  | _, [] => 0
  | l, x :: o => l.idxOf x * fac (l.length - 1) + plOf (l.eraseIdx (l.idxOf x)) o
theorem perm_erase {α : Type} [DecidableEq α] {l o : List α} {x : α} (h : (x :: o).Perm l) : x ∈ l ∧ o.Perm (l.eraseIdx (l.idxOf x)) := by
  have hx : x ∈ l := h.subset List.mem_cons_self
  refine ⟨hx, ?_⟩
  have h1 := List.idxOf_lt_length_of_mem hx
  have h2 := cons_eraseIdx_perm l (l.idxOf x) h1
  rw [List.getElem_idxOf h1] at h2
  exact (List.perm_cons x).mp (h.trans h2.symm)
theorem w_place_of {ns os : List Str} (hn : ns.length ≤ 12) (h : ∀ x ∈ ns, Nm x) (hp : os.Perm ns) : m_place_of [.tuple (ns.map .str), .tuple (os.map .str)] = .ok (.int (plOf ns os)) := by
  have key : ∀ (os' l : List Str) (f : Nat), os'.Perm l → l.length ≤ 12 → (∀ x ∈ l, Nm x) → ∃ l' : List Str, forGo (gVar 4) b_place_of_1 (os'.map .str) [.sh (.tuple (ns.map .str)), .sh (.tuple (os.map .str)), .ow (.list (l.map .str)), .sh (.int f), .un, .un] = .ok (.nx [.sh (.tuple (ns.map .str)), .sh (.tuple (os.map .str)), .ow (.list (l'.map .str)), .sh (.int (f + plOf l os' : Nat)), .un, .un]) := by
    intro os'
    induction os' with
    | nil => intro l f _ _ _; exact ⟨l, rfl⟩
    | cons x r ih =>
      intro l f hp hl hn
      obtain ⟨hx, hp2⟩ := perm_erase hp
      have h1 := List.idxOf_lt_length_of_mem hx
      obtain ⟨l', h2⟩ := ih (l.eraseIdx (l.idxOf x)) (f + l.idxOf x * fac (l.length - 1)) hp2 (by rw [List.length_eraseIdx_of_lt h1]; omega) (fun y hy => hn y (List.mem_of_mem_eraseIdx hy))
      refine ⟨l', ?_⟩
      rw [List.map_cons, forGo]
      have e1 : gVar 4 (.str x) [.sh (.tuple (ns.map .str)), .sh (.tuple (os.map .str)), .ow (.list (l.map .str)), .sh (.int f), .un, .un] = some [.sh (.tuple (ns.map .str)), .sh (.tuple (os.map .str)), .ow (.list (l.map .str)), .sh (.int f), .sh (.str x), .un] := rfl
      have e2 : b_place_of_1 [.sh (.tuple (ns.map .str)), .sh (.tuple (os.map .str)), .ow (.list (l.map .str)), .sh (.int f), .sh (.str x), .un] = .ok (.nx [.sh (.tuple (ns.map .str)), .sh (.tuple (os.map .str)), .ow (.list ((l.eraseIdx (l.idxOf x)).map .str)), .sh (.int (f + l.idxOf x * fac (l.length - 1) : Nat)), .un, .un]) := by
        have e3 : ((l.length : Int) - 1).toNat = l.length - 1 := by omega
        have hso : ∀ y ∈ l, PyData.strOk y = true := fun y hy => (hn y hy).strOk
        simp (maxSteps := 10000000) (disch := first | omega | (simp; done) | (simp; omega)) [b_place_of_1, idxL_s hso hx, e3, h1]
      rw [e1, R.opt_some, e2, plOf, ← Nat.add_assoc]
      exact h2
  obtain ⟨l', h1⟩ := key os ns 0 hp hn h
  refine callD_rt ?_
  simp at h1
  simp (maxSteps := 10000000) (disch := first | omega | (simp; done) | (simp; omega)) [s_place_of, h1]
theorem w_number_of {ns os : List Str} (h : Lot ns) (hp : os.Perm ns) : m_number_of [.tuple (ns.map .str), .tuple (os.map .str)] = .ok (.int (plOf ns os)) := by
  refine callD_rt ?_
  have := hp.length_eq
  have := h.hi
  simp (maxSteps := 10000000) (disch := first | omega | (simp; done) | (simp; omega)) [s_number_of, w_check_lot h, w_check_order h.asc (os := os) (by omega), hp, w_place_of h.hi h.nm hp]
theorem w_number_of_no {ns os : List Str} (h : Lot ns) (hp : ¬ os.Perm ns) (hl : os.length ≤ 100000) : m_number_of [.tuple (ns.map .str), .tuple (os.map .str)] = .exn "NotThere" .none [] := by
  refine callD_exn ?_
  simp (maxSteps := 10000000) (disch := first | omega | (simp; done) | (simp; omega)) [s_number_of, w_check_lot h, w_check_order h.asc (os := os) hl, hp]
/-- a draw -/
def valB (n : Nat) (d : D) : Bool := match d with
  | .int i => decide (0 ≤ i) && decide (i < (fac n : Int))
  | _ => false
def drawnB (n : Nat) (kvs : List (D × D)) : Bool := !kvs.isEmpty && kvs.all (fun q => nmD q.1) && kvs.all fun q => valB n q.2
theorem w_is_drawn {ns : List Str} (hn : ns.length ≤ 12) (kvs : List (D × D)) (hl : kvs.length ≤ 100000) (hs : ∀ q ∈ kvs, ∀ x, q.1 = .str x → (cs x).length ≤ 100000) : m_is_drawn [.tuple (ns.map .str), .dict kvs] = .ok (.bool (drawnB ns.length kvs)) := by
  refine callD_rt ?_
  by_cases hk : kvs = []
  · subst hk; simp (maxSteps := 10000000) (disch := first | omega | (simp; done) | (simp; omega)) [s_is_drawn, drawnB]
  · have hk2 : kvs.isEmpty = false := by simpa using hk
    have e1 := eComp_map' (γ := gVar 3) (ι := iSrc seqD (eVar 1)) (ε := e_is_drawn_1) (vs := [3]) (s := [.sh (.tuple (ns.map .str)), .sh (.dict kvs), .un, .un]) (s1 := [.sh (.tuple (ns.map .str)), .sh (.dict kvs), .un, .un]) (s0 := [.sh (.tuple (ns.map .str)), .sh (.dict kvs), .un, .un])
      (fun p : D × D => p.1) (fun p => .bool (nmD p.1)) (xs := kvs) (by simp (maxSteps := 10000000) (disch := first | omega | (simp; done) | (simp; omega))) (by simp (maxSteps := 10000000) (disch := first | omega | (simp; done) | (simp; omega))) (fun p hp => ⟨_, rfl, by simp (maxSteps := 10000000) (disch := first | omega | (simp; done) | (simp; omega)) [e_is_drawn_1, w_is_name p.1 (hs p hp)], by simp (maxSteps := 10000000) (disch := first | omega | (simp; done) | (simp; omega))⟩) hl
    have e2 := eComp_map' (γ := gVar 2) (ι := iSrc valsOf (eVar 1)) (ε := e_is_drawn_2) (vs := [2]) (s := [.sh (.tuple (ns.map .str)), .sh (.dict kvs), .un, .un]) (s1 := [.sh (.tuple (ns.map .str)), .sh (.dict kvs), .un, .un]) (s0 := [.sh (.tuple (ns.map .str)), .sh (.dict kvs), .un, .un])
      (fun p : D × D => p.2) (fun p => .bool (valB ns.length p.2)) (xs := kvs) (by simp (maxSteps := 10000000) (disch := first | omega | (simp; done) | (simp; omega)) [valsOf]) (by simp (maxSteps := 10000000) (disch := first | omega | (simp; done) | (simp; omega))) (fun p hp => ⟨_, rfl, by
        obtain ⟨k, v⟩ := p
        cases v with
        | int i => by_cases h0 : 0 ≤ i <;> simp (maxSteps := 10000000) (disch := first | omega | (simp; done) | (simp; omega)) [e_is_drawn_2, w_is_integer, valB, h0]
        | _ => simp (maxSteps := 10000000) (disch := first | omega | (simp; done) | (simp; omega)) [e_is_drawn_2, w_is_integer, valB], by simp (maxSteps := 10000000) (disch := first | omega | (simp; done) | (simp; omega))⟩) hl
    by_cases h1 : kvs.all (fun q => nmD q.1) = true
    · simp (maxSteps := 10000000) (disch := first | omega | (simp; done) | (simp; omega)) [s_is_drawn, drawnB, e1, e2, h1, hk, hk2, Function.comp_def]
    · simp (maxSteps := 10000000) (disch := first | omega | (simp; done) | (simp; omega)) [s_is_drawn, drawnB, e1, h1, hk, hk2, Function.comp_def]
theorem w_is_drawn_o {ns : List Str} (d : D) (hd : d.isDict = false) : m_is_drawn [.tuple (ns.map .str), d] = .ok (.bool false) := by
  refine callD_rt ?_
  simp (maxSteps := 10000000) (disch := first | omega | (simp; done) | (simp; omega)) [s_is_drawn, hd]

theorem w_is_draw {ns : List Str} (h : Lot ns) (d : D) (b : Bool) (hd : m_is_drawn [.tuple (ns.map .str), d] = .ok (.bool b)) : m_is_draw [.tuple (ns.map .str), d] = .ok (.bool b) := by
  refine callD_rt ?_
  simp (maxSteps := 10000000) (disch := first | omega | (simp; done) | (simp; omega)) [s_is_draw, w_check_lot h, hd]
theorem w_check_draw {ns : List Str} (h : Lot ns) (d : D) (b : Bool) (hd : m_is_drawn [.tuple (ns.map .str), d] = .ok (.bool b)) : m_check_draw [.tuple (ns.map .str), d] = if b then .ok .none else .exn "NotRight" .none [] := by
  cases b
  · refine callD_exn ?_
    simp (maxSteps := 10000000) (disch := first | omega | (simp; done) | (simp; omega)) [s_check_draw, w_check_lot h, hd]
  · refine callD_nx ?_
    simp (maxSteps := 10000000) (disch := first | omega | (simp; done) | (simp; omega)) [s_check_draw, w_check_lot h, hd]
/-- a draw of typed names and numbers -/
abbrev kvD (ps : List (Str × Int)) : List (D × D) := ps.map fun p => (.str p.1, .int p.2)
structure Drawn (n : Nat) (ps : List (Str × Int)) : Prop where
  nm : ∀ p ∈ ps, Nm p.1
  rg : ∀ p ∈ ps, 0 ≤ p.2 ∧ p.2 < (fac n : Int)
  ne : ps ≠ []
  nd : (ps.map (·.1)).Nodup
  le : ps.length ≤ 100
theorem w_drawn_ok {ns : List Str} (h : Lot ns) {ps : List (Str × Int)} (hp : Drawn ns.length ps) : m_is_drawn [.tuple (ns.map .str), .dict (kvD ps)] = .ok (.bool true) := by
  rw [w_is_drawn h.hi _ (by simp; have := hp.le; omega) (by
    intro q hq x e
    obtain ⟨p, h1, rfl⟩ := List.mem_map.mp hq
    cases PyData.str.inj e
    have := (hp.nm p h1).len
    omega)]
  congr 2
  unfold drawnB
  simp only [Bool.and_eq_true, List.all_map]
  refine ⟨⟨?_, List.all_eq_true.mpr fun p hm => nmB_iff.mpr (hp.nm p hm)⟩, List.all_eq_true.mpr fun p hm => ?_⟩
  · cases ps with
    | nil => exact absurd rfl hp.ne
    | cons => rfl
  · have := hp.rg p hm
    show (decide (0 ≤ p.2) && decide (p.2 < (fac ns.length : Int))) = true
    simp [this]
theorem w_order_of {ns : List Str} (h : Lot ns) {ps : List (Str × Int)} (hp : Drawn ns.length ps) (k : Nat) (hk : ((ps.map (·.2)).sum % (fac ns.length : Int)) = k) : m_order_of [.tuple (ns.map .str), .dict (kvD ps)] = .ok (.tuple ((ordAt ns.length ns k).map .str)) := by
  refine callD_rt ?_
  have := h.hi
  have hf := fac_pos ns.length
  have h3 : k < fac ns.length := by
    have := Int.emod_lt_of_pos (ps.map (·.2)).sum (show (0:Int) < (fac ns.length : Int) by omega)
    omega
  have h2 := w_order_at (d := .tuple (ns.map .str)) rfl k (by simpa using h3) (by simpa using h.hi)
  rw [List.length_map, ordAt_map] at h2
  have e1 : sumVG (.dict (kvD ps)) = some (.int (ps.map (·.2)).sum) := by
    show (intsOf ((kvD ps).map (·.2))).map _ = _
    rw [List.map_map, show ((fun p : D × D => p.2) ∘ fun p : Str × Int => (PyData.str p.1, PyData.int p.2)) = fun p => PyData.int p.2 from rfl, intsOf_map]
    rfl
  simp (maxSteps := 10000000) (disch := first | omega | (simp; done) | (simp; omega)) [s_order_of, w_check_draw h _ _ (w_drawn_ok h hp), e1, hk, h2]
theorem w_order_of_bad {ns : List Str} (h : Lot ns) (d : D) (hd : m_is_drawn [.tuple (ns.map .str), d] = .ok (.bool false)) : m_order_of [.tuple (ns.map .str), d] = .exn "NotRight" .none [] := by
  refine callD_exn ?_
  simp (maxSteps := 10000000) (disch := first | omega | (simp; done) | (simp; omega)) [s_order_of, w_check_draw h _ _ hd]
theorem w_integer_for {ns os : List Str} (h : Lot ns) {ps : List (Str × Int)} (hp : Drawn ns.length ps) {x : Str} (hx : Nm x) (ho : os.Perm ns) : m_integer_for [.tuple (ns.map .str), .dict (kvD ps), .str x, .tuple (os.map .str)] = .ok (.int (((plOf ns os : Int) - ((ps.filter fun p => !decide (p.1 = x)).map (·.2)).sum) % (fac ns.length : Int))) := by
  refine callD_rt ?_
  have := h.hi
  have hf := fac_pos ns.length
  have hx2 := hx.len
  have hol := ho.length_eq
  have hps := hp.le
  have e1 := eComp_of (γ := gTupD 2 (gsCons (gVar 5) (gsCons (gVar 6) gsNil))) (ι := iSrc itemsOf (eVar 1)) (τ := t_integer_for_2) (ε := e_integer_for_1) (vs := [5, 6]) (s := [.sh (.tuple (ns.map .str)), .sh (.dict (kvD ps)), .sh (.str x), .sh (.tuple (os.map .str)), .un, .un, .un]) (s1 := [.sh (.tuple (ns.map .str)), .sh (.dict (kvD ps)), .sh (.str x), .sh (.tuple (os.map .str)), .un, .un, .un]) (s0 := [.sh (.tuple (ns.map .str)), .sh (.dict (kvD ps)), .sh (.str x), .sh (.tuple (os.map .str)), .un, .un, .un])
    (fun p : Str × Int => .tuple [.str p.1, .int p.2]) (fun p => !decide (p.1 = x)) (fun p => .int p.2) (xs := ps) (by simp (maxSteps := 10000000) (disch := first | omega | (simp; done) | (simp; omega)) [itemsOf]) (by simp (maxSteps := 10000000) (disch := first | omega | (simp; done) | (simp; omega))) (fun p hp => ⟨_, rfl, by simp (maxSteps := 10000000) (disch := first | omega | (simp; done) | (simp; omega)) [t_integer_for_2], fun _ => by simp (maxSteps := 10000000) (disch := first | omega | (simp; done) | (simp; omega)) [e_integer_for_1], by simp (maxSteps := 10000000) (disch := first | omega | (simp; done) | (simp; omega))⟩) (by omega)
  simp (maxSteps := 10000000) (disch := first | omega | (simp; done) | (simp; omega)) [s_integer_for, w_check_draw h _ _ (w_drawn_ok h hp), w_is_name (.str x) (fun z e => by cases PyData.str.inj e; omega), nmD, nmB_iff.mpr hx, w_check_order h.asc (os := os) (by omega), ho, e1, sumG_map, w_place_of h.hi h.nm ho]
theorem w_integer_for_bad {ns : List Str} (h : Lot ns) (d x o : D) (hd : m_is_drawn [.tuple (ns.map .str), d] = .ok (.bool false)) : m_integer_for [.tuple (ns.map .str), d, x, o] = .exn "NotRight" .none [] := by
  refine callD_exn ?_
  simp (maxSteps := 10000000) (disch := first | omega | (simp; done) | (simp; omega)) [s_integer_for, w_check_draw h _ _ hd]
theorem w_integer_for_nm {ns : List Str} (h : Lot ns) {ps : List (Str × Int)} (hp : Drawn ns.length ps) (x o : D) (hx : m_is_name [x] = .ok (.bool false)) : m_integer_for [.tuple (ns.map .str), .dict (kvD ps), x, o] = .exn "NotRight" .none [] := by
  refine callD_exn ?_
  simp (maxSteps := 10000000) (disch := first | omega | (simp; done) | (simp; omega)) [s_integer_for, w_check_draw h _ _ (w_drawn_ok h hp), hx]
theorem w_integer_for_o {ns os : List Str} (h : Lot ns) {ps : List (Str × Int)} (hp : Drawn ns.length ps) {x : Str} (hx : Nm x) (ho : ¬ os.Perm ns) (hl : os.length ≤ 100000) : m_integer_for [.tuple (ns.map .str), .dict (kvD ps), .str x, .tuple (os.map .str)] = .exn "NotThere" .none [] := by
  refine callD_exn ?_
  have hx2 := hx.len
  simp (maxSteps := 10000000) (disch := first | omega | (simp; done) | (simp; omega)) [s_integer_for, w_check_draw h _ _ (w_drawn_ok h hp), w_is_name (.str x) (fun z e => by cases PyData.str.inj e; omega), nmD, nmB_iff.mpr hx, w_check_order h.asc (os := os) hl, ho]
end K78
set_option maxRecDepth 100000
namespace K78
open PySem PySem.Spec PyProof.Rows L2 DL
/-- what the law makes of a call -/
def toldOf (r : R D) : R D := match r with
  | .ok d => .ok d
  | .exn c _ _ => (match hRaised c with | some d => .ok d | none => .bad)
  | .bad => .bad
@[simp] theorem toldOf_ok {d : D} : toldOf (.ok d) = .ok d := (rfl)
abbrev rsd (i : Int) : D := .tuple [.str "raised", .int i, .int 1]
theorem hr0 : hRaised "NotRight" = some (rsd 0) := by unfold hRaised; rw [if_pos rfl]; rfl
theorem hr1 : hRaised "NotThere" = some (rsd 1) := by unfold hRaised; rw [if_neg (by decide +kernel), if_pos rfl]; rfl
@[simp] theorem toldOf_0 {x : D} {s : Sv} : toldOf (.exn "NotRight" x s) = .ok (rsd 0) := by
  show (match hRaised "NotRight" with | some d => R.ok d | none => .bad) = _
  rw [hr0]
@[simp] theorem toldOf_1 {x : D} {s : Sv} : toldOf (.exn "NotThere" x s) = .ok (rsd 1) := by
  show (match hRaised "NotThere" with | some d => R.ok d | none => .bad) = _
  rw [hr1]
theorem told_key {kd a b c d : D} (m : R D) (h : s__law_told [.sh kd, .sh a, .sh b, .sh c, .sh d, .un] = ((R.tri hRaised 5 ((R.res m [.sh kd, .sh a, .sh b, .sh c, .sh d, .un]).bind kRet)).bind (Out.andThen sNext))) : m__law_told [kd, a, b, c, d] = toldOf m := by
  show callD 6 s__law_told [kd, a, b, c, d] = _
  rw [callD_s]
  show (match s__law_told [.sh kd, .sh a, .sh b, .sh c, .sh d, .un] with | .ok (.rt d _) => R.ok d | .ok (.nx _) => .ok .none | .exn c x _ => .exn c x [] | _ => .bad) = _
  rw [h]
  cases m with
  | ok d => rfl
  | bad => rfl
  | exn c x s =>
    show (match (R.hit (hRaised c) 5 _).bind (Out.andThen sNext) with | .ok (.rt d _) => R.ok d | .ok (.nx _) => .ok .none | .exn c x _ => .exn c x [] | _ => .bad) = (match hRaised c with | some d => .ok d | none => .bad)
    cases hRaised c <;> rfl
variable {a b c d : D}
theorem w_told0 : m__law_told [.int 0, a, b, c, d] = toldOf (m_orders_count [a]) := told_key _ (by simp (maxSteps := 10000000) (disch := first | omega | (simp; done) | (simp; omega)) [s__law_told])
theorem w_told1 : m__law_told [.int 1, a, b, c, d] = toldOf (m_order_with [a, b]) := told_key _ (by simp (maxSteps := 10000000) (disch := first | omega | (simp; done) | (simp; omega)) [s__law_told])
theorem w_told2 : m__law_told [.int 2, a, b, c, d] = toldOf (m_number_of [a, d]) := told_key _ (by simp (maxSteps := 10000000) (disch := first | omega | (simp; done) | (simp; omega)) [s__law_told])
theorem w_told3 : m__law_told [.int 3, a, b, c, d] = toldOf (m_is_draw [a, b]) := told_key _ (by simp (maxSteps := 10000000) (disch := first | omega | (simp; done) | (simp; omega)) [s__law_told])
theorem w_told4 : m__law_told [.int 4, a, b, c, d] = toldOf (m_order_of [a, b]) := told_key _ (by simp (maxSteps := 10000000) (disch := first | omega | (simp; done) | (simp; omega)) [s__law_told])
theorem w_told5 : m__law_told [.int 5, a, b, c, d] = toldOf (m_integer_for [a, b, c, d]) := told_key _ (by simp (maxSteps := 10000000) (disch := first | omega | (simp; done) | (simp; omega)) [s__law_told])
/-- told as due -/
def sameOk : Nat → D → Prop
  | 0, _ => False
  | n + 1, .list ds => ds.length ≤ 100000 ∧ ∀ x ∈ ds, sameOk n x
  | n + 1, .tuple ds => ds.length ≤ 100000 ∧ ∀ x ∈ ds, sameOk n x
  | _ + 1, .dict _ => False
  | _ + 1, _ => True
theorem w_same : ∀ (n : Nat) (d : D), sameOk n d → m__law_same n [d, d] = .ok (.bool true)
  | n + 1, .list ds, h => by
    have e1 := eComp_map' (γ := gVar 3) (ι := iRng (aCons (eCall lenA (aCons (eVar 1) aNil)) aNil)) (ε := e__law_same_2 (m__law_same n)) (vs := [3]) (s := [.sh (.list ds), .sh (.list ds), .un, .un]) (s1 := [.sh (.list ds), .sh (.list ds), .un, .un]) (s0 := [.sh (.list ds), .sh (.list ds), .un, .un])
      (fun i : Nat => .int i) (fun i => .bool true) (xs := List.range ds.length) (by have := h.1; simp (maxSteps := 10000000) (disch := first | omega | (simp; done) | (simp; omega))) (by simp (maxSteps := 10000000) (disch := first | omega | (simp; done) | (simp; omega))) (fun i hi => ⟨_, rfl, by
        have hi := List.mem_range.mp hi
        have := w_same n ds[i] (h.2 _ (List.getElem_mem hi))
        simp (maxSteps := 10000000) (disch := first | omega | (simp; done) | (simp; omega)) [e__law_same_2, hi, this], by simp (maxSteps := 10000000) (disch := first | omega | (simp; done) | (simp; omega))⟩) (by simpa using h.1)
    refine callD_rt ?_
    simp (maxSteps := 10000000) (disch := first | omega | (simp; done) | (simp; omega)) [e1]
  | n + 1, .tuple ds, h => by
    have e1 := eComp_map' (γ := gVar 3) (ι := iRng (aCons (eCall lenA (aCons (eVar 1) aNil)) aNil)) (ε := e__law_same_2 (m__law_same n)) (vs := [3]) (s := [.sh (.tuple ds), .sh (.tuple ds), .un, .un]) (s1 := [.sh (.tuple ds), .sh (.tuple ds), .un, .un]) (s0 := [.sh (.tuple ds), .sh (.tuple ds), .un, .un])
      (fun i : Nat => .int i) (fun i => .bool true) (xs := List.range ds.length) (by have := h.1; simp (maxSteps := 10000000) (disch := first | omega | (simp; done) | (simp; omega))) (by simp (maxSteps := 10000000) (disch := first | omega | (simp; done) | (simp; omega))) (fun i hi => ⟨_, rfl, by
        have hi := List.mem_range.mp hi
        have := w_same n ds[i] (h.2 _ (List.getElem_mem hi))
        simp (maxSteps := 10000000) (disch := first | omega | (simp; done) | (simp; omega)) [e__law_same_2, hi, this], by simp (maxSteps := 10000000) (disch := first | omega | (simp; done) | (simp; omega))⟩) (by simpa using h.1)
    refine callD_rt ?_
    simp (maxSteps := 10000000) (disch := first | omega | (simp; done) | (simp; omega)) [e1]
  | n + 1, .none, _ => by refine callD_rt ?_; simp (maxSteps := 10000000) (disch := first | omega | (simp; done) | (simp; omega)) [isG, isNoneD]
  | n + 1, .bool _, _ => by refine callD_rt ?_; simp (maxSteps := 10000000) (disch := first | omega | (simp; done) | (simp; omega)) [isG, isNoneD]
  | n + 1, .int _, _ => by refine callD_rt ?_; simp (maxSteps := 10000000) (disch := first | omega | (simp; done) | (simp; omega)) [isG, isNoneD]
  | n + 1, .str _, _ => by refine callD_rt ?_; simp (maxSteps := 10000000) (disch := first | omega | (simp; done) | (simp; omega)) [isG, isNoneD]
/-- all orders -/
def ords {α : Type} [DecidableEq α] : Nat → List α → List (List α)
  | 0, _ => [[]]
  | n + 1, l => l.flatMap fun x => (ords n (l.filter fun y => !decide (y = x))).map (x :: ·)
abbrev tS (o : List Str) : D := .tuple (o.map .str)
@[simp] theorem eqG_t0 {xs : List Str} : eqG (.tuple (xs.map .str)) (.tuple []) = some (.bool (decide (xs = []))) := eqG_ts xs []
theorem filter_ne_length {α : Type} [DecidableEq α] : ∀ {l : List α} {x : α}, l.Nodup → x ∈ l → (l.filter fun y => !decide (y = x)).length + 1 = l.length
  | a :: l, x, h, hx => by
    have h := List.nodup_cons.mp h
    by_cases e : a = x
    · subst e
      have : (l.filter fun y => !decide (y = a)) = l := List.filter_eq_self.mpr fun y hy => by
        simp; intro e; subst e; exact h.1 hy
      simp [this]
    · have hx : x ∈ l := by
        rcases List.mem_cons.mp hx with e' | hx
        · exact absurd e'.symm e
        · exact hx
      have := filter_ne_length h.2 hx
      simp [e]
      omega
theorem sum_const {α : Type} (c : Nat) : ∀ l : List α, (l.map fun _ => c).sum = l.length * c
  | [] => by simp
  | a :: l => by simp [sum_const c l, Nat.succ_mul]; omega
theorem ords_length {α : Type} [DecidableEq α] : ∀ (n : Nat) (l : List α), l.length = n → l.Nodup → (ords n l).length = fac n
  | 0, _, _, _ => rfl
  | n + 1, l, hl, hn => by
    have : ∀ x ∈ l, ((ords n (l.filter fun y => !decide (y = x))).map (x :: ·)).length = fac n := fun x hx => by
      rw [List.length_map]
      exact ords_length n _ (by have := filter_ne_length hn hx; omega) (hn.filter _)
    rw [ords, List.length_flatMap, List.map_congr_left this, sum_const, hl]
    rfl
theorem ords_perm {α : Type} [DecidableEq α] : ∀ (n : Nat) (l o : List α), l.length = n → l.Nodup → o ∈ ords n l → o.Perm l
  | 0, l, o, hl, _, ho => by
    have : l = [] := List.length_eq_zero_iff.mp hl
    subst this
    rw [List.mem_singleton.mp ho]
  | n + 1, l, o, hl, hn, ho => by
    obtain ⟨x, hx, h2⟩ := List.mem_flatMap.mp ho
    obtain ⟨r, hr, rfl⟩ := List.mem_map.mp h2
    have h3 := ords_perm n _ r (by have := filter_ne_length hn hx; omega) (hn.filter _) hr
    have h4 : (l.filter fun y => !decide (y = x)) = l.erase x := by
      rw [hn.erase_eq_filter]
      congr 1
    rw [h4] at h3
    exact (h3.cons x).trans (List.perm_cons_erase hx).symm
theorem w_orders : ∀ (n : Nat) (l : List Str) (fuel : Nat), l.length = n → l.Nodup → n < fuel → n ≤ 5 → m__law_orders fuel [.tuple (l.map .str)] = .ok (.list ((ords n l).map tS))
  | 0, l, fuel + 1, hl, hn, hf, h5 => by
    have : l = [] := List.length_eq_zero_iff.mp hl
    subst this
    refine callD_rt ?_
    have := eqG_t0 (xs := [])
    simp at this
    simp (maxSteps := 10000000) (disch := first | omega | (simp; done) | (simp; omega)) [ords, this]
  | n + 1, l, fuel + 1, hl, hn, hf, h5 => by
    have hfac : (n + 1) * fac n ≤ 120 := by
      have : ∀ n : Fin 5, (n.val + 1) * fac n.val ≤ 120 := by decide +kernel
      exact this ⟨n, by omega⟩
    obtain ⟨a, h1, h2⟩ := forGo_all (γ := gVar 2) (b := b__law_orders_4 (m__law_orders fuel)) PyData.str (fun a : List (List Str) => [.sh (tS l), .sh (.list (a.map tS)), .un, .un, .un])
      (fun r a => ∃ p, p ++ r = l ∧ a = p.flatMap fun x => (ords n (l.filter fun y => !decide (y = x))).map (x :: ·)) (fun x r a ⟨p, hp, ha⟩ => by
        have hx : x ∈ l := by rw [← hp]; simp
        have hfl := filter_ne_length hn hx
        have ih := w_orders n (l.filter fun y => !decide (y = x)) fuel (by omega) (hn.filter _) (by omega) (by omega)
        have hol := ords_length n (l.filter fun y => !decide (y = x)) (by omega) (hn.filter _)
        have hal : a.length = p.length * fac n := by
          rw [ha, List.length_flatMap]
          have : ∀ x ∈ p, ((ords n (l.filter fun y => !decide (y = x))).map (x :: ·)).length = fac n := fun x hx => by
            have hx : x ∈ l := by rw [← hp]; exact List.mem_append_left _ hx
            rw [List.length_map]
            exact ords_length n _ (by have := filter_ne_length hn hx; omega) (hn.filter _)
          rw [List.map_congr_left this, sum_const]
        have hpl : p.length + 1 ≤ n + 1 := by rw [← hl, ← hp]; simp
        have hb : (p.length + 1) * fac n ≤ 120 := Nat.le_trans (Nat.mul_le_mul_right _ hpl) hfac
        rw [Nat.succ_mul] at hb
        have e1 := eComp_of (γ := gVar 4) (ι := iSrc seqD (eVar 0)) (τ := t__law_orders_2 (m__law_orders fuel)) (ε := e__law_orders_1 (m__law_orders fuel)) (vs := [4]) (s := [.sh (tS l), .sh (.list (a.map tS)), .sh (.str x), .un, .un]) (s1 := [.sh (tS l), .sh (.list (a.map tS)), .sh (.str x), .un, .un]) (s0 := [.sh (tS l), .sh (.list (a.map tS)), .sh (.str x), .un, .un])
          PyData.str (fun y => !decide (y = x)) PyData.str (xs := l) (by simp (maxSteps := 10000000) (disch := first | omega | (simp; done) | (simp; omega))) (by simp (maxSteps := 10000000) (disch := first | omega | (simp; done) | (simp; omega))) (fun y hy => ⟨_, rfl, by simp (maxSteps := 10000000) (disch := first | omega | (simp; done) | (simp; omega)) [t__law_orders_2], fun _ => by simp (maxSteps := 10000000) (disch := first | omega | (simp; done) | (simp; omega)) [e__law_orders_1], by simp (maxSteps := 10000000) (disch := first | omega | (simp; done) | (simp; omega))⟩) (by omega)
        have e2 := eComp_map' (γ := gVar 3) (ι := iSrc seqD (eFn (m__law_orders fuel) (aCons (eCall tupleG (aCons (eFz (eComp (gVar 4) (iSrc seqD (eVar 0)) (t__law_orders_2 (m__law_orders fuel)) (e__law_orders_1 (m__law_orders fuel)) [4])) aNil)) aNil))) (ε := e__law_orders_3 (m__law_orders fuel)) (vs := [3]) (s := [.sh (tS l), .sh (.list (a.map tS)), .sh (.str x), .un, .un]) (s1 := [.sh (tS l), .sh (.list (a.map tS)), .sh (.str x), .un, .un]) (s0 := [.sh (tS l), .sh (.list (a.map tS)), .sh (.str x), .un, .un])
          tS (fun o => tS (x :: o)) (xs := ords n (l.filter fun y => !decide (y = x))) (by simp (maxSteps := 10000000) (disch := first | omega | (simp; done) | (simp; omega)) [e1, ih]) (by simp (maxSteps := 10000000) (disch := first | omega | (simp; done) | (simp; omega))) (fun o ho => ⟨_, rfl, by
            have h9 := (ords_perm n _ o (by omega) (hn.filter _) ho).length_eq
            have h8 : o.length ≤ 5 := by omega
            simp (maxSteps := 10000000) (disch := first | omega | (simp; done) | (simp; omega)) [e__law_orders_3], by simp (maxSteps := 10000000) (disch := first | omega | (simp; done) | (simp; omega))⟩) (by omega)
        refine ⟨_, a ++ (ords n (l.filter fun y => !decide (y = x))).map (x :: ·), rfl, ?_, p ++ [x], by simpa using hp, by rw [ha]; simp⟩
        simp (maxSteps := 10000000) (disch := first | omega | (simp; done) | (simp; omega)) [b__law_orders_4, e2, Function.comp_def]) l [] ⟨[], rfl, rfl⟩
    refine callD_rt ?_
    obtain ⟨p, hp, ha⟩ := h2
    have : p = l := by simpa using hp
    subst this
    have hne : p ≠ [] := by intro e; rw [e] at hl; simp at hl
    simp at h1
    simp (maxSteps := 10000000) (disch := first | omega | (simp; done) | (simp; omega)) [hne, h1, ords, ha]
end K78
namespace K78
open PySem DL
section
variable {α : Type} [DecidableEq α]
theorem range_mul (a m : Nat) : List.range (a * m) = (List.range a).flatMap fun i => (List.range m).map fun j => i * m + j := by
  induction a with
  | zero => simp
  | succ a ih =>
    rw [Nat.succ_mul, List.range_add, ih, List.range_succ, List.flatMap_append]
    simp
theorem filter_eraseIdx : ∀ (l : List α) (i : Nat) (h : i < l.length), l.Nodup → (l.filter fun y => !decide (y = l[i])) = l.eraseIdx i
  | a :: l, 0, h, hn => by
    have hn := List.nodup_cons.mp hn
    have : (l.filter fun y => !decide (y = a)) = l := List.filter_eq_self.mpr fun y hy => by
      simp; intro e; subst e; exact hn.1 hy
    simp [this]
  | a :: l, i + 1, h, hn => by
    have hn := List.nodup_cons.mp hn
    have hi : i < l.length := by simpa using h
    have ne : ¬ a = l[i] := fun e => hn.1 (by rw [e]; exact List.getElem_mem hi)
    simp [ne, filter_eraseIdx l i hi hn.2]
theorem flatMap_range {β : Type} : ∀ (l : List α) (f : α → List β) (g : Nat → List β), (∀ i (h : i < l.length), f l[i] = g i) → l.flatMap f = (List.range l.length).flatMap g
  | [], _, _, _ => rfl
  | a :: l, f, g, h => by
    rw [List.flatMap_cons, List.length_cons, List.range_succ_eq_map, List.flatMap_cons, List.flatMap_map]
    rw [flatMap_range l f (fun i => g (i + 1)) (fun i hi => h (i + 1) (Nat.succ_lt_succ hi)), ← h 0 (Nat.succ_pos _)]
    rfl
theorem ords_eq : ∀ (n : Nat) (l : List α), l.length = n → l.Nodup → ords n l = (List.range (fac n)).map (ordAt n l)
  | 0, l, _, _ => rfl
  | n + 1, l, hl, hn => by
    have e1 : l.flatMap (fun x => (ords n (l.filter fun y => !decide (y = x))).map (x :: ·)) = (List.range (n + 1)).flatMap fun i => (List.range (fac n)).map fun j => ordAt (n + 1) l (i * fac n + j) := by
      refine (flatMap_range l _ (fun i => (List.range (fac n)).map fun j => ordAt (n + 1) l (i * fac n + j)) fun i hi => ?_).trans (by rw [hl])
      rw [filter_eraseIdx l i hi hn, ords_eq n (l.eraseIdx i) (by rw [List.length_eraseIdx_of_lt hi]; omega) (hn.eraseIdx _), List.map_map]
      refine List.map_congr_left fun j hj => ?_
      have hj := List.mem_range.mp hj
      have e2 : (i * fac n + j) / fac n = i := by rw [Nat.mul_comm, Nat.mul_add_div (fac_pos n), Nat.div_eq_of_lt hj]; omega
      have e3 : (i * fac n + j) % fac n = j := by rw [Nat.mul_comm, Nat.mul_add_mod, Nat.mod_eq_of_lt hj]
      show _ = ordAt (n + 1) l (i * fac n + j)
      rw [ordAt, e2, e3, List.getElem?_eq_getElem hi]
      rfl
    rw [ords, e1, show fac (n + 1) = (n + 1) * fac n from rfl, range_mul, List.map_flatMap]
    congr 1
    funext i
    rw [List.map_map]
    rfl
theorem plOf_ordAt : ∀ (n : Nat) (l : List α) (k : Nat), l.length = n → l.Nodup → k < fac n → plOf l (ordAt n l k) = k
  | 0, l, k, _, _, hk => by
    have hk : k < 1 := hk
    simp [ordAt, plOf]; omega
  | n + 1, l, k, hl, hn, hk => by
    have hq : k / fac n < l.length := by
      rw [hl]; exact (Nat.div_lt_iff_lt_mul (fac_pos n)).mpr hk
    have e : l.idxOf l[k / fac n] = k / fac n := hn.idxOf_getElem _ hq
    rw [ordAt, List.getElem?_eq_getElem hq]
    show plOf l (l[k / fac n] :: _) = k
    rw [plOf, e, plOf_ordAt n _ _ (by rw [List.length_eraseIdx_of_lt hq]; omega) (hn.eraseIdx _) (Nat.mod_lt _ (fac_pos n)), hl, Nat.add_sub_cancel, Nat.mul_comm]
    exact Nat.div_add_mod k (fac n)
theorem plOf_lt : ∀ (n : Nat) (l o : List α), l.length = n → o.Perm l → plOf l o < fac n
  | 0, l, o, hl, hp => by
    have : l = [] := List.length_eq_zero_iff.mp hl
    subst this
    rw [hp.eq_nil]
    exact Nat.one_pos
  | n + 1, l, [], hl, hp => by rw [hp.symm.eq_nil] at hl; simp at hl
  | n + 1, l, x :: o, hl, hp => by
    obtain ⟨hx, hp2⟩ := perm_erase hp
    have h1 := List.idxOf_lt_length_of_mem hx
    have h2 := plOf_lt n _ o (by rw [List.length_eraseIdx_of_lt h1]; omega) hp2
    rw [plOf, hl, Nat.add_sub_cancel]
    have : l.idxOf x * fac n ≤ n * fac n := Nat.mul_le_mul_right _ (by omega)
    have e : fac (n + 1) = n * fac n + fac n := Nat.succ_mul _ _
    omega
theorem ordAt_plOf : ∀ (n : Nat) (l o : List α), l.length = n → o.Perm l → ordAt n l (plOf l o) = o
  | 0, l, o, hl, hp => by
    have : l = [] := List.length_eq_zero_iff.mp hl
    subst this
    rw [hp.eq_nil]
    rfl
  | n + 1, l, [], hl, hp => by rw [hp.symm.eq_nil] at hl; simp at hl
  | n + 1, l, x :: o, hl, hp => by
    obtain ⟨hx, hp2⟩ := perm_erase hp
    have h1 := List.idxOf_lt_length_of_mem hx
    have hle : (l.eraseIdx (l.idxOf x)).length = n := by rw [List.length_eraseIdx_of_lt h1]; omega
    have h2 := plOf_lt n _ o hle hp2
    rw [plOf, hl, Nat.add_sub_cancel]
    have e2 : (l.idxOf x * fac n + plOf (l.eraseIdx (l.idxOf x)) o) / fac n = l.idxOf x := by rw [Nat.mul_comm, Nat.mul_add_div (fac_pos n), Nat.div_eq_of_lt h2]; omega
    have e3 : (l.idxOf x * fac n + plOf (l.eraseIdx (l.idxOf x)) o) % fac n = plOf (l.eraseIdx (l.idxOf x)) o := by rw [Nat.mul_comm, Nat.mul_add_mod, Nat.mod_eq_of_lt h2]
    rw [ordAt, e2, e3, List.getElem?_eq_getElem h1, List.getElem_idxOf h1]
    show x :: _ = _
    rw [ordAt_plOf n _ o hle hp2]
theorem ordAt_perm (n : Nat) (l : List α) : ∀ k, l.length = n → k < fac n → (ordAt n l k).Perm l := by
  induction n generalizing l with
  | zero => intro k hl _; rw [List.length_eq_zero_iff.mp hl]; exact .refl _
  | succ n ih =>
    intro k hl hk
    have hq : k / fac n < l.length := by
      rw [hl]; exact (Nat.div_lt_iff_lt_mul (fac_pos n)).mpr hk
    rw [ordAt, List.getElem?_eq_getElem hq]
    exact ((ih _ _ (by rw [List.length_eraseIdx_of_lt hq]; omega) (Nat.mod_lt _ (fac_pos n))).cons _).trans (cons_eraseIdx_perm l _ hq)
theorem ordAt_0 : ∀ (n : Nat) (l : List α), l.length = n → ordAt n l 0 = l
  | 0, l, h => (List.length_eq_zero_iff.mp h).symm
  | n + 1, a :: l, h => by
    rw [ordAt, Nat.zero_div, Nat.zero_mod]
    show a :: ordAt n l 0 = _
    rw [ordAt_0 n l (by simpa using h)]
theorem ordAt_last : ∀ (n : Nat) (l : List α), l.length = n → ordAt n l (fac n - 1) = l.reverse
  | 0, l, h => by rw [List.length_eq_zero_iff.mp h]; rfl
  | n + 1, l, h => by
    have hp := fac_pos n
    have e : fac (n + 1) - 1 = fac n * n + (fac n - 1) := by
      have : fac (n + 1) = n * fac n + fac n := Nat.succ_mul _ _
      rw [Nat.mul_comm]; omega
    rw [ordAt, e, Nat.mul_add_div hp, Nat.mul_add_mod, Nat.div_eq_of_lt (by omega), Nat.mod_eq_of_lt (by omega), Nat.add_zero, List.getElem?_eq_getElem (by omega)]
    show l[n] :: ordAt n _ _ = _
    rw [ordAt_last n _ (by rw [List.length_eraseIdx_of_lt (by omega)]; omega)]
    have hne : l ≠ [] := by intro e; rw [e] at h; simp at h
    have h1 := List.dropLast_concat_getLast hne
    have h2 : l.eraseIdx n = l.dropLast := by
      rw [List.dropLast_eq_take, List.eraseIdx_eq_take_drop_succ, List.drop_eq_nil_of_le (by omega), List.append_nil]
      congr 1
      omega
    rw [h2]
    conv => rhs; rw [← h1, List.reverse_append]
    rw [List.getLast_eq_getElem]
    simp [h]
end
/-- .. by counting the less ones behind each -/
def numOf : List Str → Nat
  | [] => 0
  | x :: r => (r.filter fun y => sLt y x).length * fac r.length + numOf r
theorem idxOf_less : ∀ {l : List Str} {x : Str}, Asc l → x ∈ l → l.idxOf x = (l.filter fun y => sLt y x).length
  | a :: l, x, h, hx => by
    obtain ⟨h1, h2⟩ := List.pairwise_cons.mp h
    by_cases e : a = x
    · subst e
      have : (l.filter fun y => sLt y a) = [] := List.filter_eq_nil_iff.mpr fun y hy => by rw [sLt_asymm (h1 y hy)]; simp
      simp [sLt_irrefl, this]
    · have hx : x ∈ l := by
        rcases List.mem_cons.mp hx with e' | hx
        · exact absurd e'.symm e
        · exact hx
      rw [List.idxOf_cons, List.filter_cons, h1 x hx, if_pos rfl, List.length_cons, idxOf_less h2 hx]
      rw [show (a == x) = false from by simpa using e]; rfl
theorem numOf_eq : ∀ (o l : List Str), Asc l → o.Perm l → plOf l o = numOf o
  | [], l, _, _ => rfl
  | x :: o, l, h, hp => by
    obtain ⟨hx, hp2⟩ := perm_erase hp
    have h1 := List.idxOf_lt_length_of_mem hx
    have hl := hp.length_eq
    have e1 : l.idxOf x = (o.filter fun y => sLt y x).length := by
      rw [idxOf_less h hx, ← (hp.filter _).length_eq, List.filter_cons, sLt_irrefl]
      rfl
    rw [plOf, numOf, ← hl, List.length_cons, Nat.add_sub_cancel, e1, ← e1]
    rw [numOf_eq o _ (h.sublist (List.eraseIdx_sublist _ _)) hp2]
theorem len_split {α : Type} (p : α → Bool) : ∀ l : List α, l.length = (l.filter p).length + (l.filter fun y => !p y).length
  | [] => rfl
  | a :: l => by
    have := len_split p l
    rw [List.filter_cons, List.filter_cons]
    cases p a <;> simp <;> omega
theorem numOf_mirror (m : Str → Str) : ∀ (o : List Str), o.Nodup → (∀ x ∈ o, ∀ y ∈ o, sLt (m x) (m y) = sLt y x) → numOf o + numOf (o.map m) + 1 = fac o.length
  | [], _, _ => rfl
  | x :: o, hn, h => by
    have hn := List.nodup_cons.mp hn
    have ih := numOf_mirror m o hn.2 fun x hx y hy => h x (List.mem_cons_of_mem _ hx) y (List.mem_cons_of_mem _ hy)
    rw [List.map_cons, numOf, numOf, List.filter_map, List.length_map, List.length_map]
    have e1 : (o.filter ((fun y => sLt y (m x)) ∘ m)) = o.filter fun y => !sLt y x := List.filter_congr fun y hy => by
      show sLt (m y) (m x) = _
      rw [h y (List.mem_cons_of_mem _ hy) x List.mem_cons_self]
      cases e : sLt y x with
      | true => rw [sLt_asymm e]; rfl
      | false =>
        cases e2 : sLt x y with
        | true => rfl
        | false => rw [sLt_tri e e2] at hy; exact absurd hy hn.1
    have e2 := len_split (fun y => sLt y x) o
    rw [e1]
    have e3 : fac (o.length + 1) = o.length * fac o.length + fac o.length := Nat.succ_mul _ _
    have e4 : (o.filter fun y => sLt y x).length * fac o.length + (o.filter fun y => !sLt y x).length * fac o.length = o.length * fac o.length := by rw [← Nat.add_mul, ← e2]
    rw [List.length_cons, e3]
    omega
end K78
set_option maxRecDepth 100000
namespace K78
open PySem PySem.Spec PyProof.Rows L2 DL
theorem w_number {os : List Str} (hl : os.length ≤ 12) : m__law_number [tS os] = .ok (.int (numOf os)) := by
  obtain ⟨a, h1, h2⟩ := forGo_rng (γ := gVar 2) (b := b__law_number_3) (fun a : Nat => [.sh (tS os), .sh (.int a), .un, .un]) (fun k a => a + numOf (os.drop k) = numOf os) (fun i : Nat => PyData.int i) os.length (fun k a hk ha => by
    have e1 := eComp_of (γ := gVar 3) (ι := iSrc seqD (eSl (eVar 0) (oInt (eOp addG (eVar 2) (eC (.int 1)))) oNo)) (τ := t__law_number_2) (ε := e__law_number_1) (vs := [3]) (s := [.sh (tS os), .sh (.int a), .sh (.int k), .un]) (s1 := [.sh (tS os), .sh (.int a), .sh (.int k), .un]) (s0 := [.sh (tS os), .sh (.int a), .sh (.int k), .un])
      PyData.str (fun y => sLt y os[k]) PyData.str (xs := os.drop (k + 1)) (by simp (maxSteps := 10000000) (disch := first | omega | (simp; done) | (simp; omega)) [← List.map_drop]) (by simp (maxSteps := 10000000) (disch := first | omega | (simp; done) | (simp; omega))) (fun y hy => ⟨_, rfl, by simp (maxSteps := 10000000) (disch := first | omega | (simp; done) | (simp; omega)) [t__law_number_2, hk], fun _ => by simp (maxSteps := 10000000) (disch := first | omega | (simp; done) | (simp; omega)) [e__law_number_1], by simp (maxSteps := 10000000) (disch := first | omega | (simp; done) | (simp; omega))⟩) (by simp; omega)
    have e2 : ((os.length : Int) - 1 - k) = ((os.length - 1 - k : Nat) : Int) := by omega
    refine ⟨_, a + ((os.drop (k + 1)).filter fun y => sLt y os[k]).length * fac (os.length - 1 - k), rfl, ?_, ?_⟩
    · have h5 := List.length_filter_le (fun y => sLt y os[k]) (os.drop (k + 1))
      simp at h5
      simp (maxSteps := 10000000) (disch := first | omega | (simp; done) | (simp; omega)) [b__law_number_3, e1, e2, w_law_count (os.length - 1 - k) (by omega)]
    · rw [← ha, List.drop_eq_getElem_cons hk, numOf, List.length_drop]
      rw [show os.length - (k + 1) = os.length - 1 - k by omega]
      omega) 0 (by simp)
  refine callD_rt ?_
  rw [List.drop_length] at h2
  have h2 : a = numOf os := h2
  simp at h1
  simp (maxSteps := 10000000) (disch := first | omega | (simp; done) | (simp; omega)) [s__law_number, h1, h2]
def mir (ns : List Str) (x : Str) : Str := ns.getD (ns.length - 1 - ns.idxOf x) Str.empty
theorem w_mirror {ns os : List Str} (h : Lot ns) (hp : os.Perm ns) : m__law_mirror [tS ns, tS os] = .ok (tS (os.map (mir ns))) := by
  have := h.hi
  have := hp.length_eq
  have hso : ∀ y ∈ ns, PyData.strOk y = true := fun y hy => (h.nm y hy).strOk
  have e1 := eComp_map' (γ := gVar 2) (ι := iSrc seqD (eVar 1)) (ε := e__law_mirror_1) (vs := [2]) (s := [.sh (tS ns), .sh (tS os), .un]) (s1 := [.sh (tS ns), .sh (tS os), .un]) (s0 := [.sh (tS ns), .sh (tS os), .un])
    PyData.str (fun x => .str (mir ns x)) (xs := os) (by simp (maxSteps := 10000000) (disch := first | omega | (simp; done) | (simp; omega))) (by simp (maxSteps := 10000000) (disch := first | omega | (simp; done) | (simp; omega))) (fun x hx => ⟨_, rfl, by
      have hm := hp.subset hx
      have h1 := List.idxOf_lt_length_of_mem hm
      have e2 : ((ns.length : Int) - 1 - (ns.idxOf x : Nat)) = ((ns.length - 1 - ns.idxOf x : Nat) : Int) := by omega
      have e3 : ns.length - 1 - ns.idxOf x < ns.length := by omega
      simp (maxSteps := 10000000) (disch := first | omega | (simp; done) | (simp; omega)) [e__law_mirror_1, idxT_s hso hm, e2, e3, mir], by simp (maxSteps := 10000000) (disch := first | omega | (simp; done) | (simp; omega))⟩) (by omega)
  refine callD_rt ?_
  simp (maxSteps := 10000000) (disch := first | omega | (simp; done) | (simp; omega)) [s__law_mirror, e1]
theorem w_namesI (xs : List Int) {i : Int} (h0 : 0 ≤ i) (hn : i ≤ 59) : ∃ (ns : List Str) (ys : List Int), m__law_namesI (dr xs) [.int i] = .ok (.list (ns.map .str), dr ys) ∧ (ns.length : Int) = i ∧ ns.Nodup ∧ (∀ x ∈ ns, Nm x) ∧ ∀ x ∈ ns, (cs x).length ≠ 11 := by
  obtain ⟨n, rfl⟩ := Int.eq_ofNat_of_zero_le h0
  obtain ⟨ns, ys, h1, h2, h3, h4, h5⟩ := w_names xs (n := n) (by omega)
  exact ⟨ns, ys, h1, by omega, h3, h4, h5⟩
theorem w_drawn (xs : List Int) {n : Nat} (hn : n ≤ 12) : ∃ (ps : List (Str × Int)) (ys : List Int), m__law_drawnI (dr xs) [.int (fac n)] = .ok (.dict (kv .int ps), dr ys) ∧ Drawn n ps ∧ ps.length ≤ 5 := by
  have hf := fac_pos n
  have hf2 := fac_le12 hn
  obtain ⟨t, x1, g1, g2, g3⟩ := w_take xs (b := 5) (by decide)
  obtain ⟨ns, x2, g4, g5, g6, g7, _⟩ := w_namesI x1 (i := 1 + t) (by omega) (by omega)
  obtain ⟨⟨ys, ps⟩, h1, h2, h3, h4⟩ := forGo_all (γ := gVar 3) (b := b__law_drawnI_1) PyData.str (fun a : List Int × List (Str × Int) => [.io (dr a.1), .sh (.int (fac n)), .ow (.dict (kv .int a.2)), .un])
    (fun r a => a.2.map (·.1) ++ r = ns ∧ (∀ p ∈ a.2, 0 ≤ p.2 ∧ p.2 < (fac n : Int)) ∧ True) (fun x r a ⟨h1, h2, _⟩ => by
      obtain ⟨ys, ps⟩ := a
      have hl : ps.length + (r.length + 1) = ns.length := by rw [← h1]; simp
      have hnd : (ps.map (·.1) ++ x :: r).Nodup := by rw [h1]; exact g6
      obtain ⟨hk, _, hx⟩ := List.nodup_append.mp hnd
      have hx : x ∉ ps.map (·.1) := fun h => hx x h x List.mem_cons_self rfl
      obtain ⟨u, y1, k1, k2, k3⟩ := w_take ys (b := 997) (by decide)
      obtain ⟨v, y2, k4, k5, k6⟩ := w_take y1 (b := 997) (by decide)
      obtain ⟨w, y3, k7, k8⟩ := w_pick y2 (ds := [.int 0, .int (fac n - 1), .int ((u * 1000003 + v) % fac n)]) _ (.inl rfl) (by simp)
      have : ∃ z, w = .int z ∧ 0 ≤ z ∧ z < (fac n : Int) := by
        simp only [List.mem_cons, List.not_mem_nil, or_false] at k8
        rcases k8 with e | e | e
        · exact ⟨_, e, by omega, by omega⟩
        · exact ⟨_, e, by omega, by omega⟩
        · exact ⟨_, e, Int.emod_nonneg _ (by omega), Int.emod_lt_of_pos _ (by omega)⟩
      obtain ⟨z, rfl, hz⟩ := this
      refine ⟨_, ⟨y3, aset ps x z⟩, rfl, ?_, ?_, ?_, trivial⟩
      · simp (maxSteps := 10000000) (disch := first | omega | (simp; done) | (simp; omega)) [b__law_drawnI_1, k1, k4, k7, putK_kv (e := PyData.int) hk]
      · rw [aset_new hx]; simpa using h1
      · rw [aset_new hx]
        intro p hp
        rcases List.mem_append.mp hp with hp | hp
        · exact h2 p hp
        · rw [List.mem_singleton.mp hp]; exact hz) ns (x2, []) ⟨rfl, by simp, trivial⟩
  have e1 : ps.map (·.1) = ns := by simpa using h2
  have hl : ps.length = ns.length := by rw [← e1]; simp
  refine ⟨ps, ys, callI_rt ?_, ⟨fun p hp => g7 _ (by rw [← e1]; exact List.mem_map.mpr ⟨p, hp, rfl⟩), h3, by intro e; rw [e] at hl; simp at hl; omega, by rw [e1]; exact g6, by omega⟩, by omega⟩
  simp at h1
  simp (maxSteps := 10000000) (disch := first | omega | (simp; done) | (simp; omega)) [s__law_drawnI, g1, g4, h1]
end K78
set_option maxRecDepth 100000
namespace K78
open PySem PySem.Spec PyProof.Rows L2 DL
abbrev zz : Str := "zz99zz99zz9"
theorem nm_of (x : Str) (h : nmB x = true) : Nm x := nmB_iff.mp h
theorem zz_nm : Nm zz := nm_of _ (by decide +kernel)
@[simp] theorem nisG_rsd {i : Int} {b : Bool} : nisG (rsd i) (.bool b) = some (.bool true) := (rfl)
theorem deep_rsd {i : Int} : deep (rsd i) = true := (rfl)
@[simp] theorem neG_rsd {i : Int} : neG (rsd i) (rsd i) = some (.bool false) := neG_self deep_rsd
theorem sum_old {x : Str} {v : Int} : ∀ {ps : List (Str × Int)}, Keys ps → x ∈ ps.map (·.1) → ((ps.map fun p => if p.1 = x then (p.1, v) else p).map (·.2)).sum = ((ps.filter fun p => !decide (p.1 = x)).map (·.2)).sum + v
  | [], _, hx => by simp at hx
  | p :: r, h, hx => by
    have h := List.nodup_cons.mp h
    by_cases e : p.1 = x
    · have h2 : x ∉ r.map (·.1) := e ▸ h.1
      have e1 : (r.map fun p => if p.1 = x then (p.1, v) else p) = r := by
        conv => rhs; rw [← List.map_id r]
        exact List.map_congr_left fun q hq => if_neg fun e => h2 (List.mem_map.mpr ⟨q, hq, e⟩)
      have e2 : (r.filter fun p => !decide (p.1 = x)) = r := List.filter_eq_self.mpr fun q hq => by
        have : q.1 ≠ x := fun e => h2 (List.mem_map.mpr ⟨q, hq, e⟩)
        simp [this]
      rw [List.map_cons, e1, if_pos e, List.filter_cons, e2]
      simp [e]; omega
    · have hx : x ∈ r.map (·.1) := by
        rcases List.mem_cons.mp hx with e' | hx
        · exact absurd e'.symm e
        · exact hx
      have := sum_old (v := v) h.2 hx
      rw [List.map_cons, if_neg e, List.filter_cons, decide_eq_false e, List.map_cons, List.sum_cons, this]
      simp; omega
theorem sum_aset {ps : List (Str × Int)} {x : Str} {v : Int} (h : Keys ps) : ((aset ps x v).map (·.2)).sum = ((ps.filter fun p => !decide (p.1 = x)).map (·.2)).sum + v := by
  by_cases hx : x ∈ ps.map (·.1)
  · rw [aset_old hx]; exact sum_old h hx
  · rw [aset_new hx]
    have e2 : (ps.filter fun p => !decide (p.1 = x)) = ps := List.filter_eq_self.mpr fun q hq => by
      have : q.1 ≠ x := fun e => hx (List.mem_map.mpr ⟨q, hq, e⟩)
      simp [this]
    simp [e2]
theorem not_drawn {ns : List Str} (h : Lot ns) {ps : List (Str × Int)} (hp : Drawn ns.length ps) {k d : D} (hk : (keyOf k).isSome = true) (hs : ∀ x, k = .str x → (cs x).length ≤ 100) (hb : nmD k = false ∨ valB ns.length d = false) : m_is_drawn [tS ns, .dict (setK (kv .int ps) k d)] = .ok (.bool false) := by
  have hl := setK_length (kv .int ps) k d
  have hps := hp.le
  simp at hl
  rw [w_is_drawn h.hi _ (by omega) (fun q hq x e => by
    rcases setK_sub hq with h1 | ⟨p, h1, h2⟩
    · have := hs x (h1 ▸ e); omega
    · obtain ⟨r, h3, rfl⟩ := List.mem_map.mp h1
      have := PyData.str.inj (h2.trans e)
      have := (hp.nm r h3).len
      subst_vars
      omega)]
  congr 2
  obtain ⟨q, h1, h2, h3⟩ := setK_mem (kvs := kv .int ps) (k := k) (d := d)
  have h2 := keyOf_same hk h2
  unfold drawnB
  rcases hb with hb | hb
  · have : (setK (kv .int ps) k d).all (fun q => nmD q.1) = false := List.all_eq_false.mpr ⟨q, h1, by rw [h2, hb]; decide⟩
    rw [this]; simp
  · have : (setK (kv .int ps) k d).all (fun q => valB ns.length q.2) = false := List.all_eq_false.mpr ⟨q, h1, by rw [h3, hb]; decide⟩
    rw [this]; simp
theorem repr_ok {n : Nat} (hn : n ≤ 12) {ps : List (Str × Int)} (hp : Drawn n ps) (hl : ps.length ≤ 6) : ∃ x, reprG [.dict (kv .int ps)] = some (.str x) := by
  have hf := fac_le12 hn
  refine ⟨_, reprG_of ?_ (.inr ?_) ?_ ?_⟩
  · rw [PyData.showable]
    have : ∀ ps : List (Str × Int), (∀ p ∈ ps, p.2.natAbs < 10 ^ 9) → PyData.showableKv (kv .int ps) = true := by
      intro ps
      induction ps with
      | nil => intro _; rfl
      | cons p r ih =>
        intro h
        show PyData.showableKv ((.str p.1, .int p.2) :: kv .int r) = true
        rw [PyData.showableKv, ih fun q hq => h q (List.mem_cons_of_mem _ hq)]
        have h1 := h p List.mem_cons_self
        have : p.2.natAbs.log2 < 1920 := by
          by_cases h0 : p.2.natAbs = 0
          · rw [h0]; decide
          · have := (Nat.log2_lt (k := 30) h0).mpr (by omega)
            omega
        rw [PyData.showable, PyData.showable, decide_eq_true this]
        rfl
    exact this ps fun p hp' => by have := hp.rg p hp'; omega
  · have : ∀ ps : List (Str × Int), noLP (kv .int ps) = true := by
      intro ps
      induction ps with
      | nil => rfl
      | cons p r ih => show noLP ((.str p.1, .int p.2) :: kv .int r) = true; rw [noLP, noLQ, ih]; rfl
    rw [noL]; exact this ps
  · have : ∀ ps : List (Str × Int), PyData.depthKv (kv .int ps) = 0 := by
      intro ps
      induction ps with
      | nil => rfl
      | cons p r ih => show PyData.depthKv ((.str p.1, .int p.2) :: kv .int r) = 0; rw [PyData.depthKv, ih]; rfl
    rw [PyData.depth, this]; decide
  · rw [sw]
    have := swP_le (ps := kv .int ps) (B := 132) (fun p hp' => by
      obtain ⟨q, hq, rfl⟩ := List.mem_map.mp hp'
      have h1 := sw_nm (hp.nm q hq)
      have h2 := sw_int (i := q.2) (k := 9) (by have := hp.rg q hq; omega) (by decide)
      show sw (.str q.1) + sw (.int q.2) ≤ _
      omega)
    simp at this
    omega
theorem drawn_aset {n : Nat} {ps : List (Str × Int)} (hp : Drawn n ps) {x : Str} (hx : Nm x) {v : Int} (hv : 0 ≤ v ∧ v < (fac n : Int)) (hl : ps.length ≤ 90) : Drawn n (aset ps x v) := by
  have h1 : ∀ p ∈ aset ps x v, p ∈ ps ∨ p = (x, v) := fun p hp => by
    unfold aset at hp
    split at hp
    · obtain ⟨q, hq, e⟩ := List.mem_map.mp hp
      split at e
      · next e2 => subst e; exact .inr (by rw [← e2])
      · subst e; exact .inl hq
    · simpa using hp
  refine ⟨fun p hq => ?_, fun p hq => ?_, ?_, aset_keys hp.nd, by have := aset_length (ps := ps) (x := x) (v := v); omega⟩
  · rcases h1 p hq with h | rfl
    · exact hp.nm p h
    · exact hx
  · rcases h1 p hq with h | rfl
    · exact hp.rg p h
    · exact hv
  · have := hp.ne
    unfold aset
    split <;> simp [this]
theorem vals_comp {ps : List (Str × Int)} (h : Keys ps) (hl : ps.length ≤ 100) : ∀ p ∈ ps, ixA (.dict (kv .int ps)) (.str p.1) = some (.int p.2) := fun p hp => by
  rw [ixA_kv h (by omega), aget_mem h hp]; rfl
theorem right_b3 {ns os : List Str} (h : Lot ns) (hos : os.Perm ns) {ps : List (Str × Int)} (hp : Drawn ns.length ps) (hl : ps.length ≤ 90) {x : Str} (hx : Nm x) (dr' a4 a5 a6 : Sl) :
    b__law_is_draw_rightI_3 [dr', .sh (tS ns), .sh (.int (fac ns.length)), .sh (.dict (kv .int ps)), a4, a5, a6, .sh (tS os), .sh (.str x), .un, .un, .un, .un, .un] = .ok (.nx [dr', .sh (tS ns), .sh (.int (fac ns.length)), .sh (.dict (kv .int ps)), a4, a5, a6, .sh (tS os), .un, .un, .un, .un, .un, .un]) := by
  have hhi := h.hi
  have hf := fac_pos ns.length
  have hf2 := fac_le12 hhi
  have hol := hos.length_eq
  have hkeys := hp.nd
  have e0 := w_integer_for h hp hx hos
  generalize hv : ((plOf ns os : Int) - ((ps.filter fun p => !decide (p.1 = x)).map (·.2)).sum) % (fac ns.length : Int) = v at e0
  have hv1 : 0 ≤ v := by rw [← hv]; exact Int.emod_nonneg _ (by omega)
  have hv2 : v < (fac ns.length : Int) := by rw [← hv]; exact Int.emod_lt_of_pos _ (by omega)
  have hd := drawn_aset hp hx ⟨hv1, hv2⟩ hl
  have hpl := plOf_lt _ _ _ rfl hos
  have hs : ((aset ps x v).map (·.2)).sum % (fac ns.length : Int) = (plOf ns os : Int) := by
    rw [sum_aset hkeys, ← hv, Int.add_emod_emod, show ∀ a b : Int, a + (b - a) = b from fun a b => by omega]
    exact Int.emod_eq_of_lt (by omega) (by omega)
  have e1 := w_order_of h hd (plOf ns os) hs
  rw [ordAt_plOf _ _ _ rfl hos] at e1
  have e2 := eComp_map' (γ := gVar 11) (ι := iSrc seqD (eVar 13)) (ε := e__law_is_draw_rightI_2) (vs := [11]) (s := [dr', .sh (tS ns), .sh (.int (fac ns.length)), .sh (.dict (kv .int ps)), a4, a5, a6, .sh (tS os), .sh (.str x), .un, .un, .un, .sh (.int v), .sh (.dict (kv .int (aset ps x v)))])
    (s1 := [dr', .sh (tS ns), .sh (.int (fac ns.length)), .sh (.dict (kv .int ps)), a4, a5, a6, .sh (tS os), .sh (.str x), .un, .un, .un, .sh (.int v), .sh (.dict (kv .int (aset ps x v)))]) (s0 := [dr', .sh (tS ns), .sh (.int (fac ns.length)), .sh (.dict (kv .int ps)), a4, a5, a6, .sh (tS os), .sh (.str x), .un, .un, .un, .sh (.int v), .sh (.dict (kv .int (aset ps x v)))])
    (fun p : Str × Int => .str p.1) (fun p => .int p.2) (xs := aset ps x v) (by simp (maxSteps := 10000000) (disch := first | omega | (simp; done) | (simp; omega)) [Function.comp_def]) (by simp (maxSteps := 10000000) (disch := first | omega | (simp; done) | (simp; omega))) (fun p hp' => ⟨_, rfl, by simp (maxSteps := 10000000) (disch := first | omega | (simp; done) | (simp; omega)) [e__law_is_draw_rightI_2, vals_comp hd.nd hd.le p hp'], by simp (maxSteps := 10000000) (disch := first | omega | (simp; done) | (simp; omega))⟩) (by have := hd.le; omega)
  have e3 := w_number (os := os) (by omega)
  rw [← numOf_eq _ _ h.asc hos] at e3
  have e4 : sameOk 8 (tS os) := ⟨by simp; omega, fun y hy => by obtain ⟨z, _, rfl⟩ := List.mem_map.mp hy; trivial⟩
  have e5 := w_same 8 _ e4
  simp (maxSteps := 10000000) (disch := first | omega | (simp; done) | (simp; omega)) [b__law_is_draw_rightI_3, w_told5, e0, hv1, hv2, dictK_kv (e := PyData.int) hkeys, putK_kv (e := PyData.int) hkeys, e2, hs, e3, w_told4, e1, e5]
theorem right_b4 {ns : List Str} (h : Lot ns) (one : D) (h1 : m_is_drawn [tS ns, one] = .ok (.bool false)) (a0 a2 a3 a4 a5 a6 a7 a9 a10 : Sl) :
    b__law_is_draw_rightI_4 [a0, .sh (tS ns), a2, a3, a4, a5, a6, a7, .un, a9, a10, .sh one, .un, .un] = .ok (.nx [a0, .sh (tS ns), a2, a3, a4, a5, a6, a7, .un, a9, a10, .un, .un, .un]) := by
  simp (maxSteps := 10000000) (disch := first | omega | (simp; done) | (simp; omega)) [b__law_is_draw_rightI_4, w_told3, w_told4, w_told5, w_is_draw h one false h1, w_order_of_bad h one h1, w_integer_for_bad h one _ _ h1]
theorem str_pick {x : Str} {xs : List Str} {d : D} (h : d ∈ xs.map PyData.str) : ∃ x ∈ xs, d = .str x := by
  obtain ⟨x, h1, h2⟩ := List.mem_map.mp h
  exact ⟨x, h1, h2.symm⟩
theorem w_draw_right (xs : List Int) {ns : List Str} (h : Lot ns) : ∃ ys, m__law_is_draw_rightI (dr xs) [tS ns] = .ok (.bool true, dr ys) := by
  have hhi := h.hi
  have hlo := h.lo
  have hf := fac_pos ns.length
  have hf2 := fac_le12 hhi
  obtain ⟨ps, x1, a1, hp, hp5⟩ := w_drawn xs hhi
  obtain ⟨kept, a2⟩ := repr_ok hhi hp (by omega)
  have hkeys := hp.nd
  have hpl := hp.le
  -- the number
  obtain ⟨k, hk⟩ := Int.eq_ofNat_of_zero_le (Int.emod_nonneg (ps.map (·.2)).sum (show (fac ns.length : Int) ≠ 0 by omega))
  have hklt : k < fac ns.length := by
    have := Int.emod_lt_of_pos (ps.map (·.2)).sum (show (0:Int) < (fac ns.length : Int) by omega)
    omega
  have a3 := w_order_of h hp k hk
  have hop := ordAt_perm ns.length ns k rfl hklt
  have hol := hop.length_eq
  have a4 := w_number (os := ordAt ns.length ns k) (by omega)
  rw [(numOf_eq _ _ h.asc hop).symm.trans (plOf_ordAt _ _ _ rfl h.asc.nodup hklt)] at a4
  obtain ⟨es, x2, a5, hes⟩ := w_shuffled x1 (ds := ns.map .str) (tS ns) (.inr rfl) (by simp; omega)
  obtain ⟨os, rfl, hos⟩ := perm_strs hes
  have hosl := hos.length_eq
  -- the keys in order
  obtain ⟨ks, hke⟩ : ∃ ks : List Str, ps.map (·.1) = ks := ⟨_, rfl⟩
  have hks : (sortS ks).length = ps.length := by rw [(sortS_perm _).length_eq, ← hke]; simp
  have hks2 : ks.length = ps.length := by rw [← hke]; simp
  have hkn : ∀ x ∈ sortS ks, Nm x := fun x hx => by
    have hx := (sortS_perm _).subset hx
    rw [← hke] at hx
    obtain ⟨p, hp1, rfl⟩ := List.mem_map.mp hx
    exact hp.nm p hp1
  have b1 := eComp_map' (γ := gVar 8) (ι := iSrc seqD (eVar 3)) (ε := e__law_is_draw_rightI_1) (vs := [8]) (s := [.io (dr x1), .sh (tS ns), .sh (.int (fac ns.length)), .sh (.dict (kv .int ps)), .sh (.str kept), .un, .un, .un, .un, .un, .un, .un, .un, .un])
    (s1 := [.io (dr x1), .sh (tS ns), .sh (.int (fac ns.length)), .sh (.dict (kv .int ps)), .sh (.str kept), .un, .un, .un, .un, .un, .un, .un, .un, .un]) (s0 := [.io (dr x1), .sh (tS ns), .sh (.int (fac ns.length)), .sh (.dict (kv .int ps)), .sh (.str kept), .un, .un, .un, .un, .un, .un, .un, .un, .un])
    (fun p : Str × Int => .str p.1) (fun p => .int p.2) (xs := ps) (by simp (maxSteps := 10000000) (disch := first | omega | (simp; done) | (simp; omega)) [Function.comp_def]) (by simp (maxSteps := 10000000) (disch := first | omega | (simp; done) | (simp; omega))) (fun p hp' => ⟨_, rfl, by simp (maxSteps := 10000000) (disch := first | omega | (simp; done) | (simp; omega)) [e__law_is_draw_rightI_1, vals_comp hp.nd hp.le p hp'], by simp (maxSteps := 10000000) (disch := first | omega | (simp; done) | (simp; omega))⟩) (by omega)
  obtain ⟨_, b2, _⟩ := forGo_all (γ := gVar 8) (b := b__law_is_draw_rightI_3) PyData.str (fun _ : Unit => [.io (dr x2), .sh (tS ns), .sh (.int (fac ns.length)), .sh (.dict (kv .int ps)), .sh (.str kept), .sh (.int k), .sh (tS (ordAt ns.length ns k)), .sh (tS os), .un, .un, .un, .un, .un, .un])
    (fun r _ => ∀ x ∈ r, Nm x) (fun x r a hr => ⟨_, (), rfl, right_b3 h hos hp (by omega) (hr x List.mem_cons_self) _ _ _ _, fun y hy => hr y (List.mem_cons_of_mem _ hy)⟩) ((sortS ks).take 2 ++ [zz]) () (fun x hx => by
      rcases List.mem_append.mp hx with hx | hx
      · exact hkn x (List.mem_of_mem_take hx)
      · rw [List.mem_singleton.mp hx]; exact zz_nm)
  -- what is no draw
  obtain ⟨y1, x3, c1, c2⟩ := w_pick x2 (ds := [.int (-1), .int (fac ns.length), .bool true, .str "0", .none]) _ (.inl rfl) (by simp)
  obtain ⟨y2, x4, c3, c4⟩ := w_pick x3 (ds := (sortS ks).map .str) _ (.inl rfl) (by
    intro e
    have : (sortS ks).length = 0 := by simpa using congrArg List.length e
    exact hp.ne (List.length_eq_zero_iff.mp (by omega)))
  obtain ⟨j, hj, rfl⟩ := List.mem_map.mp c4
  obtain ⟨y3, x5, c5, c6⟩ := w_pick x4 (ds := [.str "", .str "1a", .str "Aa", .str "abcdefghijklm", .int 5, .none]) _ (.inl rfl) (by simp)
  have d1 : m_is_drawn [tS ns, .dict (setK (kv .int ps) (.str j) y1)] = .ok (.bool false) := not_drawn h hp rfl (fun x e => by cases PyData.str.inj e; have := (hkn j hj).len; omega) (.inr (by
    simp only [List.mem_cons, List.not_mem_nil, or_false] at c2
    rcases c2 with rfl | rfl | rfl | rfl | rfl <;> simp [valB]))
  have d2 : m_is_drawn [tS ns, .dict (setK (kv .int ps) y3 (.int 0))] = .ok (.bool false) := by
    simp only [List.mem_cons, List.not_mem_nil, or_false] at c6
    refine not_drawn h hp ?_ ?_ (.inl ?_)
    · rcases c6 with rfl | rfl | rfl | rfl | rfl | rfl <;> rfl
    · intro x e
      rcases c6 with rfl | rfl | rfl | rfl | rfl | rfl
      · cases PyData.str.inj e; decide +kernel
      · cases PyData.str.inj e; decide +kernel
      · cases PyData.str.inj e; decide +kernel
      · cases PyData.str.inj e; decide +kernel
      · cases e
      · cases e
    · rcases c6 with rfl | rfl | rfl | rfl | rfl | rfl <;> decide +kernel
  have hky : (keyOf y3).isSome = true := by
    simp only [List.mem_cons, List.not_mem_nil, or_false] at c6
    rcases c6 with rfl | rfl | rfl | rfl | rfl | rfl <;> rfl
  have d3 : m_is_drawn [tS ns, .dict []] = .ok (.bool false) := w_is_drawn hhi [] (by simp) (by simp)
  obtain ⟨_, b3, _⟩ := forGo_all (γ := gVar 11) (b := b__law_is_draw_rightI_4) (fun d : D => d) (fun _ : Unit => [.io (dr x5), .sh (tS ns), .sh (.int (fac ns.length)), .sh (.dict (kv .int ps)), .sh (.str kept), .sh (.int k), .sh (tS (ordAt ns.length ns k)), .sh (tS os), .un, .sh (.dict (setK (kv .int ps) (.str j) y1)), .sh (.dict (setK (kv .int ps) y3 (.int 0))), .un, .un, .un])
    (fun r _ => ∀ d ∈ r, m_is_drawn [tS ns, d] = .ok (.bool false)) (fun d r a hr => ⟨_, (), rfl, right_b4 h d (hr d List.mem_cons_self) _ _ _ _ _ _ _ _ _, fun y hy => hr y (List.mem_cons_of_mem _ hy)⟩)
    [.dict (setK (kv .int ps) (.str j) y1), .dict (setK (kv .int ps) y3 (.int 0)), .dict [], .none, .list ((sortS ks).map .str)] () (fun d hd => by
      simp only [List.mem_cons, List.not_mem_nil, or_false] at hd
      rcases hd with rfl | rfl | rfl | rfl | rfl
      · exact d1
      · exact d2
      · exact d3
      · exact w_is_drawn_o _ rfl
      · exact w_is_drawn_o _ rfl)
  have hnn : ¬ (ns ++ ns).Perm ns := fun e => by have := e.length_eq; simp at this; subst this; simp at hlo
  have b4 := eComp_map' (γ := gVar 11) (ι := iSrc seqD (eFz (eLst (aCons (eC (.str "")) (aCons (eC (.str "1a")) (aCons (eC (.str "a")) aNil)))))) (ε := e__law_is_draw_rightI_5) (vs := [11]) (s := [.io (dr x5), .sh (tS ns), .sh (.int (fac ns.length)), .sh (.dict (kv .int ps)), .sh (.str kept), .sh (.int k), .sh (tS (ordAt ns.length ns k)), .sh (tS os), .un, .sh (.dict (setK (kv .int ps) (.str j) y1)), .sh (.dict (setK (kv .int ps) y3 (.int 0))), .un, .un, .un])
    (s1 := [.io (dr x5), .sh (tS ns), .sh (.int (fac ns.length)), .sh (.dict (kv .int ps)), .sh (.str kept), .sh (.int k), .sh (tS (ordAt ns.length ns k)), .sh (tS os), .un, .sh (.dict (setK (kv .int ps) (.str j) y1)), .sh (.dict (setK (kv .int ps) y3 (.int 0))), .un, .un, .un])
    (s0 := [.io (dr x5), .sh (tS ns), .sh (.int (fac ns.length)), .sh (.dict (kv .int ps)), .sh (.str kept), .sh (.int k), .sh (tS (ordAt ns.length ns k)), .sh (tS os), .un, .sh (.dict (setK (kv .int ps) (.str j) y1)), .sh (.dict (setK (kv .int ps) y3 (.int 0))), .un, .un, .un])
    (fun b : Bool × Str => .str b.2) (fun b => rsd (if b.1 then 1 else 0)) (xs := [(false, ""), (false, "1a"), (true, "a")]) (by simp (maxSteps := 10000000) (disch := first | omega | (simp; done) | (simp; omega))) (by simp (maxSteps := 10000000) (disch := first | omega | (simp; done) | (simp; omega))) (fun b hb => ⟨_, rfl, by
      simp only [List.mem_cons, List.not_mem_nil, or_false] at hb
      rcases hb with rfl | rfl | rfl
      · have hx : m_is_name [.str ""] = .ok (.bool false) := by rw [w_is_name _ (fun z e => by cases PyData.str.inj e; decide +kernel)]; congr 2
        simp (maxSteps := 10000000) (disch := first | omega | (simp; done) | (simp; omega)) [e__law_is_draw_rightI_5, w_told5, w_integer_for_nm h hp _ _ hx]
      · have hx : m_is_name [.str "1a"] = .ok (.bool false) := by rw [w_is_name _ (fun z e => by cases PyData.str.inj e; decide +kernel)]; congr 2
        simp (maxSteps := 10000000) (disch := first | omega | (simp; done) | (simp; omega)) [e__law_is_draw_rightI_5, w_told5, w_integer_for_nm h hp _ _ hx]
      · have hx : Nm "a" := nm_of _ (by decide +kernel)
        have h9 := w_integer_for_o h hp hx hnn (by simp; omega)
        rw [List.map_append] at h9
        simp (maxSteps := 10000000) (disch := first | omega | (simp; done) | (simp; omega)) [e__law_is_draw_rightI_5, w_told5, h9], by simp (maxSteps := 10000000) (disch := first | omega | (simp; done) | (simp; omega))⟩) (by simp)
  refine ⟨x5, callI_rt ?_⟩
  have e9 := w_law_count ns.length (by omega)
  have ekv : List.map ((fun x => x.fst) ∘ fun p : Str × Int => (PyData.str p.fst, PyData.int p.snd)) ps = ks.map .str := by rw [← hke]; simp
  have hg := good_kv (e := PyData.int) hkeys (by omega)
  have hsrt := (sortS_eq_iff h.asc).mpr hop
  simp at b2 b3 hsrt
  have hl1 := hks
  simp (maxSteps := 10000000) (disch := first | omega | (simp; done) | (simp; omega)) [s__law_is_draw_rightI, e9, a1, a2, b1, hk, w_told3, w_told4, w_is_draw h _ true (w_drawn_ok h hp), a3, hsrt, a4, a5, ekv, b2, dictK_kv (e := PyData.int) hkeys, c1, c3, putK_any hg, c5, hky, b3, b4, eqG_self]
  rw [eqG_self (by rfl)]
  simp (maxSteps := 10000000) (disch := first | omega | (simp; done) | (simp; omega)) [a2]
end K78
set_option maxRecDepth 100000
namespace K78
open PySem PySem.Spec PyProof.Rows L2 DL
theorem mir_lt {ns : List Str} (h : Asc ns) {x y : Str} (hx : x ∈ ns) (hy : y ∈ ns) : sLt (mir ns x) (mir ns y) = sLt y x := by
  have lt_iff : ∀ i j (hi : i < ns.length) (hj : j < ns.length), sLt ns[i] ns[j] = decide (i < j) := by
    intro i j hi hj
    by_cases hij : i < j
    · rw [decide_eq_true hij]; exact List.pairwise_iff_getElem.mp h i j hi hj hij
    · rw [decide_eq_false hij]
      by_cases e : i = j
      · subst e; exact sLt_irrefl _
      · exact sLt_asymm (List.pairwise_iff_getElem.mp h j i hj hi (by omega))
  have h1 := List.idxOf_lt_length_of_mem hx
  have h2 := List.idxOf_lt_length_of_mem hy
  have e1 : x = ns[ns.idxOf x] := (List.getElem_idxOf h1).symm
  have e2 : y = ns[ns.idxOf y] := (List.getElem_idxOf h2).symm
  have m1 : mir ns x = ns[ns.length - 1 - ns.idxOf x]'(by omega) := by unfold mir; simp [show ns.length - 1 - ns.idxOf x < ns.length by omega]
  have m2 : mir ns y = ns[ns.length - 1 - ns.idxOf y]'(by omega) := by unfold mir; simp [show ns.length - 1 - ns.idxOf y < ns.length by omega]
  rw [m1, m2, lt_iff]
  conv => rhs; rw [e1, e2]
  rw [lt_iff]
  exact decide_eq_decide.mpr (by omega)
theorem mir_perm {ns os : List Str} (h : Asc ns) (hp : os.Perm ns) : (os.map (mir ns)).Perm ns := by
  have h1 : (ns.map (mir ns)).Perm ns := by
    have : ns.map (mir ns) = ns.reverse := by
      apply List.ext_getElem
      · simp
      · intro i h1 h2
        simp at h1 h2
        rw [List.getElem_map, List.getElem_reverse]
        unfold mir
        rw [h.nodup.idxOf_getElem i h1]
        simp [show ns.length - 1 - i < ns.length by omega]
    rw [this]
    exact List.reverse_perm _
  exact (hp.map _).trans h1
theorem law_b3 {ns os : List Str} (h : Lot ns) (hp : os.Perm ns) (a0 a1 a2 a3 a4 a5 a6 : Sl) : b_law_3 [a0, a1, a2, a3, a4, a5, a6, .sh (tS os), .sh (tS ns), .un, .un, .un, .un, .un] = .ok (.nx [a0, a1, a2, a3, a4, a5, a6, .un, .un, .un, .un, .un, .un, .un]) := by
  have hm := mir_perm h.asc hp
  have e := numOf_mirror (mir ns) os (hp.nodup_iff.mpr h.asc.nodup) fun x hx y hy => mir_lt h.asc (hp.subset hx) (hp.subset hy)
  rw [← numOf_eq _ _ h.asc hp, ← numOf_eq _ _ h.asc hm, hp.length_eq] at e
  have e2 : (plOf ns os : Int) + (plOf ns (os.map (mir ns)) : Int) = (fac ns.length : Int) - 1 := by omega
  simp (maxSteps := 10000000) (disch := first | omega | (simp; done) | (simp; omega)) [b_law_3, w_number_of h hp, w_mirror h hp, w_number_of h hm, w_orders_count h, e2]
section
variable {bad a b c : D}
theorem bad0 (h : m_check_lot [bad] = .exn "NotRight" .none []) : m_orders_count [bad] = .exn "NotRight" .none [] := callD_exn (by simp (maxSteps := 10000000) (disch := first | omega | (simp; done) | (simp; omega)) [s_orders_count, h])
theorem bad1 (h : m_check_lot [bad] = .exn "NotRight" .none []) : m_order_with [bad, a] = .exn "NotRight" .none [] := callD_exn (by simp (maxSteps := 10000000) (disch := first | omega | (simp; done) | (simp; omega)) [s_order_with, h])
theorem bad2 (h : m_check_lot [bad] = .exn "NotRight" .none []) : m_number_of [bad, a] = .exn "NotRight" .none [] := callD_exn (by simp (maxSteps := 10000000) (disch := first | omega | (simp; done) | (simp; omega)) [s_number_of, h])
theorem bad3 (h : m_check_lot [bad] = .exn "NotRight" .none []) : m_is_draw [bad, a] = .exn "NotRight" .none [] := callD_exn (by simp (maxSteps := 10000000) (disch := first | omega | (simp; done) | (simp; omega)) [s_is_draw, h])
theorem badc (h : m_check_lot [bad] = .exn "NotRight" .none []) : m_check_draw [bad, a] = .exn "NotRight" .none [] := callD_exn (by simp (maxSteps := 10000000) (disch := first | omega | (simp; done) | (simp; omega)) [s_check_draw, h])
theorem bad4 (h : m_check_lot [bad] = .exn "NotRight" .none []) : m_order_of [bad, a] = .exn "NotRight" .none [] := callD_exn (by simp (maxSteps := 10000000) (disch := first | omega | (simp; done) | (simp; omega)) [s_order_of, badc h])
theorem bad5 (h : m_check_lot [bad] = .exn "NotRight" .none []) : m_integer_for [bad, a, b, c] = .exn "NotRight" .none [] := callD_exn (by simp (maxSteps := 10000000) (disch := first | omega | (simp; done) | (simp; omega)) [s_integer_for, badc h])
end
theorem law_b7 {bad : D} (h : m_check_lot [bad] = .exn "NotRight" .none []) (a0 a1 a2 a3 a4 a5 a6 a9 a10 : Sl) : b_law_7 [a0, a1, a2, a3, a4, a5, a6, .un, .un, a9, a10, .sh bad, .un, .un] = .ok (.nx [a0, a1, a2, a3, a4, a5, a6, .un, .un, a9, a10, .un, .un, .un]) := by
  have e1 := eComp_map' (γ := gVar 13) (ι := iSrc seqD (eFz (eLst (aCons (eC (.int 0)) (aCons (eC (.int 2)) (aCons (eC (.int 3)) (aCons (eC (.int 4)) (aCons (eC (.int 5)) aNil)))))))) (ε := e_law_6) (vs := [13]) (s := [a0, a1, a2, a3, a4, a5, a6, .un, .un, a9, a10, .sh bad, .un, .un]) (s1 := [a0, a1, a2, a3, a4, a5, a6, .un, .un, a9, a10, .sh bad, .un, .un]) (s0 := [a0, a1, a2, a3, a4, a5, a6, .un, .un, a9, a10, .sh bad, .un, .un])
    (fun d : D => d) (fun _ => .bool true) (xs := [.int 0, .int 2, .int 3, .int 4, .int 5]) (by simp (maxSteps := 10000000) (disch := first | omega | (simp; done) | (simp; omega))) (by simp (maxSteps := 10000000) (disch := first | omega | (simp; done) | (simp; omega))) (fun d hd => ⟨_, rfl, by
      have hself : eqG (rsd 0) (.tuple [.str "raised", .int 0, .int 1]) = some (.bool true) := eqG_self rfl
      have hk : keyed [(.str "a", .int 0)] = true := by decide +kernel
      simp only [List.mem_cons, List.not_mem_nil, or_false] at hd
      rcases hd with rfl | rfl | rfl | rfl | rfl <;> simp (maxSteps := 10000000) (disch := first | omega | (simp; done) | (simp; omega)) [e_law_6, eDc, pCons, pNil, hk, w_told0, w_told2, w_told3, w_told4, w_told5, bad0 h, bad2 h, bad3 h, bad4 h, bad5 h, hself], by simp (maxSteps := 10000000) (disch := first | omega | (simp; done) | (simp; omega))⟩) (by simp)
  have hself : neG (rsd 0) (.tuple [.str "raised", .int 0, .int 1]) = some (.bool false) := neG_self rfl
  simp (maxSteps := 10000000) (disch := first | omega | (simp; done) | (simp; omega)) [b_law_7, e1, w_told1, bad1 h, hself]
end K78
set_option maxRecDepth 100000
namespace K78
open PySem PySem.Spec PyProof.Rows L2 DL
def L13 : List Str := (List.range 13).map fun i : Nat => ("n" : Str) ++ Str.ofString (toString (100 + (i : Int)))
theorem L13_nm : ∀ x ∈ L13, Nm x := fun x hx => nm_of x (by
  have : L13.all nmB = true := by decide +kernel
  exact List.all_eq_true.mp this x hx)
theorem L13_asc : Asc L13 := adjB_iff.mp (by decide +kernel)
theorem check_lot_long {ns : List Str} (h : ∀ x ∈ ns, Nm x) (hl : ns.length ≤ 1000) (hb : ¬ (Asc ns ∧ 1 ≤ ns.length ∧ ns.length ≤ 12)) : m_check_lot [tS ns] = .exn "NotRight" .none [] := by
  refine callD_exn ?_
  have h1 := w_are_names ns (by omega) h
  by_cases h2 : adjB ns = true
  · have h3 := adjB_iff.mp h2
    by_cases h4 : 1 ≤ ns.length
    · have h5 : 12 < ns.length := by
        by_cases h6 : ns.length ≤ 12
        · exact absurd ⟨h3, h4, h6⟩ hb
        · omega
      simp (maxSteps := 10000000) (disch := first | omega | (simp; done) | (simp; omega)) [s_check_lot, h1, h2, if_pos, if_neg]
    · have : ns = [] := by cases ns with
        | nil => rfl
        | cons a r => simp at h4
      subst this
      simp (maxSteps := 10000000) (disch := first | omega | (simp; done) | (simp; omega)) [s_check_lot, h1, h2]
  · have h2 : adjB ns = false := by simpa using h2
    simp (maxSteps := 10000000) (disch := first | omega | (simp; done) | (simp; omega)) [s_check_lot, h1, h2]
theorem lot_sort {ns : List Str} (hn : ns.Nodup) (h : ∀ x ∈ ns, Nm x) (h1 : 1 ≤ ns.length) (h2 : ns.length ≤ 12) : Lot (sortS ns) :=
  ⟨fun x hx => h x ((sortS_perm ns).subset hx), sortS_asc hn, by rw [(sortS_perm ns).length_eq]; exact h1, by rw [(sortS_perm ns).length_eq]; exact h2⟩
theorem same_list {ds : List D} (hl : ds.length ≤ 100000) (h : ∀ d ∈ ds, sameOk 7 d) : m__law_same 8 [.list ds, .list ds] = .ok (.bool true) := w_same 8 _ ⟨hl, h⟩
theorem sameOk_tS {n : Nat} {os : List Str} (h : os.length ≤ 100000) : sameOk (n + 2) (tS os) := ⟨by simpa using h, fun d hd => by obtain ⟨x, _, rfl⟩ := List.mem_map.mp hd; trivial⟩
theorem not_asc_rev : ∀ {ms : List Str}, Asc ms → 2 ≤ ms.length → ¬ Asc ms.reverse
  | [], _, h, _ => by simp at h
  | [a], _, h, _ => by simp at h
  | a :: b :: r, h2, _, h => by
    have h1 := List.pairwise_reverse.mp h
    have h5 := (List.pairwise_cons.mp h1).1 b (by simp)
    have h6 := (List.pairwise_cons.mp h2).1 b (by simp)
    rw [sLt_asymm h5] at h6
    cases h6
theorem not_asc_dup : ∀ {ms : List Str}, 2 ≤ ms.length → ¬ Asc (ms ++ ms)
  | [], h, _ => by simp at h
  | a :: r, _, h => (List.nodup_append.mp h.nodup).2.2 a (by simp) a (by simp) rfl
set_option maxHeartbeats 4000000 in
theorem w_law (xs : List Int) (hx : xs.length ≤ 63) : m_law [.list (xs.map .int)] = .ok (.bool true) := by
  obtain ⟨d0, a1⟩ := w_draws xs hx
  obtain ⟨t1, d1, a2, a3, a4⟩ := w_take d0 (b := 5) (by decide)
  obtain ⟨n1, d2, a5, a6, a7, a8, _⟩ := w_namesI d1 (i := 1 + t1) (by omega) (by omega)
  have hL1 := lot_sort a7 a8 (by omega) (by omega)
  have hl1 : (sortS n1).length = n1.length := (sortS_perm n1).length_eq
  have hl1' : n1.length ≤ 5 := by omega
  generalize hns : sortS n1 = ns at hL1 hl1
  have hfp := fac_pos ns.length
  have hfl : fac ns.length ≤ 120 := by
    have : ∀ n : Fin 6, fac n.val ≤ 120 := by decide +kernel
    exact this ⟨ns.length, by omega⟩
  have b1 := w_orders ns.length ns 8 rfl hL1.asc.nodup (by omega) (by omega)
  rw [ords_eq _ _ rfl hL1.asc.nodup, List.map_map] at b1
  have b1 : m__law_orders 8 [tS ns] = .ok (.list ((List.range (fac ns.length)).map fun k => tS (ordAt ns.length ns k))) := b1
  obtain ⟨d3, b2⟩ := w_draw_right d2 hL1
  have hper : ∀ k, k < fac ns.length → (ordAt ns.length ns k).Perm ns := fun k hk => ordAt_perm _ _ k rfl hk
  -- many
  obtain ⟨t2, d4, a12, a13, a14⟩ := w_take d3 (b := 7) (by decide)
  obtain ⟨n2, d5, a15, a16, a17, a18, a19⟩ := w_namesI d4 (i := 6 + t2) (by omega) (by omega)
  have hL2 := lot_sort a17 a18 (by omega) (by omega)
  have hl2 : (sortS n2).length = n2.length := (sortS_perm n2).length_eq
  have hl2' : n2.length ≤ 12 := by omega
  have hl2'' : 6 ≤ n2.length := by omega
  generalize hms : sortS n2 = ms at hL2 hl2
  have hfp2 := fac_pos ms.length
  have b3 := w_law_count ms.length (by omega)
  obtain ⟨es, d6, b4, hes⟩ := w_shuffled d5 (ds := ms.map .str) (tS ms) (.inr rfl) (by simp; omega)
  obtain ⟨os, rfl, hos⟩ := perm_strs hes
  have hosl := hos.length_eq
  have hpl := plOf_lt _ _ _ rfl hos
  have b5 := w_number (os := os) (by omega)
  rw [← numOf_eq _ _ hL2.asc hos] at b5
  have b6 := w_order_with hL2 (plOf ms os) hpl
  rw [ordAt_plOf _ _ _ rfl hos] at b6
  -- one of the orders
  obtain ⟨y, d7, b7, b8⟩ := w_pick d6 (ds := (List.range (fac ns.length)).map fun k => tS (ordAt ns.length ns k)) _ (.inl rfl) (by
    intro e
    have := congrArg List.length e
    simp at this
    omega)
  obtain ⟨k1, hk1, rfl⟩ := List.mem_map.mp b8
  have hk1 := List.mem_range.mp hk1
  obtain ⟨d8, b9⟩ := w_draw_right d7 hL2
  generalize hO : (PyData.list ((List.range (fac ns.length)).map fun k => tS (ordAt ns.length ns k))) = O at b1 b7
  -- the orders with their numbers
  have c1 := comp_map (γ := gVar 12) (ε := e_law_1) (vs := [12]) (s0 := [.sh (.list (xs.map .int)), .ow (dr d3), .sh (tS ns), .sh O, .un, .un, .un, .un, .un, .un, .un, .un, .un, .un]) (fun k : Nat => .int k) (fun k => tS (ordAt ns.length ns k)) (xs := List.range (fac ns.length)) (fun k hk => ⟨_, rfl, by
    simp (maxSteps := 10000000) (disch := first | omega | (simp; done) | (simp; omega)) [e_law_1, w_order_with hL1 k (List.mem_range.mp hk)], by simp (maxSteps := 10000000) (disch := first | omega | (simp; done) | (simp; omega))⟩) (by simp; omega)
  have c2 := comp_map (γ := gVar 6) (ε := e_law_2) (vs := [6]) (s0 := [.sh (.list (xs.map .int)), .ow (dr d3), .sh (tS ns), .sh O, .un, .un, .un, .un, .un, .un, .un, .un, .un, .un]) (fun k : Nat => tS (ordAt ns.length ns k)) (fun k => .int k) (xs := List.range (fac ns.length)) (fun k hk => ⟨_, rfl, by
    have hk := List.mem_range.mp hk
    simp (maxSteps := 10000000) (disch := first | omega | (simp; done) | (simp; omega)) [e_law_2, w_number_of hL1 (hper k hk), plOf_ordAt _ _ _ rfl hL1.asc.nodup hk], by simp (maxSteps := 10000000) (disch := first | omega | (simp; done) | (simp; omega))⟩) (by simp; omega)
  have s1 : m__law_same 8 [O, O] = .ok (.bool true) := by
    rw [← hO]
    refine same_list (by simp; omega) fun d hd => ?_
    obtain ⟨k, hk, rfl⟩ := List.mem_map.mp hd
    have := (hper k (List.mem_range.mp hk)).length_eq
    exact sameOk_tS (by omega)
  have s2 : m__law_same 8 [.list ((List.range (fac ns.length)).map fun k : Nat => .int k), .list ((List.range (fac ns.length)).map fun k : Nat => .int k)] = .ok (.bool true) := same_list (by simp; omega) fun d hd => by
    obtain ⟨k, hk, rfl⟩ := List.mem_map.mp hd; trivial
  have s3 : m__law_same 8 [.list [.int (fac ms.length), .int (plOf ms os), tS os], .list [.int (fac ms.length), .int (plOf ms os), tS os]] = .ok (.bool true) := same_list (by simp) fun d hd => by
    simp only [List.mem_cons, List.not_mem_nil, or_false] at hd
    rcases hd with rfl | rfl | rfl
    · trivial
    · trivial
    · exact sameOk_tS (by omega)
  have s4 : m__law_same 8 [.list [tS ms, tS ms.reverse], .list [tS ms, tS ms.reverse]] = .ok (.bool true) := same_list (by simp) fun d hd => by
    simp only [List.mem_cons, List.not_mem_nil, or_false] at hd
    rcases hd with rfl | rfl
    · exact sameOk_tS (by omega)
    · exact sameOk_tS (by simp; omega)
  have s5 : ∀ i, m__law_same 8 [.int i, .int i] = .ok (.bool true) := fun i => w_same 8 _ trivial
  -- mirrors
  obtain ⟨_, f1, _⟩ := forGo_all (γ := gTupD 2 (gsCons (gVar 7) (gsCons (gVar 8) gsNil))) (b := b_law_3) (fun p : List Str × List Str => .tuple [tS p.1, tS p.2]) (fun _ : Unit => [.sh (.list (xs.map .int)), .ow (dr d7), .sh (tS ns), .sh O, .sh (tS ms), .sh (.int (fac ms.length)), .sh (tS os), .un, .un, .un, .un, .un, .un, .un])
    (fun r _ => ∀ p ∈ r, Lot p.2 ∧ p.1.Perm p.2) (fun p r a hr => ⟨_, (), rfl, law_b3 (hr p List.mem_cons_self).1 (hr p List.mem_cons_self).2 _ _ _ _ _ _ _, fun y hy => hr y (List.mem_cons_of_mem _ hy)⟩) [(os, ms), (ordAt ns.length ns k1, ns)] () (fun p hp => by
      simp only [List.mem_cons, List.not_mem_nil, or_false] at hp
      rcases hp with rfl | rfl
      · exact ⟨hL2, hos⟩
      · exact ⟨hL1, hper k1 hk1⟩)
  have b10 := w_order_with hL2 0 hfp2
  rw [ordAt_0 _ _ rfl] at b10
  have b11 := w_order_with hL2 (fac ms.length - 1) (by omega)
  rw [ordAt_last _ _ rfl, show ((fac ms.length - 1 : Nat) : Int) = (fac ms.length : Int) - 1 by omega] at b11
  have b12 := w_order_with_no hL2 (-1) (.inl (by decide))
  have b13 := w_order_with_no hL2 (fac ms.length) (.inr (Int.le_refl _))
  -- what is no order
  have hone : os ≠ [] := by intro e; rw [e] at hosl; simp at hosl; omega
  have hnm : ∀ x ∈ os, Nm x := fun x hx => hL2.nm x (hos.subset hx)
  have hnd : os.Nodup := hos.nodup_iff.mpr hL2.asc.nodup
  have n1 : ¬ (os.drop 1).Perm ms := fun e => by have := e.length_eq; simp at this; omega
  have n2 : ¬ (os ++ os.take 1).Perm ms := fun e => by have := e.length_eq; simp at this; omega
  have n3 : ¬ (os.drop 1 ++ [zz]).Perm ms := fun e => by
    have h1 : zz ∈ ms := e.subset (by simp)
    rw [← hms] at h1
    exact a19 zz ((sortS_perm _).subset h1) (by decide +kernel)
  have n4 : ¬ (os.drop 1 ++ (os.drop 1).take 1).Perm ms := fun e => by
    have h1 := e.nodup_iff.mpr hL2.asc.nodup
    have h2 := (List.nodup_append.mp h1).2.2
    cases h : os.drop 1 with
    | nil => have := congrArg List.length h; simp at this; omega
    | cons a r => rw [h] at h2; exact h2 a (by simp) a (by simp) rfl
  have c4 := comp_map (γ := gVar 7) (ε := e_law_4) (vs := [7]) (s0 := [.sh (.list (xs.map .int)), .sh (dr d8), .sh (tS ns), .sh O, .sh (tS ms), .sh (.int (fac ms.length)), .sh (tS os), .un, .un, .sh (.list [rsd 1, rsd 1]), .un, .un, .un, .un]) tS (fun _ => rsd 1) (xs := [os.drop 1, os ++ os.take 1, os.drop 1 ++ [zz], os.drop 1 ++ (os.drop 1).take 1]) (fun o ho => ⟨_, rfl, by
    have : ¬ o.Perm ms ∧ o.length ≤ 100 := by
      simp only [List.mem_cons, List.not_mem_nil, or_false] at ho
      rcases ho with rfl | rfl | rfl | rfl
      · exact ⟨n1, by simp; omega⟩
      · exact ⟨n2, by simp; omega⟩
      · exact ⟨n3, by simp; omega⟩
      · exact ⟨n4, by simp; omega⟩
    simp (maxSteps := 10000000) (disch := first | omega | (simp; done) | (simp; omega)) [e_law_4, w_told2, w_number_of_no hL2 this.1 (by omega)], by simp (maxSteps := 10000000) (disch := first | omega | (simp; done) | (simp; omega))⟩) (by simp)
  have m6 : mulG (.list [rsd 1]) (.int 6) = some (.list [rsd 1, rsd 1, rsd 1, rsd 1, rsd 1, rsd 1]) := rfl
  have m7 : neG (.list [rsd 1, rsd 1, rsd 1, rsd 1, rsd 1, rsd 1]) (.list [rsd 1, rsd 1, rsd 1, rsd 1, rsd 1, rsd 1]) = some (.bool false) := neG_self rfl
  -- thirteen
  have c5 := comp_map (γ := gVar 12) (ε := e_law_5) (vs := [12]) (s0 := [.sh (.list (xs.map .int)), .sh (dr d8), .sh (tS ns), .sh O, .sh (tS ms), .sh (.int (fac ms.length)), .sh (tS os), .un, .un, .sh (.list [rsd 1, rsd 1, rsd 1, rsd 1, rsd 1, rsd 1]), .un, .un, .un, .un]) (fun k : Nat => .int k) (fun k => .str (("n" : Str) ++ Str.ofString (toString (100 + (k : Int))))) (xs := List.range 13) (fun k hk => ⟨_, rfl, by
    have hk := List.mem_range.mp hk
    have h9 : ∀ i : Nat, i < 13 → ((cs "n").length + (cs (Str.ofString (toString (100 + (i : Int))))).length ≤ 100000) := by decide +kernel
    have e1 : addG (.str "n") (.str (Str.ofString (toString (100 + (k : Int))))) = some (.str (("n" : Str) ++ Str.ofString (toString (100 + (k : Int))))) := addG_ss (h9 k hk)
    have e2 : strG [.int (100 + k)] = some (.str (Str.ofString (toString (100 + (k : Int))))) := strG_i (by
      have : (2:Nat) ^ 7 ≤ 2 ^ 1920 := Nat.pow_le_pow_right (by decide) (by decide)
      omega)
    simp (maxSteps := 10000000) (disch := first | omega | (simp; done) | (simp; omega)) [e_law_5, e1, e2, -Int.toString_eq_repr], by simp (maxSteps := 10000000) (disch := first | omega | (simp; done) | (simp; omega))⟩) (by decide)
  have c6 : ((List.range 13).map fun k : Nat => PyData.str (("n" : Str) ++ Str.ofString (toString (100 + (k : Int))))) = L13.map .str := by simp [L13]
  rw [c6] at c5
  have hL12 : Lot (L13.take 12) := ⟨fun x hx => L13_nm x (List.mem_of_mem_take hx), L13_asc.sublist (List.take_sublist _ _), by decide +kernel, by decide +kernel⟩
  have b14 := w_orders_count hL12
  rw [show (fac (L13.take 12).length) = 479001600 from by decide +kernel] at b14
  obtain ⟨_, f2, _⟩ := forGo_all (γ := gVar 11) (b := b_law_7) (fun d : D => d) (fun _ : Unit => [.sh (.list (xs.map .int)), .sh (dr d8), .sh (tS ns), .sh O, .sh (tS ms), .sh (.int (fac ms.length)), .sh (tS os), .un, .un, .sh (.list [rsd 1, rsd 1, rsd 1, rsd 1, rsd 1, rsd 1]), .sh (tS L13), .un, .un, .un])
    (fun r _ => ∀ d ∈ r, m_check_lot [d] = .exn "NotRight" .none []) (fun d r a hr => ⟨_, (), rfl, law_b7 (hr d List.mem_cons_self) _ _ _ _ _ _ _ _ _, fun y hy => hr y (List.mem_cons_of_mem _ hy)⟩)
    [.tuple [], tS L13, .list (ms.map .str), tS ms.reverse, tS (ms ++ ms), .tuple [.str "a", .str "A"], .none, .str "abc"] () (fun d hd => by
      simp only [List.mem_cons, List.not_mem_nil, or_false] at hd
      rcases hd with rfl | rfl | rfl | rfl | rfl | rfl | rfl | rfl
      · exact check_lot_long (ns := []) (by simp) (by simp) (by simp)
      · exact check_lot_long L13_nm (by decide +kernel) (fun h => absurd h.2.2 (by decide +kernel))
      · exact w_check_lot_bad _ (w_are_names_o _ rfl)
      · exact check_lot_long (fun x hx => hL2.nm x (by simpa using hx)) (by simp; omega) (fun h => not_asc_rev hL2.asc (by omega) h.1)
      · exact check_lot_long (fun x hx => hL2.nm x (by simpa using hx)) (by simp; omega) (fun h => not_asc_dup (by omega) h.1)
      · exact w_check_lot_bad _ (w_are_names_f [.str "a", .str "A"] (by simp) (fun x hx => by
          simp only [List.mem_cons, List.not_mem_nil, or_false] at hx
          rcases hx with h | h <;> (cases PyData.str.inj h; decide +kernel)) (by decide +kernel))
      · exact w_check_lot_bad _ (w_are_names_o _ rfl)
      · exact w_check_lot_bad _ (w_are_names_o _ rfl))
  refine callD_rt ?_
  simp at f1 f2 c4
  have hO1 : lenA [O] = some (.int (fac ns.length)) := by rw [← hO]; simp
  have hO2 : seqD O = some ((List.range (fac ns.length)).map fun k => tS (ordAt ns.length ns k)) := by rw [← hO]; simp
  simp only [tS, List.map_reverse, List.map_append, List.map_take, List.map_tail, List.map_cons, List.map_nil] at f2 c4 s4
  have b14 : m_orders_count [.tuple ((L13.map .str).take 12)] = .ok (.int 479001600) := by rw [← List.map_take]; exact b14
  have hO3 : isLst O = true := by rw [← hO]; rfl
  have b10 : m_order_with [tS ms, .int 0] = .ok (tS ms) := b10
  have hL13 : sortS L13 = L13 := sortS_of_asc L13_asc
  have hL13l : L13.length = 13 := by decide +kernel
  simp (maxSteps := 10000000) (disch := first | omega | (simp; done) | (simp; omega)) [s_law, a1, a2, a5, hns, b1, hO1, hO2, w_orders_count hL1, s5, b2, eComp_s, c1, hO, hO3, s1, c2, s2, a12, a15, hms, b3, b4, w_orders_count hL2, w_number_of hL2 hos, b5, b6, s3, b7, f1, b10, b11, s4, b9, w_told1, b12, b13, c4, m6, m7, c5, hL13, f2, b14]
end K78
set_option maxRecDepth 100000
namespace K78
open PySem PySem.Spec PyProof.Rows L2 DL
theorem law_holds : ∀ ns : List Int, ns.length ≤ 63 → (∀ i ∈ ns, Builtin.Int.intBits i ≤ 1048576) → m_law [.list (ns.map .int)] = .ok (.bool true) := fun ns h _ => w_law ns h
end K78
open PySem PySem.W PyProof.Rows
set_option maxHeartbeats 0 in
theorem PySem.Challenge.cw_laurelhall_k78_whole_lots_and_draws_holds : PySem.Challenge.rw_laurelhall_k78_whole_lots_and_draws.Holds := by
  w_on; o_law; k_head; (case hw => w_witness2)
  k_fill
  refine DL.walk_ofN (l := PySem.Challenge.rw_laurelhall_k78_whole_lots_and_draws) (n := 63) (k := 10) (m := K78.m_law) (x := "script") rfl (by decide) rfl ⟨rfl, by decide, by decide⟩ (fun w h Y => PySem.W.kIn_of Y) (fun w => by kernel_rfl) ?F K78.law_holds
  case F =>
    intro w mg fa h KX G hmg
    refine' K78.all_mk KX G hmg ?a_is_name ?l_is_name ?c_is_name ?k_is_name ?a_is_integer ?l_is_integer ?c_is_integer ?k_is_integer ?a_are_names ?l_are_names ?c_are_names ?k_are_names ?a_check_lot ?l_check_lot ?c_check_lot ?k_check_lot ?a_count_for ?l_count_for ?c_count_for ?k_count_for ?a_orders_count ?l_orders_count ?c_orders_count ?k_orders_count ?a_order_at ?l_order_at ?c_order_at ?k_order_at ?a_order_with ?l_order_with ?c_order_with ?k_order_with ?a_check_order ?l_check_order ?c_check_order ?k_check_order ?a_place_of ?l_place_of ?c_place_of ?k_place_of ?a_number_of ?l_number_of ?c_number_of ?k_number_of ?a_is_drawn ?l_is_drawn ?c_is_drawn ?k_is_drawn ?a_is_draw ?l_is_draw ?c_is_draw ?k_is_draw ?a_check_draw ?l_check_draw ?c_check_draw ?k_check_draw ?a_order_of ?l_order_of ?c_order_of ?k_order_of ?a_integer_for ?l_integer_for ?c_integer_for ?k_integer_for ?a__law_draws ?l__law_draws ?c__law_draws ?k__law_draws ?a__law_take ?l__law_take ?c__law_take ?k__law_take ?a__law_pick ?l__law_pick ?c__law_pick ?k__law_pick ?a__law_shuffled ?l__law_shuffled ?c__law_shuffled ?k__law_shuffled ?a__law_same ?l__law_same ?c__law_same ?k__law_same ?a__law_names ?l__law_names ?c__law_names ?k__law_names ?a__law_orders ?l__law_orders ?c__law_orders ?k__law_orders ?a__law_count ?l__law_count ?c__law_count ?k__law_count ?a__law_number ?l__law_number ?c__law_number ?k__law_number ?a__law_told ?l__law_told ?c__law_told ?k__law_told ?a__law_drawn ?l__law_drawn ?c__law_drawn ?k__law_drawn ?a__law_is_draw_right ?l__law_is_draw_right ?c__law_is_draw_right ?k__law_is_draw_right ?a__law_mirror ?l__law_mirror ?c__law_mirror ?k__law_mirror ?a_law ?l_law ?c_law ?k_law ?a__law_raised ?l__law_raised ?c__law_raised ?k__law_raised ?q_FIGURES ?q_LETTERS ?q_LONGEST ?q_MOST_NAMES ?z_abs ?z_all ?z_bool ?z_dict ?z_int ?z_isinstance ?z_len ?z_list ?z_range ?z_repr ?z_reversed ?z_sorted ?z_str ?z_sum ?z_tuple ?z_zip ?aC_LaurelError ?aC_NotRight ?aC_NotThere ?aC_NoAnswer ?aC_TooLarge ?x_NotRight ?p_NotRight ?s_NotRight ?t_NotRight ?x_NotThere ?p_NotThere ?s_NotThere ?t_NotThere ?Chg_NotRight ?Chk_NotRight ?Chs_NotRight ?Chd_NotRight ?Cha_NotRight ?Chn_NotRight ?Cht_NotRight ?Chm_NotRight ?i_NotRight_NotRight ?i_NotRight_NotThere ?i_NotRight_NoAnswer ?i_NotRight_TooLarge ?m_NotRight ?Chg_NotThere ?Chk_NotThere ?Chs_NotThere ?Chd_NotThere ?Cha_NotThere ?Chn_NotThere ?Cht_NotThere ?Chm_NotThere ?i_NotThere_NotRight ?i_NotThere_NotThere ?i_NotThere_NoAnswer ?i_NotThere_TooLarge ?m_NotThere ?Chg_NoAnswer ?Chk_NoAnswer ?Chs_NoAnswer ?Chd_NoAnswer ?Cha_NoAnswer ?Chn_NoAnswer ?Cht_NoAnswer ?Chm_NoAnswer ?i_NoAnswer_NotRight ?i_NoAnswer_NotThere ?i_NoAnswer_NoAnswer ?i_NoAnswer_TooLarge ?m_NoAnswer ?Chg_TooLarge ?Chk_TooLarge ?Chs_TooLarge ?Chd_TooLarge ?Cha_TooLarge ?Chn_TooLarge ?Cht_TooLarge ?Chm_TooLarge ?i_TooLarge_NotRight ?i_TooLarge_NotThere ?i_TooLarge_NoAnswer ?i_TooLarge_TooLarge ?m_TooLarge
    (case a_is_name => k_is)
    (case l_is_name => k_is)
    (case c_is_name => k_is)
    (case k_is_name => k_is)
    (case a_is_integer => k_is)
    (case l_is_integer => k_is)
    (case c_is_integer => k_is)
    (case k_is_integer => k_is)
    (case a_are_names => k_is)
    (case l_are_names => k_is)
    (case c_are_names => k_is)
    (case k_are_names => k_is)
    (case a_check_lot => k_is)
    (case l_check_lot => k_is)
    (case c_check_lot => k_is)
    (case k_check_lot => k_is)
    (case a_count_for => k_is)
    (case l_count_for => k_is)
    (case c_count_for => k_is)
    (case k_count_for => k_is)
    (case a_orders_count => k_is)
    (case l_orders_count => k_is)
    (case c_orders_count => k_is)
    (case k_orders_count => k_is)
    (case a_order_at => k_is)
    (case l_order_at => k_is)
    (case c_order_at => k_is)
    (case k_order_at => k_is)
    (case a_order_with => k_is)
    (case l_order_with => k_is)
    (case c_order_with => k_is)
    (case k_order_with => k_is)
    (case a_check_order => k_is)
    (case l_check_order => k_is)
    (case c_check_order => k_is)
    (case k_check_order => k_is)
    (case a_place_of => k_is)
    (case l_place_of => k_is)
    (case c_place_of => k_is)
    (case k_place_of => k_is)
    (case a_number_of => k_is)
    (case l_number_of => k_is)
    (case c_number_of => k_is)
    (case k_number_of => k_is)
    (case a_is_drawn => k_is)
    (case l_is_drawn => k_is)
    (case c_is_drawn => k_is)
    (case k_is_drawn => k_is)
    (case a_is_draw => k_is)
    (case l_is_draw => k_is)
    (case c_is_draw => k_is)
    (case k_is_draw => k_is)
    (case a_check_draw => k_is)
    (case l_check_draw => k_is)
    (case c_check_draw => k_is)
    (case k_check_draw => k_is)
    (case a_order_of => k_is)
    (case l_order_of => k_is)
    (case c_order_of => k_is)
    (case k_order_of => k_is)
    (case a_integer_for => k_is)
    (case l_integer_for => k_is)
    (case c_integer_for => k_is)
    (case k_integer_for => k_is)
    (case a__law_draws => k_is)
    (case l__law_draws => k_is)
    (case c__law_draws => k_is)
    (case k__law_draws => k_is)
    (case a__law_take => k_is)
    (case l__law_take => k_is)
    (case c__law_take => k_is)
    (case k__law_take => k_is)
    (case a__law_pick => k_is)
    (case l__law_pick => k_is)
    (case c__law_pick => k_is)
    (case k__law_pick => k_is)
    (case a__law_shuffled => k_is)
    (case l__law_shuffled => k_is)
    (case c__law_shuffled => k_is)
    (case k__law_shuffled => k_is)
    (case a__law_same => k_is)
    (case l__law_same => k_is)
    (case c__law_same => k_is)
    (case k__law_same => k_is)
    (case a__law_names => k_is)
    (case l__law_names => k_is)
    (case c__law_names => k_is)
    (case k__law_names => k_is)
    (case a__law_orders => k_is)
    (case l__law_orders => k_is)
    (case c__law_orders => k_is)
    (case k__law_orders => k_is)
    (case a__law_count => k_is)
    (case l__law_count => k_is)
    (case c__law_count => k_is)
    (case k__law_count => k_is)
    (case a__law_number => k_is)
    (case l__law_number => k_is)
    (case c__law_number => k_is)
    (case k__law_number => k_is)
    (case a__law_told => k_is)
    (case l__law_told => k_is)
    (case c__law_told => k_is)
    (case k__law_told => k_is)
    (case a__law_drawn => k_is)
    (case l__law_drawn => k_is)
    (case c__law_drawn => k_is)
    (case k__law_drawn => k_is)
    (case a__law_is_draw_right => k_is)
    (case l__law_is_draw_right => k_is)
    (case c__law_is_draw_right => k_is)
    (case k__law_is_draw_right => k_is)
    (case a__law_mirror => k_is)
    (case l__law_mirror => k_is)
    (case c__law_mirror => k_is)
    (case k__law_mirror => k_is)
    (case a_law => k_is)
    (case l_law => k_is)
    (case c_law => k_is)
    (case k_law => k_is)
    (case a__law_raised => k_is)
    (case l__law_raised => k_is)
    (case c__law_raised => k_is)
    (case k__law_raised => k_is)
    (case q_FIGURES => k_is)
    (case q_LETTERS => k_is)
    (case q_LONGEST => k_is)
    (case q_MOST_NAMES => k_is)
    (case z_abs => k_is)
    (case z_all => k_is)
    (case z_bool => k_is)
    (case z_dict => k_is)
    (case z_int => k_is)
    (case z_isinstance => k_is)
    (case z_len => k_is)
    (case z_list => k_is)
    (case z_range => k_is)
    (case z_repr => k_is)
    (case z_reversed => k_is)
    (case z_sorted => k_is)
    (case z_str => k_is)
    (case z_sum => k_is)
    (case z_tuple => k_is)
    (case z_zip => k_is)
    (case aC_LaurelError => k_is)
    (case aC_NotRight => k_is)
    (case aC_NotThere => k_is)
    (case aC_NoAnswer => k_is)
    (case aC_TooLarge => k_is)
    (case x_NotRight => k_exc)
    (case p_NotRight => k_is)
    (case s_NotRight => k_is)
    (case t_NotRight => k_is)
    (case x_NotThere => k_exc)
    (case p_NotThere => k_is)
    (case s_NotThere => k_is)
    (case t_NotThere => k_is)
    (case Chg_NotRight => k_is)
    (case Chk_NotRight => k_is)
    (case Chs_NotRight => k_is)
    (case Chd_NotRight => k_is)
    (case Cha_NotRight => k_is)
    (case Chn_NotRight => k_is)
    (case Cht_NotRight => k_is)
    (case Chm_NotRight => k_is)
    (case i_NotRight_NotRight => first | rfl | k_is)
    (case i_NotRight_NotThere => first | rfl | k_is)
    (case i_NotRight_NoAnswer => first | rfl | k_is)
    (case i_NotRight_TooLarge => first | rfl | k_is)
    (case m_NotRight => first | rfl | k_is)
    (case Chg_NotThere => k_is)
    (case Chk_NotThere => k_is)
    (case Chs_NotThere => k_is)
    (case Chd_NotThere => k_is)
    (case Cha_NotThere => k_is)
    (case Chn_NotThere => k_is)
    (case Cht_NotThere => k_is)
    (case Chm_NotThere => k_is)
    (case i_NotThere_NotRight => first | rfl | k_is)
    (case i_NotThere_NotThere => first | rfl | k_is)
    (case i_NotThere_NoAnswer => first | rfl | k_is)
    (case i_NotThere_TooLarge => first | rfl | k_is)
    (case m_NotThere => first | rfl | k_is)
    (case Chg_NoAnswer => k_is)
    (case Chk_NoAnswer => k_is)
    (case Chs_NoAnswer => k_is)
    (case Chd_NoAnswer => k_is)
    (case Cha_NoAnswer => k_is)
    (case Chn_NoAnswer => k_is)
    (case Cht_NoAnswer => k_is)
    (case Chm_NoAnswer => k_is)
    (case i_NoAnswer_NotRight => first | rfl | k_is)
    (case i_NoAnswer_NotThere => first | rfl | k_is)
    (case i_NoAnswer_NoAnswer => first | rfl | k_is)
    (case i_NoAnswer_TooLarge => first | rfl | k_is)
    (case m_NoAnswer => first | rfl | k_is)
    (case Chg_TooLarge => k_is)
    (case Chk_TooLarge => k_is)
    (case Chs_TooLarge => k_is)
    (case Chd_TooLarge => k_is)
    (case Cha_TooLarge => k_is)
    (case Chn_TooLarge => k_is)
    (case Cht_TooLarge => k_is)
    (case Chm_TooLarge => k_is)
    (case i_TooLarge_NotRight => first | rfl | k_is)
    (case i_TooLarge_NotThere => first | rfl | k_is)
    (case i_TooLarge_NoAnswer => first | rfl | k_is)
    (case i_TooLarge_TooLarge => first | rfl | k_is)
    (case m_TooLarge => first | rfl | k_is)
