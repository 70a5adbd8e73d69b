import PyProof.Rows.All
import Wide.All
import OpenK.AllK
import Wide.FinOn
import HandS.ForMost
import HandS.ForExc
import HandS.Wide
import HandS.Flow
import HandS.Evl
import HandS.Defaults
import HandS.HeadEnd
import HandS.HeadHook1
import HandS.HeadHook2
import HandS.Head0
import HandS.Head1
import HandS.Head2
import HandS.IsInst
import HandS.Style
import HandS.RaiseMore
import HandS.Steps
import HandS.More
import PyProof.ReprReads
import PyProof.ReprRoads
import PyProof.P3Eq
import PyProof.StrLawsRepr
import PyProof.FitsInt
import KE.KDictZip
import PyProof.ListNew
import PyProof.InstSpecial
import KE.KStateDown
import PySem.Challenge.RW_ownlog_k91_books_told
set_option Elab.async false
set_option linter.all false
set_option maxRecDepth 100000
set_option maxHeartbeats 2000001
/-! Y: a layer of values without addresses over the hand layer: what is never changed is a tree (D), what is changed is a cell. -/
namespace Y
open PySem.Spec PySem PyProof.Rows L2

inductive D where
  | non | bl (b : Bool) | int (i : Int) | str (x : List Nat)
  | lst (xs : List D) | tup (xs : List D)
  | dic (kvs : List (Key × D))
  | obj (c : Str) (fs : List (Str × D))
  | cell (i : Nat)

/-- a text by its code points -/
abbrev st (l : List Nat) : Str := ⟨l.toArray⟩
abbrev sv (l : List Nat) : V := .str (st l)
abbrev cs (x : Str) : List Nat := x.cps.toList
theorem st_cs (x : Str) : st (cs x) = x := rfl
theorem cs_st (l : List Nat) : cs (st l) = l := rfl
/-- what may be changed -/
inductive MC where
  | lst (xs : List D) | dK (kvs : List (Key × D)) | dT (kvs : List (List Key × D)) | obj (c : Str) (fs : List (Str × D))

inductive SD where
  | no | val (d : D) | own (m : MC)

structure S where
  ls : List SD
  mu : List MC

/-- what is known for good; where the cells stand -/
structure Wd where
  G : Hp
  as : List Addr

def Le (w w' : Wd) : Prop := Evl.Ex w.G w'.G ∧ ∃ bs, w'.as = w.as ++ bs
theorem Le.rfl {w : Wd} : Le w w := ⟨Evl.Ex.refl _, [], (List.append_nil _).symm⟩
theorem Le.trans {a b c : Wd} (h : Le a b) (k : Le b c) : Le a c := by
  obtain ⟨h1, x, h2⟩ := h
  obtain ⟨k1, y, k2⟩ := k
  exact ⟨h1.trans k1, x ++ y, by rw [k2, h2, List.append_assoc]⟩
theorem Le.get {w w' : Wd} (h : Le w w') {i : Nat} {a : Addr} (e : w.as[i]? = some a) : w'.as[i]? = some a := by
  obtain ⟨_, bs, q⟩ := h
  rw [q, List.getElem?_append_left (List.getElem?_eq_some_iff.mp e).1]
  exact e
theorem Le.mem {w w' : Wd} (h : Le w w') {a : Addr} (e : a ∈ w.as) : a ∈ w'.as := by
  obtain ⟨_, bs, q⟩ := h
  rw [q]; exact List.mem_append_left _ e

section
variable (K : PySem.W.Frag) (mg : Str → Option Value) (w : Wd)
mutual
inductive R : V → D → Prop
  | non : R .non .non
  | bl (b : Bool) : R (.bl b) (.bl b)
  | int (i : Int) : R (.int i) (.int i)
  | str (x : List Nat) : R (sv x) (.str x)
  | lst {p : Addr} {vs : List V} {ds : List D} : SqL K w.G p vs → Rs vs ds → R (.ref p) (.lst ds)
  | tup {p : Addr} {vs : List V} {ds : List D} : SqT K w.G p vs → Rs vs ds → R (.ref p) (.tup ds)
  | dic {p : Addr} {vs : List (Key × V)} {ds : List (Key × D)} : Rd w.G p (.dK vs) → Rk vs ds → R (.ref p) (.dic ds)
  | obj {p C dx : Addr} {c : Str} {vs : List (Str × V)} {ds : List (Str × D)} : mg c = some (.ref C) → w.G p = some (.ins C dx vs) → Rf vs ds → R (.ref p) (.obj c ds)
  | cell {i : Nat} {a : Addr} : w.as[i]? = some a → R (.ref a) (.cell i)
inductive Rs : List V → List D → Prop
  | nil : Rs [] []
  | cons {v : V} {d : D} {vs : List V} {ds : List D} : R v d → Rs vs ds → Rs (v :: vs) (d :: ds)
inductive Rk : List (Key × V) → List (Key × D) → Prop
  | nil : Rk [] []
  | cons {k : Key} {v : V} {d : D} {vs : List (Key × V)} {ds : List (Key × D)} : R v d → Rk vs ds → Rk ((k, v) :: vs) ((k, d) :: ds)
inductive Rf : List (Str × V) → List (Str × D) → Prop
  | nil : Rf [] []
  | cons {k : Str} {v : V} {d : D} {vs : List (Str × V)} {ds : List (Str × D)} : R v d → Rf vs ds → Rf ((k, v) :: vs) ((k, d) :: ds)
end
/-- entries whose keys are tuples -/
inductive Rt : List (List Key × V) → List (List Key × D) → Prop
  | nil : Rt [] []
  | cons {k : List Key} {v : V} {d : D} {vs : List (List Key × V)} {ds : List (List Key × D)} : R K mg w v d → Rt vs ds → Rt ((k, v) :: vs) ((k, d) :: ds)
end

section
variable {K : PySem.W.Frag} {mg : Str → Option Value} {w w' : Wd}
mutual
theorem R.up (h : Le w w') : ∀ {v : V} {d : D}, R K mg w v d → R K mg w' v d
  | _, _, .non => .non
  | _, _, .bl b => .bl b
  | _, _, .int i => .int i
  | _, _, .str x => .str x
  | _, _, .lst a b => .lst (Evl.ex_l h.1 a) (Rs.up h b)
  | _, _, .tup a b => .tup (Evl.ex_t h.1 a) (Rs.up h b)
  | _, _, .dic a b => .dic (Evl.ex_rd h.1 a) (Rk.up h b)
  | _, _, .obj c a b => .obj c (h.1 _ _ a) (Rf.up h b)
  | _, _, .cell a => .cell (h.get a)
theorem Rs.up (h : Le w w') : ∀ {v : List V} {d : List D}, Rs K mg w v d → Rs K mg w' v d
  | _, _, .nil => .nil
  | _, _, .cons a b => .cons (R.up h a) (Rs.up h b)
theorem Rk.up (h : Le w w') : ∀ {v : List (Key × V)} {d : List (Key × D)}, Rk K mg w v d → Rk K mg w' v d
  | _, _, .nil => .nil
  | _, _, .cons a b => .cons (R.up h a) (Rk.up h b)
theorem Rf.up (h : Le w w') : ∀ {v : List (Str × V)} {d : List (Str × D)}, Rf K mg w v d → Rf K mg w' v d
  | _, _, .nil => .nil
  | _, _, .cons a b => .cons (R.up h a) (Rf.up h b)
end
theorem Rt.up (h : Le w w') : ∀ {v : List (List Key × V)} {d : List (List Key × D)}, Rt K mg w v d → Rt K mg w' v d
  | _, _, .nil => .nil
  | _, _, .cons a b => .cons (R.up h a) (Rt.up h b)
theorem Rs.length : ∀ {v : List V} {d : List D}, Rs K mg w v d → v.length = d.length
  | _, _, .nil => rfl
  | _, _, .cons _ b => congrArg Nat.succ (Rs.length b)
theorem Rs.append : ∀ {v v' : List V} {d d' : List D}, Rs K mg w v d → Rs K mg w v' d' → Rs K mg w (v ++ v') (d ++ d')
  | _, _, _, _, .nil, k => k
  | _, _, _, _, .cons a b, k => .cons a (Rs.append b k)
theorem Rs.get : ∀ {v : List V} {d : List D} {i : Nat} {x : D}, Rs K mg w v d → d[i]? = some x → ∃ y, v[i]? = some y ∧ R K mg w y x
  | _, _, _, _, .nil, e => by simp at e
  | _, _, 0, x, .cons (v := y) a _, e => ⟨y, rfl, by simp at e; rw [← e]; exact a⟩
  | _, _, i + 1, x, .cons _ b, e => by
    obtain ⟨y, h1, h2⟩ := Rs.get (i := i) (x := x) b (by simpa using e)
    exact ⟨y, by simpa using h1, h2⟩
theorem Rs.get' : ∀ {v : List V} {d : List D} {i : Nat} {y : V}, Rs K mg w v d → v[i]? = some y → ∃ x, d[i]? = some x ∧ R K mg w y x
  | _, _, _, _, .nil, e => by simp at e
  | _, _, 0, y, .cons (d := x) a _, e => ⟨x, rfl, by simp at e; rw [← e]; exact a⟩
  | _, _, i + 1, y, .cons _ b, e => by
    obtain ⟨x, h1, h2⟩ := Rs.get' (i := i) (y := y) b (by simpa using e)
    exact ⟨x, by simpa using h1, h2⟩
theorem Rs.take : ∀ {v : List V} {d : List D} (n : Nat), Rs K mg w v d → Rs K mg w (v.take n) (d.take n)
  | _, _, 0, _ => .nil
  | _, _, _ + 1, .nil => .nil
  | _, _, n + 1, .cons a b => .cons a (Rs.take n b)
theorem Rs.drop : ∀ {v : List V} {d : List D} (n : Nat), Rs K mg w v d → Rs K mg w (v.drop n) (d.drop n)
  | _, _, 0, r => r
  | _, _, _ + 1, .nil => .nil
  | _, _, n + 1, .cons _ b => Rs.drop n b
theorem Rs.set {y : V} {x : D} (r : R K mg w y x) : ∀ {v : List V} {d : List D} (i : Nat), Rs K mg w v d → Rs K mg w (v.set i y) (d.set i x)
  | _, _, _, .nil => .nil
  | _, _, 0, .cons _ b => .cons r b
  | _, _, i + 1, .cons a b => .cons a (Rs.set r i b)
theorem Rs.reverse {v : List V} {d : List D} (h : Rs K mg w v d) : Rs K mg w v.reverse d.reverse := by
  induction v generalizing d with
  | nil => cases h; exact .nil
  | cons a v ih =>
    cases h with
    | cons r t =>
      rw [List.reverse_cons, List.reverse_cons]
      exact (ih t).append (.cons r .nil)
theorem Rs.ints : ∀ {v : List V} {ns : List Int}, Rs K mg w v (ns.map D.int) → v = ns.map V.int
  | v, [], h => by cases h; rfl
  | v, n :: ns, h => by
    cases h with
    | cons r t => cases r; rw [Rs.ints t]; rfl
theorem Rs.ofInts : ∀ {ns : List Int}, Rs K mg w (ns.map V.int) (ns.map D.int)
  | [] => .nil
  | _ :: _ => .cons (.int _) Rs.ofInts
theorem Rs.strs : ∀ {v : List V} {ns : List (List Nat)}, Rs K mg w v (ns.map D.str) → v = ns.map sv
  | v, [], h => by cases h; rfl
  | v, n :: ns, h => by
    cases h with
    | cons r t => cases r; rw [Rs.strs t]; rfl
theorem Rs.ofStrs : ∀ {ns : List (List Nat)}, Rs K mg w (ns.map sv) (ns.map D.str)
  | [] => .nil
  | _ :: _ => .cons (.str _) Rs.ofStrs
theorem Rf.lookup : ∀ {v : List (Str × V)} {d : List (Str × D)} {f : Str} {x : D}, Rf K mg w v d → d.lookup f = some x → ∃ y, v.lookup f = some y ∧ R K mg w y x
  | _, _, _, _, .nil, e => by cases e
  | _, _, f, x, .cons (k := k) (v := y) (d := x') r t, e => by
    by_cases hk : f == k
    · rw [List.lookup_cons, hk] at e
      injection e with e
      exact ⟨y, by rw [List.lookup_cons, hk], e ▸ r⟩
    · have hk' : (f == k) = false := by simpa using hk
      rw [List.lookup_cons, hk'] at e
      obtain ⟨z, q, r'⟩ := Rf.lookup t e
      exact ⟨z, by rw [List.lookup_cons, hk']; exact q, r'⟩
theorem Rf.none : ∀ {v : List (Str × V)} {d : List (Str × D)} {f : Str}, Rf K mg w v d → d.lookup f = .none → v.lookup f = .none
  | _, _, _, .nil, e => rfl
  | _, _, f, .cons (k := k) r t, e => by
    by_cases hk : f == k
    · rw [List.lookup_cons, hk] at e; cases e
    · have hk' : (f == k) = false := by simpa using hk
      rw [List.lookup_cons, hk'] at e
      rw [List.lookup_cons, hk']
      exact Rf.none t e
theorem Rf.length : ∀ {v : List (Str × V)} {d : List (Str × D)}, Rf K mg w v d → v.length = d.length
  | _, _, .nil => rfl
  | _, _, .cons _ b => congrArg Nat.succ (Rf.length b)
/-- an attribute stored -/
def putD (f : Str) (x : D) : List (Str × D) → List (Str × D)
  | [] => [(f, x)]
  | (g, y) :: r => if g = f then (f, x) :: r else (g, y) :: putD f x r
end
end Y
namespace Y
open PySem.Spec PySem PyProof.Rows L2
section
variable {K : PySem.W.Frag} {mg : Str → Option Value} {w w' : Wd}
theorem Rf.put {f : Str} {y : V} {x : D} (r : R K mg w y x) : ∀ {v : List (Str × V)} {d : List (Str × D)}, Rf K mg w v d → Rf K mg w (putF f y v) (putD f x d)
  | _, _, .nil => .cons r .nil
  | _, _, .cons (k := k) a b => by
    unfold putF putD
    by_cases h : k = f
    · rw [if_pos h, if_pos h]; subst h; exact .cons r b
    · rw [if_neg h, if_neg h]; exact .cons a (Rf.put r b)
end

section
variable (K : PySem.W.Frag) (mg : Str → Option Value)
def CellOk (w : Wd) (H : Hp) (a : Addr) : MC → Prop
  | .lst ds => ∃ vs, H a = some (.lst vs) ∧ Rs K mg w vs ds
  | .dK ds => ∃ vs, H a = some (.dK vs) ∧ Rk K mg w vs ds
  | .dT ds => ∃ vs, H a = some (.dT vs) ∧ Rt K mg w vs ds
  | .obj c ds => ∃ C dx vs, mg c = some (.ref C) ∧ H a = some (.ins C dx vs) ∧ Rf K mg w vs ds
theorem CellOk.up {w w' : Wd} {H H' : Hp} {a : Addr} {m : MC} (h : Le w w') (k : ∀ o, H a = some o → H' a = some o) (c : CellOk K mg w H a m) : CellOk K mg w' H' a m := by
  cases m with
  | lst ds => obtain ⟨vs, e, r⟩ := c; exact ⟨vs, k _ e, r.up h⟩
  | dK ds => obtain ⟨vs, e, r⟩ := c; exact ⟨vs, k _ e, r.up h⟩
  | dT ds => obtain ⟨vs, e, r⟩ := c; exact ⟨vs, k _ e, r.up h⟩
  | obj c ds => obtain ⟨C, dx, vs, g, e, r⟩ := c; exact ⟨C, dx, vs, g, k _ e, r.up h⟩
theorem CellOk.there {w : Wd} {H : Hp} {a : Addr} {m : MC} (c : CellOk K mg w H a m) : ∃ o, H a = some o := by
  cases m with
  | lst ds => obtain ⟨vs, e, r⟩ := c; exact ⟨_, e⟩
  | dK ds => obtain ⟨vs, e, r⟩ := c; exact ⟨_, e⟩
  | dT ds => obtain ⟨vs, e, r⟩ := c; exact ⟨_, e⟩
  | obj c ds => obtain ⟨C, dx, vs, g, e, r⟩ := c; exact ⟨_, e⟩

/-- where a def was entered -/
structure En where
  H : Hp
  w : Wd

def SlotOk (E : En) (w : Wd) (H : Hp) : SD → Option V → Prop
  | .no, _ => True
  | .val d, some v => R K mg w v d
  | .own m, some (.ref a) => CellOk K mg w H a m ∧ w.G a = none ∧ a ∉ w.as ∧ E.H a = none
  | _, _ => False

/-- what stands while a def runs -/
structure Rel (E : En) (w : Wd) (s : S) (σ : L2.St) (H : Hp) : Prop where
  ex : ∀ a o, w.G a = some o → H a = some o
  nd : w.as.Nodup
  off : ∀ a ∈ w.as, w.G a = none
  cl : Paired (fun a m => CellOk K mg w H a m) w.as s.mu
  sl : Paired (SlotOk K mg E w H) s.ls σ
  ow : ∀ (i j : Nat) (m n : MC), s.ls[i]? = some (.own m) → s.ls[j]? = some (.own n) → σ[i]? = σ[j]? → i = j
  eL : Le E.w w
  keep : ∀ p o, E.H p = some o → p ∉ E.w.as → H p = some o
  away : ∀ p o, E.H p = some o → E.w.G p = none → p ∉ E.w.as → w.G p = none ∧ p ∉ w.as

/-- a step that leaves the frame alone: what was known stands, what is told no cell stands, the new is fresh -/
structure Step (w : Wd) (H : Hp) (w' : Wd) (H' : Hp) : Prop where
  le : Le w w'
  ex : ∀ a o, w'.G a = some o → H' a = some o
  nd : w'.as.Nodup
  off : ∀ a ∈ w'.as, w'.G a = none
  keep : ∀ p o, H p = some o → p ∉ w.as → H' p = some o
  away : ∀ p o, H p = some o → w.G p = none → p ∉ w.as → w'.G p = none ∧ p ∉ w'.as

/-- a new cell at p -/
structure New (E : En) (w : Wd) (s : S) (σ : L2.St) (H : Hp) (p : Addr) (m : MC) : Prop where
  ok : CellOk K mg w H p m
  g : w.G p = none
  n : p ∉ w.as
  e : E.H p = none
  o : ∀ (i : Nat) (m : MC), s.ls[i]? = some (.own m) → σ[i]? ≠ some (some (.ref p))
end

theorem Paired.get {α β : Type} {F : α → β → Prop} : ∀ {xs : List α} {ys : List β} {i : Nat} {x : α}, Paired F xs ys → xs[i]? = some x → ∃ y, ys[i]? = some y ∧ F x y
  | _, _, _, _, .nil, e => by simp at e
  | _, _, 0, x, .cons (b := y) a _, e => ⟨y, rfl, by simp at e; rw [← e]; exact a⟩
  | _, _, i + 1, x, .cons _ b, e => by
    obtain ⟨y, h1, h2⟩ := Paired.get (i := i) (x := x) b (by simpa using e)
    exact ⟨y, by simpa using h1, h2⟩
theorem Paired.get' {α β : Type} {F : α → β → Prop} : ∀ {xs : List α} {ys : List β} {i : Nat} {y : β}, Paired F xs ys → ys[i]? = some y → ∃ x, xs[i]? = some x ∧ F x y
  | _, _, _, _, .nil, e => by simp at e
  | _, _, 0, y, .cons (a := x) h _, e => ⟨x, rfl, by simp at e; rw [← e]; exact h⟩
  | _, _, i + 1, y, .cons _ b, e => by
    obtain ⟨x, h1, h2⟩ := Paired.get' (i := i) (y := y) b (by simpa using e)
    exact ⟨x, by simpa using h1, h2⟩
theorem Paired.setP {α β : Type} {F : α → β → Prop} {x : α} {y : β} (r : F x y) : ∀ {xs : List α} {ys : List β} (i : Nat), Paired F xs ys → Paired F (xs.set i x) (ys.set i y)
  | _, _, _, .nil => .nil
  | _, _, 0, .cons _ b => .cons r b
  | _, _, i + 1, .cons a b => .cons a (Paired.setP r i b)
theorem Paired.app {α β : Type} {F : α → β → Prop} : ∀ {xs xs' : List α} {ys ys' : List β}, Paired F xs ys → Paired F xs' ys' → Paired F (xs ++ xs') (ys ++ ys')
  | _, _, _, _, .nil, k => k
  | _, _, _, _, .cons a b, k => .cons a (Paired.app b k)
theorem Paired.mapI {α β : Type} {F G : α → β → Prop} : ∀ {xs : List α} {ys : List β}, Paired F xs ys → (∀ (i : Nat) a b, xs[i]? = some a → ys[i]? = some b → F a b → G a b) → Paired G xs ys
  | _, _, .nil, _ => .nil
  | _, _, .cons r t, f => .cons (f 0 _ _ rfl rfl r) (Paired.mapI t fun i a b h1 h2 q => f (i + 1) a b (by simpa using h1) (by simpa using h2) q)
theorem Paired.len {α β : Type} {F : α → β → Prop} : ∀ {xs : List α} {ys : List β}, Paired F xs ys → xs.length = ys.length
  | _, _, .nil => rfl
  | _, _, .cons _ t => congrArg Nat.succ (Paired.len t)

section
variable {K : PySem.W.Frag} {mg : Str → Option Value} {E : En} {w w' : Wd} {s : S} {σ : L2.St} {H H' : Hp}
theorem Step.rfl (r : Rel K mg E w s σ H) : Step w H w H := ⟨Le.rfl, r.ex, r.nd, r.off, fun _ _ h _ => h, fun _ _ _ h k => ⟨h, k⟩⟩
/-- behind such a step -/
theorem Rel.step (r : Rel K mg E w s σ H) (t : Step w H w' H') {mu' : List MC} (c : Paired (fun a m => CellOk K mg w' H' a m) w'.as mu') : Rel K mg E w' { s with mu := mu' } σ H' := by
  refine ⟨t.ex, t.nd, t.off, c, ?_, r.ow, r.eL.trans t.le, fun p o h n => ?_, fun p o h g n => ?_⟩
  · refine Paired.mapI r.sl fun i a b _ _ q => ?_
    cases a with
    | no => trivial
    | val d =>
      cases b with
      | none => exact q
      | some v => exact R.up t.le q
    | own m =>
      cases b with
      | none => exact q
      | some v =>
        cases v with
        | ref p =>
          obtain ⟨q1, q2, q3, q4⟩ := q
          obtain ⟨o, ho⟩ := q1.there
          obtain ⟨k1, k2⟩ := t.away p o ho q2 q3
          exact ⟨CellOk.up K mg t.le (fun o' h' => t.keep p o' h' q3) q1, k1, k2, q4⟩
        | _ => exact q
  · have hn : p ∉ w.as := by
      cases q : E.w.G p with
      | none => exact (r.away p o h q n).2
      | some u => intro z; have := r.off p z; rw [r.eL.1 p u q] at this; cases this
    exact t.keep p o (r.keep p o h n) hn
  · obtain ⟨a, b⟩ := r.away p o h g n
    exact t.away p o (r.keep p o h n) a b
/-- a new object -/
theorem Step.new (r : Rel K mg E w s σ H) {p : Addr} {o : HO} (h : H p = none) : Step w H w (upd H p o) :=
  ⟨Le.rfl, fun a u e => by rw [upd_ne (ne_of_none (r.ex a u e) h)]; exact r.ex a u e, r.nd, r.off, fun a u e _ => by rw [upd_ne (ne_of_none e h)]; exact e, fun _ _ _ g n => ⟨g, n⟩⟩
theorem Rel.cells_new (r : Rel K mg E w s σ H) {p : Addr} {o : HO} (h : H p = none) : Paired (fun a m => CellOk K mg w (upd H p o) a m) w.as s.mu :=
  Paired.mapI r.cl fun i a m _ _ c => CellOk.up K mg Le.rfl (fun u e => by rw [upd_ne (ne_of_none e h)]; exact e) c
theorem Rel.add (r : Rel K mg E w s σ H) {p : Addr} {o : HO} (h : H p = none) : Rel K mg E w s σ (upd H p o) := r.step (Step.new r h) (r.cells_new h)
theorem Rel.en_none (r : Rel K mg E w s σ H) {p : Addr} (h : H p = none) (hn : p ∉ E.w.as) : E.H p = none := by
  cases q : E.H p with
  | none => rfl
  | some o => rw [r.keep p o q hn] at h; cases h
theorem Rel.as_some (r : Rel K mg E w s σ H) {p : Addr} (h : p ∈ w.as) : ∃ o, H p = some o := by
  obtain ⟨i, hi⟩ := List.mem_iff_getElem?.mp h
  obtain ⟨m, _, c⟩ := Paired.get r.cl hi
  exact c.there
theorem Rel.none_as (r : Rel K mg E w s σ H) {p : Addr} (h : H p = none) : p ∉ w.as := fun z => by
  obtain ⟨o, e⟩ := r.as_some z
  rw [h] at e; cases e
theorem Rel.none_G (r : Rel K mg E w s σ H) {p : Addr} (h : H p = none) : w.G p = none := by
  cases q : w.G p with
  | none => rfl
  | some o => rw [r.ex p o q] at h; cases h
theorem Rel.own_at (r : Rel K mg E w s σ H) {i : Nat} {m : MC} (h : s.ls[i]? = some (.own m)) : ∃ a, σ[i]? = some (some (.ref a)) ∧ CellOk K mg w H a m ∧ w.G a = none ∧ a ∉ w.as ∧ E.H a = none := by
  obtain ⟨ov, e, q⟩ := Paired.get r.sl h
  cases ov with
  | none => exact absurd q (by simp [SlotOk])
  | some v =>
    cases v with
    | ref a => exact ⟨a, e, q⟩
    | _ => exact absurd q (by simp [SlotOk])
theorem Rel.val_at (r : Rel K mg E w s σ H) {i : Nat} {d : D} (h : s.ls[i]? = some (.val d)) : ∃ v, σ[i]? = some (some v) ∧ R K mg w v d := by
  obtain ⟨ov, e, q⟩ := Paired.get r.sl h
  cases ov with
  | none => exact absurd q (by simp [SlotOk])
  | some v => exact ⟨v, e, q⟩
/-- a fresh object as a new cell -/
theorem Rel.isNew (r : Rel K mg E w s σ H) {p : Addr} {o : HO} {m : MC} (h : H p = none) (c : CellOk K mg w (upd H p o) p m) : New K mg E w s σ (upd H p o) p m := by
  refine ⟨c, r.none_G h, r.none_as h, r.en_none h fun z => ?_, fun i m' hi e => ?_⟩
  · exact r.none_as h (r.eL.mem z)
  · obtain ⟨a, e1, c1, _⟩ := r.own_at hi
    rw [e] at e1
    cases e1
    obtain ⟨o', e2⟩ := c1.there
    rw [h] at e2; cases e2
/-- a new cell is made known for good -/
theorem New.froz {p : Addr} {m : MC} (r : Rel K mg E w s σ H) (n : New K mg E w s σ H p m) {o : HO} (ho : H p = some o) :
    Le w ⟨upd w.G p o, w.as⟩ ∧ Rel K mg E ⟨upd w.G p o, w.as⟩ s σ H := by
  have le : Le w ⟨upd w.G p o, w.as⟩ := ⟨Evl.Ex.new n.g, [], (List.append_nil _).symm⟩
  refine ⟨le, ⟨fun a u e => ?_, r.nd, fun a ha => ?_, ?_, ?_, r.ow, r.eL.trans le, r.keep, fun a u e g nn => ?_⟩⟩
  · by_cases h : a = p
    · subst h
      have e' : upd w.G a o a = some u := e
      rw [upd_same] at e'; cases e'; exact ho
    · have e' : upd w.G p o a = some u := e
      rw [upd_ne h] at e'; exact r.ex a u e'
  · show upd w.G p o a = none
    have hne : a ≠ p := fun z => n.n (by rw [← z]; exact ha)
    rw [upd_ne hne]; exact r.off a ha
  · exact Paired.mapI r.cl fun i a m _ _ c => CellOk.up K mg le (fun u e => e) c
  · refine Paired.mapI r.sl fun i a b h1 h2 q => ?_
    cases a with
    | no => trivial
    | val d =>
      cases b with
      | none => exact q
      | some v => exact R.up le q
    | own m' =>
      cases b with
      | none => exact q
      | some v =>
        cases v with
        | ref a =>
          obtain ⟨q1, q2, q3, q4⟩ := q
          have hne : a ≠ p := fun z => n.o i m' h1 (by rw [h2, z])
          exact ⟨CellOk.up K mg le (fun u e => e) q1, by show upd w.G p o a = none; rw [upd_ne hne]; exact q2, q3, q4⟩
        | _ => exact q
  · obtain ⟨a1, a2⟩ := r.away a u e g nn
    have hne : a ≠ p := fun z => by rw [z, n.e] at e; cases e
    exact ⟨by show upd w.G p o a = none; rw [upd_ne hne]; exact a1, a2⟩
/-- stored as a value -/
theorem Rel.setVal (r : Rel K mg E w s σ H) {v : V} {d : D} (i : Nat) (q : R K mg w v d) : Rel K mg E w { s with ls := s.ls.set i (.val d) } (σ.set i (some v)) H := by
  refine ⟨r.ex, r.nd, r.off, r.cl, Paired.setP (show SlotOk K mg E w H (.val d) (some v) from q) i r.sl, fun a b m n h1 h2 h3 => ?_, r.eL, r.keep, r.away⟩
  have f : ∀ (a : Nat) (m : MC), (s.ls.set i (.val d))[a]? = some (.own m) → a ≠ i ∧ s.ls[a]? = some (.own m) := fun a m h => by
    by_cases e : i = a
    · subst e
      by_cases l : i < s.ls.length
      · rw [List.getElem?_set_self l] at h; cases h
      · rw [List.getElem?_eq_none (by simpa using l)] at h; cases h
    · rw [List.getElem?_set_ne e] at h; exact ⟨fun z => e z.symm, h⟩
  obtain ⟨x1, y1⟩ := f a m h1
  obtain ⟨x2, y2⟩ := f b n h2
  rw [List.getElem?_set_ne (Ne.symm x1), List.getElem?_set_ne (Ne.symm x2)] at h3
  exact r.ow a b m n y1 y2 h3
/-- stored as an own cell -/
theorem Rel.setOwn (r : Rel K mg E w s σ H) {p : Addr} {m : MC} (i : Nat) (q : New K mg E w s σ H p m) : Rel K mg E w { s with ls := s.ls.set i (.own m) } (σ.set i (some (.ref p))) H := by
  refine ⟨r.ex, r.nd, r.off, r.cl, Paired.setP (show SlotOk K mg E w H (.own m) (some (.ref p)) from ⟨q.ok, q.g, q.n, q.e⟩) i r.sl, fun a b m' n h1 h2 h3 => ?_, r.eL, r.keep, r.away⟩
  have hl : s.ls.length = σ.length := Paired.len r.sl
  have f : ∀ (a : Nat) (m' : MC), a ≠ i → (s.ls.set i (.own m))[a]? = some (.own m') → s.ls[a]? = some (.own m') := fun a m' e h => by
    rw [List.getElem?_set_ne (Ne.symm e)] at h; exact h
  have g : ∀ (a : Nat) (m' : MC), (s.ls.set i (.own m))[a]? = some (.own m') → a = i → i < σ.length := fun a m' h e => by
    have := (List.getElem?_eq_some_iff.mp h).1
    simp at this; omega
  by_cases ea : a = i
  · by_cases eb : b = i
    · rw [ea, eb]
    · have hi := g a m' h1 ea
      rw [ea, List.getElem?_set_self hi, List.getElem?_set_ne (Ne.symm eb)] at h3
      exact absurd h3.symm (q.o b n (f b n eb h2))
  · by_cases eb : b = i
    · have hi := g b n h2 eb
      rw [eb, List.getElem?_set_self hi, List.getElem?_set_ne (Ne.symm ea)] at h3
      exact absurd h3 (q.o a m' (f a m' ea h1))
    · rw [List.getElem?_set_ne (Ne.symm ea), List.getElem?_set_ne (Ne.symm eb)] at h3
      exact r.ow a b m' n (f a m' ea h1) (f b n eb h2) h3
end

/-- a cell seen as a tree -/
def MC.froz : MC → Option D
  | .lst xs => some (.lst xs)
  | .dK kvs => some (.dic kvs)
  | .obj c fs => some (.obj c fs)
  | .dT _ => none
section
variable {K : PySem.W.Frag} {mg : Str → Option Value} {E : En} {w w' : Wd} {s : S} {σ : L2.St} {H H' : Hp}
theorem CellOk.froz {p : Addr} {m : MC} {d : D} (c : CellOk K mg w H p m) (e : m.froz = some d) : ∃ o, H p = some o ∧ ∀ w', Le w w' → w'.G p = some o → R K mg w' (.ref p) d := by
  cases m with
  | lst xs =>
    obtain ⟨vs, h, r⟩ := c
    cases e
    exact ⟨_, h, fun w' l g => .lst (.inl (.inl g)) (r.up l)⟩
  | dK xs =>
    obtain ⟨vs, h, r⟩ := c
    cases e
    exact ⟨_, h, fun w' l g => .dic (.inl g) (r.up l)⟩
  | obj c' xs =>
    obtain ⟨C, dx, vs, g0, h, r⟩ := c
    cases e
    exact ⟨_, h, fun w' l g => .obj g0 g (r.up l)⟩
  | dT xs => cases e
end

/-! ### judgements over readings -/
section
variable (K : PySem.W.Frag) (mg : Str → Option Value)
def EvT (t : TE) (s : S) (d : D) (s' : S) : Prop := ∀ (E : En) (w : Wd) (σ : L2.St) (H : Hp), Rel K mg E w s σ H → ∀ Q : VK, (∀ v H' w', Le w w' → Rel K mg E w' s' σ H' → R K mg w' v d → Q v H') → t σ H Q
def EvC (t : TE) (s : S) (m : MC) (s' : S) : Prop := ∀ (E : En) (w : Wd) (σ : L2.St) (H : Hp), Rel K mg E w s σ H → ∀ Q : VK, (∀ p H' w', Le w w' → Rel K mg E w' s' σ H' → New K mg E w' s' σ H' p m → Q (.ref p) H') → t σ H Q
def TvT (t : TT) (s : S) (b : Bool) (s' : S) : Prop := ∀ (E : En) (w : Wd) (σ : L2.St) (H : Hp), Rel K mg E w s σ H → ∀ Q : Bool → Hp → Prop, (∀ H' w', Le w w' → Rel K mg E w' s' σ H' → Q b H') → t σ H Q
def EvA (t : TA) (s : S) (ds : List D) (s' : S) : Prop := ∀ (E : En) (w : Wd) (σ : L2.St) (H : Hp), Rel K mg E w s σ H → ∀ Q : List V → Hp → Prop, (∀ vs H' w', Le w w' → Rel K mg E w' s' σ H' → Rs K mg w' vs ds → Q vs H') → t σ H Q
/-- a value ends a def: a value, or a cell of its own; or an error leaves it -/
inductive Res where
  | val (d : D) | new (m : MC) | exc (c : Str) (fs : List (Str × D))
structure Post where
  nx : S → Prop
  rt : Res → S → Prop
  bk : S → Prop := fun _ => False
  ct : S → Prop := fun _ => False
  xc : Str → List (Str × D) → S → Prop := fun _ _ _ => False
def ResOk (E : En) (w : Wd) (s : S) (σ : L2.St) (H : Hp) (v : V) : Res → Prop
  | .val d => R K mg w v d
  | .new m => ∃ p, v = .ref p ∧ New K mg E w s σ H p m
  | .exc _ _ => False
structure Fits (W : WX) (E : En) (P : Post) (D : Ends) : Prop where
  nx : ∀ s w σ H, P.nx s → Rel K mg E w s σ H → D.nx σ H
  bk : ∀ s w σ H, P.bk s → Rel K mg E w s σ H → D.bk σ H
  ct : ∀ s w σ H, P.ct s → Rel K mg E w s σ H → D.ct σ H
  rt : ∀ r s w σ H v, P.rt r s → Rel K mg E w s σ H → ResOk K mg E w s σ H v r → D.rt v H
  xc : ∀ c fs s w σ H C dd vs, P.xc c fs s → Rel K mg E w s σ H → mg c = some (.ref C) → H dd = some (.xd vs) → Rf K mg w vs fs → W (.ref C) (some dd) σ H
def SJ (W : WX) (t : TS) (s : S) (P : Post) : Prop := ∀ (E : En) (w : Wd) (σ : L2.St) (H : Hp), Rel K mg E w s σ H → ∀ D : Ends, Fits K mg W E P D → t D σ H
end

/-! ### the very meaning of a piece of text as its reading -/
def semE (X : Cx) (e : Expr) : TE := fun σ H Q => ∀ (pins : List (Addr × Obj)) (sh : Shared), Inv X pins σ H sh → wpAny (model X.prog X.w) X.A (eval e X.env) (EP X pins σ Q) X.xe sh
def semT (X : Cx) (e : Expr) : TT := fun σ H Q => ∀ (pins : List (Addr × Obj)) (sh : Shared), Inv X pins σ H sh → wpAny (model X.prog X.w) X.A (isTrue e X.env (eval e X.env)) (TP X pins σ Q) X.xe sh
def semA (X : Cx) (es : List Expr) : TA := fun σ H Q => ∀ (pos : Pos) (pins : List (Addr × Obj)) (sh : Shared), Inv X pins σ H sh → wpAny (model X.prog X.w) X.A (spliced (backTo pos (starEach es X.env))) (AP X pins σ Q) X.xe sh
def semS (X : Cx) (st : List Stmt) : TS := fun D σ H => ∀ (pins : List (Addr × Obj)) (sh : Shared), Inv X pins σ H sh → wpAny (model X.prog X.w) X.A (execs st X.env) (SP X pins D) X.xe sh
theorem pe_sem {X : Cx} {e : Expr} : PE X e (semE X e) := ⟨fun pins sh _ _ _ I h => h pins sh I⟩
theorem pt_sem {X : Cx} {e : Expr} : PT X e (semT X e) := ⟨fun pins sh _ _ _ I h => h pins sh I⟩
theorem pa_sem {X : Cx} {es : List Expr} : PA X es (semA X es) := ⟨fun pos pins sh _ _ _ I h => h pos pins sh I⟩
theorem pss_sem {X : Cx} {st : List Stmt} : PSs X st (semS X st) := ⟨fun pins sh _ _ _ I h => h pins sh I⟩

/-- an expression gives d; a new cell; a test; arguments; a block -/
def Ev (X : Cx) (e : Expr) (s : S) (d : D) (s' : S) : Prop := EvT X.K X.mg (semE X e) s d s'
def Ec (X : Cx) (e : Expr) (s : S) (m : MC) (s' : S) : Prop := EvC X.K X.mg (semE X e) s m s'
def Tv (X : Cx) (e : Expr) (s : S) (b : Bool) (s' : S) : Prop := TvT X.K X.mg (semT X e) s b s'
def Ea (X : Cx) (es : List Expr) (s : S) (ds : List D) (s' : S) : Prop := EvA X.K X.mg (semA X es) s ds s'
def Bk (X : Cx) (st : List Stmt) (s : S) (P : Post) : Prop := ∀ W : WX, Takes X W → SJ X.K X.mg W (semS X st) s P

section
variable {X : Cx} {e : Expr} {es : List Expr} {st : List Stmt} {s s' : S} {d : D} {m : MC} {b : Bool} {P : Post}
theorem ev_of {t : TE} (h : PE X e t) (q : EvT X.K X.mg t s d s') : Ev X e s d s' := fun E w σ H r Q k pins sh I => h.run pins sh σ H Q I (q E w σ H r Q k)
theorem ec_of {t : TE} (h : PE X e t) (q : EvC X.K X.mg t s m s') : Ec X e s m s' := fun E w σ H r Q k pins sh I => h.run pins sh σ H Q I (q E w σ H r Q k)
theorem tv_of {t : TT} (h : PT X e t) (q : TvT X.K X.mg t s b s') : Tv X e s b s' := fun E w σ H r Q k pins sh I => h.run pins sh σ H Q I (q E w σ H r Q k)
theorem ea_of {ds : List D} {t : TA} (h : PA X es t) (q : EvA X.K X.mg t s ds s') : Ea X es s ds s' := fun E w σ H r Q k pos pins sh I => h.run pos pins sh σ H Q I (q E w σ H r Q k)
theorem bk_of {t : TS} (h : PSs X st t) (q : ∀ W : WX, SJ X.K X.mg W t s P) : Bk X st s P := fun W _ E w σ H r D k pins sh I => h.run pins sh σ H D I (q W E w σ H r D k)

/-- a new cell as a value -/
theorem evT_froz {K : PySem.W.Frag} {mg : Str → Option Value} {t : TE} (h : EvC K mg t s m s') (e : m.froz = some d) : EvT K mg t s d s' := fun E w σ H r Q k =>
  h E w σ H r Q fun p H' w' le r' n => by
    obtain ⟨o, ho, f⟩ := n.ok.froz e
    obtain ⟨l2, r2⟩ := n.froz r' ho
    exact k _ H' _ (le.trans l2) r2 (f _ l2 upd_same)
theorem ev_c (h : Ec X e s m s') (q : m.froz = some d := by rfl) : Ev X e s d s' := evT_froz h q
end
end Y
namespace Y
open PySem.Spec PySem PyProof.Rows L2
section
variable {K : PySem.W.Frag} {mg : Str → Option Value}
/-- what a value-level step asks: nothing but the values is touched -/
theorem evT_op {r : R2} {ta tb : TE} {s s1 s2 : S} {d1 d2 d : D} (ha : EvT K mg ta s d1 s1) (hb : EvT K mg tb s1 d2 s2)
    (hr : ∀ (w : Wd) (H : Hp), Evl.Ex w.G H → ∀ x y, R K mg w x d1 → R K mg w y d2 → ∀ Q : VK, (∀ v, R K mg w v d → Q v H) → r x y H Q) : EvT K mg (tOp r ta tb) s d s2 := fun E w σ H rl Q k =>
  ha E w σ H rl _ fun x H1 w1 l1 r1 q1 => hb E w1 σ H1 r1 _ fun y H2 w2 l2 r2 q2 =>
    hr w2 H2 r2.ex x y (q1.up l2) q2 Q fun v q => k v H2 w2 (l1.trans l2) r2 q
theorem evT_un {r : V → Hp → VK → Prop} {ta : TE} {s s1 : S} {d1 d : D} (ha : EvT K mg ta s d1 s1)
    (hr : ∀ (w : Wd) (H : Hp), Evl.Ex w.G H → ∀ x, R K mg w x d1 → ∀ Q : VK, (∀ v, R K mg w v d → Q v H) → r x H Q) : EvT K mg (tUn r ta) s d s1 := fun E w σ H rl Q k =>
  ha E w σ H rl _ fun x H1 w1 l1 r1 q1 => hr w1 H1 r1.ex x q1 Q fun v q => k v H1 w1 l1 r1 q
theorem evT_cb {r : List V → Hp → VK → Prop} {ta : TA} {s s1 : S} {ds : List D} {d : D} (ha : EvA K mg ta s ds s1)
    (hr : ∀ (w : Wd) (H : Hp), Evl.Ex w.G H → ∀ xs, Rs K mg w xs ds → ∀ Q : VK, (∀ v, R K mg w v d → Q v H) → r xs H Q) : EvT K mg (tCB r ta) s d s1 := fun E w σ H rl Q k =>
  ha E w σ H rl _ fun x H1 w1 l1 r1 q1 => hr w1 H1 r1.ex x q1 Q fun v q => k v H1 w1 l1 r1 q
/-- .. that lays a new object -/
theorem evC_op {r : R2} {ta tb : TE} {s s1 s2 : S} {d1 d2 : D} {m : MC} (ha : EvT K mg ta s d1 s1) (hb : EvT K mg tb s1 d2 s2)
    (hr : ∀ (w : Wd) (H : Hp), Evl.Ex w.G H → ∀ x y, R K mg w x d1 → R K mg w y d2 → ∀ Q : VK, (∀ p o, H p = none → CellOk K mg w (upd H p o) p m → Q (.ref p) (upd H p o)) → r x y H Q) : EvC K mg (tOp r ta tb) s m s2 := fun E w σ H rl Q k =>
  ha E w σ H rl _ fun x H1 w1 l1 r1 q1 => hb E w1 σ H1 r1 _ fun y H2 w2 l2 r2 q2 =>
    hr w2 H2 r2.ex x y (q1.up l2) q2 Q fun p o hp c => k p _ w2 (l1.trans l2) (r2.add hp) (r2.isNew hp c)
theorem evC_cb {r : List V → Hp → VK → Prop} {ta : TA} {s s1 : S} {ds : List D} {m : MC} (ha : EvA K mg ta s ds s1)
    (hr : ∀ (w : Wd) (H : Hp), Evl.Ex w.G H → ∀ xs, Rs K mg w xs ds → ∀ Q : VK, (∀ p o, H p = none → CellOk K mg w (upd H p o) p m → Q (.ref p) (upd H p o)) → r xs H Q) : EvC K mg (tCB r ta) s m s1 := fun E w σ H rl Q k =>
  ha E w σ H rl _ fun x H1 w1 l1 r1 q1 => hr w1 H1 r1.ex x q1 Q fun p o hp c => k p _ w1 l1 (r1.add hp) (r1.isNew hp c)
end
/-- what is known is a list, a tuple -/
theorem R.isLst {K : PySem.W.Frag} {mg : Str → Option Value} {w : Wd} {H : Hp} {v : V} {ds : List D} (r : R K mg w v (.lst ds)) (e : Evl.Ex w.G H) : ∃ p vs, v = .ref p ∧ SqL K H p vs ∧ Rs K mg w vs ds := by
  cases r with
  | lst a b => exact ⟨_, _, rfl, Evl.ex_l e a, b⟩
theorem R.isTup {K : PySem.W.Frag} {mg : Str → Option Value} {w : Wd} {H : Hp} {v : V} {ds : List D} (r : R K mg w v (.tup ds)) (e : Evl.Ex w.G H) : ∃ p vs, v = .ref p ∧ SqT K H p vs ∧ Rs K mg w vs ds := by
  cases r with
  | tup a b => exact ⟨_, _, rfl, Evl.ex_t e a, b⟩
theorem R.isInt {K : PySem.W.Frag} {mg : Str → Option Value} {w : Wd} {v : V} {i : Int} (r : R K mg w v (.int i)) : v = .int i := by cases r; rfl
theorem R.isStr {K : PySem.W.Frag} {mg : Str → Option Value} {w : Wd} {v : V} {x : List Nat} (r : R K mg w v (.str x)) : v = sv x := by cases r; rfl
theorem R.isBl {K : PySem.W.Frag} {mg : Str → Option Value} {w : Wd} {v : V} {b : Bool} (r : R K mg w v (.bl b)) : v = .bl b := by cases r; rfl
theorem R.isNon {K : PySem.W.Frag} {mg : Str → Option Value} {w : Wd} {v : V} (r : R K mg w v .non) : v = .non := by cases r; rfl

/-! ### names and constants -/
section
variable {X : Cx} {pos : Pos} {s s1 s2 s3 : S} {d d1 d2 : D}
theorem ev_var (i : Nat) {x : Str} (hN : X.N[i]? = some x) (h : s.ls[i]? = some (.val d)) (hv : Vis X.env.scope x := by first | exact Or.inl rfl | exact Or.inr (Or.inl rfl) | exact Or.inr (Or.inr rfl))
    (hd : (x == ("__debug__" : Str)) = false := by decide) (hcd : (x == ("__classdict__" : Str)) = false := by decide) : Ev X (.Name x pos) s d s :=
  ev_of (pe_var hN hv hd hcd) fun E w σ H r Q k => by
    obtain ⟨v, e, q⟩ := r.val_at h
    exact ⟨v, e, k v H w Le.rfl r q⟩
theorem ev_int {i : Int} {j} : Ev X (.Constant (.int i) j pos) s (.int i) s := ev_of pe_int fun E w σ H r Q k => k _ H w Le.rfl r (.int i)
theorem ev_bl {b : Bool} {j} : Ev X (.Constant (.bool b) j pos) s (.bl b) s := ev_of pe_bl fun E w σ H r Q k => k _ H w Le.rfl r (.bl b)
theorem ev_non {j} : Ev X (.Constant .none j pos) s .non s := ev_of pe_non fun E w σ H r Q k => k _ H w Le.rfl r .non
theorem ev_str {x : Str} {j} : Ev X (.Constant (.str x) j pos) s (.str (cs x)) s := ev_of pe_str fun E w σ H r Q k => k _ H w Le.rfl r (.str (cs x))
/-- a module's constant -/
theorem ev_glob {x : Str} {u : Value} {v : V} (hm : X.mg x = some u) (r : RelV v u) (q : ∀ w, R X.K X.mg w v d) (hg : Gl X x := by rfl) (hd : (x == ("__debug__" : Str)) = false := by decide) : Ev X (.Name x pos) s d s :=
  ev_of (pe_glob hg hm r hd) fun E w σ H r Q k => k _ H w Le.rfl r (q w)
theorem ev_gint {x : Str} {i : Int} (hm : ∃ t, X.mg x = some (.int i t)) (hg : Gl X x := by rfl) (hd : (x == ("__debug__" : Str)) = false := by decide) : Ev X (.Name x pos) s (.int i) s := by
  obtain ⟨t, hm⟩ := hm
  exact ev_glob hm (v := .int i) ⟨t, rfl⟩ (fun _ => .int i) hg hd
theorem ev_gstr {x y : Str} (hm : ∃ t, X.mg x = some (.str y t)) (hg : Gl X x := by rfl) (hd : (x == ("__debug__" : Str)) = false := by decide) : Ev X (.Name x pos) s (.str (cs y)) s := by
  obtain ⟨t, hm⟩ := hm
  exact ev_glob hm (v := .str y) ⟨t, rfl⟩ (fun _ => .str (cs y)) hg hd

/-! ### operators -/
def repS (n : Int) (x : List Nat) : List Nat := (List.replicate n.toNat x).flatten
def opD : Operator → D → D → Option D
  | .Add, .int i, .int j => some (.int (i + j))
  | .Sub, .int i, .int j => some (.int (i - j))
  | .Mult, .int i, .int j => some (.int (i * j))
  | .Mod, .int i, .int j => some (.int (i % j))
  | .FloorDiv, .int i, .int j => some (.int (i / j))
  | .Pow, .int i, .int j => some (.int (i ^ j.toNat))
  | .Add, .str x, .str y => some (.str (x ++ y))
  | .Mult, .str x, .int n => some (.str (repS n x))
  | _, _, _ => none
def condD : Operator → D → D → Prop
  | .Mult, .int i, .int j => CMul i j ∨ CMulW i j
  | .Mod, .int _, .int j => 0 < j
  | .FloorDiv, .int i, .int j => CDivW i j
  | .Pow, .int i, .int j => CPow i j
  | .Add, .str x, .str y => x.length + y.length ≤ 16777216
  | .Mult, .str x, .int n => -(2 ^ 63) ≤ n ∧ n < 2 ^ 63 ∧ x.length * n.toNat ≤ 16777216
  | _, _, _ => True
theorem foldl_arr : ∀ (l : List (Array Nat)) (a : Array Nat), (l.foldl (· ++ ·) a).toList = a.toList ++ (l.map Array.toList).flatten
  | [], a => by simp
  | b :: l, a => by rw [List.foldl_cons, foldl_arr l]; simp
theorem txt_mul (x : List Nat) (n : Int) : Txt.mul (st x) n = st (repS n x) := by
  unfold Txt.mul
  by_cases h1 : n < 1
  · rw [if_pos h1]
    have : n.toNat = 0 := by omega
    unfold repS; rw [this]; rfl
  · rw [if_neg h1]
    by_cases h2 : (n == 1 || (st x).length == 0) = true
    · rw [if_pos h2]
      simp only [Bool.or_eq_true, beq_iff_eq] at h2
      rcases h2 with e | e
      · subst e; unfold repS; simp
      · have : x = [] := List.eq_nil_of_length_eq_zero (show x.length = 0 from e)
        subst this; unfold repS; simp
    · rw [if_neg h2]
      show Str.mk _ = Str.mk _
      congr 1
      apply Array.toList_inj.mp
      rw [foldl_arr]
      unfold repS
      simp
theorem op_repS : OpR X (binaryOp .Mult) (fun x y H Q => ∃ (z : List Nat) (n : Int), x = sv z ∧ y = .int n ∧ (-(2 ^ 63) ≤ n ∧ n < 2 ^ 63 ∧ z.length * n.toNat ≤ 16777216) ∧ Q (sv (repS n z)) H) := by
  intro pins s σ H x y v u Q I rx ry h
  obtain ⟨z, n, rfl, rfl, ⟨h1, h2, h3⟩, q⟩ := h
  obtain ⟨t, rfl⟩ := rx
  obtain ⟨t', rfl⟩ := ry
  have hs : sizeLine = 16777216 := sizeLine_eq
  refine SB.mul ⟨?_, fun hn hz => ?_, fun hn hz => ?_⟩ fun t' k => ⟨sv (repS n z), H, I.tok _, ⟨_, by rw [txt_mul]⟩, q⟩
  · rw [decide_eq_false (by omega), decide_eq_false (by omega)]; rfl
  · have e : ((st z).length : Int) = (z.length : Int) := rfl
    rw [e]
    have hn' : 0 < n := by omega
    have : (z.length : Int) ≤ (2 ^ 63 - 1) / n := by
      rw [Int.le_ediv_iff_mul_le hn']
      have : (z.length : Int) * n = ((z.length * n.toNat : Nat) : Int) := by
        rw [Int.natCast_mul, Int.toNat_of_nonneg (by omega)]
      rw [this]
      omega
    omega
  · have e : (st z).length = z.length := rfl
    rw [e]
    show decide (z.length * n.toNat > sizeLine) = false
    rw [hs]
    exact decide_eq_false (by omega)
theorem ev_bin {a b : Expr} {op : Operator} (ha : Ev X a s d1 s1) (hb : Ev X b s1 d2 s2) (h : opD op d1 d2 = some d) (c : condD op d1 d2) : Ev X (.BinOp a op b pos) s d s2 := by
  have hs : sizeLine = 16777216 := sizeLine_eq
  unfold opD at h
  split at h
  · cases h; exact ev_of (pe_op op_add pe_sem pe_sem) (evT_op ha hb fun w H e x y hx hy Q k => by cases hx; cases hy; exact ⟨_, _, rfl, rfl, k _ (.int _)⟩)
  · cases h; exact ev_of (pe_op op_sub pe_sem pe_sem) (evT_op ha hb fun w H e x y hx hy Q k => by cases hx; cases hy; exact ⟨_, _, rfl, rfl, k _ (.int _)⟩)
  · cases h
    rcases (show CMul _ _ ∨ CMulW _ _ from c) with c | c
    · exact ev_of (pe_op op_mul pe_sem pe_sem) (evT_op ha hb fun w H e x y hx hy Q k => by cases hx; cases hy; exact ⟨_, _, rfl, rfl, c, k _ (.int _)⟩)
    · exact ev_of (pe_op op_mulW pe_sem pe_sem) (evT_op ha hb fun w H e x y hx hy Q k => by cases hx; cases hy; exact ⟨_, _, rfl, rfl, c, k _ (.int _)⟩)
  · cases h; exact ev_of (pe_op op_mod pe_sem pe_sem) (evT_op ha hb fun w H e x y hx hy Q k => by cases hx; cases hy; exact ⟨_, _, rfl, rfl, c, k _ (.int _)⟩)
  · cases h; exact ev_of (pe_op op_fdivW pe_sem pe_sem) (evT_op ha hb fun w H e x y hx hy Q k => by cases hx; cases hy; exact ⟨_, _, rfl, rfl, c, k _ (.int _)⟩)
  · cases h; exact ev_of (pe_op op_pow pe_sem pe_sem) (evT_op ha hb fun w H e x y hx hy Q k => by cases hx; cases hy; exact ⟨_, _, rfl, rfl, c, k _ (.int _)⟩)
  · cases h
    rename_i x y
    exact ev_of (pe_op op_add_str pe_sem pe_sem) (evT_op ha hb fun w H e x' y' hx hy Q k => by
      cases hx; cases hy
      refine ⟨_, _, rfl, rfl, (by rw [hs]; exact c), ?_⟩
      have := k (sv (x ++ y)) (.str _)
      have e : sv (x ++ y) = V.str (st x ++ st y) := by
        show V.str (Str.mk _) = V.str (Str.mk _)
        congr 2; simp
      rw [e] at this; exact this)
  · cases h; exact ev_of (pe_op op_repS pe_sem pe_sem) (evT_op ha hb fun w H e x y hx hy Q k => by cases hx; cases hy; exact ⟨_, _, rfl, rfl, c, k _ (.str _)⟩)
  · cases h
theorem ev_neg {a : Expr} {i : Int} (ha : Ev X a s (.int i) s1) : Ev X (.UnaryOp .USub a pos) s (.int (-i)) s1 :=
  ev_of (pe_un un_neg pe_sem) (evT_un ha fun w H e x hx Q k => by cases hx; exact ⟨_, rfl, k _ (.int _)⟩)

/-! ### comparisons of scalars -/
def cmpD : CmpOp → D → D → Option Bool
  | .Lt, .int i, .int j => some (decide (i < j))
  | .LtE, .int i, .int j => some (decide (i ≤ j))
  | .Gt, .int i, .int j => some (decide (j < i))
  | .GtE, .int i, .int j => some (decide (j ≤ i))
  | .Eq, .int i, .int j => some (decide (i = j))
  | .NotEq, .int i, .int j => some (!decide (i = j))
  | .Eq, .str x, .str y => some (decide (x = y))
  | .NotEq, .str x, .str y => some (!decide (x = y))
  | .Eq, .bl x, .bl y => some (decide (x = y))
  | .NotEq, .bl x, .bl y => some (!decide (x = y))
  | .Lt, .str x, .str y => some (decide (x < y))
  | .LtE, .str x, .str y => some (!decide (y < x))
  | .Gt, .str x, .str y => some (decide (y < x))
  | .GtE, .str x, .str y => some (!decide (x < y))
  | .Is, .non, .non => some true
  | .Is, .int _, .non => some false
  | .Is, .str _, .non => some false
  | .Is, .bl _, .non => some false
  | .Is, .lst _, .non => some false
  | .Is, .tup _, .non => some false
  | .Is, .obj _ _, .non => some false
  | .Is, .cell _, .non => some false
  | .IsNot, .non, .non => some false
  | .IsNot, .int _, .non => some true
  | .IsNot, .str _, .non => some true
  | .IsNot, .bl _, .non => some true
  | .IsNot, .lst _, .non => some true
  | .IsNot, .tup _, .non => some true
  | .IsNot, .obj _ _, .non => some true
  | .IsNot, .cell _, .non => some true
  | _, _, _ => none
theorem dec_sv (x y : List Nat) : decide (sv x = sv y) = decide (x = y) := by
  by_cases h : x = y
  · subst h; simp
  · rw [decide_eq_false h, decide_eq_false]
    intro e
    have e1 : st x = st y := V.str.inj e
    exact h (congrArg cs e1)
theorem isN {w : Wd} {v : V} {d : D} {K : PySem.W.Frag} {mg : Str → Option Value} (r : R K mg w v d) : decide (v = .non) = (match d with | .non => true | _ => false) := by
  cases r <;> rfl
/-- the value-level rule -/
theorem cmp_ok {op : CmpOp} {b : Bool} (h : cmpD op d1 d2 = some b) : ∃ r : R2, OpR X (compareOp op) r ∧ ∀ (w : Wd) (H : Hp) x y, R X.K X.mg w x d1 → R X.K X.mg w y d2 → ∀ Q : VK, Q (.bl b) H → r x y H Q := by
  unfold cmpD at h
  split at h
  · cases h; exact ⟨_, op_lt, fun w H x y hx hy Q k => by cases hx; cases hy; exact ⟨_, _, rfl, rfl, k⟩⟩
  · cases h; exact ⟨_, op_le, fun w H x y hx hy Q k => by cases hx; cases hy; exact ⟨_, _, rfl, rfl, k⟩⟩
  · cases h; exact ⟨_, op_gt, fun w H x y hx hy Q k => by cases hx; cases hy; exact ⟨_, _, rfl, rfl, k⟩⟩
  · cases h; exact ⟨_, op_ge, fun w H x y hx hy Q k => by cases hx; cases hy; exact ⟨_, _, rfl, rfl, k⟩⟩
  · cases h; exact ⟨_, op_eq, fun w H x y hx hy Q k => by cases hx; cases hy; exact ⟨rfl, by rw [dec_int, Bool.beq_eq_decide_eq]; exact k⟩⟩
  · cases h; exact ⟨_, op_ne, fun w H x y hx hy Q k => by cases hx; cases hy; exact ⟨rfl, by rw [dec_int, Bool.beq_eq_decide_eq]; exact k⟩⟩
  · cases h; exact ⟨_, op_eq, fun w H x y hx hy Q k => by cases hx; cases hy; exact ⟨rfl, by rw [dec_sv]; exact k⟩⟩
  · cases h; exact ⟨_, op_ne, fun w H x y hx hy Q k => by cases hx; cases hy; exact ⟨rfl, by rw [dec_sv]; exact k⟩⟩
  · cases h; exact ⟨_, op_eq, fun w H x y hx hy Q k => by cases hx; cases hy; exact ⟨rfl, by rw [dec_bl]; rename_i p q; cases p <;> cases q <;> exact k⟩⟩
  · cases h; exact ⟨_, op_ne, fun w H x y hx hy Q k => by cases hx; cases hy; exact ⟨rfl, by rw [dec_bl]; rename_i p q; cases p <;> cases q <;> exact k⟩⟩
  · cases h; exact ⟨_, op_lt_str, fun w H x y hx hy Q k => by cases hx; cases hy; exact ⟨_, _, rfl, rfl, k⟩⟩
  · cases h; exact ⟨_, op_le_str, fun w H x y hx hy Q k => by cases hx; cases hy; exact ⟨_, _, rfl, rfl, k⟩⟩
  · cases h; exact ⟨_, op_gt_str, fun w H x y hx hy Q k => by cases hx; cases hy; exact ⟨_, _, rfl, rfl, k⟩⟩
  · cases h; exact ⟨_, op_ge_str, fun w H x y hx hy Q k => by cases hx; cases hy; exact ⟨_, _, rfl, rfl, k⟩⟩
  all_goals first
    | cases h; done
    | (cases h; exact ⟨_, op_isN, fun w H x y hx hy Q k => by cases hy; exact ⟨rfl, by rw [isN hx]; exact k⟩⟩)
    | (cases h; exact ⟨_, op_notN, fun w H x y hx hy Q k => by cases hy; exact ⟨rfl, by rw [isN hx]; exact k⟩⟩)
theorem ev_cmp {a b : Expr} {op : CmpOp} {k : Bool} (ha : Ev X a s d1 s1) (hb : Ev X b s1 d2 s2) (h : cmpD op d1 d2 = some k) (hm : behindInMarks op b = false := by exact nomark _) : Ev X (.Compare a [op] [b] pos) s (.bl k) s2 := by
  obtain ⟨r, ho, f⟩ := cmp_ok (X := X) h
  exact ev_of (pe_cmpR ho pe_sem pe_sem hm) (evT_op ha hb fun w H e x y hx hy Q q => f w H x y hx hy Q (q _ (.bl k)))
theorem tv_cmp {a b : Expr} {op : CmpOp} {k : Bool} (ha : Ev X a s d1 s1) (hb : Ev X b s1 d2 s2) (h : cmpD op d1 d2 = some k) (hm : behindInMarks op b = false := by exact nomark _) : Tv X (.Compare a [op] [b] pos) s k s2 := by
  obtain ⟨r, ho, f⟩ := cmp_ok (X := X) h
  exact tv_of (pt_cmpR ho pe_sem pe_sem hm) fun E w σ H rl Q q => evT_op (d := .bl k) ha hb (fun w H e x y hx hy Q q => f w H x y hx hy Q (q _ (.bl k))) E w σ H rl _ fun v H' w' l r' rv => by
    cases rv
    exact ⟨k, rfl, q H' w' l r'⟩
/-- a < b < c, c without effect -/
theorem chain_rd {r r' : R2} {a b c : Expr} {k k' : Bool} (ha : Ev X a s d1 s1) (hb : Ev X b s1 d2 s2) (hc : Ev X c s2 d s2)
    (f : ∀ (w : Wd) (H : Hp) x y, R X.K X.mg w x d1 → R X.K X.mg w y d2 → ∀ Q : VK, Q (.bl k) H → r x y H Q) (f' : ∀ (w : Wd) (H : Hp) x y, R X.K X.mg w x d2 → R X.K X.mg w y d → ∀ Q : VK, Q (.bl k') H → r' x y H Q) :
    EvT X.K X.mg (tChain r r' (semE X a) (semE X b) (semE X c)) s (.bl (k && k')) s2 := fun E w σ H rl Q q =>
  ha E w σ H rl _ fun x H1 w1 l1 r1 q1 => hb E w1 σ H1 r1 _ fun y H2 w2 l2 r2 q2 => f w2 H2 x y (q1.up l2) q2 _ ⟨k, rfl, by
    cases k with
    | false => exact iteF (q _ H2 w2 (l1.trans l2) r2 (.bl false))
    | true => exact iteT (hc E w2 σ H2 r2 _ fun z H3 w3 l3 r3 q3 => f' w3 H3 y z (q2.up l3) q3 Q (q _ H3 w3 ((l1.trans l2).trans l3) r3 (.bl k')))⟩
theorem ev_chain {a b c : Expr} {op op' : CmpOp} {k k' : Bool} (ha : Ev X a s d1 s1) (hb : Ev X b s1 d2 s2) (hc : Ev X c s2 d s2) (h : cmpD op d1 d2 = some k) (h' : cmpD op' d2 d = some k')
    (hm : lastMarks [op, op'] [b, c] = false := by with_unfolding_all rfl) : Ev X (.Compare a [op, op'] [b, c] pos) s (.bl (k && k')) s2 := by
  obtain ⟨r, ho, f⟩ := cmp_ok (X := X) h
  obtain ⟨r', ho', f'⟩ := cmp_ok (X := X) h'
  exact ev_of (pe_chain ho ho' pe_sem pe_sem pe_sem hm) (chain_rd ha hb hc f f')
theorem tv_chain {a b c : Expr} {op op' : CmpOp} {k k' : Bool} (ha : Ev X a s d1 s1) (hb : Ev X b s1 d2 s2) (hc : Ev X c s2 d s2) (h : cmpD op d1 d2 = some k) (h' : cmpD op' d2 d = some k')
    (hm : lastMarks [op, op'] [b, c] = false := by with_unfolding_all rfl) : Tv X (.Compare a [op, op'] [b, c] pos) s (k && k') s2 := by
  obtain ⟨r, ho, f⟩ := cmp_ok (X := X) h
  obtain ⟨r', ho', f'⟩ := cmp_ok (X := X) h'
  exact tv_of (pt_chain ho ho' pe_sem pe_sem pe_sem hm) fun E w σ H rl Q q => chain_rd ha hb hc f f' E w σ H rl _ fun v H' w' l r' rv => by
    cases rv
    exact ⟨_, rfl, q H' w' l r'⟩

/-! ### and, or, not -/
theorem ev_and {a b : Expr} {rest : List Expr} {k k' : Bool} (ha : Ev X a s (.bl k) s1) (hb : k = true → Ev X (.BoolOp .And (b :: rest) pos) s1 (.bl k') s1) : Ev X (.BoolOp .And (a :: b :: rest) pos) s (.bl (k && k')) s1 :=
  ev_of (pe_and pe_sem pe_sem) fun E w σ H rl Q q => ha E w σ H rl _ fun x H1 w1 l1 r1 q1 => by
    cases q1
    refine ⟨k, rfl, ?_⟩
    cases k with
    | false => exact iteF (q _ H1 w1 l1 r1 (.bl false))
    | true => exact iteT (hb rfl E w1 σ H1 r1 _ fun z H3 w3 l3 r3 q3 => q _ H3 w3 (l1.trans l3) r3 q3)
theorem ev_or {a b : Expr} {rest : List Expr} {k k' : Bool} (ha : Ev X a s (.bl k) s1) (hb : k = false → Ev X (.BoolOp .Or (b :: rest) pos) s1 (.bl k') s1) : Ev X (.BoolOp .Or (a :: b :: rest) pos) s (.bl (k || k')) s1 :=
  ev_of (pe_or pe_sem pe_sem) fun E w σ H rl Q q => ha E w σ H rl _ fun x H1 w1 l1 r1 q1 => by
    cases q1
    refine ⟨k, rfl, ?_⟩
    cases k with
    | true => exact iteT (q _ H1 w1 l1 r1 (.bl true))
    | false => exact iteF (hb rfl E w1 σ H1 r1 _ fun z H3 w3 l3 r3 q3 => q _ H3 w3 (l1.trans l3) r3 q3)
theorem ev_one {a : Expr} {op} (ha : Ev X a s d s1) : Ev X (.BoolOp op [a] pos) s d s1 := ev_of (pe_one pe_sem) ha
theorem ev_not {a : Expr} {k : Bool} (ha : Ev X a s (.bl k) s1) : Ev X (.UnaryOp .Not a pos) s (.bl (!k)) s1 :=
  ev_of (pe_not pe_sem) fun E w σ H rl Q q => ha E w σ H rl _ fun x H1 w1 l1 r1 q1 => by
    cases q1
    exact ⟨k, rfl, q _ H1 w1 l1 r1 (.bl _)⟩
/-- a bool as a test -/
theorem tv_val {e : Expr} {k : Bool} (h : Ev X e s (.bl k) s1) (he : ∀ whole, isTrue e X.env whole = (do let v ← whole; standAt e.pos; holding [v] (truthy v)) := by intro _; rfl) : Tv X e s k s1 :=
  tv_of (pt_val pe_sem he) fun E w σ H rl Q q => h E w σ H rl _ fun v H' w' l r' rv => by
    cases rv
    exact ⟨k, rfl, q H' w' l r'⟩
/-- tests in a row -/
def Tw (X : Cx) (e : Expr) (s : S) (b : Bool) (s' : S) : Prop := ∃ t, PW X e t ∧ TvT X.K X.mg t s b s'
theorem Tw.tv {e : Expr} {k : Bool} (h : Tw X e s k s1) : Tv X e s k s1 := by
  obtain ⟨t, p, q⟩ := h
  exact tv_of p.pt q
theorem tw_and {a b : Expr} {rest : List Expr} {k k' : Bool} (ha : Tv X a s k s1) (hb : Tw X (.BoolOp .And (b :: rest) pos) s1 k' s1) : Tw X (.BoolOp .And (a :: b :: rest) pos) s (k && k') s1 := by
  obtain ⟨t, p, f⟩ := hb
  refine ⟨_, pw_and pt_sem p, fun E w σ H rl Q q => ha E w σ H rl _ fun H1 w1 l1 r1 => ?_⟩
  cases k with
  | false => exact iteF (q H1 w1 l1 r1)
  | true => exact iteT (f E w1 σ H1 r1 _ fun H3 w3 l3 r3 => q H3 w3 (l1.trans l3) r3)
theorem tw_and1 {a : Expr} {k : Bool} (ha : Tv X a s k s1) : Tw X (.BoolOp .And [a] pos) s k s1 := ⟨_, pw_and1 pt_sem, ha⟩
theorem tw_or {a b : Expr} {rest : List Expr} {k k' : Bool} (ha : Tv X a s k s1) (hb : Tw X (.BoolOp .Or (b :: rest) pos) s1 k' s1) : Tw X (.BoolOp .Or (a :: b :: rest) pos) s (k || k') s1 := by
  obtain ⟨t, p, f⟩ := hb
  refine ⟨_, pw_or pt_sem p, fun E w σ H rl Q q => ha E w σ H rl _ fun H1 w1 l1 r1 => ?_⟩
  cases k with
  | true => exact iteT (q H1 w1 l1 r1)
  | false => exact iteF (f E w1 σ H1 r1 _ fun H3 w3 l3 r3 => q H3 w3 (l1.trans l3) r3)
theorem tw_or1 {a : Expr} {k : Bool} (ha : Tv X a s k s1) : Tw X (.BoolOp .Or [a] pos) s k s1 := ⟨_, pw_or1 pt_sem, ha⟩
theorem tv_not {a : Expr} {k : Bool} (ha : Tv X a s k s1) : Tv X (.UnaryOp .Not a pos) s (!k) s1 := tv_of (pt_not pt_sem) fun E w σ H rl Q q => ha E w σ H rl _ fun H1 w1 l1 r1 => q H1 w1 l1 r1
/-- the tests where what comes later is asked only if the first says so -/
theorem tw_andH {a b : Expr} {rest : List Expr} {k k' : Bool} (ha : Tv X a s k s1) (hb : k = true → Tw X (.BoolOp .And (b :: rest) pos) s1 k' s1) : Tw X (.BoolOp .And (a :: b :: rest) pos) s (k && k') s1 := by
  cases k with
  | true => exact tw_and ha (hb rfl)
  | false =>
    refine ⟨_, pw_and pt_sem (tB' := fun _ _ _ => False) ⟨fun _ _ _ _ _ _ _ h => h.elim⟩, fun E w σ H rl Q q => ha E w σ H rl _ fun H1 w1 l1 r1 => iteF (q H1 w1 l1 r1)⟩
theorem tw_orH {a b : Expr} {rest : List Expr} {k k' : Bool} (ha : Tv X a s k s1) (hb : k = false → Tw X (.BoolOp .Or (b :: rest) pos) s1 k' s1) : Tw X (.BoolOp .Or (a :: b :: rest) pos) s (k || k') s1 := by
  cases k with
  | false => exact tw_or ha (hb rfl)
  | true =>
    refine ⟨_, pw_or pt_sem (tB' := fun _ _ _ => False) ⟨fun _ _ _ _ _ _ _ h => h.elim⟩, fun E w σ H rl Q q => ha E w σ H rl _ fun H1 w1 l1 r1 => iteT (q H1 w1 l1 r1)⟩
/-- a if c else b -/
theorem ev_ifH {c a b : Expr} {k : Bool} (hc : Tv X c s k s1) (ha : k = true → Ev X a s1 d s2) (hb : k = false → Ev X b s1 d s2) : Ev X (.IfExp c a b pos) s d s2 :=
  ev_of (pe_ifExp pt_sem pe_sem pe_sem) fun E w σ H rl Q q => hc E w σ H rl _ fun H1 w1 l1 r1 => by
    cases k with
    | true => exact iteT (ha rfl E w1 σ H1 r1 _ fun v H3 w3 l3 r3 q3 => q v H3 w3 (l1.trans l3) r3 q3)
    | false => exact iteF (hb rfl E w1 σ H1 r1 _ fun v H3 w3 l3 r3 q3 => q v H3 w3 (l1.trans l3) r3 q3)
end
end Y
namespace Y
open PySem.Spec PySem PyProof.Rows L2
section
variable (K : PySem.W.Frag) (mg : Str → Option Value)
/-- a list that can be read, wherever it stands -/
def ElT (t : TE) (s : S) (ds : List D) (s' : S) : Prop := ∀ (E : En) (w : Wd) (σ : L2.St) (H : Hp), Rel K mg E w s σ H → ∀ Q : VK,
  (∀ p H' w', Le w w' → Rel K mg E w' s' σ H' → (∀ w2 H2, Le w' w2 → Rel K mg E w2 s' σ H2 → ∃ vs, SqL K H2 p vs ∧ Rs K mg w2 vs ds) → Q (.ref p) H') → t σ H Q
end
def El (X : Cx) (e : Expr) (s : S) (ds : List D) (s' : S) : Prop := ElT X.K X.mg (semE X e) s ds s'
theorem Rel.cell_at {K : PySem.W.Frag} {mg : Str → Option Value} {E : En} {w : Wd} {s : S} {σ : L2.St} {H : Hp} (r : Rel K mg E w s σ H) {i : Nat} {m : MC} {a : Addr} (h : s.mu[i]? = some m) (ha : w.as[i]? = some a) : CellOk K mg w H a m := by
  obtain ⟨m', e, c⟩ := Paired.get r.cl ha
  rw [h] at e; cases e; exact c
section
variable {X : Cx} {pos : Pos} {s s1 s2 s3 : S} {d d1 d2 : D} {ds : List D} {e a b : Expr}
theorem el_imm (h : Ev X e s (.lst ds) s1) : El X e s ds s1 := fun E w σ H r Q k => h E w σ H r Q fun v H' w' l r' q => by
  cases q with
  | lst a b => exact k _ H' w' l r' fun w2 H2 l2 r2 => ⟨_, Evl.ex_l (Evl.Ex.trans l2.1 r2.ex) a, b.up l2⟩
theorem el_own (i : Nat) {x : Str} (hN : X.N[i]? = some x) (h : s.ls[i]? = some (.own (.lst ds))) (hv : Vis X.env.scope x := by first | exact Or.inl rfl | exact Or.inr (Or.inl rfl) | exact Or.inr (Or.inr rfl))
    (hd : (x == ("__debug__" : Str)) = false := by decide) (hcd : (x == ("__classdict__" : Str)) = false := by decide) : El X (.Name x pos) s ds s := fun E w σ H r Q k pins sh I =>
  (pe_var hN hv hd hcd).run pins sh σ H Q I (by
    obtain ⟨p, e, c, _⟩ := r.own_at h
    refine ⟨.ref p, e, k p H w Le.rfl r fun w2 H2 l2 r2 => ?_⟩
    obtain ⟨p', e', ⟨vs, h1, h2⟩, _⟩ := r2.own_at h
    rw [e] at e'; cases e'
    exact ⟨vs, SqL.of h1, h2⟩)
theorem el_cell {i : Nat} (h : Ev X e s (.cell i) s1) (hm : s1.mu[i]? = some (.lst ds)) : El X e s ds s1 := fun E w σ H r Q k => h E w σ H r Q fun v H' w' l r' q => by
  cases q with
  | cell ha =>
    exact k _ H' w' l r' fun w2 H2 l2 r2 => by
      obtain ⟨vs, h1, h2⟩ := r2.cell_at hm (l2.get ha)
      exact ⟨vs, SqL.of h1, h2⟩
theorem el_new (h : Ec X e s (.lst ds) s1) : El X e s ds s1 := el_imm (ev_c h)

/-! ### subscripts -/
theorem Rs.atI {K : PySem.W.Frag} {mg : Str → Option Value} {w : Wd} {vs : List V} {i : Int} (r : Rs K mg w vs ds) (h : atI ds i = some d) : ∃ v, L2.atI vs i = some v ∧ R K mg w v d := by
  unfold L2.atI at h ⊢
  rw [r.length]
  cases e : ixN ds.length i with
  | none => rw [e] at h; cases h
  | some j =>
    rw [e] at h
    exact r.get h
theorem ev_ixl {i : Int} (ha : El X a s ds s1) (hb : Ev X b s1 (.int i) s1) (h : atI ds i = some d) (hs : PlainIx b := by exact fun _ _ => rfl) : Ev X (.Subscript a b pos) s d s1 :=
  ev_of (pe_ix ix_list pe_sem pe_sem hs) fun E w σ H r Q k => ha E w σ H r _ fun p H1 w1 l1 r1 f => hb E w1 σ H1 r1 _ fun y H2 w2 l2 r2 q2 => by
    cases q2
    obtain ⟨vs, g1, g2⟩ := f w2 H2 l2 r2
    obtain ⟨v, g3, g4⟩ := g2.atI h
    exact ⟨p, vs, i, v, rfl, rfl, g1, g3, k v H2 w2 (l1.trans l2) r2 g4⟩
/-- .. of a tree, whatever the index does -/
theorem ev_ixv {i : Int} (ha : Ev X a s (.lst ds) s1) (hb : Ev X b s1 (.int i) s2) (h : atI ds i = some d) (hs : PlainIx b := by exact fun _ _ => rfl) : Ev X (.Subscript a b pos) s d s2 :=
  ev_of (pe_ix ix_list pe_sem pe_sem hs) (evT_op ha hb fun w H e x y hx hy Q k => by
    obtain ⟨p, vs, rfl, g1, g2⟩ := hx.isLst e
    cases hy
    obtain ⟨v, g3, g4⟩ := g2.atI h
    exact ⟨p, vs, i, v, rfl, rfl, g1, g3, k v g4⟩)
theorem ev_ixt {i : Int} (ha : Ev X a s (.tup ds) s1) (hb : Ev X b s1 (.int i) s2) (h : atI ds i = some d) (hs : PlainIx b := by exact fun _ _ => rfl) : Ev X (.Subscript a b pos) s d s2 :=
  ev_of (pe_ix ix_tup pe_sem pe_sem hs) (evT_op ha hb fun w H e x y hx hy Q k => by
    obtain ⟨p, vs, rfl, g1, g2⟩ := hx.isTup e
    cases hy
    obtain ⟨v, g3, g4⟩ := g2.atI h
    exact ⟨p, vs, i, v, rfl, rfl, g1, g3, k v g4⟩)
theorem ev_ixs {i : Int} {x : List Nat} {c : Nat} (ha : Ev X a s (.str x) s1) (hb : Ev X b s1 (.int i) s2) (hl : x.length ≤ 16777216) (h : atI x i = some c) (hs : PlainIx b := by exact fun _ _ => rfl) : Ev X (.Subscript a b pos) s (.str [c]) s2 :=
  ev_of (pe_ix ix_str pe_sem pe_sem hs) (evT_op ha hb fun w H e x' y hx hy Q k => by
    cases hx; cases hy
    exact ⟨_, i, c, rfl, rfl, (by rw [sizeLine_eq]; exact hl), h, k _ (.str [c])⟩)

/-! ### slices -/
def cut {α : Type} (z : List α) (lo hi : Option Int) : List α := (z.drop (HT.sIx z.length 0 lo)).take (HT.sIx z.length z.length hi - HT.sIx z.length 0 lo)
/-- a part of a slice -/
def Eo (X : Cx) (e : Option Expr) (s : S) (o : Option Int) (s' : S) : Prop := ∃ t, PO X e t ∧ ∀ (E : En) (w : Wd) (σ : L2.St) (H : Hp), Rel X.K X.mg E w s σ H → ∀ Q : Option Int → Hp → Prop, (∀ H' w', Le w w' → Rel X.K X.mg E w' s' σ H' → Q o H') → t σ H Q
theorem eo_none : Eo X none s none s := ⟨_, po_none, fun E w σ H r Q k => k H w Le.rfl r⟩
theorem eo_some {i : Int} (h : Ev X e s (.int i) s1) : Eo X (some e) s (some i) s1 := ⟨_, po_some pe_sem, fun E w σ H r Q k => h E w σ H r _ fun v H' w' l r' q => by
  cases q
  exact ⟨i, rfl, k H' w' l r'⟩⟩
theorem ev_sls {x : List Nat} {lo hi : Option Expr} {l u : Option Int} {p2 : Pos} (ha : Ev X a s (.str x) s1) (hl : Eo X lo s1 l s2) (hu : Eo X hi s2 u s3) (hz : x.length ≤ 16777216) : Ev X (.Subscript a (.Slice lo hi none p2) pos) s (.str (cut x l u)) s3 := by
  obtain ⟨tl, pl, fl⟩ := hl
  obtain ⟨tu, pu, fu⟩ := hu
  exact ev_of (pe_slice sl_str pe_sem pl pu) fun E w σ H r Q k => ha E w σ H r _ fun v H1 w1 l1 r1 q1 => fl E w1 σ H1 r1 _ fun H2 w2 l2 r2 => fu E w2 σ H2 r2 _ fun H3 w3 l3 r3 => by
    cases q1
    exact ⟨_, rfl, (by rw [sizeLine_eq]; exact hz), k _ H3 w3 ((l1.trans l2).trans l3) r3 (.str (cut x l u))⟩
theorem Rs.cut {K : PySem.W.Frag} {mg : Str → Option Value} {w : Wd} {vs : List V} {l u : Option Int} (r : Rs K mg w vs ds) : Rs K mg w (cutV vs l u) (cut ds l u) := by
  unfold cutV Y.cut
  rw [r.length]
  exact (r.drop _).take _
theorem ec_sll {lo hi : Option Expr} {l u : Option Int} {p2 : Pos} (ha : El X a s ds s1) (hl : Eo X lo s1 l s1) (hu : Eo X hi s1 u s1) : Ec X (.Subscript a (.Slice lo hi none p2) pos) s (.lst (cut ds l u)) s1 := by
  obtain ⟨tl, pl, fl⟩ := hl
  obtain ⟨tu, pu, fu⟩ := hu
  exact ec_of (pe_slice sl_list pe_sem pl pu) fun E w σ H r Q k => ha E w σ H r _ fun p H1 w1 l1 r1 f => fl E w1 σ H1 r1 _ fun H2 w2 l2 r2 => fu E w2 σ H2 r2 _ fun H3 w3 l3 r3 => by
    obtain ⟨vs, g1, g2⟩ := f w3 H3 (l2.trans l3) r3
    refine ⟨p, vs, rfl, g1, fun q hq => k q _ w3 ((l1.trans l2).trans l3) (r3.add hq) (r3.isNew hq ⟨_, upd_same, g2.cut⟩)⟩

/-! ### displays -/
theorem ea_nil : Ea X [] s [] s := ea_of pa_nil fun E w σ H r Q k => k _ H w Le.rfl r .nil
theorem ea_cons {es : List Expr} (ha : Ev X e s d s1) (hr : Ea X es s1 ds s2) (hs : starEach (e :: es) X.env = (false, eval e X.env) :: starEach es X.env := by rfl) : Ea X (e :: es) s (d :: ds) s2 :=
  ea_of (pa_cons pe_sem pa_sem hs) fun E w σ H r Q k => ha E w σ H r _ fun x H1 w1 l1 r1 q1 => hr E w1 σ H1 r1 _ fun xs H2 w2 l2 r2 q2 => k _ H2 w2 (l1.trans l2) r2 (.cons (q1.up l2) q2)
theorem ec_lst {es : List Expr} (h : Ea X es s ds s1) (hl : ds.length ≤ 16777216) : Ec X (.List es pos) s (.lst ds) s1 :=
  ec_of (pe_lst pa_sem) fun E w σ H r Q k => h E w σ H r _ fun xs H1 w1 l1 r1 q1 =>
    ⟨by rw [sizeLine_eq, q1.length]; exact hl, fun p hp => k p _ w1 l1 (r1.add hp) (r1.isNew hp ⟨_, upd_same, q1⟩)⟩
/-- a new object that never changes is known for good -/
theorem Rel.known {K : PySem.W.Frag} {mg : Str → Option Value} {E : En} {w : Wd} {σ : L2.St} {H : Hp} (r : Rel K mg E w s σ H) {p : Addr} {o : HO} (hp : H p = none) :
    Le w ⟨upd w.G p o, w.as⟩ ∧ Rel K mg E ⟨upd w.G p o, w.as⟩ s σ (upd H p o) := by
  have g := r.none_G hp
  have n := r.none_as hp
  have le : Le w ⟨upd w.G p o, w.as⟩ := ⟨Evl.Ex.new g, [], (List.append_nil _).symm⟩
  refine ⟨le, ?_⟩
  have c := r.step (w' := ⟨upd w.G p o, w.as⟩) (H' := upd H p o) (mu' := s.mu) ⟨le, fun a u e => ?_, r.nd, fun a ha => ?_, fun a u e _ => by rw [upd_ne (ne_of_none e hp)]; exact e, fun a u e g0 nn => ⟨?_, nn⟩⟩ ?_
  · exact c
  · by_cases h : a = p
    · subst h
      have e' : upd w.G a o a = some u := e
      rw [upd_same] at e'; cases e'; exact upd_same
    · have e' : upd w.G p o a = some u := e
      rw [upd_ne h] at e'
      rw [upd_ne h]; exact r.ex a u e'
  · show upd w.G p o a = none
    have hne : a ≠ p := fun z => n (by rw [← z]; exact ha)
    rw [upd_ne hne]; exact r.off a ha
  · show upd w.G p o a = none
    rw [upd_ne (ne_of_none e hp)]; exact g0
  · exact Paired.mapI r.cl fun i a m _ _ c => CellOk.up K mg le (fun u e => by rw [upd_ne (ne_of_none e hp)]; exact e) c
theorem ev_tup {es : List Expr} {x1} (h : Ea X es s ds s1) (hl : ds.length ≤ 16777216) : Ev X (.Tuple es x1 pos) s (.tup ds) s1 :=
  ev_of (pe_tup pa_sem) fun E w σ H r Q k => h E w σ H r _ fun xs H1 w1 l1 r1 q1 =>
    ⟨by rw [sizeLine_eq, q1.length]; exact hl, fun p hp => by
      obtain ⟨l2, r2⟩ := r1.known (o := .tup xs) hp
      exact k _ _ _ (l1.trans l2) r2 (.tup (.inl (.inl upd_same)) (q1.up l2))⟩

/-! ### built-in functions -/
theorem ev_callB {id : String} {r : List V → Hp → VK → Prop} {x : Str} {p : Pos} {es : List Expr} (hc : CallR X (.builtin id) r) (hv : bootBuiltins x = some (.builtin id)) (hm : X.mg x = none) (ha : Ea X (e :: es) s ds s1)
    (hr : ∀ (w : Wd) (H : Hp), Evl.Ex w.G H → ∀ xs, Rs X.K X.mg w xs ds → ∀ Q : VK, (∀ v, R X.K X.mg w v d → Q v H) → r xs H Q)
    (hg : Gl X x := by rfl) (hn : x ≠ "__name__" := by decide) (hdb : (x == ("__debug__" : Str)) = false := by decide)
    (he : starEach (e :: es) X.env = (false, eval e X.env) :: starEach es X.env := by rfl) (hpl : (backTo pos (starEach es X.env)).any (·.1) = false := by rfl) : Ev X (.Call (.Name x p) (e :: es) [] pos) s d s1 :=
  ev_of (pe_callB hc hg hm hv pa_sem hn hdb he hpl) (evT_cb ha hr)
theorem ev_callTy {T : String} {r : List V → Hp → VK → Prop} {x : Str} {p : Pos} {es : List Expr} (hc : CallR X (.type T) r) (hv : bootBuiltins x = some (.type T)) (hm : X.mg x = none) (ha : Ea X (e :: es) s ds s1)
    (hr : ∀ (w : Wd) (H : Hp), Evl.Ex w.G H → ∀ xs, Rs X.K X.mg w xs ds → ∀ Q : VK, (∀ v, R X.K X.mg w v d → Q v H) → r xs H Q)
    (hg : Gl X x := by rfl) (hn : x ≠ "__name__" := by decide) (hdb : (x == ("__debug__" : Str)) = false := by decide)
    (he : starEach (e :: es) X.env = (false, eval e X.env) :: starEach es X.env := by rfl) (hpl : (backTo pos (starEach es X.env)).any (·.1) = false := by rfl) : Ev X (.Call (.Name x p) (e :: es) [] pos) s d s1 :=
  ev_of (pe_callTy hc hg hm hv pa_sem hn hdb he hpl) (evT_cb ha hr)
theorem Rs.one {K : PySem.W.Frag} {mg : Str → Option Value} {w : Wd} {xs : List V} (r : Rs K mg w xs [d]) : ∃ v, xs = [v] ∧ R K mg w v d := by
  cases r with
  | cons a b => cases b; exact ⟨_, rfl, a⟩
theorem Rs.two {K : PySem.W.Frag} {mg : Str → Option Value} {w : Wd} {xs : List V} (r : Rs K mg w xs [d1, d2]) : ∃ v u, xs = [v, u] ∧ R K mg w v d1 ∧ R K mg w u d2 := by
  cases r with
  | cons a b => cases b with
    | cons c d => cases d; exact ⟨_, _, rfl, a, c⟩
theorem ev_lens {x : List Nat} {p : Pos} (hm : X.mg "len" = none) (ha : Ev X e s (.str x) s1) (hl : x.length ≤ 16777216) (hg : Gl X "len" := by rfl) (he : starEach [e] X.env = (false, eval e X.env) :: starEach [] X.env := by rfl)
    (hpl : (backTo pos (starEach [] X.env)).any (·.1) = false := by rfl) : Ev X (.Call (.Name "len" p) [e] [] pos) s (.int (x.length : Int)) s1 :=
  ev_callB call_len_str boot_len hm (ea_cons ha ea_nil he) (fun w H ex xs r Q k => by
    obtain ⟨v, rfl, q⟩ := r.one
    cases q
    exact ⟨_, rfl, (by rw [sizeLine_eq]; exact hl), k _ (.int (x.length : Int))⟩) hg (by decide) (by decide) he hpl
theorem ev_lenl {p : Pos} (hm : X.mg "len" = none) (ha : El X e s ds s1) (hg : Gl X "len" := by rfl) (he : starEach [e] X.env = (false, eval e X.env) :: starEach [] X.env := by rfl)
    (hpl : (backTo pos (starEach [] X.env)).any (·.1) = false := by rfl) : Ev X (.Call (.Name "len" p) [e] [] pos) s (.int (ds.length : Int)) s1 :=
  ev_of (pe_callB call_len_seq hg hm boot_len (pa_cons pe_sem pa_nil he) (by decide) (by decide) he hpl) fun E w σ H r Q k => ha E w σ H r _ fun p H1 w1 l1 r1 f => by
    obtain ⟨vs, g1, g2⟩ := f w1 H1 Le.rfl r1
    refine ⟨p, vs, rfl, .inl g1, ?_⟩
    rw [g2.length]
    exact k _ H1 w1 l1 r1 (.int _)
theorem ev_lent {p : Pos} (hm : X.mg "len" = none) (ha : Ev X e s (.tup ds) s1) (hg : Gl X "len" := by rfl) (he : starEach [e] X.env = (false, eval e X.env) :: starEach [] X.env := by rfl)
    (hpl : (backTo pos (starEach [] X.env)).any (·.1) = false := by rfl) : Ev X (.Call (.Name "len" p) [e] [] pos) s (.int (ds.length : Int)) s1 :=
  ev_callB call_len_seq boot_len hm (ea_cons ha ea_nil he) (fun w H ex xs r Q k => by
    obtain ⟨v, rfl, q⟩ := r.one
    obtain ⟨p, vs, rfl, g1, g2⟩ := q.isTup ex
    refine ⟨p, vs, rfl, .inr g1, ?_⟩
    rw [g2.length]
    exact k _ (.int _)) hg (by decide) (by decide) he hpl
theorem ev_abs {i : Int} {p : Pos} (hm : X.mg "abs" = none) (ha : Ev X e s (.int i) s1) (hg : Gl X "abs" := by rfl) (he : starEach [e] X.env = (false, eval e X.env) :: starEach [] X.env := by rfl)
    (hpl : (backTo pos (starEach [] X.env)).any (·.1) = false := by rfl) : Ev X (.Call (.Name "abs" p) [e] [] pos) s (.int (i.natAbs : Int)) s1 :=
  ev_callB call_abs (by decide +kernel) hm (ea_cons ha ea_nil he) (fun w H ex xs r Q k => by
    obtain ⟨v, rfl, q⟩ := r.one
    cases q
    refine ⟨i, rfl, ?_⟩
    have e : (if i < 0 then -i else i) = (i.natAbs : Int) := by split <;> omega
    rw [e]
    exact k _ (.int _)) hg (by decide) (by decide) he hpl
theorem ev_intb {b : Bool} {p : Pos} (hm : X.mg "int" = none) (ha : Ev X e s (.bl b) s1) (hg : Gl X "int" := by rfl) (he : starEach [e] X.env = (false, eval e X.env) :: starEach [] X.env := by rfl)
    (hpl : (backTo pos (starEach [] X.env)).any (·.1) = false := by rfl) : Ev X (.Call (.Name "int" p) [e] [] pos) s (.int (if b = true then 1 else 0)) s1 :=
  ev_callTy call_int1 (by decide +kernel) hm (ea_cons ha ea_nil he) (fun w H ex xs r Q k => by
    obtain ⟨v, rfl, q⟩ := r.one
    cases q
    exact .inr ⟨b, rfl, k _ (.int _)⟩) hg (by decide) (by decide) he hpl
theorem ev_max2 {a b : Expr} {i j : Int} {p : Pos} (hc : X.calm = true) (hm : X.mg "max" = none) (ha : Ea X [a, b] s [.int i, .int j] s1) (hg : Gl X "max" := by rfl) (he : starEach [a, b] X.env = (false, eval a X.env) :: starEach [b] X.env := by rfl)
    (hpl : (backTo pos (starEach [b] X.env)).any (·.1) = false := by rfl) : Ev X (.Call (.Name "max" p) [a, b] [] pos) s (.int (max i j)) s1 :=
  ev_callB (call_max2 hc) (by decide +kernel) hm ha (fun w H ex xs r Q k => by
    obtain ⟨v, u, rfl, q1, q2⟩ := r.two
    cases q1; cases q2
    refine ⟨i, j, rfl, ?_⟩
    have e : (if j > i then j else i) = max i j := by split <;> omega
    rw [e]
    exact k _ (.int _)) hg (by decide) (by decide) he hpl
theorem ev_min2 {a b : Expr} {i j : Int} {p : Pos} (hc : X.calm = true) (hm : X.mg "min" = none) (ha : Ea X [a, b] s [.int i, .int j] s1) (hg : Gl X "min" := by rfl) (he : starEach [a, b] X.env = (false, eval a X.env) :: starEach [b] X.env := by rfl)
    (hpl : (backTo pos (starEach [b] X.env)).any (·.1) = false := by rfl) : Ev X (.Call (.Name "min" p) [a, b] [] pos) s (.int (min i j)) s1 :=
  ev_callB (call_min2 hc) (by decide +kernel) hm ha (fun w H ex xs r Q k => by
    obtain ⟨v, u, rfl, q1, q2⟩ := r.two
    cases q1; cases q2
    refine ⟨i, j, rfl, ?_⟩
    have e : (if j < i then j else i) = min i j := by split <;> omega
    rw [e]
    exact k _ (.int _)) hg (by decide) (by decide) he hpl

/-! ### texts -/
def joinS (a : List Nat) : List (List Nat) → List Nat
  | [] => []
  | x :: r => x ++ (r.map (a ++ ·)).flatten
theorem txt_join (a : List Nat) (ys : List (List Nat)) : Txt.join (st a) (ys.map st) = st (joinS a ys) := by
  show Str.mk _ = Str.mk _
  congr 1
  apply Array.toList_inj.mp
  cases ys with
  | nil => rfl
  | cons x r =>
    have key : ∀ (r : List (List Nat)) (acc : Array Nat), ((r.map st).foldl (fun acc p => acc ++ (st a).cps ++ p.cps) acc).toList = acc.toList ++ (r.map (a ++ ·)).flatten := by
      intro r
      induction r with
      | nil => intro acc; simp
      | cons y r ih => intro acc; rw [List.map_cons, List.foldl_cons, ih]; simp
    show ((List.map st (x :: r)).drop 1 |>.foldl (fun acc p => acc ++ (st a).cps ++ p.cps) ((List.map st (x :: r)).headD Str.empty).cps).toList = _
    rw [List.map_cons, List.drop_one, List.tail_cons, List.headD_cons, key]
    simp [joinS]
theorem ev_join {a : List Nat} {o : Expr} {ys : List (List Nat)} {apos : Pos} (ho : Ev X o s (.str a) s1) (he : El X e s1 (ys.map D.str) s2) (hz : (ys.map (·.length)).sum + ys.length * a.length ≤ 16777216)
    (hs : starEach [e] X.env = [(false, eval e X.env)] := by rfl) (hbase : attributeBase o "join" X.env (eval o X.env) = eval o X.env := by rfl) (hline : (apos.endLine == pos.line) = true := by rfl) :
    Ev X (.Call (.Attribute o "join" apos) [e] [] pos) s (.str (joinS a ys)) s2 :=
  ev_of (pe_join pe_sem pe_sem hs hbase hline) fun E w σ H r Q k => ho E w σ H r _ fun v H1 w1 l1 r1 q1 => by
    cases q1
    refine ⟨⟨_, rfl⟩, he E w1 σ H1 r1 _ fun p H2 w2 l2 r2 f => ?_⟩
    obtain ⟨vs, g1, g2⟩ := f w2 H2 Le.rfl r2
    have e1 := g2.strs
    subst e1
    have e2 : ys.map sv = (ys.map st).map V.str := by simp
    refine ⟨st a, p, ys.map st, rfl, rfl, .inl (by rw [← e2]; exact g1), ?_, ?_⟩
    · have e3 : (ys.map st).map (·.length) = ys.map (·.length) := by rw [List.map_map]; rfl
      rw [e3, List.length_map]; exact hz
    · rw [txt_join]
      exact k _ H2 w2 (l1.trans l2) r2 (.str _)
end
end Y
namespace Y
open PySem.Spec PySem PyProof.Rows L2

/-! ### what a def is worth: arguments, cells before; the end, cells after -/
abbrev Sc := List D → List MC → Res → List MC → Prop
/-- room for k calls; nothing is being shown -/
structure Rm (k : Nat) (A : Around) : Prop where
  room : Room k A
  gd : A.guards = some []
theorem Rm.mono {j k : Nat} {A : Around} (r : Rm k A) (h : j ≤ k) : Rm j A := ⟨r.room.mono h, r.gd⟩
theorem Rm.deeper {k : Nat} {A : Around} (r : Rm (k + 1) A) (env : Env) : Rm k (A.deeper env) := ⟨r.room.deeper env, r.gd⟩
theorem Rm.make {k : Nat} {A : Around} (r : Rm (k + 1) A) (C : Addr) (us : List Value) (kw : List (Str × Value)) : Rm k (A.under (.builtin "type.__call__" ⟨.ref C :: us, kw⟩)) := by
  refine ⟨r.room.make C us kw, ?_⟩
  have g := r.gd
  first
    | (simp [Around.under, Code.guards, Code.isGuard, guardIds, pushGuards, g]; done)
    | (simp [Around.under, Code.guards, Code.isGuard, guardIds, g]; done)
    | (unfold Around.under; simp [Code.guards, Code.isGuard, guardIds, g])

section
variable (K : PySem.W.Frag) (mg : Str → Option Value)
structure At (w : Wd) (H : Hp) (mu : List MC) : Prop where
  ex : ∀ a o, w.G a = some o → H a = some o
  nd : w.as.Nodup
  off : ∀ a ∈ w.as, w.G a = none
  cl : Paired (fun a m => CellOk K mg w H a m) w.as mu
def ResV (w' : Wd) (H H' : Hp) (v : V) : Res → Prop
  | .val d => R K mg w' v d
  | .new m => ∃ p, v = .ref p ∧ CellOk K mg w' H' p m ∧ w'.G p = none ∧ p ∉ w'.as ∧ H p = none
  | .exc _ _ => False
def spOf (φ : Sc) : Sp := fun vs H Q E => ∃ (w : Wd) (ds : List D) (mu : List MC) (r : Res) (mu' : List MC), At K mg w H mu ∧ Rs K mg w vs ds ∧ φ ds mu r mu' ∧
  (∀ v H' w', Step w H w' H' → Paired (fun a m => CellOk K mg w' H' a m) w'.as mu' → ResV K mg w' H H' v r → Q v H') ∧
  (∀ c fs C dd vs' H' w', r = .exc c fs → Step w H w' H' → Paired (fun a m => CellOk K mg w' H' a m) w'.as mu' → mg c = some (.ref C) → H' dd = some (.xd vs') → Rf K mg w' vs' fs → E (.ref C) (some dd) H')
end
/-- the def at f keeps its word -/
structure FnG (P : Program) (wd : World) (K : PySem.W.Frag) (mg : Str → Option Value) (base : Heap) (k : Nat) (f : Addr) (φ : Sc) : Prop where
  run : ∀ (A : Around) (outer : List Env) (s : Shared) (H : Hp) (us : List Value) (vs : List V) (Q : VK) (E : XK), Rm k A → Env0 P wd K mg base A outer s H → Vals vs us → spOf K mg φ vs H Q E →
    codeAny (model P wd) A (.call (.ref f) ⟨us, []⟩) (CR (CX P wd) outer P wd H s Q E) s
theorem FnG.mono {P : Program} {wd : World} {K : PySem.W.Frag} {mg : Str → Option Value} {base : Heap} {j k : Nat} {f : Addr} {φ : Sc} (F : FnG P wd K mg base j f φ) (h : j ≤ k) : FnG P wd K mg base k f φ :=
  ⟨fun A o s H us vs Q E r => F.run A o s H us vs Q E (r.mono h)⟩
theorem FnG.imp {P : Program} {wd : World} {K : PySem.W.Frag} {mg : Str → Option Value} {base : Heap} {k : Nat} {f : Addr} {φ ψ : Sc} (F : FnG P wd K mg base k f φ) (h : ∀ ds mu r mu', ψ ds mu r mu' → φ ds mu r mu') : FnG P wd K mg base k f ψ :=
  ⟨fun A o s H us vs Q E rm e0 va ⟨w, ds, mu, r, mu', a, b, c, d⟩ => F.run A o s H us vs Q E rm e0 va ⟨w, ds, mu, r, mu', a, b, h _ _ _ _ c, d⟩⟩

/-- the context of a def's body -/
structure Fp where
  f : Addr
  cdv : Value
  A : Around
  outer : List Env
  s : Shared
  H : Hp
  E : XK
abbrev cxY (P : Program) (wd : World) (K : PySem.W.Frag) (mg : Str → Option Value) (base : Heap) (N : List Str) (qual : Str) (scope : Scope) (F : Fp) : Cx := cxOf (CX P wd) P wd K mg base N qual scope F.f F.cdv F.A F.outer F.s F.H F.E
def start0 (N : List Str) (ds : List D) : List SD := ds.map .val ++ List.replicate (N.length - ds.length) .no
/-- does a value name a cell -/
def flatD : D → Bool
  | .non => true | .bl _ => true | .int _ => true | .str _ => true | _ => false
def flatR : Res → Bool
  | .val d => flatD d
  | _ => false
/-! the cells that a value names are the first n -/
mutual
def cb (n : Nat) : D → Bool
  | .cell i => decide (i < n)
  | .lst xs => cbs n xs
  | .tup xs => cbs n xs
  | .dic kvs => cbk n kvs
  | .obj _ fs => cbf n fs
  | _ => true
def cbs (n : Nat) : List D → Bool
  | [] => true
  | x :: r => cb n x && cbs n r
def cbk (n : Nat) : List (Key × D) → Bool
  | [] => true
  | (_, x) :: r => cb n x && cbk n r
def cbf (n : Nat) : List (Str × D) → Bool
  | [] => true
  | (_, x) :: r => cb n x && cbf n r
end
def cbt (n : Nat) : List (List Key × D) → Bool
  | [] => true
  | (_, x) :: r => cb n x && cbt n r
def MC.cb (n : Nat) : MC → Bool
  | .lst xs => cbs n xs
  | .dK kvs => cbk n kvs
  | .dT kvs => cbt n kvs
  | .obj _ fs => cbf n fs
section
variable {K : PySem.W.Frag} {mg : Str → Option Value} {w : Wd} {n : Nat}
mutual
theorem R.low : ∀ {v : V} {d : D}, R K mg w v d → cb n d = true → R K mg ⟨w.G, w.as.take n⟩ v d
  | _, _, .non, _ => .non
  | _, _, .bl b, _ => .bl b
  | _, _, .int i, _ => .int i
  | _, _, .str x, _ => .str x
  | _, _, .lst a b, h => .lst a (Rs.low b (by unfold cb at h; exact h))
  | _, _, .tup a b, h => .tup a (Rs.low b (by unfold cb at h; exact h))
  | _, _, .dic a b, h => .dic a (Rk.low b (by unfold cb at h; exact h))
  | _, _, .obj c a b, h => .obj c a (Rf.low b (by unfold cb at h; exact h))
  | _, _, .cell (i := i) a, h => .cell (by
      unfold cb at h
      have h := of_decide_eq_true h
      show (w.as.take n)[i]? = _
      rw [List.getElem?_take_of_lt h]; exact a)
theorem Rs.low : ∀ {v : List V} {d : List D}, Rs K mg w v d → cbs n d = true → Rs K mg ⟨w.G, w.as.take n⟩ v d
  | _, _, .nil, _ => .nil
  | _, _, .cons a b, h => by
    unfold cbs at h
    obtain ⟨h1, h2⟩ := Bool.and_eq_true_iff.mp h
    exact .cons (R.low a h1) (Rs.low b h2)
theorem Rk.low : ∀ {v : List (Key × V)} {d : List (Key × D)}, Rk K mg w v d → cbk n d = true → Rk K mg ⟨w.G, w.as.take n⟩ v d
  | _, _, .nil, _ => .nil
  | _, _, .cons a b, h => by
    unfold cbk at h
    obtain ⟨h1, h2⟩ := Bool.and_eq_true_iff.mp h
    exact .cons (R.low a h1) (Rk.low b h2)
theorem Rf.low : ∀ {v : List (Str × V)} {d : List (Str × D)}, Rf K mg w v d → cbf n d = true → Rf K mg ⟨w.G, w.as.take n⟩ v d
  | _, _, .nil, _ => .nil
  | _, _, .cons a b, h => by
    unfold cbf at h
    obtain ⟨h1, h2⟩ := Bool.and_eq_true_iff.mp h
    exact .cons (R.low a h1) (Rf.low b h2)
end
theorem Rt.low : ∀ {v : List (List Key × V)} {d : List (List Key × D)}, Rt K mg w v d → cbt n d = true → Rt K mg ⟨w.G, w.as.take n⟩ v d
  | _, _, .nil, _ => .nil
  | _, _, .cons a b, h => by
    unfold cbt at h
    obtain ⟨h1, h2⟩ := Bool.and_eq_true_iff.mp h
    exact .cons (R.low a h1) (Rt.low b h2)
theorem CellOk.low {H : Hp} {a : Addr} {m : MC} (c : CellOk K mg w H a m) (h : m.cb n = true) : CellOk K mg ⟨w.G, w.as.take n⟩ H a m := by
  cases m with
  | lst ds => obtain ⟨vs, e, r⟩ := c; exact ⟨vs, e, r.low h⟩
  | dK ds => obtain ⟨vs, e, r⟩ := c; exact ⟨vs, e, r.low h⟩
  | dT ds => obtain ⟨vs, e, r⟩ := c; exact ⟨vs, e, r.low h⟩
  | obj c ds => obtain ⟨C, dx, vs, g, e, r⟩ := c; exact ⟨C, dx, vs, g, e, r.low h⟩
end
section
variable {K : PySem.W.Frag} {mg : Str → Option Value} {w : Wd}
mutual
theorem R.cb : ∀ {v : V} {d : D}, R K mg w v d → cb w.as.length d = true
  | _, _, .non => by unfold Y.cb; rfl
  | _, _, .bl b => by unfold Y.cb; rfl
  | _, _, .int i => by unfold Y.cb; rfl
  | _, _, .str x => by unfold Y.cb; rfl
  | _, _, .lst a b => by unfold Y.cb; exact Rs.cb b
  | _, _, .tup a b => by unfold Y.cb; exact Rs.cb b
  | _, _, .dic a b => by unfold Y.cb; exact Rk.cb b
  | _, _, .obj c a b => by unfold Y.cb; exact Rf.cb b
  | _, _, .cell a => by unfold Y.cb; exact decide_eq_true (List.getElem?_eq_some_iff.mp a).1
theorem Rs.cb : ∀ {v : List V} {d : List D}, Rs K mg w v d → cbs w.as.length d = true
  | _, _, .nil => by unfold cbs; rfl
  | _, _, .cons a b => by unfold cbs; rw [R.cb a, Rs.cb b]; rfl
theorem Rk.cb : ∀ {v : List (Key × V)} {d : List (Key × D)}, Rk K mg w v d → cbk w.as.length d = true
  | _, _, .nil => by unfold cbk; rfl
  | _, _, .cons a b => by unfold cbk; rw [R.cb a, Rk.cb b]; rfl
theorem Rf.cb : ∀ {v : List (Str × V)} {d : List (Str × D)}, Rf K mg w v d → cbf w.as.length d = true
  | _, _, .nil => by unfold cbf; rfl
  | _, _, .cons a b => by unfold cbf; rw [R.cb a, Rf.cb b]; rfl
end
theorem Rt.cb : ∀ {v : List (List Key × V)} {d : List (List Key × D)}, Rt K mg w v d → cbt w.as.length d = true
  | _, _, .nil => by unfold cbt; rfl
  | _, _, .cons a b => by unfold cbt; rw [R.cb a, Rt.cb b]; rfl
theorem CellOk.cb {H : Hp} {a : Addr} {m : MC} (c : CellOk K mg w H a m) : m.cb w.as.length = true := by
  cases m with
  | lst ds => obtain ⟨vs, e, r⟩ := c; exact r.cb
  | dK ds => obtain ⟨vs, e, r⟩ := c; exact r.cb
  | dT ds => obtain ⟨vs, e, r⟩ := c; exact r.cb
  | obj c ds => obtain ⟨C, dx, vs, g, e, r⟩ := c; exact r.cb
end
theorem Paired.all_right {α β : Type} {F : α → β → Prop} {p : β → Prop} (h : ∀ a b, F a b → p b) : ∀ {xs : List α} {ys : List β}, Paired F xs ys → ∀ y ∈ ys, p y
  | _, _, .nil => fun y hy => by cases hy
  | _, _, .cons a b => fun y hy => by
    rcases List.mem_cons.mp hy with e | e
    · subst e; exact h _ _ a
    · exact Paired.all_right h b y e
/-- how a body is to end -/
def endP (r : Res) (mu' : List MC) : Post where
  nx := fun s => r = .val .non ∧ s.mu = mu'
  rt := fun r' s => r' = r ∧ (s.mu = mu' ∨ (flatR r = true ∧ (∀ m ∈ mu', m.cb mu'.length = true) ∧ ∃ ex, s.mu = mu' ++ ex))
  xc := fun c fs s => r = .exc c fs ∧ s.mu = mu'
theorem flat_R {K : PySem.W.Frag} {mg : Str → Option Value} {w w' : Wd} {v : V} {d : D} (h : flatD d = true) (r : R K mg w v d) : R K mg w' v d := by
  cases r with
  | non => exact .non
  | bl b => exact .bl b
  | int i => exact .int i
  | str x => exact .str x
  | _ => cases h
theorem Paired.len2 {α β : Type} {F : α → β → Prop} {xs : List α} {ys : List β} (h : Paired F xs ys) : xs.length = ys.length := Paired.len h
theorem Paired.takeP {α β : Type} {F : α → β → Prop} : ∀ {xs : List α} {ys : List β} (n : Nat), Paired F xs ys → Paired F (xs.take n) (ys.take n)
  | _, _, 0, _ => .nil
  | _, _, _ + 1, .nil => .nil
  | _, _, n + 1, .cons a b => .cons a (Paired.takeP n b)
theorem slots0 {K : PySem.W.Frag} {mg : Str → Option Value} {E : En} {w : Wd} {H : Hp} {vs : List V} {ds : List D} (r : Rs K mg w vs ds) : Paired (SlotOk K mg E w H) (ds.map SD.val) (vs.map some) := by
  induction vs generalizing ds with
  | nil => cases r; exact .nil
  | cons v vs ih => cases r with
    | cons a b => exact .cons a (ih b)
theorem Paired.repl {α β : Type} {F : α → β → Prop} {a : α} {b : β} (h : F a b) : ∀ n, Paired F (List.replicate n a) (List.replicate n b)
  | 0 => .nil
  | n + 1 => .cons h (Paired.repl h n)

/-- THE RULE: a def by its body -/
theorem fnG_of {P : Program} {wd : World} {K : PySem.W.Frag} {mg : Str → Option Value} {base : Heap} {k : Nat} {f : Addr} {fd : FuncData} {nm qual : Str} {pa : Arguments} {body : List Stmt} {scope : Scope} {N ps : List Str} {φ : Sc}
    (F : FunD K nm qual pa body scope [] [] f fd) (Z : FnScope N ps scope)
    (bn : ∀ (kV doc pm : Value) (an : Option Addr) (cdv ct : Value) (us : List Value), us.length = ps.length → bindArgs (PySem.W.fnOf nm qual pa body scope .none kV doc pm an cdv ct) ⟨us, []⟩ = pure (ps.zip us))
    (hb : ∀ (G : Fp) (X : Cx), X = cxY P wd K mg base N qual scope G → Rm k X.A → ∀ ds mu r mu', φ ds mu r mu' → (∀ m ∈ mu, m.cb mu.length = true) → ds.length = ps.length ∧ mu.length ≤ mu'.length ∧ Bk (cxY P wd K mg base N qual scope G) body ⟨start0 N ds, mu⟩ (endP r mu')) :
    FnG P wd K mg base (k + 1) f φ := by
  obtain ⟨oc, od, dV, kV, doc, pm, an, cdv, ct, osl, efd, lk, hcd, hD, _⟩ := F.ex
  have edV : dV = .none := by
    rcases hD with ⟨_, e⟩ | ⟨e, _⟩
    · exact e
    · exact absurd rfl e
  subst edV
  subst efd
  refine ⟨fun A outer s H us vs Q E rm e0 va sp => ?_⟩
  obtain ⟨w, ds, mu, r, mu', at0, rs, hφ, hq, hx⟩ := sp
  have KX : K.In s.heap := e0.mod.kin.keeps fun b o e => (e0.bs b o e).1
  have lim : s.heap.NoLimit := e0.mod.nolimit.keeps fun b o e => (e0.bs b o e).1
  obtain ⟨hl, hmm, bk⟩ := hb ⟨f, cdv, A, outer, s, H, E⟩ _ rfl (rm.deeper _) ds mu r mu' hφ (Paired.all_right (fun a m c => (Paired.len at0.cl) ▸ CellOk.cb c) at0.cl)
  have hlv : vs.length = ps.length := rs.length.trans hl
  have hlu : us.length = ps.length := va.length.symm.trans hlv
  have kinds : ∀ y ∈ ps.zip us, scope.names.lookup y.1 = some .local ∨ (scope.names.lookup y.1 = some .cell ∧ ((cellsFrom (s.heap.objs.size + 1) scope.names []).lookup y.1).isSome = true) := by
    rintro ⟨n, v⟩ hy
    rcases Z.par n (List.of_mem_zip hy).1 with q | q
    · exact Or.inl q
    · exact Or.inr ⟨q, PySem.W.cellsFrom_some _ _ _ (Or.inl q)⟩
  refine codeAny_call_function rm.room.depth (KX _ _ lk) rfl Z.co Z.gen rfl (PySem.W.codeRec_of KX hcd) ((BindsTo.of_eq (bn _ _ _ _ _ _ us hlu)) _ _ _ _ ?_)
  refine wpAny_newFunctionEnv_cells Z.kind kinds fun env he sh ic => ?_
  subst he
  refine ⟨lim.keeps ic.toInCall.keep, codeAny_func ?_⟩
  have I := inv_start (CX := CX P wd) (P := P) (w := wd) (mg := mg) (base := base) (E := E) Z rm.room.hd e0 hlv va ic
  have hN : ps.length ≤ N.length := by
    have e := congrArg List.length Z.pre
    rw [List.length_take] at e
    omega
  have rel0 : Rel K mg ⟨H, w⟩ w ⟨start0 N ds, mu⟩ (L2.start N vs) H := by
    refine ⟨at0.ex, at0.nd, at0.off, at0.cl, ?_, fun i j m n h => ?_, Le.rfl, fun p o h _ => h, fun p o h g n => ⟨g, n⟩⟩
    · unfold start0 L2.start
      rw [rs.length]
      exact Paired.app (slots0 rs) (Paired.repl trivial _)
    · unfold start0 at h
      have hm := List.mem_of_getElem? h
      rcases List.mem_append.mp hm with z | z
      · obtain ⟨_, _, e⟩ := List.mem_map.mp z
        cases e
      · have e := (List.mem_replicate.mp z).2
        cases e
  have tk : Takes (cxY P wd K mg base N qual scope ⟨f, cdv, A, outer, s, H, E⟩) (fun cls d _ H' => E cls d H') := takes_of (E₁ := fun e' s'' => CX P wd outer H s E e' s'') rfl rfl rfl rfl
  have step : ∀ {s' : Y.S} {w' : Wd} {σ' : L2.St} {H' : Hp}, Rel K mg ⟨H, w⟩ w' s' σ' H' → Step w H w' H' := fun {s' w' σ' H'} r' => ⟨r'.eL, r'.ex, r'.nd, r'.off, r'.keep, r'.away⟩
  have fits : Fits K mg (fun cls d _ H' => E cls d H') ⟨H, w⟩ (endP r mu') { nx := fun _ H' => Q .non H', rt := Q } := by
    refine ⟨fun s' w' σ' H' h r' => ?_, fun _ _ _ _ h => h.elim, fun _ _ _ _ h => h.elim, fun r1 s' w' σ' H' v h r' ok => ?_, fun c fs s' w' σ' H' C dd vs' h r' h1 h2 h3 => ?_⟩
    · obtain ⟨e1, e2⟩ := h
      subst e1
      exact hq .non H' w' (step r') (e2 ▸ r'.cl) .non
    · obtain ⟨e1, e2⟩ := h
      subst e1
      rcases e2 with e2 | ⟨fl, low, ex, e2⟩
      · refine hq v H' w' (step r') (e2 ▸ r'.cl) ?_
        cases r1 with
        | val d => exact ok
        | new m =>
          obtain ⟨p, e, n⟩ := ok
          exact ⟨p, e, n.ok, n.g, n.n, n.e⟩
        | exc c fs => exact ok
      · -- the cells of the body's own are let go
        have hlas : w'.as.length = s'.mu.length := Paired.len r'.cl
        obtain ⟨bs, ebs⟩ := r'.eL.2
        have hlm : w.as.length = mu.length := Paired.len at0.cl
        have hle : w.as.length ≤ mu'.length := by omega
        have hpre : w'.as.take mu'.length = w.as ++ bs.take (mu'.length - w.as.length) := by
          have e3 : w'.as = w.as ++ bs := ebs
          rw [e3, List.take_append, List.take_of_length_le hle]
        have st := step r'
        have le2 : Le w ⟨w'.G, w'.as.take mu'.length⟩ := ⟨st.le.1, _, hpre⟩
        have sub : ∀ a, a ∈ w'.as.take mu'.length → a ∈ w'.as := fun a h => List.mem_of_mem_take h
        cases r1 with
        | val d =>
          have up : ∀ {v : V} {d : D}, R K mg w' v d → R K mg w' v d := fun h => h
          refine hq v H' ⟨w'.G, w'.as.take mu'.length⟩ ⟨le2, st.ex, st.nd.sublist (List.take_sublist _ _), fun a h => st.off a (sub a h), st.keep, fun p o h g n => ?_⟩ ?_ (flat_R fl ok)
          · obtain ⟨a1, a2⟩ := st.away p o h g n
            exact ⟨a1, fun z => a2 (sub p z)⟩
          · have c2 := Paired.takeP mu'.length r'.cl
            rw [e2, List.take_left] at c2
            exact Paired.mapI c2 fun i a m _ hm c => CellOk.low c (low m (List.mem_of_getElem? hm))
        | new m => cases fl
        | exc c fs => cases fl
    · obtain ⟨e1, e2⟩ := h
      exact hx c fs C dd vs' H' w' e1 (step r') (e2 ▸ r'.cl) h1 h2 h3
  refine wpAny_mono (bk _ tk _ _ _ _ rel0 _ fits [] sh I) (fun fl s' hs => ?_) fun e s' hs => hs
  cases fl with
  | ret u =>
    obtain ⟨v, σ', H', J, rv, q⟩ := hs
    exact ⟨v, H', J.os, J.bare, J.base, J.hok, rv, q⟩
  | next =>
    obtain ⟨σ', H', J, q⟩ := hs
    exact ⟨V.non, H', J.os, J.bare, J.base, J.hok, rfl, q⟩
  | brk => obtain ⟨_, _, _, q⟩ := hs; exact q.elim
  | cont => obtain ⟨_, _, _, q⟩ := hs; exact q.elim
end Y
namespace Y
open PySem.Spec PySem PyProof.Rows L2
section
variable {X : Cx} {pos : Pos} {s s0 s1 s2 s3 : S} {d d0 d1 d2 : D} {ds : List D} {e a b o : Expr} {es : List Expr} {x : Str} {φ : Sc} {mu' : List MC} {m : MC} {r : Res}
theorem Step.toRel {K : PySem.W.Frag} {mg : Str → Option Value} {E : En} {w w' : Wd} {s : S} {σ : L2.St} {H H' : Hp} {mu' : List MC} (r : Rel K mg E w s σ H) (t : Step w H w' H') (c : Paired (fun a m => CellOk K mg w' H' a m) w'.as mu') :
    Rel K mg E w' ⟨s.ls, mu'⟩ σ H' := r.step t c
/-- the callee runs and comes back -/
theorem run_g {k : Nat} {f : Addr} {pins : List (Addr × Obj)} {sh : Shared} {E : En} {w : Wd} {σ : L2.St} {H : Hp} {us : List Value} {vs : List V} {Q : VK} (F : FnG X.prog X.w X.K X.mg X.base k f φ) (rm : Rm k X.A) (I : Inv X pins σ H sh)
    (rl : Rel X.K X.mg E w s σ H) (va : Vals vs us) (rs : Rs X.K X.mg w vs ds) (h : φ ds s.mu r mu') (hne : ∀ c fs, r ≠ .exc c fs)
    (k2 : ∀ v H' w', Le w w' → Rel X.K X.mg E w' ⟨s.ls, mu'⟩ σ H' → ResOk X.K X.mg E w' ⟨s.ls, mu'⟩ σ H' v r → Q v H') : wpAny (model X.prog X.w) X.A (call (.ref f) us) (EP X pins σ Q) X.xe sh := by
  refine wpAny_call (codeAny_mono (F.run X.A X.stack sh H us vs Q (fun _ _ _ => False) rm I.env0 va ⟨w, ds, s.mu, r, mu', ⟨rl.ex, rl.nd, rl.off, rl.cl⟩, rs, h, fun v H' w' st c rv => ?_, fun c fs C dd vs' H' w' e => absurd e (hne c fs)⟩) fun rr s' hq => ?_)
  · refine k2 v H' w' st.le (Step.toRel rl st c) ?_
    cases r with
    | val d => exact rv
    | exc c fs => exact rv
    | new m =>
      obtain ⟨p, e, c1, g1, n1, h1⟩ := rv
      refine ⟨p, e, c1, g1, n1, rl.en_none h1 fun z => rl.none_as h1 (rl.eL.mem z), fun i m' hi e' => ?_⟩
      obtain ⟨a, e2, c2, _⟩ := rl.own_at hi
      rw [e'] at e2; cases e2
      obtain ⟨o', e3⟩ := c2.there
      rw [h1] at e3; cases e3
  · cases rr with
    | error er =>
      obtain ⟨_, _, _, _, _, _, _, _, _, _, _, _, hf⟩ := hq
      exact hf.elim
    | ok fl => cases fl with
      | ret u => exact I.after hq
      | next => exact hq.elim
      | brk => exact hq.elim
      | cont => exact hq.elim
/-- a def that the module names keeps its word -/
structure Cal (P : Program) (wd : World) (K : PySem.W.Frag) (mg : Str → Option Value) (base : Heap) (A : Around) (x : Str) (φ : Sc) : Prop where
  ex : ∃ f k, mg x = some (.ref f) ∧ PySem.W.keepIn K (.ref f) = true ∧ Rm k A ∧ FnG P wd K mg base k f φ
/-- the call's reading: arguments, then the callee -/
theorem call_rd {Q : VK} {E : En} {w : Wd} {σ : L2.St} {H : Hp} {p : Pos} (c : Cal X.prog X.w X.K X.mg X.base X.A x φ) (ha : Ea X (e :: es) s ds s1) (h : φ ds s1.mu r mu') (hne : ∀ c fs, r ≠ .exc c fs) (rl : Rel X.K X.mg E w s σ H)
    (k2 : ∀ v H' w', Le w w' → Rel X.K X.mg E w' ⟨s1.ls, mu'⟩ σ H' → ResOk X.K X.mg E w' ⟨s1.ls, mu'⟩ σ H' v r → Q v H')
    (hg : Gl X x) (hdb : (x == ("__debug__" : Str)) = false) (he : starEach (e :: es) X.env = (false, eval e X.env) :: starEach es X.env) (hpl : (backTo pos (starEach es X.env)).any (·.1) = false) :
    semE X (.Call (.Name x p) (e :: es) [] pos) σ H Q := fun pins sh I => by
  obtain ⟨f, k, hm, kp, rm, F⟩ := c.ex
  refine wpAny_Call_Name_kw (ld_glob I hg hm ?_ hdb)
  refine PySem.W.callWith_K (h₀ := X.base) I.ok.mod.kin kp ?_ he hpl
  refine thn (ha E w σ H rl (fun vs H1 => ∃ w1, Le w w1 ∧ Rel X.K X.mg E w1 s1 σ H1 ∧ Rs X.K X.mg w1 vs ds) (fun vs H1 w1 l1 r1 q1 => ⟨w1, l1, r1, q1⟩) pos pins sh I) fun us s1' h1 => ?_
  obtain ⟨vs, H1, I1, va, w1, l1, r1, q1⟩ := h1
  exact ⟨I1.kIn, run_g F rm I1 r1 va q1 h hne fun v H' w' l' r' rv => k2 v H' w' (l1.trans l') r' rv⟩
theorem call_rd0 {Q : VK} {E : En} {w : Wd} {σ : L2.St} {H : Hp} {p : Pos} (c : Cal X.prog X.w X.K X.mg X.base X.A x φ) (h : φ [] s.mu r mu') (hne : ∀ c fs, r ≠ .exc c fs) (rl : Rel X.K X.mg E w s σ H)
    (k2 : ∀ v H' w', Le w w' → Rel X.K X.mg E w' ⟨s.ls, mu'⟩ σ H' → ResOk X.K X.mg E w' ⟨s.ls, mu'⟩ σ H' v r → Q v H')
    (hg : Gl X x) (hdb : (x == ("__debug__" : Str)) = false) : semE X (.Call (.Name x p) [] [] pos) σ H Q := fun pins sh I => by
  obtain ⟨f, k, hm, kp, rm, F⟩ := c.ex
  refine wpAny_Call_Name_kw (ld_glob I hg hm ?_ hdb)
  exact PySem.W.callWith_K0 I.kIn kp (run_g (us := []) (vs := []) F rm I rl .nil .nil h hne k2)
theorem ev_call {p : Pos} (c : Cal X.prog X.w X.K X.mg X.base X.A x φ) (ha : Ea X (e :: es) s ds s1) (h : φ ds s1.mu (.val d) mu') (hg : Gl X x := by rfl) (hdb : (x == ("__debug__" : Str)) = false := by decide)
    (he : starEach (e :: es) X.env = (false, eval e X.env) :: starEach es X.env := by rfl) (hpl : (backTo pos (starEach es X.env)).any (·.1) = false := by rfl) : Ev X (.Call (.Name x p) (e :: es) [] pos) s d ⟨s1.ls, mu'⟩ :=
  fun E w σ H rl Q k2 => call_rd c ha h (fun _ _ z => nomatch z) rl k2 hg hdb he hpl
theorem ec_call {p : Pos} (c : Cal X.prog X.w X.K X.mg X.base X.A x φ) (ha : Ea X (e :: es) s ds s1) (h : φ ds s1.mu (.new m) mu') (hg : Gl X x := by rfl) (hdb : (x == ("__debug__" : Str)) = false := by decide)
    (he : starEach (e :: es) X.env = (false, eval e X.env) :: starEach es X.env := by rfl) (hpl : (backTo pos (starEach es X.env)).any (·.1) = false := by rfl) : Ec X (.Call (.Name x p) (e :: es) [] pos) s m ⟨s1.ls, mu'⟩ :=
  fun E w σ H rl Q k2 => call_rd c ha h (fun _ _ z => nomatch z) rl (fun v H' w' l r' ⟨p, e, n⟩ => by subst e; exact k2 p H' w' l r' n) hg hdb he hpl

/-! ### objects -/
/-- what stands as an object of the class c: a tree, or a cell -/
inductive IsObj (s : S) (c : Str) (fs : List (Str × D)) : D → Prop
  | tree : IsObj s c fs (.obj c fs)
  | cell {i : Nat} : s.mu[i]? = some (.obj c fs) → IsObj s c fs (.cell i)
theorem IsObj.at {E : En} {w : Wd} {σ : L2.St} {H : Hp} {c : Str} {fs : List (Str × D)} {v : V} (h : IsObj s c fs d) (rl : Rel X.K X.mg E w s σ H) (q : R X.K X.mg w v d) :
    ∃ p C dx vs, v = .ref p ∧ X.mg c = some (.ref C) ∧ H p = some (.ins C dx vs) ∧ Rf X.K X.mg w vs fs := by
  cases h with
  | tree => cases q with
    | obj a b c => exact ⟨_, _, _, _, rfl, a, rl.ex _ _ b, c⟩
  | cell hi => cases q with
    | cell ha =>
      obtain ⟨C, dx, vs, g, h1, h2⟩ := rl.cell_at hi ha
      exact ⟨_, C, dx, vs, rfl, g, h1, h2⟩
/-- facts of a class: it is plain; f is no attribute of its own -/
structure ClsF (K : PySem.W.Frag) (mg : Str → Option Value) (c : Str) : Prop where
  ex : ∃ C, mg c = some (.ref C) ∧ Cls K C
def NoF (K : PySem.W.Frag) (mg : Str → Option Value) (c f : Str) : Prop := ∃ C, mg c = some (.ref C) ∧ NoAttr K C f
theorem ev_fld {c f : Str} {fs : List (Str × D)} (ho : Ev X o s d0 s0) (hi : IsObj s0 c fs d0) (cl : ClsF X.K X.mg c) (nf : NoF X.K X.mg c f) (h : fs.lookup f = some d)
    (hb : attributeBase o f X.env (eval o X.env) = eval o X.env := by rfl) : Ev X (.Attribute o f pos) s d s0 :=
  ev_of (pe_fld pe_sem hb) fun E w σ H rl Q k => ho E w σ H rl _ fun v H1 w1 l1 r1 q1 => by
    obtain ⟨p, C, dx, vs, rfl, g, h1, h2⟩ := hi.at r1 q1
    obtain ⟨C', g', c'⟩ := cl.ex
    obtain ⟨C'', g'', n''⟩ := nf
    rw [g] at g' g''; cases g'; cases g''
    obtain ⟨y, hy, ry⟩ := h2.lookup h
    exact ⟨p, C, dx, vs, y, rfl, h1, c', n'', hy, k y H1 w1 l1 r1 ry⟩
structure MthG (P : Program) (wd : World) (K : PySem.W.Frag) (mg : Str → Option Value) (base : Heap) (A : Around) (c mt : Str) (φ : Sc) : Prop where
  ex : ∃ C f k, mg c = some (.ref C) ∧ Cls K C ∧ Meth K C mt f ∧ Rm k A ∧ FnG P wd K mg base k f φ
theorem meth_rd {pl : Sem Bool} {apos : Pos} {c mt : Str} {fs : List (Str × D)} {Q : VK} {E : En} {w : Wd} {σ : L2.St} {H : Hp} (M : MthG X.prog X.w X.K X.mg X.base X.A c mt φ) (ho : Ev X o s d0 s0) (hi : IsObj s0 c fs d0) (nf : fs.lookup mt = none) (ha : Ea X (e :: es) s0 ds s1) (h : φ (d0 :: ds) s1.mu r mu') (hne : ∀ c fs, r ≠ .exc c fs)
    (rl : Rel X.K X.mg E w s σ H) (k2 : ∀ v H' w', Le w w' → Rel X.K X.mg E w' ⟨s1.ls, mu'⟩ σ H' → ResOk X.K X.mg E w' ⟨s1.ls, mu'⟩ σ H' v r → Q v H')
    (hst : starEach (e :: es) X.env = (false, eval e X.env) :: starEach es X.env) (hpl : (backTo pos (starEach es X.env)).any (·.1) = false)
    (ht : eval (.Call (.Attribute o mt apos) (e :: es) [] pos) X.env = (do
      let ov ← eval o X.env
      standAt apos.atName
      let (f, first) ← holding [ov] (getMethod ov mt pl)
      callWith pos f first (backTo pos (starEach (e :: es) X.env)) (backToKw pos (keywordEach [] X.env)))) :
    semE X (.Call (.Attribute o mt apos) (e :: es) [] pos) σ H Q := fun pins sh I => by
  obtain ⟨C, f, k, g, cl, me, rm, F⟩ := M.ex
  refine PySem.W.methodCall_KW (pl := pl) (thn (ho E w σ H rl (fun v H1 => ∃ w1, Le w w1 ∧ Rel X.K X.mg E w1 s0 σ H1 ∧ R X.K X.mg w1 v d0) (fun v H1 w1 l1 r1 q1 => ⟨w1, l1, r1, q1⟩) pins sh I) fun u s1' h1 => ?_) ht
  obtain ⟨v, H1, I1, rv, w1, l1, r1, q1⟩ := h1
  obtain ⟨p, C', dx, vs, rfl, g', h1, h2⟩ := hi.at r1 q1
  rw [g] at g'; cases g'
  obtain rfl : u = Value.ref p := rv
  refine getmeth_ok I1 h1 cl me (h2.none nf) ?_
  refine PySem.W.callWith_K (first := [.ref p]) (h₀ := X.base) I.ok.mod.kin me.kp (thn (ha E w1 σ H1 r1 (fun vs H2 => ∃ w2, Le w1 w2 ∧ Rel X.K X.mg E w2 s1 σ H2 ∧ Rs X.K X.mg w2 vs ds) (fun vs H2 w2 l2 r2 q2 => ⟨w2, l2, r2, q2⟩) pos pins s1' I1) fun us s2' h2' => ?_) hst hpl
  obtain ⟨vs2, H2, I2, va, w2, l2, r2, q2⟩ := h2'
  exact ⟨I2.kIn, run_g (us := .ref p :: us) (vs := .ref p :: vs2) F rm I2 r2 (.cons rfl va) (.cons (q1.up l2) q2) h hne fun v H' w' l' r' rv => k2 v H' w' ((l1.trans l2).trans l') r' rv⟩
theorem meth_rd0 {pl : Sem Bool} {apos : Pos} {c mt : Str} {fs : List (Str × D)} {Q : VK} {E : En} {w : Wd} {σ : L2.St} {H : Hp} (M : MthG X.prog X.w X.K X.mg X.base X.A c mt φ) (ho : Ev X o s d0 s0) (hi : IsObj s0 c fs d0) (nf : fs.lookup mt = none) (h : φ [d0] s0.mu r mu') (hne : ∀ c fs, r ≠ .exc c fs)
    (rl : Rel X.K X.mg E w s σ H) (k2 : ∀ v H' w', Le w w' → Rel X.K X.mg E w' ⟨s0.ls, mu'⟩ σ H' → ResOk X.K X.mg E w' ⟨s0.ls, mu'⟩ σ H' v r → Q v H')
    (ht : eval (.Call (.Attribute o mt apos) [] [] pos) X.env = (do
      let ov ← eval o X.env
      standAt apos.atName
      let (f, first) ← holding [ov] (getMethod ov mt pl)
      callWith pos f first (backTo pos (starEach [] X.env)) (backToKw pos (keywordEach [] X.env)))) :
    semE X (.Call (.Attribute o mt apos) [] [] pos) σ H Q := fun pins sh I => by
  obtain ⟨C, f, k, g, cl, me, rm, F⟩ := M.ex
  refine PySem.W.methodCall_KW (pl := pl) (thn (ho E w σ H rl (fun v H1 => ∃ w1, Le w w1 ∧ Rel X.K X.mg E w1 s0 σ H1 ∧ R X.K X.mg w1 v d0) (fun v H1 w1 l1 r1 q1 => ⟨w1, l1, r1, q1⟩) pins sh I) fun u s1' h1 => ?_) ht
  obtain ⟨v, H1, I1, rv, w1, l1, r1, q1⟩ := h1
  obtain ⟨p, C', dx, vs, rfl, g', h1, h2⟩ := hi.at r1 q1
  rw [g] at g'; cases g'
  obtain rfl : u = Value.ref p := rv
  refine getmeth_ok I1 h1 cl me (h2.none nf) ?_
  exact PySem.W.callWith_K0 (first := [.ref p]) I1.kIn me.kp (run_g (us := [.ref p]) (vs := [.ref p]) F rm I1 r1 (.cons rfl .nil) (.cons q1 .nil) h hne fun v H' w' l' r' rv => k2 v H' w' (l1.trans l') r' rv)
theorem ev_meth {pl : Sem Bool} {apos : Pos} {c mt : Str} {fs : List (Str × D)} (M : MthG X.prog X.w X.K X.mg X.base X.A c mt φ) (ho : Ev X o s d0 s0) (hi : IsObj s0 c fs d0) (nf : fs.lookup mt = none) (ha : Ea X (e :: es) s0 ds s1) (h : φ (d0 :: ds) s1.mu (.val d) mu')
    (hst : starEach (e :: es) X.env = (false, eval e X.env) :: starEach es X.env := by rfl) (hpl : (backTo pos (starEach es X.env)).any (·.1) = false := by rfl)
    (ht : eval (.Call (.Attribute o mt apos) (e :: es) [] pos) X.env = (do
      let ov ← eval o X.env
      standAt apos.atName
      let (f, first) ← holding [ov] (getMethod ov mt pl)
      callWith pos f first (backTo pos (starEach (e :: es) X.env)) (backToKw pos (keywordEach [] X.env))) := by rfl) : Ev X (.Call (.Attribute o mt apos) (e :: es) [] pos) s d ⟨s1.ls, mu'⟩ :=
  fun E w σ H rl Q k2 => meth_rd M ho hi nf ha h (fun _ _ z => nomatch z) rl k2 hst hpl ht
theorem ec_meth {pl : Sem Bool} {apos : Pos} {c mt : Str} {fs : List (Str × D)} (M : MthG X.prog X.w X.K X.mg X.base X.A c mt φ) (ho : Ev X o s d0 s0) (hi : IsObj s0 c fs d0) (nf : fs.lookup mt = none) (ha : Ea X (e :: es) s0 ds s1) (h : φ (d0 :: ds) s1.mu (.new m) mu')
    (hst : starEach (e :: es) X.env = (false, eval e X.env) :: starEach es X.env := by rfl) (hpl : (backTo pos (starEach es X.env)).any (·.1) = false := by rfl)
    (ht : eval (.Call (.Attribute o mt apos) (e :: es) [] pos) X.env = (do
      let ov ← eval o X.env
      standAt apos.atName
      let (f, first) ← holding [ov] (getMethod ov mt pl)
      callWith pos f first (backTo pos (starEach (e :: es) X.env)) (backToKw pos (keywordEach [] X.env))) := by rfl) : Ec X (.Call (.Attribute o mt apos) (e :: es) [] pos) s m ⟨s1.ls, mu'⟩ :=
  fun E w σ H rl Q k2 => meth_rd M ho hi nf ha h (fun _ _ z => nomatch z) rl (fun v H' w' l r' ⟨p, e, n⟩ => by subst e; exact k2 p H' w' l r' n) hst hpl ht
theorem ev_meth0 {pl : Sem Bool} {apos : Pos} {c mt : Str} {fs : List (Str × D)} (M : MthG X.prog X.w X.K X.mg X.base X.A c mt φ) (ho : Ev X o s d0 s0) (hi : IsObj s0 c fs d0) (nf : fs.lookup mt = none) (h : φ [d0] s0.mu (.val d) mu')
    (ht : eval (.Call (.Attribute o mt apos) [] [] pos) X.env = (do
      let ov ← eval o X.env
      standAt apos.atName
      let (f, first) ← holding [ov] (getMethod ov mt pl)
      callWith pos f first (backTo pos (starEach [] X.env)) (backToKw pos (keywordEach [] X.env))) := by rfl) : Ev X (.Call (.Attribute o mt apos) [] [] pos) s d ⟨s0.ls, mu'⟩ :=
  fun E w σ H rl Q k2 => meth_rd0 M ho hi nf h (fun _ _ z => nomatch z) rl k2 ht
theorem ec_meth0 {pl : Sem Bool} {apos : Pos} {c mt : Str} {fs : List (Str × D)} (M : MthG X.prog X.w X.K X.mg X.base X.A c mt φ) (ho : Ev X o s d0 s0) (hi : IsObj s0 c fs d0) (nf : fs.lookup mt = none) (h : φ [d0] s0.mu (.new m) mu')
    (ht : eval (.Call (.Attribute o mt apos) [] [] pos) X.env = (do
      let ov ← eval o X.env
      standAt apos.atName
      let (f, first) ← holding [ov] (getMethod ov mt pl)
      callWith pos f first (backTo pos (starEach [] X.env)) (backToKw pos (keywordEach [] X.env))) := by rfl) : Ec X (.Call (.Attribute o mt apos) [] [] pos) s m ⟨s0.ls, mu'⟩ :=
  fun E w σ H rl Q k2 => meth_rd0 M ho hi nf h (fun _ _ z => nomatch z) rl (fun v H' w' l r' ⟨p, e, n⟩ => by subst e; exact k2 p H' w' l r' n) ht
end
end Y
namespace Y
open PySem.Spec PySem PyProof.Rows L2
/-- a class that the module names, made by its __init__ -/
structure MakG (P : Program) (wd : World) (K : PySem.W.Frag) (mg : Str → Option Value) (base : Heap) (A : Around) (c : Str) (φ : Sc) : Prop where
  ex : ∃ C f k, mg c = some (.ref C) ∧ Mk K C f ∧ Rm (k + 1) A ∧ FnG P wd K mg base k f φ
section
variable {X : Cx} {pos : Pos} {s s1 : S} {ds : List D} {e : Expr} {es : List Expr} {c : Str} {φ : Sc} {fs : List (Str × D)}
theorem Paired.fst_nil {α β : Type} {F : α → β → Prop} {xs ys : List α} {zs : List β} (h : Paired F (xs ++ ys) zs) (e : zs.length = xs.length) : ys = [] := by
  have := Paired.len h
  rw [List.length_append] at this
  exact List.eq_nil_of_length_eq_zero (by omega)
theorem ec_make {p : Pos} (M : MakG X.prog X.w X.K X.mg X.base X.A c φ) (ha : Ea X (e :: es) s ds s1) (h : φ (.cell s1.mu.length :: ds) (s1.mu ++ [.obj c []]) (.val .non) (s1.mu ++ [.obj c fs])) (lo : cbf s1.mu.length fs = true)
    (hg : Gl X c := by rfl) (hdb : (c == ("__debug__" : Str)) = false := by decide)
    (he : starEach (e :: es) X.env = (false, eval e X.env) :: starEach es X.env := by rfl) (hpl : (backTo pos (starEach es X.env)).any (·.1) = false := by rfl) : Ec X (.Call (.Name c p) (e :: es) [] pos) s (.obj c fs) s1 :=
  fun E w σ H rl Q k2 pins sh I => by
    obtain ⟨C, f, k, g, mk, rm, F⟩ := M.ex
    refine wpAny_Call_Name_kw (ld_glob I hg g ?_ hdb)
    refine PySem.W.callWith_K (h₀ := X.base) I.ok.mod.kin mk.kp (thn (ha E w σ H rl (fun vs H1 => ∃ w1, Le w w1 ∧ Rel X.K X.mg E w1 s1 σ H1 ∧ Rs X.K X.mg w1 vs ds) (fun vs H1 w1 l1 r1 q1 => ⟨w1, l1, r1, q1⟩) pos pins sh I) fun us sh1 h1 => ?_) he hpl
    obtain ⟨vs, H1, I1, va, w1, l1, r1, q1⟩ := h1
    refine ⟨I1.kIn, ?_⟩
    have I2 := Inv.made (C := C) I1
    have hx : H1 (sh1.heap.objs.size + 1) = none := I1.hok.fresh (Nat.le_succ _)
    have hd : H1 sh1.heap.objs.size = none := I1.hok.fresh (Nat.le_refl _)
    have hne : sh1.heap.objs.size ≠ sh1.heap.objs.size + 1 := Nat.ne_of_lt (Nat.lt_succ_self _)
    -- the heap with the bare instance
    have nx : ∀ {b o}, H1 b = some o → b ≠ sh1.heap.objs.size ∧ b ≠ sh1.heap.objs.size + 1 := fun {b o} q => ⟨ne_of_none q hd, ne_of_none q hx⟩
    have up : ∀ {b o}, H1 b = some o → upd (upd H1 sh1.heap.objs.size (.own (sh1.heap.objs.size + 1))) (sh1.heap.objs.size + 1) (.ins C sh1.heap.objs.size []) b = some o := fun {b o} q => by
      rw [upd_ne (nx q).2, upd_ne (nx q).1]; exact q
    have hxa : sh1.heap.objs.size + 1 ∉ w1.as := r1.none_as hx
    have hxG : w1.G (sh1.heap.objs.size + 1) = none := r1.none_G hx
    have le1 : Le w1 ⟨w1.G, w1.as ++ [sh1.heap.objs.size + 1]⟩ := ⟨Evl.Ex.refl _, _, rfl⟩
    have hlen : w1.as.length = s1.mu.length := Paired.len r1.cl
    have at2 : At X.K X.mg ⟨w1.G, w1.as ++ [sh1.heap.objs.size + 1]⟩ (upd (upd H1 sh1.heap.objs.size (.own (sh1.heap.objs.size + 1))) (sh1.heap.objs.size + 1) (.ins C sh1.heap.objs.size [])) (s1.mu ++ [.obj c []]) := by
      refine ⟨fun a o q => up (r1.ex a o q), ?_, fun a ha => ?_, ?_⟩
      · exact List.nodup_append.mpr ⟨r1.nd, by simp, fun a ha b hb => by
          rw [List.mem_singleton.mp hb]
          intro z; rw [z] at ha; exact hxa ha⟩
      · rcases List.mem_append.mp ha with z | z
        · exact r1.off a z
        · rw [List.mem_singleton.mp z]; exact hxG
      · exact Paired.app (Paired.mapI r1.cl fun i a m _ _ cc => CellOk.up X.K X.mg le1 (fun o q => up q) cc) (.cons ⟨C, _, [], g, upd_same, .nil⟩ .nil)
    have rsx : Rs X.K X.mg ⟨w1.G, w1.as ++ [sh1.heap.objs.size + 1]⟩ (.ref (sh1.heap.objs.size + 1) :: vs) (.cell s1.mu.length :: ds) := by
      refine .cons (.cell ?_) (q1.up le1)
      show (w1.as ++ [sh1.heap.objs.size + 1])[s1.mu.length]? = _
      rw [← hlen]; simp
    refine wpAny_call (make_map (f := f) I1.kIn mk.makes mk.init (beq_iff_eq.mp mk.fn) (codeAny_mono (F.run _ X.stack _ _ (.ref (sh1.heap.objs.size + 1) :: us) (.ref (sh1.heap.objs.size + 1) :: vs)
      (fun v H2 => v = .non ∧ Q (.ref (sh1.heap.objs.size + 1)) H2) (fun _ _ _ => False) (rm.make C us []) (I2.env0.make C us []) (.cons rfl va)
      ⟨_, _, _, _, _, at2, rsx, h, fun v H' w' st cc rv => ?_, fun _ _ _ _ _ _ _ z => nomatch z⟩) fun rr s' hq => ?_))
    · cases rv
      refine ⟨rfl, ?_⟩
      obtain ⟨bs, ebs⟩ : ∃ bs, w'.as = (w1.as ++ [sh1.heap.objs.size + 1]) ++ bs := st.le.2
      have hb0 : bs = [] := Paired.fst_nil (xs := w1.as ++ [sh1.heap.objs.size + 1]) (ys := bs) (zs := s1.mu ++ [MC.obj c fs]) (by rw [← ebs]; exact cc) (by simp [hlen])
      subst hb0
      rw [List.append_nil] at ebs
      have eas : w'.as.take s1.mu.length = w1.as := by rw [ebs, ← hlen]; simp
      have hsz : ∀ a, a ∈ w1.as → a ∈ w'.as := fun a ha => by rw [ebs]; exact List.mem_append_left _ ha
      have hxw : sh1.heap.objs.size + 1 ∈ w'.as := by rw [ebs]; simp
      have st3 : Step w1 H1 ⟨w'.G, w1.as⟩ H' := by
        refine ⟨⟨st.le.1, [], (List.append_nil _).symm⟩, st.ex, r1.nd, fun a ha => st.off a (hsz a ha), fun p o hp np => ?_, fun p o hp gp np => ?_⟩
        · refine st.keep p o (up hp) fun z => ?_
          rcases List.mem_append.mp z with z | z
          · exact np z
          · exact (nx hp).2 (List.mem_singleton.mp z)
        · refine ⟨(st.away p o (up hp) gp fun z => ?_).1, np⟩
          rcases List.mem_append.mp z with z | z
          · exact np z
          · exact (nx hp).2 (List.mem_singleton.mp z)
      have cc' : Paired (fun a m => CellOk X.K X.mg w' H' a m) (w1.as ++ [sh1.heap.objs.size + 1]) (s1.mu ++ [MC.obj c fs]) := by rw [← ebs]; exact cc
      have low1 : ∀ m ∈ s1.mu, m.cb s1.mu.length = true := by
        have := Paired.all_right (p := fun m : MC => m.cb w1.as.length = true) (fun a m c => CellOk.cb c) r1.cl
        rw [hlen] at this; exact this
      have cT : Paired (fun a m => CellOk X.K X.mg ⟨w'.G, w1.as⟩ H' a m) w1.as s1.mu := by
        have c2 := Paired.takeP s1.mu.length cc'
        rw [List.take_left, List.take_left' hlen] at c2
        exact Paired.mapI c2 fun i a m _ hm q => by
          have q2 := CellOk.low q (low1 m (List.mem_of_getElem? hm))
          rw [eas] at q2; exact q2
      have cX : CellOk X.K X.mg ⟨w'.G, w1.as⟩ H' (sh1.heap.objs.size + 1) (.obj c fs) := by
        have e1 : (w1.as ++ [sh1.heap.objs.size + 1])[w1.as.length]? = some (sh1.heap.objs.size + 1) := by simp
        obtain ⟨m, hm, q⟩ := Paired.get cc' e1
        rw [hlen] at hm
        have e2 : m = .obj c fs := by simpa using hm.symm
        subst e2
        have q2 := CellOk.low (n := s1.mu.length) q lo
        rw [eas] at q2; exact q2
      have r3 : Rel X.K X.mg E ⟨w'.G, w1.as⟩ s1 σ H' := r1.step st3 cT
      refine k2 _ H' ⟨w'.G, w1.as⟩ (l1.trans st3.le) r3 ⟨cX, st.off _ hxw, hxa, r1.en_none hx fun z => hxa (r1.eL.mem z), fun i m' hi e' => ?_⟩
      obtain ⟨a, e2, c2, _⟩ := r1.own_at hi
      rw [e'] at e2; cases e2
      obtain ⟨o', e3⟩ := c2.there
      rw [hx] at e3; cases e3
    · cases rr with
      | error er =>
        obtain ⟨_, _, _, _, _, _, _, _, _, _, _, _, hf⟩ := hq
        exact hf.elim
      | ok fl => cases fl with
        | ret u =>
          obtain ⟨v, H', J, rv, ev, q3⟩ := I2.after hq
          subst ev
          exact ⟨rv, ⟨V.ref (sh1.heap.objs.size + 1), H', J, rfl, q3⟩⟩
        | next => exact hq.elim
        | brk => exact hq.elim
        | cont => exact hq.elim
end
end Y
namespace Y
open PySem.Spec PySem PyProof.Rows L2
def S.setv (s : S) (i : Nat) (d : D) : S := ⟨s.ls.set i (.val d), s.mu⟩
def S.seto (s : S) (i : Nat) (m : MC) : S := ⟨s.ls.set i (.own m), s.mu⟩
def S.setn (s : S) (i : Nat) : S := ⟨s.ls.set i .no, s.mu⟩
section
variable {X : Cx} {pos : Pos} {s s0 s1 s2 : S} {d : D} {ds : List D} {e a b : Expr} {P : Post} {st : Stmt} {rest body orelse : List Stmt} {m : MC}
theorem bk_cons {t : TS} (h1 : PS X st t) (q : ∀ W : WX, Takes X W → SJ X.K X.mg W t s { P with nx := fun s' => Bk X rest s' P }) : Bk X (st :: rest) s P := fun W tk E w σ H r D k pins sh I =>
  (pss_cons h1 pss_sem).run pins sh σ H D I (q W tk E w σ H r { D with nx := semS X rest D } ⟨fun s' w' σ' H' h r' => h W tk E w' σ' H' r' D k, k.bk, k.ct, k.rt, k.xc⟩)
theorem bk_nil (h : P.nx s) : Bk X [] s P := bk_of pss_nil fun W E w σ H r D k => k.nx s w σ H h r
/-- a weaker end -/
theorem bk_mono {P' : Post} (h : Bk X rest s P') (n : ∀ s, P'.nx s → P.nx s) (r : ∀ v s, P'.rt v s → P.rt v s) (b : ∀ s, P'.bk s → P.bk s) (c : ∀ s, P'.ct s → P.ct s) (x : ∀ c f s, P'.xc c f s → P.xc c f s) : Bk X rest s P :=
  fun W tk E w σ H rl D k => h W tk E w σ H rl D ⟨fun s' w' σ' H' q => k.nx s' w' σ' H' (n s' q), fun s' w' σ' H' q => k.bk s' w' σ' H' (b s' q), fun s' w' σ' H' q => k.ct s' w' σ' H' (c s' q),
    fun v s' w' σ' H' u q => k.rt v s' w' σ' H' u (r v s' q), fun c fs s' w' σ' H' C dd vs q => k.xc c fs s' w' σ' H' C dd vs (x c fs s' q)⟩
/-- a block's own end, then the rest -/
theorem bk_then (h : Bk X rest s P) : Bk X rest s P := h

/-! ### ghost steps -/
theorem bk_ghost {s' : S} (h : ∀ E w σ H, Rel X.K X.mg E w s σ H → ∃ w', Rel X.K X.mg E w' s' σ H) (k : Bk X rest s' P) : Bk X rest s P := fun W tk E w σ H r D f => by
  obtain ⟨w', r'⟩ := h E w σ H r
  exact k W tk E w' σ H r' D f
theorem Rel.setNo {K : PySem.W.Frag} {mg : Str → Option Value} {E : En} {w : Wd} {σ : L2.St} {H : Hp} (r : Rel K mg E w s σ H) (i : Nat) : Rel K mg E w (s.setn i) σ H := by
  refine ⟨r.ex, r.nd, r.off, r.cl, ?_, fun a b m n h1 h2 h3 => ?_, r.eL, r.keep, r.away⟩
  · show Paired _ (s.ls.set i .no) σ
    have hl : s.ls.length = σ.length := Paired.len r.sl
    by_cases hi : i < σ.length
    · have := Paired.setP (show SlotOk K mg E w H .no σ[i] from trivial) i r.sl
      rwa [List.set_getElem_self] at this
    · rw [List.set_eq_of_length_le (by omega)]; exact r.sl
  · have f : ∀ (a : Nat) (m : MC), (s.ls.set i .no)[a]? = some (.own m) → s.ls[a]? = some (.own m) := fun a m h => by
      by_cases e : i = a
      · subst e
        by_cases l : i < s.ls.length
        · rw [List.getElem?_set_self l] at h; cases h
        · rw [List.getElem?_eq_none (by simpa using l)] at h; cases h
      · rw [List.getElem?_set_ne e] at h; exact h
    exact r.ow a b m n (f a m h1) (f b n h2) h3
/-- the own cell of a name, loose -/
theorem Rel.loose {K : PySem.W.Frag} {mg : Str → Option Value} {E : En} {w : Wd} {σ : L2.St} {H : Hp} {i : Nat} (r : Rel K mg E w s σ H) (h : s.ls[i]? = some (.own m)) : ∃ p, σ[i]? = some (some (.ref p)) ∧ Rel K mg E w (s.setn i) σ H ∧ New K mg E w (s.setn i) σ H p m := by
  obtain ⟨p, e, c, g, n, q⟩ := r.own_at h
  refine ⟨p, e, r.setNo i, c, g, n, q, fun j m' hj e' => ?_⟩
  have hj' : j ≠ i ∧ s.ls[j]? = some (.own m') := by
    have hj : (s.ls.set i .no)[j]? = some (.own m') := hj
    by_cases z : i = j
    · subst z
      by_cases l : i < s.ls.length
      · rw [List.getElem?_set_self l] at hj; cases hj
      · rw [List.getElem?_eq_none (by simpa using l)] at hj; cases hj
    · rw [List.getElem?_set_ne z] at hj; exact ⟨fun y => z y.symm, hj⟩
  exact hj'.1 (r.ow j i m' m hj'.2 h (e'.trans e.symm))
theorem set_get {σ : L2.St} {i : Nat} {v : Option V} (h : σ[i]? = some v) : σ.set i v = σ := by
  obtain ⟨h1, h2⟩ := List.getElem?_eq_some_iff.mp h
  rw [← h2, List.set_getElem_self]
theorem setn_set {i : Nat} {x : SD} : (s.setn i).ls.set i x = s.ls.set i x := by
  show (s.ls.set i .no).set i x = _
  rw [List.set_set]
/-- an own list becomes a tree -/
theorem bk_frz (i : Nat) (h : s.ls[i]? = some (.own m)) (f : m.froz = some d) (k : Bk X rest (s.setv i d) P) : Bk X rest s P := bk_ghost (fun E w σ H r => by
  obtain ⟨p, e, r1, n⟩ := r.loose h
  obtain ⟨o, ho, q⟩ := n.ok.froz f
  obtain ⟨l2, r2⟩ := n.froz r1 ho
  have r3 := r2.setVal i (q _ l2 upd_same)
  rw [set_get e] at r3
  have e3 : ({ (s.setn i) with ls := (s.setn i).ls.set i (.val d) } : S) = s.setv i d := by
    show S.mk _ _ = S.mk _ _
    rw [setn_set]; rfl
  rw [e3] at r3
  exact ⟨_, r3⟩) k
/-- an own cell is shared: it stands among the cells -/
theorem bk_share (i : Nat) (h : s.ls[i]? = some (.own m)) (k : Bk X rest ⟨s.ls.set i (.val (.cell s.mu.length)), s.mu ++ [m]⟩ P) : Bk X rest s P := bk_ghost (fun E w σ H r => by
  obtain ⟨p, e, r1, n⟩ := r.loose h
  have hlen : w.as.length = s.mu.length := Paired.len r.cl
  have le : Le w ⟨w.G, w.as ++ [p]⟩ := ⟨Evl.Ex.refl _, [p], rfl⟩
  have r2 : Rel X.K X.mg E ⟨w.G, w.as ++ [p]⟩ ⟨(s.setn i).ls, s.mu ++ [m]⟩ σ H := by
    refine ⟨r1.ex, ?_, fun a ha => ?_, ?_, ?_, r1.ow, r1.eL.trans le, r1.keep, fun a o h1 h2 h3 => ?_⟩
    · exact List.nodup_append.mpr ⟨r1.nd, by simp, fun a ha b hb z => by
        rw [List.mem_singleton.mp hb] at z
        rw [z] at ha; exact n.n ha⟩
    · rcases List.mem_append.mp ha with z | z
      · exact r1.off a z
      · rw [List.mem_singleton.mp z]; exact n.g
    · exact Paired.app (Paired.mapI r1.cl fun _ _ _ _ _ c => CellOk.up X.K X.mg le (fun _ q => q) c) (.cons (CellOk.up X.K X.mg le (fun _ q => q) n.ok) .nil)
    · refine Paired.mapI r1.sl fun j x y hx hy q => ?_
      cases x with
      | no => trivial
      | val d => cases y with
        | none => exact q
        | some v => exact R.up le q
      | own m' => cases y with
        | none => exact q
        | some v => cases v with
          | ref a =>
            obtain ⟨q1, q2, q3, q4⟩ := q
            refine ⟨CellOk.up X.K X.mg le (fun _ q => q) q1, q2, fun z => ?_, q4⟩
            rcases List.mem_append.mp z with z | z
            · exact q3 z
            · rw [List.mem_singleton.mp z] at hy
              exact n.o j m' hx hy
          | _ => exact q
    · obtain ⟨x1, x2⟩ := r1.away a o h1 h2 h3
      refine ⟨x1, fun z => ?_⟩
      rcases List.mem_append.mp z with z | z
      · exact x2 z
      · rw [List.mem_singleton.mp z, n.e] at h1; cases h1
  have r3 := r2.setVal i (v := .ref p) (d := .cell s.mu.length) (.cell (by show (w.as ++ [p])[s.mu.length]? = _; rw [← hlen]; simp))
  rw [set_get e] at r3
  have e3 : ({ (⟨(s.setn i).ls, s.mu ++ [m]⟩ : S) with ls := (s.setn i).ls.set i (.val (.cell s.mu.length)) } : S) = ⟨s.ls.set i (.val (.cell s.mu.length)), s.mu ++ [m]⟩ := by
    show S.mk _ _ = S.mk _ _
    rw [setn_set]
  rw [e3] at r3
  exact ⟨_, r3⟩) k

/-! ### statements -/
theorem bk_set (i : Nat) {x : Str} {p' : Pos} (hN : X.N.Nodup) (hi : X.N[i]? = some x) (he : Ev X e s d s1) (k : Bk X rest (s1.setv i d) P) (hx : Loc X.env.scope x := by first | exact Or.inl rfl | exact Or.inr rfl)
    (hs : swapsWith e (some (.Name x p')) pos.line X.env = pure false := by rfl) (hf : X.fn x = true ∨ X.env.scope.names.lookup x = some .local := by first | exact Or.inl rfl | exact Or.inr rfl) : Bk X (.Assign [.Name x p'] e pos :: rest) s P :=
  bk_cons (ps_set hN hi hx pe_sem hs hf) fun W tk E w σ H r D f => he E w σ H r _ fun v H' w' l r' q => f.nx _ w' _ H' k (r'.setVal i q)
theorem bk_setc (i : Nat) {x : Str} {p' : Pos} (hN : X.N.Nodup) (hi : X.N[i]? = some x) (he : Ec X e s m s1) (k : Bk X rest (s1.seto i m) P) (hx : Loc X.env.scope x := by first | exact Or.inl rfl | exact Or.inr rfl)
    (hs : swapsWith e (some (.Name x p')) pos.line X.env = pure false := by rfl) (hf : X.fn x = true ∨ X.env.scope.names.lookup x = some .local := by first | exact Or.inl rfl | exact Or.inr rfl) : Bk X (.Assign [.Name x p'] e pos :: rest) s P :=
  bk_cons (ps_set hN hi hx pe_sem hs hf) fun W tk E w σ H r D f => he E w σ H r _ fun p H' w' l r' n => f.nx _ w' _ H' k (r'.setOwn i n)
theorem bk_ret (he : Ev X e s d s1) (k : P.rt (.val d) s1) : Bk X (.Return (some e) pos :: rest) s P :=
  bk_cons (ps_ret pe_sem) fun W tk E w σ H r D f => he E w σ H r _ fun v H' w' l r' q => f.rt (.val d) s1 w' σ H' v k r' q
theorem bk_retc (he : Ec X e s m s1) (k : P.rt (.new m) s1) : Bk X (.Return (some e) pos :: rest) s P :=
  bk_cons (ps_ret pe_sem) fun W tk E w σ H r D f => he E w σ H r _ fun p H' w' l r' n => f.rt (.new m) s1 w' σ H' (.ref p) k r' ⟨p, rfl, n⟩
theorem bk_retn (k : P.rt (.val .non) s) : Bk X (.Return none pos :: rest) s P :=
  bk_cons ps_retN fun W tk E w σ H r D f => f.rt (.val .non) s w σ H .non k r .non
/-- return of an own cell -/
theorem bk_reto (i : Nat) {x : Str} {p' : Pos} (hN : X.N[i]? = some x) (h : s.ls[i]? = some (.own m)) (k : P.rt (.new m) (s.setn i)) (hv : Vis X.env.scope x := by first | exact Or.inl rfl | exact Or.inr (Or.inl rfl) | exact Or.inr (Or.inr rfl))
    (hd : (x == ("__debug__" : Str)) = false := by decide) (hcd : (x == ("__classdict__" : Str)) = false := by decide) : Bk X (.Return (some (.Name x p')) pos :: rest) s P :=
  bk_cons (ps_ret (pe_var hN hv hd hcd)) fun W tk E w σ H r D f => by
    obtain ⟨p, e, r1, n⟩ := r.loose h
    exact ⟨.ref p, e, f.rt (.new m) _ w σ H (.ref p) k r1 ⟨p, rfl, n⟩⟩
theorem bk_if {c : Expr} {k : Bool} (hc : Tv X c s k s1) (h1 : k = true → Bk X body s1 { P with nx := fun s' => Bk X rest s' P }) (h2 : k = false → Bk X orelse s1 { P with nx := fun s' => Bk X rest s' P }) : Bk X (.If c body orelse pos :: rest) s P :=
  bk_cons (ps_if pt_sem pss_sem pss_sem) fun W tk E w σ H r D f => hc E w σ H r _ fun H' w' l r' => by
    cases k with
    | true => exact iteT (h1 rfl W tk E w' σ H' r' D f)
    | false => exact iteF (h2 rfl W tk E w' σ H' r' D f)
theorem bk_pass (k : Bk X rest s P) : Bk X (.Pass pos :: rest) s P := bk_cons ps_pass fun W tk E w σ H r D f => f.nx s w σ H k r
theorem bk_break (k : P.bk s) : Bk X (.Break pos :: rest) s P := bk_cons ps_break fun W tk E w σ H r D f => f.bk s w σ H k r
theorem bk_cont (k : P.ct s) : Bk X (.Continue pos :: rest) s P := bk_cons ps_continue fun W tk E w σ H r D f => f.ct s w σ H k r
theorem bk_expr (he : Ev X e s d s1) (k : Bk X rest s1 P) (hs : swapsWith e none pos.line X.env = pure false := by rfl) : Bk X (.Expr e pos :: rest) s P :=
  bk_cons (ps_expr pe_sem hs) fun W tk E w σ H r D f => he E w σ H r _ fun v H' w' l r' q => f.nx s1 w' σ H' k r'
/-- name op= e on ints -/
theorem bk_aug (i : Nat) {x : Str} {p' : Pos} {op : Operator} {g : Int → Int → Int} {n j : Int} (ho : PIp X op (ipI g)) (hN : X.N.Nodup) (hi : X.N[i]? = some x) (h : s.ls[i]? = some (.val (.int n))) (he : Ev X e s (.int j) s1) (h1 : s1.ls[i]? = some (.val (.int n)))
    (k : Bk X rest (s1.setv i (.int (g n j))) P) (hx : Loc X.env.scope x := by first | exact Or.inl rfl | exact Or.inr rfl)
    (hf : X.fn x = true ∨ X.env.scope.names.lookup x = some .local := by first | exact Or.inl rfl | exact Or.inr rfl) : Bk X (.AugAssign (.Name x p') op e pos :: rest) s P :=
  bk_cons (ps_aug hN hi hx pe_sem ho hf) fun W tk E w σ H r D f => by
    obtain ⟨v, e1, q1⟩ := r.val_at h
    cases q1
    refine ⟨_, e1, he E w σ H r _ fun v H' w' l r' q => ?_⟩
    cases q
    exact ⟨n, j, rfl, rfl, f.nx _ w' _ H' k (r'.setVal i (.int _))⟩
/-- a, b = x, y: two local names -/
theorem bk_par (i j : Nat) {x y : Str} {px py pt : Pos} {kt k2 : _} {pt2 : Pos} {d1 d2 : D} (hc : X.calm = true) (hN : X.N.Nodup) (hi : X.N[i]? = some x) (hj : X.N[j]? = some y) (ha : Ea X [a, b] s [d1, d2] s1) (k : Bk X rest ((s1.setv i d1).setv j d2) P)
    (hij : i ≠ j := by decide) (hx : X.env.scope.names.lookup x = some .local := by rfl) (hy : X.env.scope.names.lookup y = some .local := by rfl)
    (hw : swappedStores [.Tuple [.Name x px, .Name y py] kt pt] (.Tuple [a, b] k2 pt2) X.env = pure (some [x, y]) := by rfl)
    (hs : swapsWithSole [.Tuple [.Name x px, .Name y py] kt pt] (.Tuple [a, b] k2 pt2) pos.line X.env = pure false := by rfl) : Bk X (.Assign [.Tuple [.Name x px, .Name y py] kt pt] (.Tuple [a, b] k2 pt2) pos :: rest) s P :=
  bk_cons (ps_par hc hN hi hj hij hx hy pa_sem hw hs) fun W tk E w σ H r D f => ha E w σ H r _ fun vs H' w' l r' q => by
    obtain ⟨v, u, rfl, q1, q2⟩ := q.two
    exact ⟨v, u, rfl, f.nx _ w' _ H' k ((r'.setVal i q1).setVal j q2)⟩
end
end Y
namespace Y
open PySem.Spec PySem PyProof.Rows L2
section
variable {K : PySem.W.Frag} {mg : Str → Option Value} {E : En} {w : Wd} {s : S} {σ : L2.St} {H : Hp} {m m' : MC} {p : Addr} {o : HO}
/-- an own cell is written -/
theorem Rel.wrOwn {i : Nat} (r : Rel K mg E w s σ H) (h : s.ls[i]? = some (.own m)) (e : σ[i]? = some (some (.ref p))) (c : CellOk K mg w (upd H p o) p m') : Rel K mg E w (s.seto i m') σ (upd H p o) := by
  obtain ⟨p', e', c0, g, n, q⟩ := r.own_at h
  rw [e] at e'; cases e'
  have hi : i < s.ls.length := (List.getElem?_eq_some_iff.mp h).1
  have k : ∀ a u, a ≠ p → H a = some u → upd H p o a = some u := fun a u z y => by rw [upd_ne z]; exact y
  have nG : ∀ a u, w.G a = some u → a ≠ p := fun a u y z => by rw [z, g] at y; cases y
  refine ⟨fun a u y => k a u (nG a u y) (r.ex a u y), r.nd, r.off, Paired.mapI r.cl fun j a m ha _ cc => CellOk.up K mg Le.rfl (fun u y => k a u (fun z => n (by rw [← z]; exact List.mem_of_getElem? ha)) y) cc, ?_, fun a b mA nB h1 h2 h3 => ?_, r.eL,
    fun a u y z => k a u (fun zz => by rw [zz, q] at y; cases y) (r.keep a u y z), r.away⟩
  · show Paired _ (s.ls.set i (.own m')) σ
    have base : Paired (SlotOk K mg E w (upd H p o)) (s.ls.set i .no) σ := by
      have r0 : Paired (SlotOk K mg E w H) (s.setn i).ls σ := (r.setNo i).sl
      refine Paired.mapI r0 fun j x y hx hy z => ?_
      cases x with
      | no => trivial
      | val d => cases y with
        | none => exact z
        | some v => exact z
      | own m1 => cases y with
        | none => exact z
        | some v => cases v with
          | ref a =>
            obtain ⟨z1, z2, z3, z4⟩ := z
            have hj : j ≠ i ∧ s.ls[j]? = some (.own m1) := by
              have hx : (s.ls.set i .no)[j]? = some (.own m1) := hx
              by_cases t : i = j
              · subst t
                rw [List.getElem?_set_self hi] at hx; cases hx
              · rw [List.getElem?_set_ne t] at hx; exact ⟨fun y => t y.symm, hx⟩
            have hne : a ≠ p := fun t => hj.1 (r.ow j i m1 m hj.2 h (by rw [hy, e, t]))
            exact ⟨CellOk.up K mg Le.rfl (fun u y => k a u hne y) z1, z2, z3, z4⟩
          | _ => exact z
    have := Paired.setP (show SlotOk K mg E w (upd H p o) (.own m') (some (.ref p)) from ⟨c, g, n, q⟩) i base
    rw [List.set_set, set_get e] at this
    exact this
  · have f : ∀ (a : Nat) (m1 : MC), (s.ls.set i (.own m'))[a]? = some (.own m1) → ∃ m2, s.ls[a]? = some (.own m2) := fun a m1 y => by
      by_cases t : i = a
      · subst t; exact ⟨m, h⟩
      · rw [List.getElem?_set_ne t] at y; exact ⟨m1, y⟩
    obtain ⟨x1, y1⟩ := f a mA h1
    obtain ⟨x2, y2⟩ := f b nB h2
    exact r.ow a b x1 x2 y1 y2 h3
/-- a shared cell is written -/
theorem Rel.wrCell {i : Nat} (r : Rel K mg E w s σ H) (h : s.mu[i]? = some m) (e : w.as[i]? = some p) (c : CellOk K mg w (upd H p o) p m') : Rel K mg E w ⟨s.ls, s.mu.set i m'⟩ σ (upd H p o) := by
  have hp : p ∈ w.as := List.mem_of_getElem? e
  have g := r.off p hp
  have k : ∀ a u, a ≠ p → H a = some u → upd H p o a = some u := fun a u z y => by rw [upd_ne z]; exact y
  have nG : ∀ a u, w.G a = some u → a ≠ p := fun a u y z => by rw [z, g] at y; cases y
  refine ⟨fun a u y => k a u (nG a u y) (r.ex a u y), r.nd, r.off, ?_, Paired.mapI r.sl fun j x y hx hy z => ?_, r.ow, r.eL, fun a u y z => k a u (fun t => ?_) (r.keep a u y z), r.away⟩
  · have base : Paired (fun a m => a ≠ p → CellOk K mg w (upd H p o) a m) w.as s.mu := Paired.mapI r.cl fun j a m ha _ cc hne => CellOk.up K mg Le.rfl (fun u y => k a u hne y) cc
    have hi : i < w.as.length := (List.getElem?_eq_some_iff.mp e).1
    have b2 := Paired.setP (show (fun a m => a ≠ p → CellOk K mg w (upd H p o) a m) p m' from fun _ => c) i base
    have e3 : w.as.set i p = w.as := by
      obtain ⟨h1, h2⟩ := List.getElem?_eq_some_iff.mp e
      rw [← h2, List.set_getElem_self]
    rw [e3] at b2
    refine Paired.mapI b2 fun j a m1 ha hm q => ?_
    by_cases t : a = p
    · subst t
      have hij : i = j := by
        obtain ⟨h1, h2⟩ := List.getElem?_eq_some_iff.mp e
        obtain ⟨h3, h4⟩ := List.getElem?_eq_some_iff.mp ha
        exact (List.getElem_inj r.nd).mp (h2.trans h4.symm)
      subst hij
      have hl : i < s.mu.length := (List.getElem?_eq_some_iff.mp h).1
      rw [List.getElem?_set_self hl] at hm
      cases hm; exact c
    · exact q t
  · cases x with
    | no => trivial
    | val d => cases y with
      | none => exact z
      | some v => exact z
    | own m1 => cases y with
      | none => exact z
      | some v => cases v with
        | ref a =>
          obtain ⟨z1, z2, z3, z4⟩ := z
          exact ⟨CellOk.up K mg Le.rfl (fun u y => k a u (fun t => z3 (by rw [t]; exact hp)) y) z1, z2, z3, z4⟩
        | _ => exact z
  · cases q : E.w.G a with
    | none => exact (r.away a u y q z).2 (by rw [t]; exact hp)
    | some u' => exact nG a u' (r.eL.1 a u' q) t
end

section
variable {X : Cx} {pos : Pos} {s s0 s1 s2 : S} {d d1 : D} {ds : List D} {e a b : Expr} {P : Post} {rest : List Stmt}
/-- x.append(e), x an own list -/
theorem bk_app (i : Nat) {x : Str} {px pa pc : Pos} (hN : X.N[i]? = some x) (h1 : s1.ls[i]? = some (.own (.lst ds))) (h0 : s.ls[i]? = some (.own (.lst ds))) (he : Ev X e s d s1) (hz : ds.length < 16777216) (k : Bk X rest (s1.seto i (.lst (ds ++ [d]))) P)
    (hv : Vis X.env.scope x := by first | exact Or.inl rfl | exact Or.inr (Or.inl rfl) | exact Or.inr (Or.inr rfl)) (hd : (x == ("__debug__" : Str)) = false := by decide) (hcd : (x == ("__classdict__" : Str)) = false := by decide)
    (hs : swapsWith (.Call (.Attribute (.Name x px) "append" pa) [e] [] pc) none pos.line X.env = pure false := by rfl)
    (h : PE X (.Call (.Attribute (.Name x px) "append" pa) [e] [] pc) (tBM X.K "list" rAppend (tVar i) (tCons (semE X e) tNil)) := by
      exact pe_bm PySem.F.plainAttrs_list PySem.F.slot_list_append PySem.F.type_list_append mt_append (pe_var rfl (by first | exact Or.inl rfl | exact Or.inr (Or.inl rfl) | exact Or.inr (Or.inr rfl))) (pa_cons pe_sem pa_nil)) :
    Bk X (.Expr (.Call (.Attribute (.Name x px) "append" pa) [e] [] pc) pos :: rest) s P :=
  bk_cons (ps_expr h hs) fun W tk E w σ H r D f => by
    obtain ⟨p, e1, c1, _⟩ := r.own_at h0
    obtain ⟨vs0, g0, _⟩ := c1
    refine ⟨.ref p, e1, .inl ⟨rfl, vs0, SqL.of g0⟩, he E w σ H r _ fun v H' w' l r' q => ?_⟩
    obtain ⟨p', e2, ⟨vs, g1, g2⟩, _⟩ := r'.own_at h1
    rw [e1] at e2; cases e2
    refine ⟨p, vs, v, rfl, rfl, g1, by rw [sizeLine_eq, g2.length]; exact hz, ?_⟩
    exact f.nx _ w' σ _ k (r'.wrOwn h1 e1 ⟨_, upd_same, g2.append (.cons q .nil)⟩)
/-- o.append(e), o a shared list -/
theorem bk_appc {i : Nat} {o : Expr} {pa pc : Pos} (ho : Ev X o s (.cell i) s0) (he : Ev X e s0 d s1) (h0 : ∃ ds0, s0.mu[i]? = some (.lst ds0)) (h1 : s1.mu[i]? = some (.lst ds)) (hz : ds.length < 16777216) (k : Bk X rest ⟨s1.ls, s1.mu.set i (.lst (ds ++ [d]))⟩ P)
    (hs : swapsWith (.Call (.Attribute o "append" pa) [e] [] pc) none pos.line X.env = pure false := by rfl)
    (h : PE X (.Call (.Attribute o "append" pa) [e] [] pc) (tBM X.K "list" rAppend (semE X o) (tCons (semE X e) tNil)) := by
      exact pe_bm PySem.F.plainAttrs_list PySem.F.slot_list_append PySem.F.type_list_append mt_append pe_sem (pa_cons pe_sem pa_nil)) :
    Bk X (.Expr (.Call (.Attribute o "append" pa) [e] [] pc) pos :: rest) s P :=
  bk_cons (ps_expr h hs) fun W tk E w σ H r D f => ho E w σ H r _ fun v0 H0 w0 l0 r0 q0 => by
    cases q0 with
    | cell ha =>
      obtain ⟨ds0, h0⟩ := h0
      obtain ⟨vs0, g0, _⟩ := r0.cell_at h0 ha
      refine ⟨.inl ⟨rfl, vs0, SqL.of g0⟩, he E w0 σ H0 r0 _ fun v H' w' l r' q => ?_⟩
      obtain ⟨vs, g1, g2⟩ := r'.cell_at h1 (l.get ha)
      refine ⟨_, vs, v, rfl, rfl, g1, by rw [sizeLine_eq, g2.length]; exact hz, ?_⟩
      exact f.nx _ w' σ _ k (r'.wrCell h1 (l.get ha) ⟨_, upd_same, g2.append (.cons q .nil)⟩)
/-- o[i] = e, o a shared list -/
theorem bk_setit {i j : Nat} {kx : Int} {o ix : Expr} {ps : Pos} (he : Ev X e s d s0) (ho : Ev X o s0 (.cell i) s1) (hi : Ev X ix s1 (.int kx) s2) (h1 : s2.mu[i]? = some (.lst ds)) (hj : ixN ds.length kx = some j) (k : Bk X rest ⟨s2.ls, s2.mu.set i (.lst (ds.set j d))⟩ P)
    (h : PS X (.Assign [.Subscript o ix ps] e pos) (tAsg (semE X e) (gSub (semE X o) (semE X ix) rSetL)) := by exact ps_asg pe_sem (pg_sub pe_sem pe_sem set_list)) : Bk X (.Assign [.Subscript o ix ps] e pos :: rest) s P :=
  bk_cons h fun W tk E w σ H r D f => he E w σ H r _ fun v H0 w0 l0 r0 q0 => ho E w0 σ H0 r0 _ fun y H1 w1 l1 r1 q1 => hi E w1 σ H1 r1 _ fun z H2 w2 l2 r2 q2 => by
    cases q2
    cases q1 with
    | cell ha =>
      obtain ⟨vs, g1, g2⟩ := r2.cell_at h1 (l2.get ha)
      refine ⟨_, vs, kx, j, rfl, rfl, g1, by rw [g2.length]; exact hj, ?_⟩
      exact f.nx _ w2 σ _ k (r2.wrCell h1 (l2.get ha) ⟨_, upd_same, Rs.set ((q0.up l1).up l2) _ g2⟩)
theorem pget_list : PGet X (fun x y H Q => ∃ p xs i v, x = .ref p ∧ y = .int i ∧ SqL X.K H p xs ∧ 0 ≤ i ∧ xs[i.toNat]? = some v ∧ Q v H) := by
  intro pins sh σ H o i ov iv Q I ro ri h
  obtain ⟨p, xs, k, v, rfl, rfl, hq, h0, hx, q⟩ := h
  cases ro
  obtain ⟨t, rfl⟩ := ri
  obtain ⟨its, r, pl, hz⟩ := I.list hq
  obtain ⟨u, hu, ru⟩ := r.get hx
  have hk : k.toNat < xs.length := (List.getElem?_eq_some_iff.mp hx).1
  have hs : sizeLine = 16777216 := sizeLine_eq
  exact wpAny_getItem_list pl.isList h0 (by omega) (by simpa using hu) ⟨v, H, I, ru, q⟩
/-- o[i] op= e on ints, o a shared list -/
theorem bk_augit {i : Nat} {kx n j : Int} {o ix : Expr} {ps : Pos} {op : Operator} {g : Int → Int → Int} (hop : PIp X op (ipI g)) (ho : Ev X o s (.cell i) s) (hi : Ev X ix s (.int kx) s) (he : Ev X e s (.int j) s) (h1 : s.mu[i]? = some (.lst ds)) (h0 : 0 ≤ kx) (hg : ds[kx.toNat]? = some (.int n))
    (k : Bk X rest ⟨s.ls, s.mu.set i (.lst (ds.set kx.toNat (.int (g n j))))⟩ P)
    (h : PIp X op (ipI g) → PS X (.AugAssign (.Subscript o ix ps) op e pos) (tAugS (semE X o) (semE X ix) (semE X e) (fun x y H Q => ∃ p xs i v, x = .ref p ∧ y = .int i ∧ SqL X.K H p xs ∧ 0 ≤ i ∧ xs[i.toNat]? = some v ∧ Q v H) (ipI g) rSetL) := by
      exact fun q => ps_augS pe_sem pe_sem pget_list pe_sem q set_list) : Bk X (.AugAssign (.Subscript o ix ps) op e pos :: rest) s P :=
  bk_cons (h hop) fun W tk E w σ H r D f => ho E w σ H r _ fun y H1 w1 l1 r1 q1 => hi E w1 σ H1 r1 _ fun z H2 w2 l2 r2 q2 => by
    cases q2
    cases q1 with
    | cell ha =>
      obtain ⟨vs, g1, g2⟩ := r2.cell_at h1 (l2.get ha)
      obtain ⟨v, gv, rv⟩ := g2.get hg
      cases rv
      refine ⟨_, vs, kx, _, rfl, rfl, SqL.of g1, h0, gv, he E w2 σ H2 r2 _ fun y3 H3 w3 l3 r3 q3 => ?_⟩
      cases q3
      refine ⟨n, j, rfl, rfl, ?_⟩
      obtain ⟨vs3, g3, g4⟩ := r3.cell_at h1 ((l2.trans l3).get ha)
      have hlt : kx.toNat < ds.length := (List.getElem?_eq_some_iff.mp hg).1
      refine ⟨_, vs3, kx, kx.toNat, rfl, rfl, g3, ?_, ?_⟩
      · unfold ixN
        rw [g4.length, if_pos h0, if_pos (by omega)]
      · exact f.nx _ w3 σ _ k (r3.wrCell h1 ((l2.trans l3).get ha) ⟨_, upd_same, Rs.set (.int _) _ g4⟩)
/-- o.f = e, o a shared object -/
theorem bk_setf {i : Nat} {o : Expr} {c f : Str} {fs : List (Str × D)} {ps : Pos} (he : Ev X e s d s0) (ho : Ev X o s0 (.cell i) s1) (h1 : s1.mu[i]? = some (.obj c fs)) (cl : ClsF X.K X.mg c) (nf : NoF X.K X.mg c f) (hz : fs.length < 1000) (k : Bk X rest ⟨s1.ls, s1.mu.set i (.obj c (putD f d fs))⟩ P)
    (hs : swapsWith e (some (.Attribute o f ps)) pos.line X.env = pure false := by rfl) : Bk X (.Assign [.Attribute o f ps] e pos :: rest) s P :=
  bk_cons (ps_fld pe_sem pe_sem hs) fun W tk E w σ H r D ft => he E w σ H r _ fun v H0 w0 l0 r0 q0 => ho E w0 σ H0 r0 _ fun y H1 w1 l1 r1 q1 => by
    cases q1 with
    | cell ha =>
      obtain ⟨C, dx, vs, g, g1, g2⟩ := r1.cell_at h1 ha
      obtain ⟨C', g', c'⟩ := cl.ex
      obtain ⟨C'', g'', n''⟩ := nf
      rw [g] at g' g''; cases g'; cases g''
      refine ⟨_, C, dx, vs, rfl, g1, c', n'', by rw [g2.length]; exact hz, ?_⟩
      exact ft.nx _ w1 σ _ k (r1.wrCell h1 ha ⟨C, dx, _, g, upd_same, g2.put (q0.up l1)⟩)
end
end Y
namespace Y
open PySem.Spec PySem PyProof.Rows L2
section
variable (K : PySem.W.Frag) (mg : Str → Option Value)
/-- an iterator gives these items, one after another -/
def Yields (gd : List MC → Prop) (w1 : Wd) (J : It) (items : List D) : Prop := ∀ (E : En) (w : Wd) (s : S) (σ : L2.St) (H : Hp) (i : Nat), Le w1 w → Rel K mg E w s σ H → gd s.mu →
  (items.length ≤ i → J.stop i H) ∧ (∀ d, items[i]? = some d → J.go i H ∧ ∀ x H', J.yld i H x H' → ∃ w', Le w w' ∧ Rel K mg E w' s σ H' ∧ R K mg w' x d)
def ItT (gd : List MC → Prop) (wi : TI) (s : S) (items : List D) (s1 : S) : Prop := ∀ (E : En) (w : Wd) (σ : L2.St) (H : Hp), Rel K mg E w s σ H → ∀ Rr : It → Hp → Prop,
  (∀ J H1 w1, Le w w1 → Rel K mg E w1 s1 σ H1 → Yields K mg gd w1 J items → Rr J H1) → wi σ H Rr
/-- a target takes d -/
def TgT (js : List Nat) (g : TG) (d : D) (s s' : S) : Prop := ∀ (E : En) (w : Wd) (σ : L2.St) (H : Hp) (v : V), Rel K mg E w s σ H → R K mg w v d → ∀ Q : L2.St → Hp → Prop, (∀ σ', (∀ k, k ∉ js → σ'[k]? = σ[k]?) → σ'.length = σ.length → Rel K mg E w s' σ' H → Q σ' H) → g v σ H Q
end
/-- what a for, a comprehension walks -/
def Eit (X : Cx) (tg iter : Expr) (s : S) (items : List D) (s1 : S) (gd : List MC → Prop) : Prop := ∃ wi, PI X tg iter wi ∧ ItT X.K X.mg gd wi s items s1
section
variable {K : PySem.W.Frag} {mg : Str → Option Value} {d d1 d2 : D} {s s1 s2 s' : S}
theorem tg_name (j : Nat) : TgT K mg [j] (gName j) d s (s.setv j d) := fun E w σ H v r q Q k => k _ (fun i hi => List.getElem?_set_ne (fun e => hi (by rw [e]; exact List.mem_singleton.mpr rfl))) (by simp) (r.setVal j q)
theorem tg_two {g1 g2 : TG} {j1 j2 : List Nat} (h1 : TgT K mg j1 g1 d1 s s1) (h2 : TgT K mg j2 g2 d2 s1 s2) : TgT K mg (j1 ++ j2) (gTup K 2 (gCons g1 (gCons g2 gNil))) (.tup [d1, d2]) s s2 := fun E w σ H v r q Q k => by
  obtain ⟨p, vs, rfl, a, b⟩ := q.isTup r.ex
  obtain ⟨x, y, rfl, q1, q2⟩ := b.two
  refine ⟨p, [x, y], rfl, a, rfl, x, [y], rfl, h1 E w σ H x r q1 _ fun σ1 t1 l1 r1 => ⟨y, [], rfl, h2 E w σ1 H y r1 q2 _ fun σ2 t2 l2 r2 => ⟨rfl, k σ2 (fun i hi => (t2 i fun z => hi (List.mem_append_right _ z)).trans (t1 i fun z => hi (List.mem_append_left _ z))) (l2.trans l1) r2⟩⟩⟩
theorem tg_three {g1 g2 g3 : TG} {d3 : D} {s3 : S} {j1 j2 j3 : List Nat} (h1 : TgT K mg j1 g1 d1 s s1) (h2 : TgT K mg j2 g2 d2 s1 s2) (h3 : TgT K mg j3 g3 d3 s2 s3) : TgT K mg (j1 ++ (j2 ++ j3)) (gTup K 3 (gCons g1 (gCons g2 (gCons g3 gNil)))) (.tup [d1, d2, d3]) s s3 := fun E w σ H v r q Q k => by
  obtain ⟨p, vs, rfl, a, b⟩ := q.isTup r.ex
  cases b with
  | cons q1 b => cases b with
    | cons q2 b => cases b with
      | cons q3 b =>
        cases b
        exact ⟨p, _, rfl, a, rfl, _, _, rfl, h1 E w σ H _ r q1 _ fun σ1 t1 l1 r1 => ⟨_, _, rfl, h2 E w σ1 H _ r1 q2 _ fun σ2 t2 l2 r2 => ⟨_, _, rfl, h3 E w σ2 H _ r2 q3 _ fun σ3 t3 l3 r3 => ⟨rfl, k σ3 (fun i hi => ((t3 i fun z => hi (by simp [z])).trans (t2 i fun z => hi (by simp [z]))).trans (t1 i fun z => hi (by simp [z]))) (l3.trans (l2.trans l1)) r3⟩⟩⟩⟩
end
section
variable {X : Cx} {tg e e2 a b c : Expr} {pos p : Pos} {s s1 s2 : S} {d : D} {ds xs ys : List D}
theorem Rel.sq {K : PySem.W.Frag} {mg : Str → Option Value} {E : En} {w w1 : Wd} {σ : L2.St} {H : Hp} (r : Rel K mg E w s σ H) (l : Le w1 w) {q : Addr} {vs : List V} (h : SqL K w1.G q vs) : SqL K H q vs := Evl.ex_l (l.1.trans r.ex) h
theorem eit_list (h : Ev X e s (.lst ds) s1) : Eit X tg e s ds s1 (fun _ => True) := ⟨_, pi_list pe_sem, fun E w σ H r Rr k => h E w σ H r _ fun v H' w' l r' q => by
  cases q with
  | @lst p vs _ a b =>
    refine ⟨p, rfl, ⟨vs, Evl.ex_l r'.ex a⟩, k _ H' w' l r' fun E2 w2 s2 σ2 H2 i l2 r2 _ => ⟨fun hi => ⟨vs, r2.sq l2 a, by rw [b.length]; exact hi⟩, fun d hd => ?_⟩⟩
    obtain ⟨y, hy, ry⟩ := b.get hd
    refine ⟨⟨vs, y, r2.sq l2 a, hy⟩, fun x H' ⟨e1, f⟩ => ?_⟩
    subst e1
    have e2 := f vs (r2.sq l2 a)
    rw [hy] at e2; cases e2
    exact ⟨w2, Le.rfl, r2, ry.up l2⟩⟩
theorem eit_tup (h : Ev X e s (.tup ds) s1) : Eit X tg e s ds s1 (fun _ => True) := ⟨_, pi_tup pe_sem, fun E w σ H r Rr k => h E w σ H r _ fun v H' w' l r' q => by
  cases q with
  | @tup p vs _ a b =>
    have st : ∀ {w2 : Wd} {H2 : Hp} (l2 : Le w' w2) (ex : Evl.Ex w2.G H2), SqT X.K H2 p vs := fun l2 ex => Evl.ex_t (l2.1.trans ex) a
    refine ⟨p, rfl, ⟨vs, Evl.ex_t r'.ex a⟩, k _ H' w' l r' fun E2 w2 s2 σ2 H2 i l2 r2 _ => ⟨fun hi => ⟨vs, st l2 r2.ex, by rw [b.length]; exact hi⟩, fun d hd => ?_⟩⟩
    obtain ⟨y, hy, ry⟩ := b.get hd
    refine ⟨⟨vs, y, st l2 r2.ex, hy⟩, fun x H' ⟨e1, f⟩ => ?_⟩
    subst e1
    have e2 := f vs (st l2 r2.ex)
    rw [hy] at e2; cases e2
    exact ⟨w2, Le.rfl, r2, ry.up l2⟩⟩
def rngD (lo : Int) (n : Nat) : List D := (List.range n).map fun (i : Nat) => .int (lo + (i : Int))
theorem rng_get {lo : Int} {n i : Nat} (h : (rngD lo n)[i]? = some d) : i < n ∧ d = .int (lo + i) := by
  unfold rngD at h
  rw [List.getElem?_map] at h
  by_cases hi : i < n
  · rw [List.getElem?_range hi] at h
    cases h; exact ⟨hi, rfl⟩
  · rw [List.getElem?_eq_none (by simpa using hi)] at h; cases h
theorem rng_len {lo : Int} {n : Nat} : (rngD lo n).length = n := by simp [rngD]
theorem y_rng {K : PySem.W.Frag} {mg : Str → Option Value} {w : Wd} {lo : Int} {n : Nat} : Yields K mg (fun _ => True) w (Itr lo n) (rngD lo n) := fun E2 w2 s2 σ2 H2 i l2 r2 _ => ⟨fun hi => by rw [rng_len] at hi; exact hi, fun d hd => by
  obtain ⟨h1, rfl⟩ := rng_get hd
  exact ⟨h1, fun x H' ⟨e1, e2⟩ => by subst e1 e2; exact ⟨w2, Le.rfl, r2, .int _⟩⟩⟩
theorem eit_rng1 {n : Int} (hm : X.mg "range" = none) (ha : Ev X a s (.int n) s1) (h1 : -(2 ^ 62) ≤ n) (h2 : n < 2 ^ 62) (hg : Gl X "range" := by rfl) (hs : starEach [a] X.env = [(false, eval a X.env)] := by rfl) :
    Eit X tg (.Call (.Name "range" p) [a] [] pos) s (rngD 0 n.toNat) s1 (fun _ => True) := ⟨_, pi_range1 hg hm (pa_cons pe_sem pa_nil hs) hs, fun E w σ H r Rr k => ha E w σ H r _ fun v H' w' l r' q => by
  cases q
  exact ⟨n, rfl, h1, h2, k _ H' w' l r' y_rng⟩⟩
theorem eit_rng2 {m n : Int} (hm : X.mg "range" = none) (ha : Ea X [a, b] s [.int m, .int n] s1) (h : -(2 ^ 62) ≤ m ∧ m < 2 ^ 62 ∧ -(2 ^ 62) ≤ n ∧ n < 2 ^ 62) (hg : Gl X "range" := by rfl)
    (hs : starEach [a, b] X.env = [(false, eval a X.env), (false, eval b X.env)] := by rfl) (hs2 : starEach [b] X.env = [(false, eval b X.env)] := by rfl) :
    Eit X tg (.Call (.Name "range" p) [a, b] [] pos) s (rngD m (n - m).toNat) s1 (fun _ => True) := ⟨_, pi_range2 hg hm pa_sem hs hs2, fun E w σ H r Rr k => ha E w σ H r _ fun vs H' w' l r' q => by
  obtain ⟨v, u, rfl, q1, q2⟩ := q.two
  cases q1; cases q2
  exact ⟨m, n, rfl, h, k _ H' w' l r' y_rng⟩⟩
theorem eit_str {x : List Nat} (h : Ev X e s (.str x) s1) : Eit X tg e s (x.map fun c => .str [c]) s1 (fun _ => True) := ⟨_, pi_str pe_sem, fun E w σ H r Rr k => h E w σ H r _ fun v H' w' l r' q => by
  cases q
  refine ⟨_, rfl, k _ H' w' l r' fun E2 w2 s2 σ2 H2 i l2 r2 _ => ⟨fun hi => by rw [List.length_map] at hi; exact hi, fun d hd => ?_⟩⟩
  rw [List.getElem?_map] at hd
  cases hc : x[i]? with
  | none => rw [hc] at hd; cases hd
  | some c =>
    rw [hc] at hd; cases hd
    refine ⟨(List.getElem?_eq_some_iff.mp hc).1, fun y H' ⟨e1, c', e2, e3⟩ => ?_⟩
    subst e1 e3
    have e4 : x[i]? = some c' := by simpa using e2
    rw [hc] at e4; cases e4
    exact ⟨w2, Le.rfl, r2, .str [c]⟩⟩
def enumD (xs : List D) : List D := xs.mapIdx fun i d => .tup [.int (i : Int), d]
theorem eit_enum {elts : List Expr} {kk : Nat} {tpos : Pos} (hm : X.mg "enumerate" = none) (ha : Ev X e s (.lst xs) s1) (hg : Gl X "enumerate" := by rfl) (hs : starEach [e] X.env = [(false, eval e X.env)] := by rfl) :
    Eit X (.Tuple elts kk tpos) (.Call (.Name "enumerate" p) [e] [] pos) s (enumD xs) s1 (fun _ => True) := ⟨_, pi_enum hg hm (pa_cons pe_sem pa_nil hs) hs, fun E w σ H r Rr k => ha E w σ H r _ fun v H' w' l r' q => by
  cases q with
  | @lst q vs _ a b =>
    refine ⟨q, vs, rfl, Evl.ex_l r'.ex a, k _ H' w' l r' fun E2 w2 s2 σ2 H2 i l2 r2 _ => ⟨fun hi => ⟨vs, r2.sq l2 a, by rw [b.length]; simpa [enumD] using hi⟩, fun d hd => ?_⟩⟩
    unfold enumD at hd
    rw [List.getElem?_mapIdx] at hd
    cases hx : xs[i]? with
    | none => rw [hx] at hd; cases hd
    | some d0 =>
      rw [hx] at hd; cases hd
      obtain ⟨y, hy, ry⟩ := b.get hx
      refine ⟨⟨vs, y, r2.sq l2 a, hy⟩, fun x H' ⟨T, y', e1, hT, e2, f⟩ => ?_⟩
      subst e1 e2
      have e3 := f vs (r2.sq l2 a)
      rw [hy] at e3; cases e3
      obtain ⟨l3, r3⟩ := r2.known (o := .tup [.int (i : Int), y]) hT
      exact ⟨_, l3, r3, .tup (.inl (.inl upd_same)) (.cons (.int _) (.cons ((ry.up l2).up l3) .nil))⟩⟩
def zipD (xs ys : List D) : List D := List.zipWith (fun a b => .tup [a, b]) xs ys
theorem eit_zip {elts : List Expr} {kk : Nat} {tpos : Pos} (hm : X.mg "zip" = none) (ha : Ea X [e, e2] s [.lst xs, .lst ys] s1) (hg : Gl X "zip" := by rfl)
    (h : PI X (.Tuple elts kk tpos) (.Call (.Name "zip" p) [e, e2] [] pos) (iZip X.K (semA X [e, e2])) := by exact pi_zip (by rfl) (by assumption) pa_sem) :
    Eit X (.Tuple elts kk tpos) (.Call (.Name "zip" p) [e, e2] [] pos) s (zipD xs ys) s1 (fun _ => True) := ⟨_, h, fun E w σ H r Rr k => ha E w σ H r _ fun vs H' w' l r' q => by
  obtain ⟨v, u, rfl, q1, q2⟩ := q.two
  cases q1 with
  | @lst t1 vs _ a b => cases q2 with
    | @lst t2 vs' _ a' b' =>
      refine ⟨t1, t2, vs, vs', rfl, Evl.ex_l r'.ex a, Evl.ex_l r'.ex a', k _ H' w' l r' fun E2 w2 s2 σ2 H2 i l2 r2 _ => ⟨fun hi => ⟨vs, vs', r2.sq l2 a, r2.sq l2 a', ?_⟩, fun d hd => ?_⟩⟩
      · unfold zipD at hi
        rw [List.length_zipWith] at hi
        rw [b.length, b'.length]; omega
      · unfold zipD at hd
        rw [List.getElem?_zipWith] at hd
        cases hx : xs[i]? with
        | none => rw [hx] at hd; cases hd
        | some d0 => cases hy : ys[i]? with
          | none => rw [hx, hy] at hd; cases hd
          | some d1 =>
            rw [hx, hy] at hd; cases hd
            obtain ⟨y, hy1, ry⟩ := b.get hx
            obtain ⟨z, hz1, rz⟩ := b'.get hy
            refine ⟨⟨vs, vs', y, z, r2.sq l2 a, r2.sq l2 a', hy1, hz1⟩, fun x H' ⟨T, y', z', e1, hT, e2, f, f'⟩ => ?_⟩
            subst e1 e2
            have e3 := f vs (r2.sq l2 a)
            have e4 := f' vs' (r2.sq l2 a')
            rw [hy1] at e3; cases e3
            rw [hz1] at e4; cases e4
            obtain ⟨l3, r3⟩ := r2.known (o := .tup [y, z]) hT
            exact ⟨_, l3, r3, .tup (.inl (.inl upd_same)) (.cons ((ry.up l2).up l3) (.cons ((rz.up l2).up l3) .nil))⟩⟩
end

/-! ### loops -/
section
variable {X : Cx} {tg iter c : Expr} {pos : Pos} {s s1 : S} {items : List D} {P : Post} {body rest : List Stmt}
/-- the entry may be moved up to what is known now -/
theorem Rel.lift {K : PySem.W.Frag} {mg : Str → Option Value} {E : En} {w1 w : Wd} {s1 s : S} {σ1 σ : L2.St} {H1 H : Hp} (r1 : Rel K mg E w1 s1 σ1 H1) (r : Rel K mg E w s σ H) (l : Le w1 w) : Rel K mg ⟨E.H, w1⟩ w s σ H := by
  refine ⟨r.ex, r.nd, r.off, r.cl, r.sl, r.ow, l, fun p o h n => r.keep p o h fun z => n (r1.eL.mem z), fun p o h g n => r.away p o h ?_ fun z => n (r1.eL.mem z)⟩
  cases q : E.w.G p with
  | none => rfl
  | some u =>
    have g : w1.G p = none := g
    rw [r1.eL.1 p u q] at g; cases g
theorem Rel.drop {K : PySem.W.Frag} {mg : Str → Option Value} {E : En} {w1 w : Wd} {s1 s : S} {σ1 σ : L2.St} {H1 H : Hp} (r1 : Rel K mg E w1 s1 σ1 H1) (r : Rel K mg ⟨E.H, w1⟩ w s σ H) : Rel K mg E w s σ H := by
  have nas : ∀ p o, E.H p = some o → p ∉ E.w.as → p ∉ w1.as := fun p o h n => by
    cases q : E.w.G p with
    | none => exact (r1.away p o h q n).2
    | some u => intro z; have := r1.off p z; rw [r1.eL.1 p u q] at this; cases this
  exact ⟨r.ex, r.nd, r.off, r.cl, r.sl, r.ow, r1.eL.trans r.eL, fun p o h n => r.keep p o h (nas p o h n), fun p o h g n => r.away p o h (r1.away p o h g n).1 (nas p o h n)⟩
theorem ResOk.low {K : PySem.W.Frag} {mg : Str → Option Value} {E : En} {w1 w : Wd} {s : S} {σ : L2.St} {H : Hp} {v : V} {r : Res} (h : ResOk K mg ⟨E.H, w1⟩ w s σ H v r) : ResOk K mg E w s σ H v r := by
  cases r with
  | val d => exact h
  | exc c fs => exact h
  | new m =>
    obtain ⟨p, e, n⟩ := h
    exact ⟨p, e, n.ok, n.g, n.n, n.e, n.o⟩
theorem bk_for {g : TG} {js : List Nat} {gd : List MC → Prop} (hg : PG X tg g) (hi : Eit X tg iter s items s1 gd) (I : Nat → S → Prop) (h0 : I 0 s1)
    (hs : ∀ i d s', items[i]? = some d → I i s' → ∃ s2, TgT X.K X.mg js g d s' s2 ∧ Bk X body s2 { P with nx := I (i + 1), ct := I (i + 1), bk := fun s' => Bk X rest s' P })
    (hd : ∀ s', I items.length s' → Bk X rest s' P) (hok : ∀ i s', I i s' → gd s'.mu := by intros; trivial)
    (hp : PassesOwn (model X.prog X.w) X.A X.env X.xe := by exact passes_of rfl) (hc : X.calm = true := by rfl) (hf : ∀ x, foldedSetIterable iter X.env x = pure x := by intro _; rfl) : Bk X (.For tg iter body [] pos :: rest) s P := by
  obtain ⟨wi, pi, it⟩ := hi
  refine bk_cons (ps_for hp hc pi hg pss_sem hf) fun W tk E w σ H r D f => ?_
  refine it E w σ H r _ fun J H1 w1 l1 r1 y => ?_
  refine ⟨fun i m σ H => m = items.length - i ∧ i ≤ items.length ∧ ∃ s' w', I i s' ∧ Le w1 w' ∧ Rel X.K X.mg E w' s' σ H, ⟨_, rfl, Nat.zero_le _, s1, w1, h0, Le.rfl, r1⟩, ?_⟩
  rintro i m σ2 H2 ⟨rfl, hle, s', w', hI, l', r'⟩
  obtain ⟨y1, y2⟩ := y E w' s' σ2 H2 i l' r' (hok i s' hI)
  by_cases hlt : i < items.length
  · obtain ⟨go, yl⟩ := y2 items[i] (List.getElem?_eq_getElem hlt)
    refine .inr ⟨go, fun σ3 H3 => ∃ s3 w3, I (i + 1) s3 ∧ Le w1 w3 ∧ Rel X.K X.mg E w3 s3 σ3 H3, fun σ3 H3 ⟨s3, w3, h3, l3, r3⟩ => ⟨items.length - (i + 1), by omega, rfl, hlt, s3, w3, h3, l3, r3⟩, fun x H3 hy => ?_⟩
    obtain ⟨w3, l3, r3, q3⟩ := yl x H3 hy
    obtain ⟨s2, tt, bk⟩ := hs i _ s' (List.getElem?_eq_getElem hlt) hI
    refine tt E w3 σ2 H3 x r3 q3 _ fun σ4 _ hl4 r4 => ?_
    refine bk W tk ⟨E.H, w1⟩ w3 σ4 H3 (r1.lift r4 (l'.trans l3)) _ ⟨fun s5 w5 σ5 H5 h5 r5 => ⟨s5, w5, h5, r5.eL, r1.drop r5⟩, fun s5 w5 σ5 H5 h5 r5 => f.nx s5 w5 σ5 H5 h5 (r1.drop r5), fun s5 w5 σ5 H5 h5 r5 => ⟨s5, w5, h5, r5.eL, r1.drop r5⟩,
      fun rr s5 w5 σ5 H5 v h5 r5 ok => f.rt rr s5 w5 σ5 H5 v h5 (r1.drop r5) ok.low, fun c fs s5 w5 σ5 H5 C dd vs h5 r5 => f.xc c fs s5 w5 σ5 H5 C dd vs h5 (r1.drop r5)⟩
  · have e : i = items.length := by omega
    subst e
    exact .inl ⟨y1 (Nat.le_refl _), f.nx s' w' σ2 H2 (hd s' hI) r'⟩
/-- while, by a word over a measure -/
theorem bk_while (I : Nat → S → Prop) (m0 : Nat) (h0 : I m0 s)
    (hs : ∀ m s', I m s' → ∃ k s2, Tv X c s' k s2 ∧ (k = true → Bk X body s2 { P with nx := fun s'' => ∃ m', m' < m ∧ I m' s'', ct := fun s'' => ∃ m', m' < m ∧ I m' s'', bk := fun s' => Bk X rest s' P }) ∧ (k = false → Bk X rest s2 P))
    (hp : PassesOwn (model X.prog X.w) X.A X.env X.xe := by exact passes_of rfl) : Bk X (.While c body [] pos :: rest) s P := by
  refine bk_cons (ps_while hp pt_sem pss_sem) fun W tk E w σ H r D f => ?_
  refine ⟨fun m σ H => ∃ s' w', I m s' ∧ Rel X.K X.mg E w' s' σ H, ⟨m0, s, w, h0, r⟩, ?_⟩
  rintro m σ2 H2 ⟨s', w', hI, r'⟩
  obtain ⟨k, s2, tv, h1, h2⟩ := hs m s' hI
  refine tv E w' σ2 H2 r' _ fun H3 w3 l3 r3 => ?_
  cases k with
  | true =>
    refine iteT ⟨fun σ4 H4 => ∃ m', m' < m ∧ ∃ s4 w4, I m' s4 ∧ Rel X.K X.mg E w4 s4 σ4 H4, fun σ4 H4 q => q, ?_⟩
    exact h1 rfl W tk E w3 σ2 H3 r3 _ ⟨fun s5 w5 σ5 H5 ⟨m', hm, h5⟩ r5 => ⟨m', hm, s5, w5, h5, r5⟩, fun s5 w5 σ5 H5 h5 r5 => f.nx s5 w5 σ5 H5 h5 r5, fun s5 w5 σ5 H5 ⟨m', hm, h5⟩ r5 => ⟨m', hm, s5, w5, h5, r5⟩, f.rt, f.xc⟩
  | false => exact iteF (f.nx s2 w3 σ2 H3 (h2 rfl) r3)
end

/-! ### comprehensions -/
section
variable {K : PySem.W.Frag} {mg : Str → Option Value}
/-- an object beside the state is held -/
def En.hold (E : En) (p : Addr) (o : HO) : En := ⟨upd E.H p o, E.w⟩
theorem Rel.hold {E : En} {w : Wd} {s : S} {σ : L2.St} {H : Hp} {p : Addr} {o : HO} (r : Rel K mg E w s σ H) (h : H p = some o) (g : w.G p = none) (n : p ∉ w.as) (ho : ∀ (i : Nat) (m : MC), s.ls[i]? = some (.own m) → σ[i]? ≠ some (some (.ref p))) :
    Rel K mg (E.hold p o) w s σ H := by
  refine ⟨r.ex, r.nd, r.off, r.cl, Paired.mapI r.sl fun i x y hx hy q => ?_, r.ow, r.eL, fun a u e z => ?_, fun a u e g' z => ?_⟩
  · cases x with
    | no => trivial
    | val d => cases y with
      | none => exact q
      | some v => exact q
    | own m => cases y with
      | none => exact q
      | some v => cases v with
        | ref a =>
          obtain ⟨q1, q2, q3, q4⟩ := q
          have hne : a ≠ p := fun t => ho i m hx (by rw [hy, t])
          exact ⟨q1, q2, q3, by show upd E.H p o a = none; rw [upd_ne hne]; exact q4⟩
        | _ => exact q
  · by_cases t : a = p
    · subst t
      have e : upd E.H a o a = some u := e
      rw [upd_same] at e; cases e; exact h
    · have e : upd E.H p o a = some u := e
      rw [upd_ne t] at e; exact r.keep a u e z
  · by_cases t : a = p
    · subst t; exact ⟨g, n⟩
    · have e : upd E.H p o a = some u := e
      rw [upd_ne t] at e; exact r.away a u e g' z
theorem Rel.unhold {E : En} {w : Wd} {s : S} {σ : L2.St} {H : Hp} {p : Addr} {o : HO} (h0 : E.H p = none) (r : Rel K mg (E.hold p o) w s σ H) : Rel K mg E w s σ H := by
  have up : ∀ a u, E.H a = some u → upd E.H p o a = some u := fun a u e => by rw [upd_ne (ne_of_none e h0)]; exact e
  refine ⟨r.ex, r.nd, r.off, r.cl, Paired.mapI r.sl fun i x y hx hy q => ?_, r.ow, r.eL, fun a u e z => r.keep a u (up a u e) z, fun a u e g z => r.away a u (up a u e) g z⟩
  cases x with
  | no => trivial
  | val d => cases y with
    | none => exact q
    | some v => exact q
  | own m => cases y with
    | none => exact q
    | some v => cases v with
      | ref a =>
        obtain ⟨q1, q2, q3, q4⟩ := q
        refine ⟨q1, q2, q3, ?_⟩
        have q4 : upd E.H p o a = none := q4
        cases t : E.H a with
        | none => rfl
        | some u => rw [up a u t] at q4; cases q4
      | _ => exact q
theorem Rel.held {E : En} {w : Wd} {s : S} {σ : L2.St} {H : Hp} {p : Addr} {o : HO} (h0 : E.w.G p = none) (n0 : p ∉ E.w.as) (r : Rel K mg (E.hold p o) w s σ H) :
    H p = some o ∧ w.G p = none ∧ p ∉ w.as ∧ ∀ (i : Nat) (m : MC), s.ls[i]? = some (.own m) → σ[i]? ≠ some (some (.ref p)) := by
  have e : (E.hold p o).H p = some o := upd_same
  obtain ⟨a, b⟩ := r.away p o e h0 n0
  refine ⟨r.keep p o e n0, a, b, fun i m hi e' => ?_⟩
  obtain ⟨q, e1, _, _, _, e4⟩ := r.own_at hi
  rw [e'] at e1; cases e1
  rw [e] at e4; cases e4
end
end Y
namespace Y
open PySem.Spec PySem PyProof.Rows L2
def wipeL (ls : List SD) : List Nat → List SD
  | [] => ls
  | v :: r => (wipeL ls r).set v .no
section
variable {K : PySem.W.Frag} {mg : Str → Option Value} {E : En} {w : Wd} {s : S} {σ : L2.St} {H : Hp}
theorem Rel.clr (r : Rel K mg E w s σ H) (i : Nat) : Rel K mg E w (s.setn i) (σ.set i none) H := by
  have r0 := r.setNo i
  have hl : s.ls.length = σ.length := Paired.len r.sl
  refine ⟨r0.ex, r0.nd, r0.off, r0.cl, ?_, fun a b m n h1 h2 h3 => ?_, r0.eL, r0.keep, r0.away⟩
  · have := Paired.setP (show SlotOk K mg E w H .no none from trivial) i r0.sl
    have e : (s.setn i).ls.set i .no = (s.setn i).ls := by
      show (s.ls.set i .no).set i .no = _
      rw [List.set_set]; rfl
    rwa [e] at this
  · have f : ∀ (a : Nat) (m : MC), (s.setn i).ls[a]? = some (.own m) → a ≠ i := fun a m h e => by
      subst e
      have h : (s.ls.set a .no)[a]? = some (.own m) := h
      by_cases l : a < s.ls.length
      · rw [List.getElem?_set_self l] at h; cases h
      · rw [List.getElem?_eq_none (by simpa using l)] at h; cases h
    have n1 := f a m h1
    have n2 := f b n h2
    rw [List.getElem?_set_ne (Ne.symm n1), List.getElem?_set_ne (Ne.symm n2)] at h3
    exact r0.ow a b m n h1 h2 h3
theorem Rel.wipe (r : Rel K mg E w s σ H) : ∀ vs : List Nat, Rel K mg E w ⟨wipeL s.ls vs, s.mu⟩ (L2.wipe σ vs) H
  | [] => r
  | v :: vs => (Rel.wipe r vs).clr v
theorem wipe_get {σ : L2.St} {i : Nat} : ∀ {vs : List Nat}, i ∈ vs → i < σ.length → (L2.wipe σ vs)[i]? = some none
  | [], h, _ => by cases h
  | v :: vs, h, hl => by
    show ((L2.wipe σ vs).set v none)[i]? = _
    by_cases e : v = i
    · subst e; rw [List.getElem?_set_self (by rw [wipe_length]; exact hl)]
    · rw [List.getElem?_set_ne e]
      rcases List.mem_cons.mp h with z | z
      · exact absurd z.symm e
      · exact wipe_get z hl
theorem wipe_same {σ σ' : L2.St} {vs js : List Nat} (hl : σ'.length = σ.length) (hs : ∀ k, k ∉ js → σ'[k]? = σ[k]?) (hj : ∀ j ∈ js, j ∈ vs) : L2.wipe σ' vs = L2.wipe σ vs := by
  apply List.ext_getElem?
  intro i
  by_cases hi : i ∈ vs
  · by_cases h : i < σ.length
    · rw [wipe_get hi h, wipe_get hi (by rw [hl]; exact h)]
    · rw [List.getElem?_eq_none (by rw [wipe_length]; omega), List.getElem?_eq_none (by rw [wipe_length]; omega)]
  · rw [wipe_out hi, wipe_out hi]
    exact hs i fun z => hi (hj i z)
theorem wipe_wipe {σ : L2.St} {vs : List Nat} : L2.wipe (L2.wipe σ vs) vs = L2.wipe σ vs := by
  apply List.ext_getElem?
  intro i
  by_cases hi : i ∈ vs
  · by_cases h : i < σ.length
    · rw [wipe_get hi (by rw [wipe_length]; exact h), wipe_get hi h]
    · rw [List.getElem?_eq_none (by rw [wipe_length, wipe_length]; omega), List.getElem?_eq_none (by rw [wipe_length]; omega)]
  · rw [wipe_out hi]
end
/-- in a comprehension's block, whatever its frame -/
def semB (X : Cx) (scope : Scope) (e : Expr) : TE := fun σ H Q => ∀ (s0 : Shared) (H0 : Hp) (C : Addr) (cl : List (Str × Addr)) (fp : List Addr), semE (X.blk s0 H0 scope (compEnvC scope cl C X.env) fp) e σ H Q
def semTB (X : Cx) (scope : Scope) (e : Expr) : TT := fun σ H Q => ∀ (s0 : Shared) (H0 : Hp) (C : Addr) (cl : List (Str × Addr)) (fp : List Addr), semT (X.blk s0 H0 scope (compEnvC scope cl C X.env) fp) e σ H Q
section
variable {X : Cx} {tg iter elt : Expr} {ifs : List Expr} {scope : Scope} {pos : Pos} {s s1 : S} {items : List D} {own : List (Str × Nat)}
theorem evB {d : D} {s' : S} (h : ∀ (s0 : Shared) (H0 : Hp) (C : Addr) (cl : List (Str × Addr)) (fp : List Addr), Ev (X.blk s0 H0 scope (compEnvC scope cl C X.env) fp) elt s d s') : EvT X.K X.mg (semB X scope elt) s d s' :=
  fun E w σ H r Q k s0 H0 C cl fp => h s0 H0 C cl fp E w σ H r Q k
theorem ecB {m : MC} {s' : S} (h : ∀ (s0 : Shared) (H0 : Hp) (C : Addr) (cl : List (Str × Addr)) (fp : List Addr), Ec (X.blk s0 H0 scope (compEnvC scope cl C X.env) fp) elt s m s') : EvC X.K X.mg (semB X scope elt) s m s' :=
  fun E w σ H r Q k s0 H0 C cl fp => h s0 H0 C cl fp E w σ H r Q k
theorem tvB {k : Bool} {s' : S} (h : ∀ (s0 : Shared) (H0 : Hp) (C : Addr) (cl : List (Str × Addr)) (fp : List Addr), Tv (X.blk s0 H0 scope (compEnvC scope cl C X.env) fp) elt s k s') : TvT X.K X.mg (semTB X scope elt) s k s' :=
  fun E w σ H r Q q s0 H0 C cl fp => h s0 H0 C cl fp E w σ H r Q q
theorem tv_yes {K : PySem.W.Frag} {mg : Str → Option Value} : TvT K mg tYes s true s := fun E w σ H r Q k => k H w Le.rfl r
theorem wipeL_get {ls : List SD} {i : Nat} : ∀ {vs : List Nat}, i ∉ vs → (wipeL ls vs)[i]? = ls[i]?
  | [], _ => rfl
  | v :: vs, h => by
    show ((wipeL ls vs).set v .no)[i]? = _
    rw [List.getElem?_set_ne (fun e => h (by rw [e]; exact List.mem_cons_self))]
    exact wipeL_get fun z => h (List.mem_cons_of_mem _ z)
theorem wipeL_in {ls : List SD} {i : Nat} {m : MC} : ∀ {vs : List Nat}, (wipeL ls vs)[i]? = some (.own m) → i ∉ vs
  | [], _ => by simp
  | v :: vs, h => by
    have h : ((wipeL ls vs).set v .no)[i]? = some (.own m) := h
    by_cases e : v = i
    · subst e
      by_cases l : v < (wipeL ls vs).length
      · rw [List.getElem?_set_self l] at h; cases h
      · rw [List.getElem?_eq_none (by simpa using l)] at h; cases h
    · rw [List.getElem?_set_ne e] at h
      intro z
      rcases List.mem_cons.mp z with z | z
      · exact e z.symm
      · exact wipeL_in h z
/-- back to the slots of the def -/
theorem Rel.unwipe {K : PySem.W.Frag} {mg : Str → Option Value} {E E' : En} {w1 w : Wd} {σ : L2.St} {H1 H : Hp} {vs : List Nat} {mu : List MC} (r1 : Rel K mg E w1 s1 σ H1) (l : Le w1 w) (hv : ∀ v ∈ vs, ∀ m, s1.ls[v]? ≠ some (.own m))
    (r : Rel K mg E' w ⟨wipeL s1.ls vs, mu⟩ (L2.wipe σ vs) H) : Rel K mg E' w ⟨s1.ls, mu⟩ σ H := by
  have own : ∀ (i : Nat) (m : MC), s1.ls[i]? = some (.own m) → (wipeL s1.ls vs)[i]? = some (.own m) ∧ (L2.wipe σ vs)[i]? = σ[i]? := fun i m h => by
    have n : i ∉ vs := fun z => hv i z m h
    exact ⟨(wipeL_get n).trans h, wipe_out n⟩
  refine ⟨r.ex, r.nd, r.off, r.cl, Paired.mapI r1.sl fun i x y hx hy q => ?_, fun a b m n h1 h2 h3 => ?_, r.eL, r.keep, r.away⟩
  · cases x with
    | no => trivial
    | val d => cases y with
      | none => exact q
      | some v => exact R.up l q
    | own m =>
      obtain ⟨e1, e2⟩ := own i m hx
      obtain ⟨p, e3, q'⟩ := r.own_at e1
      have e3 : (L2.wipe σ vs)[i]? = some (some (.ref p)) := e3
      rw [e2, hy] at e3; cases e3
      exact q'
  · obtain ⟨a1, a2⟩ := own a m h1
    obtain ⟨b1, b2⟩ := own b n h2
    exact r.ow a b m n a1 b1 (by rw [a2, b2]; exact h3)
/-- a comprehension's turns -/
theorem lc_rd {g : TG} {js : List Nat} {tt : TT} {te : TE} {wi : TI} {vs : List Nat} {K : PySem.W.Frag} {mg : Str → Option Value} {gd : List MC → Prop} (it : ItT K mg gd wi s items s1) (f : Nat → List MC) (out : Nat → List D) (f0 : f 0 = s1.mu) (o0 : out 0 = []) (hj : ∀ j ∈ js, j ∈ vs)
    (hv : ∀ v ∈ vs, ∀ m, s1.ls[v]? ≠ some (.own m)) (hz : ∀ i, i < items.length → (out i).length < 16777216)
    (ht : ∀ i d, items[i]? = some d → ∃ s2 s3 k, TgT K mg js g d ⟨wipeL s1.ls vs, f i⟩ s2 ∧ TvT K mg tt s2 k s3 ∧
      (k = true → ∃ d' s4, EvT K mg te s3 d' s4 ∧ s4.mu = f (i + 1) ∧ wipeL s4.ls vs = wipeL s1.ls vs ∧ out (i + 1) = out i ++ [d']) ∧
      (k = false → s3.mu = f (i + 1) ∧ wipeL s3.ls vs = wipeL s1.ls vs ∧ out (i + 1) = out i)) (hok : ∀ i, i ≤ items.length → gd (f i)) :
    EvC K mg (tLc wi g tt te vs) s (.lst (out items.length)) ⟨s1.ls, f items.length⟩ := by
  intro E w σ H rl Q k2
  refine it E w σ H rl _ fun J H1 w1 l1 r1 y => ?_
  intro L hL
  have eL0 : E.H L = none := r1.en_none hL fun z => r1.none_as hL (r1.eL.mem z)
  have r1' := r1.add (o := .lst []) hL
  have nG : w1.G L = none := r1.none_G hL
  have nA : L ∉ w1.as := r1.none_as hL
  have EG : E.w.G L = none := by
    cases q : E.w.G L with
    | none => rfl
    | some u => rw [r1.eL.1 L u q] at nG; cases nG
  have EA : L ∉ E.w.as := fun z => nA (r1.eL.mem z)
  have nO : ∀ (i : Nat) (m : MC), s1.ls[i]? = some (.own m) → σ[i]? ≠ some (some (.ref L)) := fun i m hi e => by
    obtain ⟨a, e1, c1, _⟩ := r1.own_at hi
    rw [e] at e1; cases e1
    obtain ⟨o', e2⟩ := c1.there
    rw [hL] at e2; cases e2
  -- what a turn finds: the state, the list so far held
  let Pv : Nat → Hp → Prop := fun i H' => ∃ acc w', Rel K mg (E.hold L (.lst acc)) w' ⟨wipeL s1.ls vs, f i⟩ (L2.wipe σ vs) H' ∧ Le w1 w' ∧ Rs K mg w' acc (out i)
  refine ⟨fun i m H' => m = items.length - i ∧ i ≤ items.length ∧ Pv i H', ⟨_, rfl, Nat.zero_le _, [], w1, ?_, Le.rfl, by rw [o0]; exact .nil⟩, ?_⟩
  · rw [f0]; exact (r1'.hold upd_same nG nA nO).wipe vs
  rintro i m H' ⟨rfl, hle, acc, w', r', l', hacc⟩
  obtain ⟨y1, y2⟩ := y _ w' _ _ H' i l' r' (hok i hle)
  by_cases hlt : i < items.length
  · obtain ⟨go, yl⟩ := y2 items[i] (List.getElem?_eq_getElem hlt)
    refine .inr ⟨go, Pv (i + 1), fun H4 p4 => ⟨items.length - (i + 1), by omega, rfl, hlt, p4⟩, fun x H3 hy => ?_⟩
    obtain ⟨w3, l3, r3, q3⟩ := yl x H3 hy
    obtain ⟨s2, s3, k, tg2, tv, hy1, hn1⟩ := ht i _ (List.getElem?_eq_getElem hlt)
    refine tg2 _ w3 _ H3 x r3 q3 _ fun σ4 t4 l4 r4 => ?_
    have ew : L2.wipe σ4 vs = L2.wipe σ vs := (wipe_same l4 t4 hj).trans wipe_wipe
    refine ⟨ew, tv _ w3 σ4 H3 r4 _ fun H5 w5 l5 r5 => ?_⟩
    -- back to the block's slots
    have back : ∀ {s' : S} {w' : Wd} {H' : Hp} {E' : En}, Rel K mg E' w' s' σ4 H' → wipeL s'.ls vs = wipeL s1.ls vs → Rel K mg E' w' ⟨wipeL s1.ls vs, s'.mu⟩ (L2.wipe σ vs) H' := fun {s' w' H' E'} r e => by
      have := r.wipe vs
      rw [ew, e] at this; exact this
    cases k with
    | false =>
      obtain ⟨e1, e2, e3⟩ := hn1 rfl
      refine iteF ⟨acc, w5, ?_, (l'.trans l3).trans l5, ?_⟩
      · have := back r5 e2
        rw [e1] at this; exact this
      · rw [e3]; exact hacc.up (l3.trans l5)
    | true =>
      obtain ⟨d', s4, ev, e1, e2, e3⟩ := hy1 rfl
      refine iteT (ev _ w5 σ4 H5 r5 _ fun v H6 w6 l6 r6 q6 => ?_)
      have r7 := back r6 e2
      rw [e1] at r7
      obtain ⟨h1, h2, h3, h4⟩ := r7.held EG EA
      have r8 := r7.unhold eL0
      refine ⟨acc, h1, by rw [sizeLine_eq, hacc.length]; exact hz i hlt, acc ++ [v], w6, ?_, ((l'.trans l3).trans l5).trans l6, ?_⟩
      · -- the list is longer by one
        have n6 : New K mg E w6 ⟨wipeL s1.ls vs, f (i + 1)⟩ (L2.wipe σ vs) H6 L (.lst (out i)) := ⟨⟨acc, h1, hacc.up ((l3.trans l5).trans l6)⟩, h2, h3, eL0, h4⟩
        have k6 : ∀ a u, a ≠ L → H6 a = some u → upd H6 L (.lst (acc ++ [v])) a = some u := fun a u z e => by rw [upd_ne z]; exact e
        have r9 : Rel K mg E w6 ⟨wipeL s1.ls vs, f (i + 1)⟩ (L2.wipe σ vs) (upd H6 L (.lst (acc ++ [v]))) := by
          refine ⟨fun a u e => k6 a u (fun z => by rw [z, h2] at e; cases e) (r8.ex a u e), r8.nd, r8.off, Paired.mapI r8.cl fun j a m ha _ c => CellOk.up K mg Le.rfl (fun u e => k6 a u (fun z => h3 (by rw [← z]; exact List.mem_of_getElem? ha)) e) c,
            Paired.mapI r8.sl fun j x y hx hy q => ?_, r8.ow, r8.eL, fun a u e z => k6 a u (fun t => by rw [t, eL0] at e; cases e) (r8.keep a u e z), r8.away⟩
          cases x with
          | no => trivial
          | val d => cases y with
            | none => exact q
            | some v => exact q
          | own m => cases y with
            | none => exact q
            | some v => cases v with
              | ref a =>
                obtain ⟨q1, q2, q3, q4⟩ := q
                exact ⟨CellOk.up K mg Le.rfl (fun u e => k6 a u (fun t => h4 j m hx (by rw [hy, t])) e) q1, q2, q3, q4⟩
              | _ => exact q
        exact r9.hold upd_same h2 h3 h4
      · rw [e3]; exact (hacc.up ((l3.trans l5).trans l6)).append (.cons q6 .nil)
  · have e : i = items.length := by omega
    subst e
    refine .inl ⟨y1 (Nat.le_refl _), ?_⟩
    have r9 := r1.unwipe l' hv r'
    obtain ⟨h1, h2, h3, h4⟩ := r9.held EG EA
    exact k2 L H' w' (l1.trans l') (r9.unhold eL0) ⟨⟨acc, h1, hacc⟩, h2, h3, eL0, h4⟩

end
end Y
namespace Y
open PySem.Spec PySem PyProof.Rows L2
/-- a law that keeps its word is called with a script -/
theorem law_end {P : Program} {wd : World} {K : PySem.W.Frag} {mg mq : Str → Option Value} {k : Nat} {fa sc : Addr} {S1 : Shared} {us : List Value} {ns : List Int} {φ : Sc} {mu' : List MC}
    (KX : K.In S1.heap) (g1 : S1.heap.Ns mainGlobals mg) (g2 : S1.heap.Ns builtinsNs mq) (g3 : ∀ x : Str, x ≠ "__name__" → mq x = bootBuiltins x) (g4 : S1.heap.NoLimit) (g5 : S1.gens = #[])
    (hs : S1.heap.get? sc = some { cls := .type "list", data := .seq us.toArray }) (hi : IntsAre us ns) (hl : ns.length ≤ sizeLine) (rm : Rm k callerA)
    (F : ∀ base : Heap, FnG P wd K mg base k fa φ) (hφ : φ [.lst (ns.map .int)] [] (.val (.bl true)) mu') :
    codeAny (model P wd) callerA (.call (.ref fa) ⟨[.ref sc], []⟩) (fun r s' => r = .ok (.ret (.bool true)) ∧ OldK S1.heap s'.heap ∧ s'.os = S1.os ∧ AllBare s'.gens) S1 := by
  have rv := vals_ints hi
  have lv := hi.length
  have main : ∀ G : Hp, Only G → SqL K G sc (ns.map V.int) → HOk P wd G S1.heap → (∀ b, G b ≠ none → b = sc) → (G sc ≠ none → K.lookup sc = none) →
      codeAny (model P wd) callerA (.call (.ref fa) ⟨[.ref sc], []⟩) (fun r s' => r = .ok (.ret (.bool true)) ∧ OldK S1.heap s'.heap ∧ s'.os = S1.os ∧ AllBare s'.gens) S1 := by
    intro G oG sG okG oneG kG
    have put : ∀ {b : Addr} {o : Obj}, S1.heap.get? b = some o → G b = none → (hidT S1.heap G).get? b = some o := fun e n => hidT_get e n
    have ndic : ∀ {b : Addr} {o : Obj} {es : Array DictEntry} {ep : Nat}, S1.heap.get? b = some o → o.data = .dict es ep → G b = none := fun {b o es ep} e d => by
      cases q : G b with
      | none => rfl
      | some u =>
        obtain rfl : b = sc := oneG b (by simp [q])
        rw [hs] at e
        cases e
        exact absurd (show Data.seq us.toArray _ = Data.dict es ep from d) (by simp)
    have ns' : ∀ {b : Addr} {m : Str → Option Value}, S1.heap.Ns b m → (hidT S1.heap G).Ns b m := by
      rintro b m ⟨o, es, ep, e, d, r⟩
      exact ⟨o, es, ep, put e (ndic e d), d, r⟩
    have inK : K.In (hidT S1.heap G) := fun b o e => put (KX b o e) (by
      cases q : G b with
      | none => rfl
      | some u =>
        obtain rfl : b = sc := oneG b (by simp [q])
        have z := kG (by simp [q])
        rw [z] at e
        cases e)
    have md : Mod K mg (hidT S1.heap G) := ⟨inK, ns' g1, ⟨mq, ns' g2, g3⟩, (let ⟨mc, h1, h2⟩ := g4; ⟨mc, ns' h1, h2⟩)⟩
    have env : Env0 P wd K mg (hidT S1.heap G) callerA [] S1 G := ⟨rfl, md, fun b o e => of_hidT e, Nat.le_of_eq (hidT_size _ _), trivial, fun b hb => (nomatch (show b ∈ ([] : List Addr) from hb)), okG, .of_eq g5⟩
    have sp : spOf K mg φ [.ref sc] G (fun v _ => v = .bl true) (fun _ _ _ => False) :=
      ⟨⟨G, []⟩, _, [], _, mu', ⟨fun _ _ h => h, List.nodup_nil, fun _ h => (nomatch h), .nil⟩, .cons (.lst sG Rs.ofInts) .nil, hφ, fun v H' w' _ _ r => R.isBl r, fun _ _ _ _ _ _ _ e => (nomatch e)⟩
    refine codeAny_mono ((F _).run callerA [] S1 G [.ref sc] [.ref sc] _ _ rm env (.cons rfl .nil) sp) fun r s' h => ?_
    rcases r with e | fl
    · obtain ⟨_, _, _, _, _, _, _, _, _, _, _, _, hf⟩ := h
      exact hf.elim
    · cases fl with
      | ret u =>
        obtain ⟨v, G', os, bare, un, okG', r', q⟩ := h
        obtain rfl : v = .bl true := q
        obtain rfl : u = Value.bool true := r'
        refine ⟨rfl, OldK.of_keep fun b o e => ?_, os, bare⟩
        cases q : G b with
        | none => exact un.keep b o e q (fun z => (nomatch (show b ∈ ([] : List Addr) from z))) (by simp)
        | some u =>
          rcases oG b with z | ⟨ob, xs, z⟩
          · simp [z] at q
          · obtain ⟨e1, _⟩ := okG b _ z
            obtain ⟨e2, _⟩ := okG' b _ (un.frzs b ob _ z)
            rw [e] at e1
            cases e1
            exact e2
      | _ => exact h.elim
  cases hk : K.lookup sc with
  | some o =>
    have e := KX sc o hk
    rw [hs] at e
    cases e
    exact main (fun _ => none) (fun _ => .inl rfl) (.inr ⟨_, us.toArray, _, hk, rfl, rfl, rfl, by rw [List.size_toArray, lv]; exact hl, by simpa using rv⟩) (fun b u z => (nomatch (show (none : Option HO) = some u from z))) (fun b z => absurd rfl z) (fun z => absurd rfl z)
  | none =>
    refine main (fun b => if b = sc then some (.frz { cls := .type "list", data := .seq us.toArray } (.lst (ns.map V.int))) else none) (fun b => ?_) (.inl (.inr ⟨_, if_pos rfl⟩)) (fun b u z => ?_) (fun b z => ?_) (fun _ => hk)
    · by_cases t : b = sc
      · exact .inr ⟨_, _, if_pos t⟩
      · exact .inl (if_neg t)
    · by_cases t : b = sc
      · subst t
        have z2 := (if_pos rfl).symm.trans z
        cases z2
        exact ⟨hs, by rw [List.length_map]; exact hl, us, _, rv, hs⟩
      · exact nomatch (if_neg t).symm.trans z
    · by_cases t : b = sc
      · exact t
      · exact absurd (if_neg t) z
theorem law_walk {l : PySem.W.OpenLaw} {n k : Nat} {q : Program} {loose : List Str} {XP : (Str → Option Value) → Heap → Prop} {YP : World → Heap → Prop} {d : DefRec} {φ : Sc}
    (hn : l.most = some n) (hn2 : n ≤ sizeLine) (hdf : d.params.defaults = []) (rm : Rm k callerA)
    (F : ∀ (w : World) (mg : Str → Option Value) (fa : Addr) (h : Heap), YP w h → h.Ns mainGlobals mg → mg d.name = some (.ref fa) → ∃ K : PySem.W.Frag, K.In h ∧ ∀ base : Heap, FnG l.prog w K mg base k fa φ)
    (hφ : ∀ ns : List Int, ns.length ≤ n → ∃ mu', φ [.lst (ns.map .int)] [] (.val (.bl true)) mu') :
    PySem.W.WalkO q loose XP YP l.row.toRowW d [] (fun f vs => PySem.call f vs) := by
  refine Att.attach_call hn hdf fun w s₀ s₁ mg mb fa o pm cd doc a vs ns G Y' ho hd hcd hmg hobj hints hlen hg => ?_
  obtain ⟨K, KX, hF⟩ := F w mg fa _ Y' G.T.g hmg
  obtain ⟨mu', h⟩ := hφ ns hlen
  exact law_end KX G.T.g G.T.b G.T.builtins G.T.nolimit hg hobj hints (Nat.le_trans hlen hn2) rm hF h

/-! ### facts by names -/
structure Fx (fa : List He.Fa) (fn : List He.DefD) (K : PySem.W.Frag) (mg : Str → Option Value) : Prop where
  h : ∃ h : Heap, K.In h ∧ h.Ns mainGlobals mg
  c : He.SaysD fa fn K
section
variable {fa : List He.Fa} {fn : List He.DefD} {K : PySem.W.Frag} {mg : Str → Option Value} {x y : Str} {P : Program} {wd : World} {base : Heap} {A : Around} {φ : Sc} {j k : Nat}
theorem Fx.glo (F : Fx fa fn K mg) (i : Nat) (e : fa[i]? = some (.glo x) := by rfl) : mg x = some (.ref (He.ga K x)) := (let ⟨_, a, b⟩ := F.h; He.glo_ok a b (F.c.fact i e))
theorem Fx.free (F : Fx fa fn K mg) (i : Nat) (e : fa[i]? = some (.free x) := by rfl) : mg x = none := (let ⟨_, a, b⟩ := F.h; He.free_ok a b (F.c.fact i e))
theorem Fx.int (F : Fx fa fn K mg) {n : Int} (i : Nat) (e : fa[i]? = some (.int x n) := by rfl) : ∃ t, mg x = some (.int n t) := (let ⟨_, a, b⟩ := F.h; He.int_ok a b (F.c.fact i e))
theorem Fx.str (F : Fx fa fn K mg) (i : Nat) (e : fa[i]? = some (.str x y) := by rfl) : ∃ t, mg x = some (.str y t) := (let ⟨_, a, b⟩ := F.h; He.str_ok a b (F.c.fact i e))
theorem Fx.cls (F : Fx fa fn K mg) (i i2 : Nat) (e : fa[i]? = some (.glo x) := by rfl) (e2 : fa[i2]? = some (.cls x) := by rfl) : ClsF K mg x := ⟨_, F.glo i e, He.cls_ok (F.c.fact i2 e2)⟩
theorem Fx.noat (F : Fx fa fn K mg) (i i2 : Nat) (e : fa[i]? = some (.glo x) := by rfl) (e2 : fa[i2]? = some (.noat x y) := by rfl) : NoF K mg x y := ⟨_, F.glo i e, He.noat_ok (F.c.fact i2 e2)⟩
/-- a def's datum -/
abbrev Dd (a : Str × Option Str) (n q : Str) (s : Stmt) : He.DefD := ⟨a, n, q, defArgs s, defBody s, defScope s, [], []⟩
theorem Fx.def_ (F : Fx fa fn K mg) (i : Nat) {a : Str × Option Str} {n q : Str} {s : Stmt} (e : fn[i]? = some (Dd a n q s) := by rfl) : ∃ fd, FunD K n q (defArgs s) (defBody s) (defScope s) [] [] (He.fAd K a) fd := F.c.def_ i (d := Dd a n q s) e
theorem Fx.cal (F : Fx fa fn K mg) (g : FnG P wd K mg base j (He.fAd K (x, none)) φ) (rm : Rm k A) (le : j ≤ k) (i i2 : Nat) {n q : Str} {s : Stmt} (e : fa[i]? = some (.glo x)) (e2 : fn[i2]? = some (Dd (x, none) n q s)) : Cal P wd K mg base A x φ := by
  obtain ⟨fd, fD⟩ := F.def_ i2 e2
  exact ⟨_, j, F.glo i e, fD.kp, rm.mono le, g⟩
theorem Fx.mth (F : Fx fa fn K mg) (g : FnG P wd K mg base j (He.fAd K (x, some y)) φ) (rm : Rm k A) (le : j ≤ k) (i i2 i3 : Nat) (e : fa[i]? = some (.glo x)) (e2 : fa[i2]? = some (.cls x)) (e3 : fa[i3]? = some (.meth x y)) : MthG P wd K mg base A x y φ :=
  ⟨_, _, j, F.glo i e, He.cls_ok (F.c.fact i2 e2), He.meth_ok (F.c.fact i3 e3), rm.mono le, g⟩
theorem Fx.mak (F : Fx fa fn K mg) (g : FnG P wd K mg base j (He.fAd K (x, some "__init__")) φ) (rm : Rm k A) (le : j + 1 ≤ k) (i i2 : Nat) (e : fa[i]? = some (.glo x)) (e2 : fa[i2]? = some (.mkr x)) : MakG P wd K mg base A x φ :=
  ⟨_, _, j, F.glo i e, He.mkr_ok (F.c.fact i2 e2), rm.mono le, g⟩
end
/-- an if whose ways meet -/
theorem bk_ifj {X : Cx} {pos : Pos} {s s1 : S} {P : Post} {rest body orelse : List Stmt} {c : Expr} {k : Bool} (J : S → Prop) (hc : Tv X c s k s1) (h1 : k = true → Bk X body s1 { P with nx := J }) (h2 : k = false → Bk X orelse s1 { P with nx := J }) (h3 : ∀ s', J s' → Bk X rest s' P) : Bk X (.If c body orelse pos :: rest) s P :=
  bk_if hc (fun e => bk_mono (h1 e) (fun s' q => h3 s' q) (fun _ _ q => q) (fun _ q => q) (fun _ q => q) (fun _ _ _ q => q)) (fun e => bk_mono (h2 e) (fun s' q => h3 s' q) (fun _ _ q => q) (fun _ q => q) (fun _ q => q) (fun _ _ _ q => q))
end Y
namespace Y
open PySem.Spec PySem PyProof.Rows L2
theorem log2_lt {n : Nat} (h : n < 2 ^ 64) : n.log2 < 9000 := by
  by_cases z : n = 0
  · subst z; decide
  · have := (Nat.log2_lt z).mpr h
    omega
theorem cdivw {i j : Int} (h : 0 < j) (h2 : j < 2 ^ 64) : CDivW i j := ⟨h, log2_lt (by omega)⟩
section
variable {X : Cx} {pos : Pos} {s s0 s1 s2 s3 : S} {d d1 d2 : D} {ds : List D} {e a b : Expr} {P : Post} {rest : List Stmt} {m : MC}
/-! ### targets -/
theorem pgn (hN : X.N.Nodup) {x : Str} (i : Nat) (hi : X.N[i]? = some x) (hx : Loc X.env.scope x := by first | exact Or.inl rfl | exact Or.inr rfl) (hf : X.fn x = true ∨ X.env.scope.names.lookup x = some .local := by first | exact .inl rfl | exact .inr rfl) : PG X (.Name x pos) (gName i) := pg_name hN hi hx hf
theorem pgtwo {k : Nat} {t u : TG} (h1 : PG X a t) (h2 : PG X b u) (hc : X.calm = true := by rfl) (hs : (assignEach [a, b] X.env).map (·.2) = assign a X.env :: (assignEach [b] X.env).map (·.2) := by rfl) (hs2 : (assignEach [b] X.env).map (·.2) = assign b X.env :: (assignEach [] X.env).map (·.2) := by rfl)
    (hn : (assignEach [a, b] X.env).length = 2 := by rfl) (hst : (assignEach [a, b] X.env).findIdx? (·.1) = none := by rfl) : PG X (.Tuple [a, b] k pos) (gTup X.K 2 (gCons t (gCons u gNil))) := pg_tup hc (pgs_cons h1 (pgs_cons h2 pgs_nil hs2) hs) hn hst
theorem pgthree {c : Expr} {k : Nat} {t u v : TG} (h1 : PG X a t) (h2 : PG X b u) (h3 : PG X c v) (hc : X.calm = true := by rfl) (hs : (assignEach [a, b, c] X.env).map (·.2) = assign a X.env :: (assignEach [b, c] X.env).map (·.2) := by rfl) (hs2 : (assignEach [b, c] X.env).map (·.2) = assign b X.env :: (assignEach [c] X.env).map (·.2) := by rfl)
    (hs3 : (assignEach [c] X.env).map (·.2) = assign c X.env :: (assignEach [] X.env).map (·.2) := by rfl) (hn : (assignEach [a, b, c] X.env).length = 3 := by rfl) (hst : (assignEach [a, b, c] X.env).findIdx? (·.1) = none := by rfl) : PG X (.Tuple [a, b, c] k pos) (gTup X.K 3 (gCons t (gCons u (gCons v gNil)))) :=
  pg_tup hc (pgs_cons h1 (pgs_cons h2 (pgs_cons h3 pgs_nil hs3) hs2) hs) hn hst

/-! ### comprehensions by items -/
/-- a new list by a comprehension, as a value or stored on one line -/
def Xc (X : Cx) (e : Expr) (s : S) (m : MC) (s' : S) : Prop := ∃ t : TE, PE X e t ∧ EvC X.K X.mg t s m s' ∧
  ∀ (i : Nat) (y : Str) (py spos : Pos), X.N.Nodup → X.N[i]? = some y → X.env.scope.names.lookup y = some .local → swapsWith e (some (.Name y py)) spos.line X.env = pure true → PS X (.Assign [.Name y py] e spos) (tAsg t (gName i))
theorem Xc.ec (h : Xc X e s m s1) : Ec X e s m s1 := by
  obtain ⟨t, p, q, _⟩ := h
  exact ec_of p q
theorem bk_setlcG {y : Str} {py spos : Pos} (i : Nat) (hN : X.N.Nodup) (hy : X.N[i]? = some y) (h : Xc X e s m s1) (k : Bk X rest (s1.seto i m) P)
    (hyl : X.env.scope.names.lookup y = some .local := by rfl) (hsw : swapsWith e (some (.Name y py)) spos.line X.env = pure true := by exact sw_true rfl rfl rfl (by decide +kernel)) : Bk X (.Assign [.Name y py] e spos :: rest) s P := by
  obtain ⟨t, p, q, r⟩ := h
  exact bk_cons (r i y py spos hN hy hyl hsw) fun W tk E w σ H r D ft => q E w σ H r _ fun p H' w' l r' n => ft.nx _ w' _ H' k (r'.setOwn i n)
section
variable {tg iter elt : Expr} {scope : Scope} {gd : List MC → Prop} {items : List D} {own : List (Str × Nat)} {g : TG} {js : List Nat}
theorem xc_lc (hN : X.N.Nodup) (own : List (Str × Nat)) (hi : Eit X tg iter s items s1 gd) (ok : blkC X.N X.env.scope scope own = true)
    (hg : ∀ (s0 : Shared) (H0 : Hp) (C : Addr) (cl : List (Str × Addr)) (fp : List Addr), PG (X.blk s0 H0 scope (compEnvC scope cl C X.env) fp) tg g)
    (f : Nat → List MC) (q : Nat → D) (f0 : f 0 = s1.mu) (hj : ∀ j ∈ js, j ∈ own.map (·.2)) (hv : ∀ v ∈ own.map (·.2), ∀ m, s1.ls[v]? ≠ some (.own m)) (hz : items.length ≤ 16777216)
    (ht : ∀ i d, items[i]? = some d → ∃ s2 s4, TgT X.K X.mg js g d ⟨wipeL s1.ls (own.map (·.2)), f i⟩ s2 ∧ (∀ (s0 : Shared) (H0 : Hp) (C : Addr) (cl : List (Str × Addr)) (fp : List Addr), Ev (X.blk s0 H0 scope (compEnvC scope cl C X.env) fp) elt s2 (q i) s4) ∧
      s4.mu = f (i + 1) ∧ wipeL s4.ls (own.map (·.2)) = wipeL s1.ls (own.map (·.2)))
    (hok : ∀ i, i ≤ items.length → gd (f i) := by intros; trivial) (hc : X.calm = true := by rfl) (hs : ∀ x, foldedSetIterable iter X.env x = pure x := by intro _; rfl) : Xc X (.ListComp elt [⟨tg, iter, [], 0⟩] scope pos) s (.lst ((List.range items.length).map q)) ⟨s1.ls, f items.length⟩ := by
  obtain ⟨wi, pi, it⟩ := hi
  refine ⟨_, pe_lc hc hN pi (blkOk_by ok) hg (fun _ _ _ _ _ => pts_nil) (te := semB X scope elt) (fun s0 H0 C cl fp => ⟨fun pins sh σ H Q I h => h s0 H0 C cl fp pins sh I⟩) hs, ?_, fun i y py spos hN hy hyl hsw =>
    ps_setLc hc hN hy hyl hsw pi (blkOk_by ok) hg (fun _ _ _ _ _ => pts_nil) (te := semB X scope elt) (fun s0 H0 C cl fp => ⟨fun pins sh σ H Q I h => h s0 H0 C cl fp pins sh I⟩) hs⟩
  refine lc_rd it f (fun i => (List.range i).map q) f0 rfl hj hv (fun i hi => by rw [List.length_map, List.length_range]; omega) (fun i d hd => ?_) hok
  obtain ⟨s2, s4, h1, h2, h3, h4⟩ := ht i d hd
  exact ⟨s2, s2, true, h1, tv_yes, fun _ => ⟨q i, s4, evB h2, h3, h4, by rw [List.range_succ, List.map_append]; rfl⟩, fun z => by cases z⟩
theorem xc_lcf {c : Expr} (hN : X.N.Nodup) (own : List (Str × Nat)) (hi : Eit X tg iter s items s1 gd) (ok : blkC X.N X.env.scope scope own = true)
    (hg : ∀ (s0 : Shared) (H0 : Hp) (C : Addr) (cl : List (Str × Addr)) (fp : List Addr), PG (X.blk s0 H0 scope (compEnvC scope cl C X.env) fp) tg g)
    (f : Nat → List MC) (out : Nat → List D) (f0 : f 0 = s1.mu) (o0 : out 0 = []) (hj : ∀ j ∈ js, j ∈ own.map (·.2)) (hv : ∀ v ∈ own.map (·.2), ∀ m, s1.ls[v]? ≠ some (.own m)) (hz : ∀ i, i < items.length → (out i).length < 16777216)
    (ht : ∀ i d, items[i]? = some d → ∃ s2 s3 k, TgT X.K X.mg js g d ⟨wipeL s1.ls (own.map (·.2)), f i⟩ s2 ∧ (∀ (s0 : Shared) (H0 : Hp) (C : Addr) (cl : List (Str × Addr)) (fp : List Addr), Tv (X.blk s0 H0 scope (compEnvC scope cl C X.env) fp) c s2 k s3) ∧
      (k = true → ∃ d' s4, (∀ (s0 : Shared) (H0 : Hp) (C : Addr) (cl : List (Str × Addr)) (fp : List Addr), Ev (X.blk s0 H0 scope (compEnvC scope cl C X.env) fp) elt s3 d' s4) ∧ s4.mu = f (i + 1) ∧ wipeL s4.ls (own.map (·.2)) = wipeL s1.ls (own.map (·.2)) ∧ out (i + 1) = out i ++ [d']) ∧
      (k = false → s3.mu = f (i + 1) ∧ wipeL s3.ls (own.map (·.2)) = wipeL s1.ls (own.map (·.2)) ∧ out (i + 1) = out i))
    (hok : ∀ i, i ≤ items.length → gd (f i) := by intros; trivial) (hc : X.calm = true := by rfl) (hs : ∀ x, foldedSetIterable iter X.env x = pure x := by intro _; rfl) : Xc X (.ListComp elt [⟨tg, iter, [c], 0⟩] scope pos) s (.lst (out items.length)) ⟨s1.ls, f items.length⟩ := by
  obtain ⟨wi, pi, it⟩ := hi
  refine ⟨_, pe_lc hc hN pi (blkOk_by ok) hg (tt := semTB X scope c) (fun s0 H0 C cl fp => pts_one ⟨fun pins sh σ H Q I h => h s0 H0 C cl fp pins sh I⟩) (te := semB X scope elt) (fun s0 H0 C cl fp => ⟨fun pins sh σ H Q I h => h s0 H0 C cl fp pins sh I⟩) hs, ?_, fun i y py spos hN hy hyl hsw =>
    ps_setLc hc hN hy hyl hsw pi (blkOk_by ok) hg (tt := semTB X scope c) (fun s0 H0 C cl fp => pts_one ⟨fun pins sh σ H Q I h => h s0 H0 C cl fp pins sh I⟩) (te := semB X scope elt) (fun s0 H0 C cl fp => ⟨fun pins sh σ H Q I h => h s0 H0 C cl fp pins sh I⟩) hs⟩
  refine lc_rd it f out f0 o0 hj hv hz (fun i d hd => ?_) hok
  obtain ⟨s2, s3, k, h1, h2, h3, h4⟩ := ht i d hd
  exact ⟨s2, s3, k, h1, tvB h2, fun z => (let ⟨d', s4, a, b⟩ := h3 z; ⟨d', s4, evB a, b⟩), h4⟩
/-- over items known by ι: each x gives g x, nothing else is touched -/
theorem xc_lcm {α : Type} {xs : List α} (ι q : α → D) (hN : X.N.Nodup) (own : List (Str × Nat)) (hi : Eit X tg iter s (xs.map ι) s1 gd) (ok : blkC X.N X.env.scope scope own = true)
    (hg : ∀ (s0 : Shared) (H0 : Hp) (C : Addr) (cl : List (Str × Addr)) (fp : List Addr), PG (X.blk s0 H0 scope (compEnvC scope cl C X.env) fp) tg g)
    (hj : ∀ j ∈ js, j ∈ own.map (·.2)) (hv : ∀ v ∈ own.map (·.2), ∀ m, s1.ls[v]? ≠ some (.own m)) (hz : xs.length ≤ 16777216)
    (ht : ∀ x, x ∈ xs → ∃ s2 s4, TgT X.K X.mg js g (ι x) ⟨wipeL s1.ls (own.map (·.2)), s1.mu⟩ s2 ∧ (∀ (s0 : Shared) (H0 : Hp) (C : Addr) (cl : List (Str × Addr)) (fp : List Addr), Ev (X.blk s0 H0 scope (compEnvC scope cl C X.env) fp) elt s2 (q x) s4) ∧
      s4.mu = s1.mu ∧ wipeL s4.ls (own.map (·.2)) = wipeL s1.ls (own.map (·.2)))
    (hok : gd s1.mu := by intros; trivial) (hc : X.calm = true := by rfl) (hs : ∀ x, foldedSetIterable iter X.env x = pure x := by intro _; rfl) : Xc X (.ListComp elt [⟨tg, iter, [], 0⟩] scope pos) s (.lst (xs.map q)) s1 := by
  have main := xc_lc (pos := pos) (scope := scope) (elt := elt) hN own hi ok hg (fun _ => s1.mu) (fun i => ((xs.map q)[i]?).getD .non) rfl hj hv (by rw [List.length_map]; exact hz) (fun i d hd => by
    rw [List.getElem?_map] at hd
    cases hx : xs[i]? with
    | none => rw [hx] at hd; cases hd
    | some x =>
      rw [hx] at hd; cases hd
      obtain ⟨s2, s4, h1, h2, h3, h4⟩ := ht x (List.mem_of_getElem? hx)
      refine ⟨s2, s4, h1, ?_, h3, h4⟩
      have e : ((xs.map q)[i]?).getD .non = q x := by rw [List.getElem?_map, hx]; rfl
      show ∀ (s0 : Shared) (H0 : Hp) (C : Addr) (cl : List (Str × Addr)) (fp : List Addr), Ev (X.blk s0 H0 scope (compEnvC scope cl C X.env) fp) elt s2 (((xs.map q)[i]?).getD .non) s4
      rw [e]
      exact h2) (fun _ _ => hok) hc hs
  have e : (List.range (xs.map ι).length).map (fun i => ((xs.map q)[i]?).getD .non) = xs.map q := by
    apply List.ext_getElem?
    intro i
    rw [List.getElem?_map]
    by_cases h : i < xs.length
    · rw [List.getElem?_range (by simpa using h)]
      have : i < (xs.map q).length := by simpa using h
      simp [List.getElem?_eq_getElem h]
    · rw [List.getElem?_eq_none (by simpa using h), List.getElem?_eq_none (by simpa using h)]; rfl
  rw [e] at main
  exact main
theorem xc_lcfm {α : Type} {xs : List α} {c : Expr} (ι q : α → D) (p : α → Bool) (hN : X.N.Nodup) (own : List (Str × Nat)) (hi : Eit X tg iter s (xs.map ι) s1 gd) (ok : blkC X.N X.env.scope scope own = true)
    (hg : ∀ (s0 : Shared) (H0 : Hp) (C : Addr) (cl : List (Str × Addr)) (fp : List Addr), PG (X.blk s0 H0 scope (compEnvC scope cl C X.env) fp) tg g)
    (hj : ∀ j ∈ js, j ∈ own.map (·.2)) (hv : ∀ v ∈ own.map (·.2), ∀ m, s1.ls[v]? ≠ some (.own m)) (hz : xs.length ≤ 16777216)
    (ht : ∀ x, x ∈ xs → ∃ s2 s4, TgT X.K X.mg js g (ι x) ⟨wipeL s1.ls (own.map (·.2)), s1.mu⟩ s2 ∧ (∀ (s0 : Shared) (H0 : Hp) (C : Addr) (cl : List (Str × Addr)) (fp : List Addr), Tv (X.blk s0 H0 scope (compEnvC scope cl C X.env) fp) c s2 (p x) s2) ∧
      (p x = true → ∀ (s0 : Shared) (H0 : Hp) (C : Addr) (cl : List (Str × Addr)) (fp : List Addr), Ev (X.blk s0 H0 scope (compEnvC scope cl C X.env) fp) elt s2 (q x) s4) ∧
      s2.mu = s1.mu ∧ s4.mu = s1.mu ∧ wipeL s2.ls (own.map (·.2)) = wipeL s1.ls (own.map (·.2)) ∧ wipeL s4.ls (own.map (·.2)) = wipeL s1.ls (own.map (·.2)))
    (hok : gd s1.mu := by intros; trivial) (hc : X.calm = true := by rfl) (hs : ∀ x, foldedSetIterable iter X.env x = pure x := by intro _; rfl) : Xc X (.ListComp elt [⟨tg, iter, [c], 0⟩] scope pos) s (.lst ((xs.filter p).map q)) s1 := by
  have main := xc_lcf (pos := pos) (scope := scope) (elt := elt) (c := c) hN own hi ok hg (fun _ => s1.mu) (fun i => ((xs.take i).filter p).map q) rfl (by simp) hj hv (fun i hi => by
    rw [List.length_map] at hi
    have h1 := List.length_filter_le p (xs.take i)
    have h2 := List.length_take_le i xs
    have h3 := List.length_take_le' i xs
    have h4 : (xs.take i).length = min i xs.length := List.length_take
    rw [List.length_map]
    omega) (fun i d hd => by
    rw [List.getElem?_map] at hd
    cases hx : xs[i]? with
    | none => rw [hx] at hd; cases hd
    | some x =>
      rw [hx] at hd; cases hd
      obtain ⟨s2, s4, h1, h2, h3, m2, m4, l2, l4⟩ := ht x (List.mem_of_getElem? hx)
      have e : xs.take (i + 1) = xs.take i ++ [x] := by rw [List.take_succ, hx]; rfl
      refine ⟨s2, s2, p x, h1, h2, fun z => ⟨q x, s4, h3 z, m4, l4, ?_⟩, fun z => ⟨m2, l2, ?_⟩⟩
      · show ((xs.take (i + 1)).filter p).map q = _
        rw [e, List.filter_append, List.filter_cons, if_pos z, List.map_append]; rfl
      · show ((xs.take (i + 1)).filter p).map q = _
        rw [e, List.filter_append, List.filter_cons, if_neg (by rw [z]; decide), List.map_append]; simp) (fun _ _ => hok) hc hs
  have e : ((xs.take (xs.map ι).length).filter p).map q = (xs.filter p).map q := by rw [List.length_map, List.take_length]
  rw [e] at main
  exact main
end
/-- one slot that is no own list -/
theorem noown {ls : List SD} {i : Nat} {x : SD} (h : ls[i]? = some x) (n : ∀ m, x ≠ .own m) : ∀ v ∈ [i], ∀ m, ls[v]? ≠ some (.own m) := fun v hv m e => by
  rw [List.mem_singleton.mp hv, h] at e
  exact n m (Option.some.inj e)
theorem noown2 {ls : List SD} {i j : Nat} {x y : SD} (h : ls[i]? = some x) (n : ∀ m, x ≠ .own m) (h2 : ls[j]? = some y) (n2 : ∀ m, y ≠ .own m) : ∀ v ∈ [i, j], ∀ m, ls[v]? ≠ some (.own m) := fun v hv m e => by
  rcases List.mem_cons.mp hv with z | z
  · rw [z, h] at e; exact n m (Option.some.inj e)
  · rw [List.mem_singleton.mp z, h2] at e; exact n2 m (Option.some.inj e)
theorem rng_map (lo : Int) (n : Nat) : rngD lo n = (List.range n).map fun (i : Nat) => D.int (lo + (i : Int)) := rfl

/-! ### built-in functions -/
theorem Rs.bls {K : PySem.W.Frag} {mg : Str → Option Value} {w : Wd} : ∀ {v : List V} {bs : List Bool}, Rs K mg w v (bs.map D.bl) → v = bs.map V.bl
  | v, [], h => by cases h; rfl
  | v, n :: ns, h => by
    cases h with
    | cons r t => cases r; rw [Rs.bls t]; rfl
theorem ev_all {bs : List Bool} {p : Pos} (hm : X.mg "all" = none) (ha : El X e s (bs.map D.bl) s1) (hc : X.calm = true := by rfl) (hg : Gl X "all" := by rfl) (he : starEach [e] X.env = (false, eval e X.env) :: starEach [] X.env := by rfl)
    (hpl : (backTo pos (starEach [] X.env)).any (·.1) = false := by rfl) : Ev X (.Call (.Name "all" p) [e] [] pos) s (.bl (bs.all id)) s1 :=
  ev_of (pe_callB (cr_all hc) hg hm (by decide +kernel) (pa_cons pe_sem pa_nil he) (by decide) (by decide) he hpl) fun E w σ H r Q k => ha E w σ H r _ fun p H1 w1 l1 r1 f => by
    obtain ⟨vs, g1, g2⟩ := f w1 H1 Le.rfl r1
    have e := g2.bls
    subst e
    exact ⟨p, bs, rfl, g1, k _ H1 w1 l1 r1 (.bl _)⟩
theorem ev_any {bs : List Bool} {p : Pos} (hm : X.mg "any" = none) (ha : El X e s (bs.map D.bl) s1) (hc : X.calm = true := by rfl) (hg : Gl X "any" := by rfl) (he : starEach [e] X.env = (false, eval e X.env) :: starEach [] X.env := by rfl)
    (hpl : (backTo pos (starEach [] X.env)).any (·.1) = false := by rfl) : Ev X (.Call (.Name "any" p) [e] [] pos) s (.bl (bs.any id)) s1 :=
  ev_of (pe_callB (cr_any hc) hg hm (by decide +kernel) (pa_cons pe_sem pa_nil he) (by decide) (by decide) he hpl) fun E w σ H r Q k => ha E w σ H r _ fun p H1 w1 l1 r1 f => by
    obtain ⟨vs, g1, g2⟩ := f w1 H1 Le.rfl r1
    have e := g2.bls
    subst e
    exact ⟨p, bs, rfl, g1, k _ H1 w1 l1 r1 (.bl _)⟩
theorem ec_list {p : Pos} (hm : X.mg "list" = none) (ha : El X e s ds s1) (hg : Gl X "list" := by rfl) (he : starEach [e] X.env = (false, eval e X.env) :: starEach [] X.env := by rfl)
    (hpl : (backTo pos (starEach [] X.env)).any (·.1) = false := by rfl) : Ec X (.Call (.Name "list" p) [e] [] pos) s (.lst ds) s1 :=
  ec_of (pe_callTy call_list_of hg hm (by decide +kernel) (pa_cons pe_sem pa_nil he) (by decide) (by decide) he hpl) fun E w σ H r Q k => ha E w σ H r _ fun p H1 w1 l1 r1 f => by
    obtain ⟨vs, g1, g2⟩ := f w1 H1 Le.rfl r1
    exact ⟨p, vs, rfl, .inl g1, fun q hq => k q _ w1 l1 (r1.add hq) (r1.isNew hq ⟨_, upd_same, g2⟩)⟩
theorem ec_revl {k : Nat} {p1 p2 p3 : Pos} (ha : El X e s ds s1) : Ec X (.Subscript e (.Slice none none (some (.UnaryOp .USub (.Constant (.int 1) k p1) p2)) p3) pos) s (.lst ds.reverse) s1 :=
  ec_of (pe_revL pe_sem) fun E w σ H r Q k => ha E w σ H r _ fun p H1 w1 l1 r1 f => by
    obtain ⟨vs, g1, g2⟩ := f w1 H1 Le.rfl r1
    exact ⟨p, vs, rfl, g1, fun q hq => k q _ w1 l1 (r1.add hq) (r1.isNew hq ⟨_, upd_same, g2.reverse⟩)⟩
theorem picked_rev (n : Nat) : Builtin.Str.strSliceIndices none none (-1) n = (List.range n).reverse := by
  unfold Builtin.Str.strSliceIndices
  rw [← PySem.W.krv_range, ← PySem.W.krv_sliceRange]
  rfl
theorem fm_range (x : List Nat) : ((List.range x.length).reverse).filterMap ((st x).cps[·]?) = x.reverse := by
  rw [List.filterMap_reverse]
  congr 1
  have h := PySem.W.krv_all x.toArray
  simpa using h
theorem pe_revS {te : TE} {k : Nat} {p1 p2 p3 : Pos} (he : PE X e te) : PE X (.Subscript e (.Slice none none (some (.UnaryOp .USub (.Constant (.int 1) k p1) p2)) p3) pos) (fun σ H Q => te σ H fun x H1 => ∃ z : List Nat, x = sv z ∧ z.length ≤ 16777216 ∧ Q (sv z.reverse) H1) := by
  refine ⟨fun pins s σ H Q I h => ?_⟩
  refine Subscript_ (thn (he.run pins s σ H _ I h) fun v s1 ⟨x, H1, I1, r1, q1⟩ => ?_)
  obtain ⟨z, ex, hz, q⟩ := q1
  subst ex
  obtain ⟨t, rfl⟩ := r1
  have hs0 : PO X (some (.UnaryOp .USub (.Constant (.int 1) k p1) p2)) (tPart (tUn (rU fun i => .int (-i)) (tC (.int 1)))) := po_some (pe_un un_neg pe_int)
  refine wpAny_Slice (thn (po_none.run pins s1 σ H1 (fun o H2 => o = none ∧ H2 = H1) I1 ⟨rfl, rfl⟩) fun vl s2 ⟨l, H2, I2, pl, el, e2⟩ => ?_)
  subst el e2
  refine thn (po_none.run pins s2 σ H2 (fun o H3 => o = none ∧ H3 = H2) I2 ⟨rfl, rfl⟩) fun vu s3 ⟨u, H3, I3, pu, eu, e3⟩ => ?_
  subst eu e3
  refine thn (hs0.run pins s3 σ H3 (fun o H4 => o = some (-1) ∧ H4 = H3) I3 ⟨1, rfl, -1, rfl, rfl, rfl⟩) fun vs s4 ⟨o, H4, I4, ps, eo, e4⟩ => ?_
  subst eo e4
  have I5 : Inv X pins σ H4 { s4 with heap := s4.heap.push { cls := .type "slice", data := .fields #[vl, vu, vs] } } := I4.kept (t' := s4.toks) fun b ob q => Heap.get?_push_of_some _ q
  obtain ⟨l, rfl, hl⟩ := IsPart.raw pl
  obtain ⟨u, rfl, hu⟩ := IsPart.raw pu
  obtain ⟨sx, rfl, hsx⟩ := IsPart.raw ps
  show wpAny (model X.prog X.w) X.A (subscriptTail e (.Slice none none (some (.UnaryOp .USub (.Constant (.int 1) k p1) p2)) p3) (.str (st z) t) (.ref s4.heap.objs.size)) (EP X pins σ Q) X.xe { s4 with heap := s4.heap.push { cls := .type "slice", data := .fields #[partValue l, partValue u, partValue sx] } }
  refine tail_any (ops := [.str (st z) t, .ref s4.heap.objs.size]) (typeIs_str _ _ _) (F.slot_str_getitem.lookup) ?_ (by with_unfolding_all rfl)
  have h0 : ((sx.map (·.1)).getD 1 == 0) = false := by rw [hsx]; rfl
  refine wpAny_getItem_str_slice (l := l) (u := u) (st := sx) ⟨_, Heap.get?_push_size _ rfl, rfl, rfl⟩ h0 ?_
  have e1 : (st z).length = z.length := rfl
  have ep : slicePicked (st z) l u sx = (List.range z.length).reverse := by
    unfold slicePicked
    rw [hl, hu, hsx]
    exact picked_rev _
  unfold sliceMade
  rw [ep, hsx]
  show Made.post (if ((-1 : Int) == 1 && _) = true then _ else _) _ _
  rw [if_neg (by simp)]
  rw [fm_range]
  refine ⟨by show (z.reverse).toArray.size ≤ _; rw [sizeLine_eq]; simpa using hz, sv z.reverse, H4, I5.tok _, ⟨_, rfl⟩, q⟩
theorem ev_revs {x : List Nat} {k : Nat} {p1 p2 p3 : Pos} (ha : Ev X e s (.str x) s1) (hz : x.length ≤ 16777216) : Ev X (.Subscript e (.Slice none none (some (.UnaryOp .USub (.Constant (.int 1) k p1) p2)) p3) pos) s (.str x.reverse) s1 :=
  ev_of (pe_revS pe_sem) fun E w σ H r Q k => ha E w σ H r _ fun v H1 w1 l1 r1 q => by
    cases q
    exact ⟨x, rfl, hz, k _ H1 w1 l1 r1 (.str _)⟩
/-- a sign in a text -/
theorem ev_ins {c : Nat} {x : List Nat} (ha : Ev X a s (.str [c]) s1) (hb : Ev X b s1 (.str x) s2) (hm : behindInMarks .In b = false := by rfl) : Ev X (.Compare a [.In] [b] pos) s (.bl (decide (c ∈ x))) s2 :=
  ev_of (pe_cmpR op_inS pe_sem pe_sem hm) (evT_op ha hb fun w H e x y hx hy Q q => by
    cases hx; cases hy
    exact ⟨c, _, rfl, rfl, q _ (.bl _)⟩)
theorem tv_ins {c : Nat} {x : List Nat} (ha : Ev X a s (.str [c]) s1) (hb : Ev X b s1 (.str x) s2) (hm : behindInMarks .In b = false := by rfl) : Tv X (.Compare a [.In] [b] pos) s (decide (c ∈ x)) s2 :=
  tv_of (pt_cmpR op_inS pe_sem pe_sem hm) fun E w σ H rl Q q => evT_op (d := .bl (decide (c ∈ x))) ha hb (fun w H e x y hx hy Q q => by
    cases hx; cases hy
    exact ⟨c, _, rfl, rfl, q _ (.bl _)⟩) E w σ H rl _ fun v H' w' l r' rv => by
    cases rv
    exact ⟨_, rfl, q H' w' l r'⟩
theorem bk_par3 (i j l : Nat) {c : Expr} {x y z : Str} {px py pz pt : Pos} {kt k2 : _} {pt2 : Pos} {d3 : D} (hc : X.calm = true) (hN : X.N.Nodup) (hi : X.N[i]? = some x) (hj : X.N[j]? = some y) (hl : X.N[l]? = some z) (ha : Ea X [a, b, c] s [d1, d2, d3] s1) (k : Bk X rest (((s1.setv i d1).setv j d2).setv l d3) P)
    (h : PS X (.Assign [.Tuple [.Name x px, .Name y py, .Name z pz] kt pt] (.Tuple [a, b, c] k2 pt2) pos) (fun D σ H => semA X [a, b, c] σ H fun vs H1 => ∃ u v w, vs = [u, v, w] ∧ D.nx (((σ.set i (some u)).set j (some v)).set l (some w)) H1)) : Bk X (.Assign [.Tuple [.Name x px, .Name y py, .Name z pz] kt pt] (.Tuple [a, b, c] k2 pt2) pos :: rest) s P :=
  bk_cons h fun W tk E w σ H r D f => ha E w σ H r _ fun vs H' w' l' r' q => by
    cases q with
    | cons q1 b => cases b with
      | cons q2 b => cases b with
        | cons q3 b =>
          cases b
          exact ⟨_, _, _, rfl, f.nx _ w' _ H' k (((r'.setVal i q1).setVal j q2).setVal l q3)⟩
end
section
variable {X : Cx} {e : Expr} {s s1 : S} {d d' : D} {m m' : MC} {k k' : Bool} {es : List Expr} {ds ds' : List D}
theorem Ev.eq (h : Ev X e s d s1) (q : d = d') : Ev X e s d' s1 := q ▸ h
theorem Ec.eq (h : Ec X e s m s1) (q : m = m') : Ec X e s m' s1 := q ▸ h
theorem Tv.eq (h : Tv X e s k s1) (q : k = k') : Tv X e s k' s1 := q ▸ h
theorem El.eq (h : El X e s ds s1) (q : ds = ds') : El X e s ds' s1 := q ▸ h
theorem Ev.st {s2 : S} (h : Ev X e s d s1) (q : s1 = s2) : Ev X e s d s2 := q ▸ h
theorem Ec.st {s2 : S} (h : Ec X e s m s1) (q : s1 = s2) : Ec X e s m s2 := q ▸ h
theorem Ev.at {s2 : S} (h : Ev X e s2 d s1) (q : s = s2) : Ev X e s d s1 := q ▸ h
end
end Y
namespace Y
open PySem.Spec PySem PyProof.Rows L2
/-! ### data: ==, repr -/
mutual
def pyD : D → Option PyData
  | .non => some .none
  | .bl b => some (.bool b)
  | .int i => some (.int i)
  | .str x => some (.str (st x))
  | .lst xs => (pyDs xs).map .list
  | .tup xs => (pyDs xs).map .tuple
  | _ => none
def pyDs : List D → Option (List PyData)
  | [] => some []
  | x :: r => match pyD x, pyDs r with
    | some p, some q => some (p :: q)
    | _, _ => none
end
section
variable {K : PySem.W.Frag} {mg : Str → Option Value} {w : Wd} {H : Hp}
mutual
theorem R.dp (e : Evl.Ex w.G H) : ∀ {v : V} {d : D} {p : PyData}, R K mg w v d → pyD d = some p → Dp K H v p
  | _, _, _, .non, h => by unfold pyD at h; cases h; exact .non
  | _, _, _, .bl b, h => by unfold pyD at h; cases h; exact .bl b
  | _, _, _, .int i, h => by unfold pyD at h; cases h; exact .int i
  | _, _, _, .str x, h => by unfold pyD at h; cases h; exact .str _
  | _, .lst ds, _, .lst a b, h => by
    unfold pyD at h
    cases q : pyDs ds with
    | none => rw [q] at h; cases h
    | some ps => rw [q] at h; cases h; exact .lst (Evl.ex_l e a) (Rs.dp e b q)
  | _, .tup ds, _, .tup a b, h => by
    unfold pyD at h
    cases q : pyDs ds with
    | none => rw [q] at h; cases h
    | some ps => rw [q] at h; cases h; exact .tup (Evl.ex_t e a) (Rs.dp e b q)
  | _, _, _, .dic a b, h => by unfold pyD at h; cases h
  | _, _, _, .obj c a b, h => by unfold pyD at h; cases h
  | _, _, _, .cell a, h => by unfold pyD at h; cases h
theorem Rs.dp (e : Evl.Ex w.G H) : ∀ {v : List V} {d : List D} {p : List PyData}, Rs K mg w v d → pyDs d = some p → DpAll K H v p
  | _, _, _, .nil, h => by unfold pyDs at h; cases h; exact .nil
  | _, d :: ds, _, .cons a b, h => by
    unfold pyDs at h
    cases q : pyD d with
    | none => rw [q] at h; cases h
    | some p => cases q2 : pyDs ds with
      | none => rw [q, q2] at h; cases h
      | some ps => rw [q, q2] at h; cases h; exact .cons (R.dp e a q) (Rs.dp e b q2)
end
end
section
variable {X : Cx} {pos : Pos} {s s0 s1 s2 s3 : S} {d d1 d2 : D} {ds es : List D} {e a b : Expr} {p1 p2 : PyData} {ps1 ps2 : List PyData}
theorem ev_eqd (hu : X.A.units + 64 < cLine) (ha : Ev X a s d1 s1) (hb : Ev X b s1 d2 s2) (h1 : pyD d1 = some p1) (h2 : pyD d2 = some p2) (c1 : SeqAt.shaped p1 = true) (c2 : SeqAt.shaped p2 = true) (hm : behindInMarks .Eq b = false := by exact nomark _) : Ev X (.Compare a [.Eq] [b] pos) s (.bl (PyData.eqv p1 p2)) s2 :=
  ev_of (pe_cmpR (op_eqD hu) pe_sem pe_sem hm) (evT_op ha hb fun w H e x y hx hy Q q => ⟨p1, p2, hx.dp e h1, hy.dp e h2, c1, c2, q _ (.bl _)⟩)
theorem tv_eqd (hu : X.A.units + 64 < cLine) (ha : Ev X a s d1 s1) (hb : Ev X b s1 d2 s2) (h1 : pyD d1 = some p1) (h2 : pyD d2 = some p2) (c1 : SeqAt.shaped p1 = true) (c2 : SeqAt.shaped p2 = true) (hm : behindInMarks .Eq b = false := by exact nomark _) : Tv X (.Compare a [.Eq] [b] pos) s (PyData.eqv p1 p2) s2 :=
  tv_of (pt_cmpR (op_eqD hu) pe_sem pe_sem hm) fun E w σ H rl Q q => evT_op (d := .bl (PyData.eqv p1 p2)) ha hb (fun w H e x y hx hy Q q => ⟨p1, p2, hx.dp e h1, hy.dp e h2, c1, c2, q _ (.bl _)⟩) E w σ H rl _ fun v H' w' l r' rv => by
    cases rv
    exact ⟨_, rfl, q H' w' l r'⟩
theorem ev_ned (hu : X.A.units + 64 < cLine) (ha : Ev X a s d1 s1) (hb : Ev X b s1 d2 s2) (h1 : pyD d1 = some p1) (h2 : pyD d2 = some p2) (c1 : SeqAt.shaped p1 = true) (c2 : SeqAt.shaped p2 = true) (hm : behindInMarks .NotEq b = false := by exact nomark _) : Ev X (.Compare a [.NotEq] [b] pos) s (.bl (!PyData.eqv p1 p2)) s2 :=
  ev_of (pe_cmpR (op_neD hu) pe_sem pe_sem hm) (evT_op ha hb fun w H e x y hx hy Q q => ⟨p1, p2, hx.dp e h1, hy.dp e h2, c1, c2, q _ (.bl _)⟩)
theorem tv_ned (hu : X.A.units + 64 < cLine) (ha : Ev X a s d1 s1) (hb : Ev X b s1 d2 s2) (h1 : pyD d1 = some p1) (h2 : pyD d2 = some p2) (c1 : SeqAt.shaped p1 = true) (c2 : SeqAt.shaped p2 = true) (hm : behindInMarks .NotEq b = false := by exact nomark _) : Tv X (.Compare a [.NotEq] [b] pos) s (!PyData.eqv p1 p2) s2 :=
  tv_of (pt_cmpR (op_neD hu) pe_sem pe_sem hm) fun E w σ H rl Q q => evT_op (d := .bl (!PyData.eqv p1 p2)) ha hb (fun w H e x y hx hy Q q => ⟨p1, p2, hx.dp e h1, hy.dp e h2, c1, c2, q _ (.bl _)⟩) E w σ H rl _ fun v H' w' l r' rv => by
    cases rv
    exact ⟨_, rfl, q H' w' l r'⟩
/-- two readable lists -/
theorem eql_rd {r : R2} (k : Bool) (ha : El X a s ds s1) (hb : El X b s1 es s1) (h1 : pyDs ds = some ps1) (h2 : pyDs es = some ps2)
    (f : ∀ (H : Hp) x y, Dp X.K H x (.list ps1) → Dp X.K H y (.list ps2) → ∀ Q : VK, Q (.bl k) H → r x y H Q) : EvT X.K X.mg (tOp r (semE X a) (semE X b)) s (.bl k) s1 := fun E w σ H rl Q q =>
  ha E w σ H rl _ fun x H1 w1 l1 r1 f1 => hb E w1 σ H1 r1 _ fun y H2 w2 l2 r2 f2 => by
    obtain ⟨vs, g1, g2⟩ := f1 w2 H2 l2 r2
    obtain ⟨us, g3, g4⟩ := f2 w2 H2 Le.rfl r2
    exact f H2 _ _ (.lst g1 (g2.dp r2.ex h1)) (.lst g3 (g4.dp r2.ex h2)) Q (q _ H2 w2 (l1.trans l2) r2 (.bl k))
theorem tv_eql (hu : X.A.units + 64 < cLine) (ha : El X a s ds s1) (hb : El X b s1 es s1) (h1 : pyDs ds = some ps1) (h2 : pyDs es = some ps2) (c1 : SeqAt.shaped (.list ps1) = true) (c2 : SeqAt.shaped (.list ps2) = true) (hm : behindInMarks .Eq b = false := by exact nomark _) : Tv X (.Compare a [.Eq] [b] pos) s (PyData.eqv (.list ps1) (.list ps2)) s1 :=
  tv_of (pt_cmpR (op_eqD hu) pe_sem pe_sem hm) fun E w σ H rl Q q => eql_rd _ ha hb h1 h2 (fun H x y hx hy Q q => ⟨_, _, hx, hy, c1, c2, q⟩) E w σ H rl _ fun v H' w' l r' rv => by
    cases rv
    exact ⟨_, rfl, q H' w' l r'⟩
theorem tv_nel (hu : X.A.units + 64 < cLine) (ha : El X a s ds s1) (hb : El X b s1 es s1) (h1 : pyDs ds = some ps1) (h2 : pyDs es = some ps2) (c1 : SeqAt.shaped (.list ps1) = true) (c2 : SeqAt.shaped (.list ps2) = true) (hm : behindInMarks .NotEq b = false := by exact nomark _) : Tv X (.Compare a [.NotEq] [b] pos) s (!PyData.eqv (.list ps1) (.list ps2)) s1 :=
  tv_of (pt_cmpR (op_neD hu) pe_sem pe_sem hm) fun E w σ H rl Q q => eql_rd _ ha hb h1 h2 (fun H x y hx hy Q q => ⟨_, _, hx, hy, c1, c2, q⟩) E w σ H rl _ fun v H' w' l r' rv => by
    cases rv
    exact ⟨_, rfl, q H' w' l r'⟩
theorem ev_eql (hu : X.A.units + 64 < cLine) (ha : El X a s ds s1) (hb : El X b s1 es s1) (h1 : pyDs ds = some ps1) (h2 : pyDs es = some ps2) (c1 : SeqAt.shaped (.list ps1) = true) (c2 : SeqAt.shaped (.list ps2) = true) (hm : behindInMarks .Eq b = false := by exact nomark _) : Ev X (.Compare a [.Eq] [b] pos) s (.bl (PyData.eqv (.list ps1) (.list ps2))) s1 :=
  ev_of (pe_cmpR (op_eqD hu) pe_sem pe_sem hm) (eql_rd _ ha hb h1 h2 fun H x y hx hy Q q => ⟨_, _, hx, hy, c1, c2, q⟩)
/-- repr of data -/
def rReprD (K : PySem.W.Frag) : List V → Hp → VK → Prop := fun xs H Q => ∃ x p, xs = [x] ∧ Dp K H x p ∧ p.showable = true ∧ p.hasDict = false ∧ p.depth ≤ 60 ∧ p.shown.length ≤ sizeLine ∧ Q (.str p.shown) H
theorem call_reprD (hg : X.A.guards = some []) (hu : X.A.units + 64 < cLine) : CallR X (.builtin "repr") (rReprD X.K) := by
  intro pins s σ H xs us Q I r h
  obtain ⟨x, p, rfl, dp, c1, c2, c3, c4, q⟩ := h
  obtain ⟨u, rfl, ru⟩ := vals1 r
  have key : ∀ a, u = .ref a → wpAny (model X.prog X.w) X.A (call (.builtin "repr") [u]) (EP X pins σ Q) X.xe s := fun a e => by
    subst e
    obtain ⟨as, rd⟩ := Dp.reads I p x _ dp ru
    exact repr_of_reads' rd c1 (PyData.noDict_hsm c2) hg (by omega) (fun _ _ e => e) (fun h' u tk k => ⟨.str _, H, I.kept (t' := tk) k, ⟨_, rfl⟩, q⟩) c4
  cases dp with
  | non =>
    cases (show u = Value.none from ru)
    exact PySem.P.repr_of_none ⟨.str "None", H, I.tok _, ⟨_, rfl⟩, q⟩
  | bl b =>
    cases (show u = Value.bool b from ru)
    exact PySem.P.repr_of_bool ⟨.str _, H, I.tok _, ⟨_, rfl⟩, q⟩
  | int i =>
    obtain ⟨t, rfl⟩ := ru
    exact PySem.P.repr_of_int (of_decide_eq_true c1) ⟨.str _, H, I.tok _, ⟨_, rfl⟩, q⟩
  | str x =>
    obtain ⟨t, rfl⟩ := ru
    exact PySem.P.repr_of_str ⟨.str _, H, I.tok _, ⟨_, rfl⟩, q⟩ c4
  | lst _ _ => exact key _ ru
  | tup _ _ => exact key _ ru
theorem ev_repr {p : Pos} (hm : X.mg "repr" = none) (hg0 : X.A.guards = some []) (hu : X.A.units + 64 < cLine) (ha : Ev X e s d s1) (h1 : pyD d = some p1) (c1 : p1.showable = true) (c2 : p1.hasDict = false) (c3 : p1.depth ≤ 60) (c4 : p1.shown.length ≤ sizeLine)
    (hg : Gl X "repr" := by rfl) (he : starEach [e] X.env = (false, eval e X.env) :: starEach [] X.env := by rfl)
    (hpl : (backTo pos (starEach [] X.env)).any (·.1) = false := by rfl) : Ev X (.Call (.Name "repr" p) [e] [] pos) s (.str (cs p1.shown)) s1 :=
  ev_callB (call_reprD hg0 hu) (by decide +kernel) hm (ea_cons ha ea_nil he) (fun w H ex xs r Q k => by
    obtain ⟨v, rfl, q⟩ := r.one
    exact ⟨v, p1, rfl, q.dp ex h1, c1, c2, c3, c4, k _ (.str (cs p1.shown))⟩) hg (by decide) (by decide) he hpl
end
/-- what can be shown and compared -/
structure Shw (d : D) (p : PyData) : Prop where
  py : pyD d = some p
  lay : p.canLay0 = true
  shb : p.showable = true
  dep : p.depth ≤ 60
  len : p.shown.length ≤ sizeLine
theorem Shw.shaped {d : D} {p : PyData} (h : Shw d p) : SeqAt.shaped p = true := by
  unfold SeqAt.shaped
  rw [h.lay, decide_eq_true (Nat.le_trans h.dep (by decide))]; rfl
theorem Shw.refl {d : D} {p : PyData} (h : Shw d p) : PyData.eqv p p = true := PySem.SeqAt.eqv_refl p h.lay
theorem Shw.nod {d : D} {p : PyData} (h : Shw d p) : p.hasDict = false := PyData.hasDict_of_canLay p h.lay
theorem shw_int {i : Int} (h : -(2 ^ 64) < i) (h2 : i < 2 ^ 64) : Shw (.int i) (.int i) := by
  have e : i.natAbs.log2 < 1920 := by
    by_cases z : i.natAbs = 0
    · rw [z]; decide
    · have := (Nat.log2_lt (k := 64) z).mpr (by omega)
      omega
  refine ⟨rfl, rfl, decide_eq_true e, Nat.zero_le _, ?_⟩
  show (toString i : Str).length ≤ sizeLine
  exact PySem.int_text_fits e
theorem shw_str {x : List Nat} (h : ∀ c ∈ x, c < 1114112) (h2 : x.length ≤ 1000000) : Shw (.str x) (.str (st x)) := by
  refine ⟨rfl, ?_, rfl, Nat.zero_le _, ?_⟩
  · show (x.toArray.all fun c => decide (c < 0x110000)) = true
    rw [List.all_toArray]
    exact List.all_eq_true.mpr fun c hc => decide_eq_true (h c hc)
  · have := PySem.StrLaws.reprText_len (st x) fun c hc => Nat.lt_trans (h c hc) (by decide)
    have e : (st x).length = x.length := rfl
    show (reprText (st x)).length ≤ sizeLine
    rw [sizeLine_eq]
    omega
/-! ### isinstance of a built-in class -/
def tyD : D → Option String
  | .non => some "NoneType"
  | .bl _ => some "bool"
  | .int _ => some "int"
  | .str _ => some "str"
  | .lst _ => some "list"
  | .tup _ => some "tuple"
  | _ => none
theorem R.ty {K : PySem.W.Frag} {mg : Str → Option Value} {w : Wd} {H : Hp} {v : V} {d : D} {t : String} (e : Evl.Ex w.G H) (r : R K mg w v d) (h : tyD d = some t) : TyX K H v (.type t) := by
  cases r with
  | non => cases h; exact .base .non
  | bl b => cases h; exact .base (.bl b)
  | int i => cases h; exact .base (.int i)
  | str x => cases h; exact .base (.str _)
  | lst a b =>
    cases h
    rcases Evl.ex_l e a with (a | ⟨o, a⟩) | ⟨o, its, n, a, c, _⟩
    · exact .base (.lst a)
    · exact .base (.frz a)
    · exact .kList a c
  | tup a b =>
    cases h
    rcases Evl.ex_t e a with (a | ⟨o, a⟩) | ⟨o, its, n, a, c, _⟩
    · exact .base (.tup a)
    · exact .fTuple a
    · exact .kTuple a c
  | dic a b => cases h
  | obj c a b => cases h
  | cell a => cases h
section
variable {X : Cx} {pos : Pos} {s s1 : S} {d : D} {e : Expr}
theorem ev_isi {p p2 : Pos} {x : Str} {t T : String} {b : Bool} (hm : X.mg "isinstance" = none) (hx : X.mg x = none) (hv : bootBuiltins x = some (.type T)) (ha : Ev X e s d s1) (ht : tyD d = some t) (hk : PySem.W.kitOne X.K (.type t) (.type T) = some b)
    (hn : x ≠ "__name__") (hd : (x == ("__debug__" : Str)) = false) (hgx : Gl X x := by rfl) (hg : Gl X "isinstance" := by rfl) (he : starEach [e, .Name x p2] X.env = (false, eval e X.env) :: starEach [.Name x p2] X.env := by rfl)
    (he2 : starEach [.Name x p2] X.env = (false, eval (.Name x p2) X.env) :: starEach [] X.env := by rfl)
    (hpl : (backTo pos (starEach [.Name x p2] X.env)).any (·.1) = false := by rfl) : Ev X (.Call (.Name "isinstance" p) [e, .Name x p2] [] pos) s (.bl b) s1 :=
  ev_of (pe_callB call_isi hg hm (by decide +kernel) (pa_cons pe_sem (pa_cons (pe_bltn (v := .ty T) hgx hx hv rfl hn hd) pa_nil he2) he) (by decide) (by decide) he hpl) fun E w σ H r Q k => ha E w σ H r _ fun v H1 w1 l1 r1 q1 =>
    ⟨v, .ty T, _, _, b, rfl, .ty T, q1.ty r1.ex ht, hk, k _ H1 w1 l1 r1 (.bl b)⟩
end
end Y
namespace Y
open PySem.Spec PySem PyProof.Rows L2
/-! ### list(zip(a, b)) -/
theorem zip_nolen : typeLookup (.type "zip") "__len__" = pure none := am_miss_of_fast (by decide +kernel)
theorem zip_nohint : typeLookup (.type "zip") "__length_hint__" = pure none := am_miss_of_fast (by decide +kernel)
/-- how the zip at z stands at its i-th turn, the list at S being made -/
def ZipAt (z TI TO i1 i2 a b S : Addr) (i : Nat) (h : Heap) : Prop :=
  IsPair h TI (.ref i1) (.ref i2) ∧ h.IsListIter i1 a i ∧ h.IsListIter i2 b i ∧ (∃ o, h.get? TO = some o) ∧ ((IsZip h z TI TO .none ∧ ∃ u v, IsPair h TO u v) ∨ ∃ (T : Addr) (f : Bool) (oT : Obj), IsZipHeld h z TI TO T f ∧ h.get? T = some oT ∧ T ≠ z ∧ T ≠ i1 ∧ T ≠ i2 ∧ T ≠ S)
section
variable {z TI TO i1 i2 a b S : Addr} {i : Nat}
theorem ZipAt.zobj {h : Heap} (q : ZipAt z TI TO i1 i2 a b S i h) : ∃ o, h.get? z = some o ∧ o.cls = .type "zip" := by
  obtain ⟨_, _, _, _, ⟨e, _⟩ | ⟨_, _, _, e, _⟩⟩ := q
  · exact ⟨_, e, rfl⟩
  · exact ⟨_, e, rfl⟩
theorem ZipAt.there {h : Heap} (q : ZipAt z TI TO i1 i2 a b S i h) : ∀ c ∈ [z, TI, TO, i1, i2], ∃ o, h.get? c = some o := fun c hc => by
  obtain ⟨o, e, _⟩ := q.zobj
  obtain ⟨q1, ⟨o1, e1, _⟩, ⟨o2, e2, _⟩, q4, _⟩ := q
  simp only [List.mem_cons, List.not_mem_nil, or_false] at hc
  rcases hc with rfl | rfl | rfl | rfl | rfl
  · exact ⟨o, e⟩
  · exact ⟨_, q1⟩
  · exact q4
  · exact ⟨o1, e1⟩
  · exact ⟨o2, e2⟩
theorem ZipAt.kept {h h' : Heap} (q : ZipAt z TI TO i1 i2 a b S i h) (n : ∀ c ∈ [z, TI, TO, i1, i2], c ≠ S) (k : ∀ c o, c ≠ S → h.get? c = some o → h'.get? c = some o) : ZipAt z TI TO i1 i2 a b S i h' := by
  obtain ⟨q1, q2, q3, ⟨o, q4⟩, q5⟩ := q
  refine ⟨k _ _ (n _ (by simp)) q1, q2.at fun o e => k _ o (n _ (by simp)) e, q3.at fun o e => k _ o (n _ (by simp)) e, ⟨o, k _ _ (n _ (by simp)) q4⟩, ?_⟩
  rcases q5 with ⟨e, u, v, e2⟩ | ⟨T, f, oT, e, e2, r1, r2, r3, r4⟩
  · exact .inl ⟨k _ _ (n _ (by simp)) e, u, v, k _ _ (n _ (by simp)) e2⟩
  · exact .inr ⟨T, f, oT, k _ _ (n _ (by simp)) e, k _ _ r4 e2, r1, r2, r3, r4⟩
end
section
variable {X : Cx} {A : Around} {pins : List (Addr × Obj)} {σ : L2.St} {z TI TO i1 i2 a b S : Addr} {xs ys : List V} {J : Nat → List V → Hp → Prop} {R : Result → Shared → Prop} {res : Value}
/-- one turn: the pair's tuple is tracked -/
theorem zip_turn {i : Nat} {H : Hp} {s : Shared} {x y : V} {Q : Option Value → Shared → Prop} {E : Value → Shared → Prop} (D : ZipApart z TI TO i1 i2 a b) (I : Inv X pins σ H s) (fp : ∀ c ∈ [z, TI, TO, i1, i2], FpOk X pins H c) (q : ZipAt z TI TO i1 i2 a b S i s.heap)
    (hx : SqL X.K H a xs) (hy : SqL X.K H b ys) (ex : xs[i]? = some x) (ey : ys[i]? = some y) (hS : ∃ o, s.heap.get? S = some o)
    (k : ∀ T s', H T = none → T ≠ S → Inv X pins σ (upd H T (.tup [x, y])) s' → ZipAt z TI TO i1 i2 a b S (i + 1) s'.heap → (∀ c ∈ [z, TI, TO, i1, i2], FpOk X pins (upd H T (.tup [x, y])) c) → Q (some (.ref T)) s') :
    wpAny (model X.prog X.w) A (pyNext (.ref z)) Q E s := by
  have there := q.there
  obtain ⟨its, rv, p, _⟩ := I.list hx
  obtain ⟨its2, rv2, p2, _⟩ := I.list hy
  obtain ⟨u, hu, ru⟩ := rv.get ex
  obtain ⟨u2, hu2, ru2⟩ := rv2.get ey
  obtain ⟨q1, q2, q3, q4, q5⟩ := q
  obtain ⟨oS, hS⟩ := hS
  have lt : ∀ {c : Addr} {o : Obj}, s.heap.get? c = some o → s.heap.objs.size ≠ c := fun e => Nat.ne_of_gt (Heap.lt_size e)
  have sS : s.heap.objs.size ≠ S := lt hS
  have n1 : s.heap.objs.size ≠ i1 := (let ⟨_, e, _⟩ := q2; lt e)
  have n2 : s.heap.objs.size ≠ i2 := (let ⟨_, e, _⟩ := q3; lt e)
  have hT : H s.heap.objs.size = none := I.hok.fresh (Nat.le_refl _)
  have fin : ∀ h' : Heap, IsPair h' s.heap.objs.size u u2 → (∀ c o, c ∉ [z, TI, TO, i1, i2] → s.heap.get? c = some o → h'.get? c = some o) → ZipAt z TI TO i1 i2 a b S (i + 1) h' → Q (some (.ref s.heap.objs.size)) { s with heap := h' } := fun h' hp hk st => by
    have new : ObjOk X.prog X.w (upd H s.heap.objs.size (.tup [x, y])) h' s.heap.objs.size (.tup [x, y]) := ⟨by show 2 ≤ sizeLine; decide, [u, u2], .cons ru (.cons ru2 .nil), ⟨_, hp, rfl, _, rfl⟩⟩
    refine k _ _ hT sS (I.turnedNew (t' := s.toks) (ch := [z, TI, TO, i1, i2]) (fun c o hc e => hk c o hc e) fp (Nat.le_refl _) new) st fun c hc => ?_
    obtain ⟨f1, f2⟩ := fp c hc
    obtain ⟨o, h0⟩ := there c hc
    exact ⟨by rw [upd_ne (Nat.ne_of_lt (Heap.lt_size h0))]; exact f1, f2⟩
  have kl : ∀ {l : Addr} {its : List Value} {h' : Heap}, s.heap.IsList l its.toArray → True := fun _ => trivial
  rcases q5 with ⟨hz, c1, c2, hTO⟩ | ⟨T, f, oT, hz, hT0, r1, r2, r3, r4⟩
  · refine wpAny_pyNext_zip_item D hz q1 hTO q2 q3 p.isList p2.isList (x := u) (y := u2) (by simpa using hu) (by simpa using hu2) fun h' a1 a2 a3 a4 a5 a6 hk => ?_
    refine fin h' a5 (fun c o hc e => hk c o (fun y => hc (by simp [y])) (fun y => hc (by simp [y])) (fun y => hc (by simp [y])) (fun y => hc (by simp [y])) e) ⟨hk _ _ D.TIz D.TITO D.TIi1 D.TIi2 q1, a3, a4, ⟨_, a2⟩, .inr ⟨s.heap.objs.size, false, _, a1, a5, lt hz, n1, n2, sS⟩⟩
  · refine wpAny_pyNext_zip_item_held D hz hT0 q1 q2 q3 p.isList p2.isList (x := u) (y := u2) (by simpa using hu) (by simpa using hu2) fun h' a1 a3 a4 a5 a6 hk => ?_
    obtain ⟨oO, q4⟩ := q4
    refine fin h' a5 (fun c o hc e => hk c o (fun y => hc (by simp [y])) (fun y => hc (by simp [y])) (fun y => hc (by simp [y])) e) ⟨hk _ _ D.TIz D.TIi1 D.TIi2 q1, a3, a4, ⟨oO, hk _ _ D.TOz D.TOi1 D.TOi2 q4⟩, .inr ⟨T, true, oT, a1, hk _ _ r1 r2 r3 hT0, r1, r2, r3, r4⟩⟩
theorem zip_over {i : Nat} {H : Hp} {s : Shared} {Q : Option Value → Shared → Prop} {E : Value → Shared → Prop} (hh : A.handled = none) (D : ZipApart z TI TO i1 i2 a b) (I : Inv X pins σ H s) (fp : ∀ c ∈ [z, TI, TO, i1, i2], FpOk X pins H c) (q : ZipAt z TI TO i1 i2 a b S i s.heap)
    (hx : SqL X.K H a xs) (hy : SqL X.K H b ys) (hi : min xs.length ys.length ≤ i) (k : ∀ s', Inv X pins σ H s' → Q none s') : wpAny (model X.prog X.w) A (pyNext (.ref z)) Q E s := by
  obtain ⟨its, rv, p, _⟩ := I.list hx
  obtain ⟨its2, rv2, p2, _⟩ := I.list hy
  have l1 := rv.length
  have l2 := rv2.length
  obtain ⟨q1, q2, q3, q4, q5⟩ := q
  have he : its.toArray[i]? = none ∨ its2.toArray[i]? = none := by
    by_cases h : xs.length ≤ i
    · exact .inl (by simp; omega)
    · exact .inr (by simp; omega)
  have fin : ∀ h' : Heap, (∀ c o, c ∉ [z, TI, TO, i1, i2] → s.heap.get? c = some o → h'.get? c = some o) → Q none { s with heap := h' } := fun h' hk => k _ (I.turnedL (t' := s.toks) (ch := [z, TI, TO, i1, i2]) (fun c o hc e => hk c o hc e) fp)
  rcases q5 with ⟨hz, c1, c2, hTO⟩ | ⟨T, f, oT, hz, hT0, r1, r2, r3, r4⟩
  · exact wpAny_pyNext_zip_end hh D hz q1 hTO q2 q3 p.isList p2.isList he fun h' hk => fin h' fun c o hc e => hk c o (fun y => hc (by simp [y])) (fun y => hc (by simp [y])) (fun y => hc (by simp [y])) (fun y => hc (by simp [y])) e
  · exact wpAny_pyNext_zip_end_held hh D hz hT0 q1 q2 q3 p.isList p2.isList he fun h' hk => fin h' fun c o hc e => hk c o (fun y => hc (by simp [y])) (fun y => hc (by simp [y])) (fun y => hc (by simp [y])) e
/-- what a list, made turn by turn, has to say -/
structure Zj (X : Cx) (a b S : Addr) (xs ys : List V) (J : Nat → List V → Hp → Prop) : Prop where
  rd : ∀ i acc H, J i acc H → SqL X.K H a xs ∧ SqL X.K H b ys ∧ H S = some (.lst acc) ∧ acc.length = i
  st : ∀ i acc H T x y, J i acc H → xs[i]? = some x → ys[i]? = some y → H T = none → J (i + 1) (acc ++ [.ref T]) (upd (upd H T (.tup [x, y])) S (.lst (acc ++ [.ref T])))
theorem zip_drain (hh : A.handled = none) (D : ZipApart z TI TO i1 i2 a b) (hJ : Zj X a b S xs ys J) (hz : min xs.length ys.length ≤ sizeLine) (je : ∀ acc H s', J (min xs.length ys.length) acc H → Inv X pins σ H s' → R (.ok (.ret res)) s') :
    ∀ (n i : Nat) (acc : List V) (H : Hp) (s : Shared), i + n = min xs.length ys.length → J i acc H → Inv X pins σ H s → (∀ c ∈ [z, TI, TO, i1, i2], FpOk X pins H c) → ZipAt z TI TO i1 i2 a b S i s.heap →
      codeAny (model X.prog X.w) A (.builtin "list.extend.loop" ⟨[.ref S, .ref z, res], []⟩) R s
  | 0, i, acc, H, s, hn, j, I, fp, q => by
    obtain ⟨j1, j2, j3, j4⟩ := hJ.rd i acc H j
    have e : i = min xs.length ys.length := by omega
    subst e
    refine codeAny_builtin F.entry_extend_loop ?_
    rw [Around.under_plainId F.plain_extend_loop _]
    show wpAny _ A.in1 (pyNext (.ref z) >>= _) _ _ s
    exact wpAny_bind (zip_over hh D I fp q j1 j2 (Nat.le_refl _) fun s' I' => wpAny_pure (je acc H s' j I'))
  | n + 1, i, acc, H, s, hn, j, I, fp, q => by
    obtain ⟨j1, j2, j3, j4⟩ := hJ.rd i acc H j
    have hx : i < xs.length := by omega
    have hy : i < ys.length := by omega
    refine codeAny_builtin F.entry_extend_loop ?_
    rw [Around.under_plainId F.plain_extend_loop _]
    show wpAny _ A.in1 (pyNext (.ref z) >>= _) _ _ s
    have notS : ∀ {H' : Hp} {l : List V}, H' S = some (.lst l) → (∀ c ∈ [z, TI, TO, i1, i2], FpOk X pins H' c) → ∀ c ∈ [z, TI, TO, i1, i2], c ≠ S := fun h f c hc e => by
      have := (f c hc).1
      rw [e, h] at this; cases this
    refine wpAny_bind (zip_turn D I fp q j1 j2 (List.getElem?_eq_getElem hx) (List.getElem?_eq_getElem hy) (let ⟨_, _, _, _, _, e⟩ := I.lstM j3; ⟨_, e⟩) fun T s' hT nT I' q' fp' => ?_)
    have hS' : upd H T (.tup [xs[i], ys[i]]) S = some (.lst acc) := by rw [upd_ne (Ne.symm nT)]; exact j3
    obtain ⟨hz', its, m, rv, lv, e⟩ := I'.lstM hS'
    have hlt : its.toArray.size < sizeLine := by rw [List.size_toArray, ← lv]; omega
    show wpAny _ A.in1 (updateSeq S (·.push (.ref T)) >>= _) _ _ _
    refine wpAny_bind (wpAny_updateSeq e rfl (wpAny_pure ⟨plainId_quiet F.plain_extend_loop _, ?_⟩) (Nat.le_of_lt hlt) (by show (its.toArray.push (.ref T)).size ≤ sizeLine + 1; rw [Array.size_push]; omega))
    have I2 := I'.lset (its := its) (its' := its ++ [.ref T]) (f := (·.push (.ref T))) (t' := s'.toks) hS' e (by simp) (ys := acc ++ [V.ref T]) (show Vals (acc ++ [V.ref T]) (its ++ [Value.ref T]) from rv.append (.cons rfl .nil)) (by rw [List.length_append, List.length_singleton, j4]; omega)
    refine zip_drain hh D hJ hz je n (i + 1) (acc ++ [.ref T]) _ _ (by omega) (hJ.st i acc H T _ _ j (List.getElem?_eq_getElem hx) (List.getElem?_eq_getElem hy) hT) I2 (fun c hc => ?_) (q'.kept (notS hS' fp') fun c o hc e => (Heap.get?_update_other _ _ (Ne.symm hc)).trans e)
    obtain ⟨f1, f2⟩ := fp' c hc
    exact ⟨by rw [upd_ne (notS hS' fp' c hc)]; exact f1, f2⟩
/-- list(z), z a zip that has not begun -/
theorem call_list_zip {H : Hp} {s : Shared} {Q : Value → Shared → Prop} {E : Value → Shared → Prop} (hh : A.handled = none) (D : ZipApart z TI TO i1 i2 a b) (I : Inv X pins σ H s) (fp : ∀ c ∈ [z, TI, TO, i1, i2], FpOk X pins H c)
    (zi : IsZip s.heap z TI TO .none) (q : ZipAt z TI TO i1 i2 a b s.heap.objs.size 0 s.heap) (hJ : Zj X a b s.heap.objs.size xs ys J) (hz : min xs.length ys.length ≤ sizeLine) (j0 : J 0 [] (upd H s.heap.objs.size (.lst [])))
    (je : ∀ acc H s', J (min xs.length ys.length) acc H → Inv X pins σ H s' → Q (.ref s.heap.objs.size) s') : wpAny (model X.prog X.w) A (call (.type "list") [.ref z]) Q E s := by
  have hn : H s.heap.objs.size = none := I.hok.fresh (Nat.le_refl _)
  have nS : ∀ c ∈ [z, TI, TO, i1, i2], c ≠ s.heap.objs.size := fun c hc => by
    obtain ⟨o, e⟩ := q.there c hc
    exact Nat.ne_of_lt (Heap.lt_size e)
  have I1 : Inv X pins σ (upd H s.heap.objs.size (.lst [])) { s with heap := s.heap.push { cls := .type "list", data := .seq #[] } } := I.lnew (its := []) (t' := s.toks) .nil (Nat.zero_le _)
  have fp1 : ∀ c ∈ [z, TI, TO, i1, i2], FpOk X pins (upd H s.heap.objs.size (.lst [])) c := fun c hc => by
    obtain ⟨f1, f2⟩ := fp c hc
    exact ⟨by rw [upd_ne (nS c hc)]; exact f1, f2⟩
  have q1 : ZipAt z TI TO i1 i2 a b s.heap.objs.size 0 (s.heap.push { cls := .type "list", data := .seq #[] }) := q.kept nS fun c o _ e => Heap.get?_push_of_some _ e
  have zi1 : IsZip (s.heap.push { cls := .type "list", data := .seq #[] }) z TI TO .none := Heap.get?_push_of_some _ zi
  refine callType_codes (Q₁ := fun obj s₁ => obj = .ref s.heap.objs.size ∧ s₁ = { s with heap := s.heap.push { cls := .type "list", data := .seq #[] } }) F.called_list (F.typeCall_list_1 _) F.entry_list_init
    (code_list_new _ ⟨rfl, rfl⟩) fun obj sx hsx => ?_
  obtain ⟨rfl, rfl⟩ := hsx
  have e1 : (s.heap.push { cls := .type "list", data := .seq #[] }).get? s.heap.objs.size = some { cls := .type "list", data := .seq #[] } := Heap.get?_push_size _ rfl
  refine ⟨⟨_, e1, rfl⟩, F.args_list_init_2 _ _, ?_⟩
  generalize hSz : s.heap.objs.size = L at *
  generalize hh1 : s.heap.push { cls := .type "list", data := .seq #[] } = h1 at *
  show wpAny _ A.in1.in1 (do let old ← Builtin.List.listItems (.ref L); Builtin.List.listUpdate (.ref L) (fun _ => #[]); letGo old.toList.reverse; Builtin.List.listExtendWith (.ref L) (.ref z) .none) _ _ _
  refine wpAny_bind ?_
  unfold Builtin.List.listItems
  refine wpAny_bind (wpAny_seqItems e1 rfl (wpAny_pure ?_))
  show wpAny _ A.in1.in1 (updateSeq L (fun _ => #[]) >>= fun _ => letGo (#[] : Array Value).toList.reverse >>= fun _ => Builtin.List.listExtendWith (.ref L) (.ref z) .none) _ _ _
  refine wpAny_bind (wpAny_updateSeq e1 rfl ?_)
  have I2 := I1.lset (its := []) (its' := []) (f := fun _ => #[]) (t' := s.toks) (ys := []) (upd_same) e1 rfl .nil (Nat.zero_le _)
  rw [upd_upd] at I2
  have e2 := Heap.get?_update_self (Obj.mapSeq (fun _ => (#[] : Array Value))) e1 rfl
  have oth : ∀ {h : Heap} {f : Obj → Obj}, ∀ c o, c ≠ L → h.get? c = some o → (h.update L f).get? c = some o := fun c o hc e => (Heap.get?_update_other _ _ (Ne.symm hc)).trans e
  have q2 := q1.kept (h' := h1.update L (Obj.mapSeq fun _ => #[])) nS oth
  have zi2 : IsZip (h1.update L (Obj.mapSeq fun _ => #[])) z TI TO .none := oth z _ (nS z (by simp)) zi1
  refine wpAny_bind (wpAny_letGo ?_)
  generalize hh2 : h1.update L (Obj.mapSeq fun _ => #[]) = h2 at *
  unfold Builtin.List.listExtendWith
  have ty : ∀ {h : Heap}, ZipAt z TI TO i1 i2 a b L 0 h → ({ s with heap := h } : Shared).TypeIs (.ref z) "zip" := fun q => q.zobj
  have nLz : L ≠ z := Ne.symm (nS z (by simp))
  refine wpAny_bind (wpAny_typeOf (ty q2) ?_)
  have c1 : Builtin.List.listSameRef (.ref L) (.ref z) = false := by simp [Builtin.List.listSameRef, nLz]
  have c2 : (Value.type "zip" == Value.type "list") = false := by decide
  have c3 : (Value.type "zip" == Value.type "tuple") = false := by decide
  simp only [c1, c2, c3, Bool.or_false, Bool.false_eq_true, if_false]
  refine wpAny_bind (wpAny_pyIter_zip (s := { s with heap := h2 }) zi2 ?_)
  refine wpAny_bind (wpAny_holding ?_)
  unfold Builtin.List.listLengthHint
  refine wpAny_bind (wpAny_specialOf (ty q2) zip_nolen ?_)
  show wpAny _ A.in1.in1 (specialOf (Value.ref z) (Str.ofString "__length_hint__") >>= _) _ _ _
  refine wpAny_bind (wpAny_specialOf (ty q2) zip_nohint ?_)
  refine wpAny_pure ?_
  show wpAny _ A.in1.in1 (rule "list.extend.makes-room" >>= fun _ => Builtin.List.listTouch (.ref L) >>= fun _ =>
    again (.builtin "list.extend.loop" ⟨[.ref L, .ref z, .none], []⟩)) _ _ _
  refine wpAny_bind (wpAny_rule ?_)
  refine wpAny_bind ?_
  show wpAny _ A.in1.in1 (updateSeq L (·.push .none) >>= fun _ => updateSeq L (·.pop)) _ _ _
  refine wpAny_bind (wpAny_updateSeq e2 rfl ?_)
  have e3 := Heap.get?_update_self (Obj.mapSeq (·.push Value.none)) e2 rfl
  have I3 := I2.lset (its := []) (its' := [.none]) (f := (·.push Value.none)) (t' := s.toks) (ys := [V.non]) (upd_same) e2 rfl (.cons rfl .nil) (by show 1 ≤ sizeLine; decide)
  rw [upd_upd] at I3
  have I4 := I3.lset (its := [.none]) (its' := []) (f := (·.pop)) (t' := s.toks) (ys := []) (upd_same) e3 rfl .nil (Nat.zero_le _)
  rw [upd_upd] at I4
  have q3 := (q2.kept (h' := h2.update L (Obj.mapSeq (·.push Value.none))) nS oth).kept (h' := (h2.update L (Obj.mapSeq (·.push Value.none))).update L (Obj.mapSeq (·.pop))) nS oth
  refine wpAny_updateSeq (hz := by seq_fits) e3 rfl ?_
  refine wpAny_pure ⟨plainId_quiet F.plain_extend_loop _, ?_⟩
  exact zip_drain (A := A.in1) hh D hJ hz (fun acc H' s' j I' => ⟨rfl, je acc H' s' j I'⟩) (min xs.length ys.length) 0 [] _ _ (Nat.zero_add _) j0 I4 fp1 q3
end
section
variable {X : Cx} {e e2 : Expr} {p p2 pos pos2 : Pos}
def tLZ (X : Cx) (ta : TA) : TE := fun σ H Q => ta σ H fun vs H1 => ∃ (a b : Addr) (xs ys : List V), vs = [.ref a, .ref b] ∧ SqL X.K H1 a xs ∧ SqL X.K H1 b ys ∧
  ∀ S, H1 S = none → ∃ J, Zj X a b S xs ys J ∧ J 0 [] (upd H1 S (.lst [])) ∧ ∀ acc H2, J (min xs.length ys.length) acc H2 → Q (.ref S) H2
theorem pe_listZip {ta : TA} (hc : X.calm = true) (hm : X.mg "list" = none) (hm2 : X.mg "zip" = none) (ha : PA X [e, e2] ta) (hg : Gl X "list") (hg2 : Gl X "zip")
    (he : starEach [.Call (.Name "zip" p2) [e, e2] [] pos2] X.env = (false, eval (.Call (.Name "zip" p2) [e, e2] [] pos2) X.env) :: starEach [] X.env) (hpl : (backTo pos (starEach [] X.env)).any (·.1) = false)
    (hs : starEach [e, e2] X.env = (false, eval e X.env) :: starEach [e2] X.env) (hpl2 : (backTo pos2 (starEach [e2] X.env)).any (·.1) = false) :
    PE X (.Call (.Name "list" p) [.Call (.Name "zip" p2) [e, e2] [] pos2] [] pos) (tLZ X ta) := by
  refine ⟨fun pins s σ H Q I h => ?_⟩
  refine wpAny_Call_Name_kw (ld_blt I hg hm (show bootBuiltins "list" = some (.type "list") by decide +kernel) ?_ (by decide) (by decide))
  refine PyProof.Rows.callWith_type1 ?_ he hpl
  rw [he]
  show wpAny _ _ (spliced ((false, eval (.Call (.Name "zip" p2) [e, e2] [] pos2) X.env) :: backTo pos (starEach [] X.env))) _ _ s
  refine Calls.spliced_cons ?_
  refine wpAny_Call_Name_kw (ld_blt I hg2 hm2 PyProof.Rows.boot_zip ?_ (by decide) (by decide))
  refine PyProof.Rows.callWith_type1 (thn (ha.run pos2 pins s σ H _ I h) fun us s1 ⟨vs, H1, I1, r1, q1⟩ => ?_) hs hpl2
  obtain ⟨a, b, xs, ys, ex, hqx, hqy, q⟩ := q1
  subst ex
  cases r1 with
  | cons r rr =>
   cases rr with
   | cons r' rr =>
    cases rr
    cases r
    cases r'
    obtain ⟨its, rv, p1, z1⟩ := I1.list hqx
    obtain ⟨its2, rv2, p2, z2⟩ := I1.list hqy
    refine call_zip_2 p1.isList p2.isList fun h' hz hTI hTO h1 h2 hsz hk => ?_
    have I2 : Inv X pins σ H1 { s1 with heap := h' } := I1.kept (t' := s1.toks) hk
    refine Calls.spliced_nil ?_
    obtain ⟨J, hJ, j0, je⟩ := q h'.objs.size (I2.hok.fresh (Nat.le_refl _))
    have fp : ∀ c ∈ [s1.heap.objs.size + 4, s1.heap.objs.size + 2, s1.heap.objs.size + 3, s1.heap.objs.size, s1.heap.objs.size + 1], FpOk X pins H1 c := fun c hc => by
      have hle : s1.heap.objs.size ≤ c := by
        simp only [List.mem_cons, List.not_mem_nil, or_false] at hc
        rcases hc with z | z | z | z | z <;> rw [z] <;> first | exact Nat.le_refl _ | exact Nat.le_add_right _ _
      exact I1.fpOk hle (I1.hok.fresh hle)
    exact call_list_zip (s := { s1 with heap := h' }) (I.ok.hd hc) (PySem.W.ktu_apart s1.heap.objs.size a b p1.lt p2.lt) I2 fp hz ⟨hTI, h1, h2, ⟨_, hTO⟩, .inl ⟨hz, _, _, hTO⟩⟩ hJ (by omega) j0 fun acc H2 s' j I' => ⟨.ref h'.objs.size, H2, I', rfl, je acc H2 j⟩
end
/-- an object of ours beside the state is written -/
theorem Rel.wrNew {K : PySem.W.Frag} {mg : Str → Option Value} {E : En} {w : Wd} {s : S} {σ : L2.St} {H : Hp} {p : Addr} {m m' : MC} {o : HO} (r : Rel K mg E w s σ H) (n : New K mg E w s σ H p m) (c : CellOk K mg w (upd H p o) p m') :
    Rel K mg E w s σ (upd H p o) ∧ New K mg E w s σ (upd H p o) p m' := by
  have k : ∀ a u, a ≠ p → H a = some u → upd H p o a = some u := fun a u z y => by rw [upd_ne z]; exact y
  have nG : ∀ a u, w.G a = some u → a ≠ p := fun a u y z => by rw [z, n.g] at y; cases y
  refine ⟨⟨fun a u y => k a u (nG a u y) (r.ex a u y), r.nd, r.off, Paired.mapI r.cl fun j a m ha _ cc => CellOk.up K mg Le.rfl (fun u y => k a u (fun z => n.n (by rw [← z]; exact List.mem_of_getElem? ha)) y) cc, ?_, r.ow, r.eL, fun a u y z => k a u (fun zz => by rw [zz, n.e] at y; cases y) (r.keep a u y z), r.away⟩, c, n.g, n.n, n.e, n.o⟩
  refine Paired.mapI r.sl fun i x y hx hy q => ?_
  cases x with
  | no => trivial
  | val d => cases y with
    | none => exact q
    | some v => exact q
  | own m1 => cases y with
    | none => exact q
    | some v => cases v with
      | ref a =>
        obtain ⟨q1, q2, q3, q4⟩ := q
        exact ⟨CellOk.up K mg Le.rfl (fun u y => k a u (fun t => n.o i m1 hx (by rw [hy, t])) y) q1, q2, q3, q4⟩
      | _ => exact q
/-- .. while another is made known -/
theorem New.add {K : PySem.W.Frag} {mg : Str → Option Value} {E : En} {w : Wd} {s : S} {σ : L2.St} {H : Hp} {p T : Addr} {m : MC} {o : HO} (r : Rel K mg E w s σ H) (n : New K mg E w s σ H p m) (hT : H T = none) : New K mg E ⟨upd w.G T o, w.as⟩ s σ (upd H T o) p m := by
  have hp : p ≠ T := fun e => by
    obtain ⟨u, hu⟩ := n.ok.there
    rw [e, hT] at hu; cases hu
  exact ⟨CellOk.up K mg (r.known (o := o) hT).1 (fun u e => by rw [upd_ne (ne_of_none e hT)]; exact e) n.ok, by show upd w.G T o p = none; rw [upd_ne hp]; exact n.g, n.n, n.e, n.o⟩
section
variable {X : Cx} {e e2 : Expr} {p p2 pos pos2 : Pos} {s s1 : S} {xs ys : List D}
theorem ec_listzip (hm : X.mg "list" = none) (hm2 : X.mg "zip" = none) (ha : Ea X [e, e2] s [.lst xs, .lst ys] s1) (hc : X.calm = true := by rfl) (hg : Gl X "list" := by rfl) (hg2 : Gl X "zip" := by rfl)
    (he : starEach [.Call (.Name "zip" p2) [e, e2] [] pos2] X.env = (false, eval (.Call (.Name "zip" p2) [e, e2] [] pos2) X.env) :: starEach [] X.env := by rfl) (hpl : (backTo pos (starEach [] X.env)).any (·.1) = false := by rfl)
    (hs : starEach [e, e2] X.env = (false, eval e X.env) :: starEach [e2] X.env := by rfl) (hpl2 : (backTo pos2 (starEach [e2] X.env)).any (·.1) = false := by rfl) :
    Ec X (.Call (.Name "list" p) [.Call (.Name "zip" p2) [e, e2] [] pos2] [] pos) s (.lst (zipD xs ys)) s1 :=
  ec_of (pe_listZip hc hm hm2 pa_sem hg hg2 he hpl hs hpl2) fun E w σ H r Q k => ha E w σ H r _ fun vs H1 w1 l1 r1 q => by
    obtain ⟨v, u, rfl, q1, q2⟩ := q.two
    cases q1 with
    | @lst t1 vs _ a b => cases q2 with
      | @lst t2 vs' _ a' b' =>
        refine ⟨t1, t2, vs, vs', rfl, Evl.ex_l r1.ex a, Evl.ex_l r1.ex a', fun S hS => ?_⟩
        refine ⟨fun i acc H => ∃ w', Le w1 w' ∧ Rel X.K X.mg E w' s1 σ H ∧ New X.K X.mg E w' s1 σ H S (.lst ((zipD xs ys).take i)) ∧ H S = some (.lst acc) ∧ acc.length = i, ⟨?_, ?_⟩, ?_, ?_⟩
        · rintro i acc H ⟨w', l', r', n', e', hl⟩
          exact ⟨r'.sq l' a, r'.sq l' a', e', hl⟩
        · rintro i acc H T x y ⟨w', l', r', n', e', hl⟩ hx hy hT
          obtain ⟨dx, hdx, rx⟩ := b.get' hx
          obtain ⟨dy, hdy, ry⟩ := b'.get' hy
          obtain ⟨l2, r2⟩ := r'.known (o := .tup [x, y]) hT
          have n2 := New.add (o := .tup [x, y]) r' n' hT
          obtain ⟨vs0, g1, g2⟩ := n2.ok
          have hST : S ≠ T := fun z => by rw [z, hT] at e'; cases e'
          have e2 : upd H T (.tup [x, y]) S = some (.lst acc) := by rw [upd_ne hST]; exact e'
          rw [e2] at g1
          cases g1
          have hz : (zipD xs ys)[i]? = some (.tup [dx, dy]) := by unfold zipD; rw [List.getElem?_zipWith, hdx, hdy]
          have et : (zipD xs ys).take (i + 1) = (zipD xs ys).take i ++ [.tup [dx, dy]] := by rw [List.take_succ, hz]; rfl
          obtain ⟨r3, n3⟩ := r2.wrNew n2 (o := .lst (acc ++ [.ref T])) (m' := .lst ((zipD xs ys).take (i + 1))) ⟨_, upd_same, by
            rw [et]
            exact g2.append (.cons (.tup (.inl (.inl upd_same)) (.cons ((rx.up l').up l2) (.cons ((ry.up l').up l2) .nil))) .nil)⟩
          exact ⟨_, l'.trans l2, r3, n3, upd_same, by rw [List.length_append, List.length_singleton, hl]⟩
        · exact ⟨w1, Le.rfl, r1.add hS, r1.isNew hS ⟨[], upd_same, by rw [List.take_zero]; exact .nil⟩, upd_same, rfl⟩
        · rintro acc H2 ⟨w', l', r', n', _, _⟩
          have e : (zipD xs ys).take (min vs.length vs'.length) = zipD xs ys := List.take_of_length_le (by unfold zipD; rw [List.length_zipWith, b.length, b'.length]; exact Nat.le_refl _)
          rw [e] at n'
          exact k S H2 w' (l1.trans l') r' n'
end
end Y
namespace Y
open PySem.Spec PySem PyProof.Rows L2
theorem Rm.in1 {k : Nat} {A : Around} (r : Rm (k + 1) A) : Rm k A.in1 := ⟨r.room.in1, r.gd⟩
/-- a method that a built-in function calls -/
structure SpcG (P : Program) (wd : World) (K : PySem.W.Frag) (mg : Str → Option Value) (base : Heap) (A : Around) (c mt : Str) (φ : Sc) : Prop where
  ex : ∃ C f k, mg c = some (.ref C) ∧ Cls K C ∧ Meth K C mt f ∧ Rm (k + 1) A ∧ FnG P wd K mg base k f φ
theorem Fx.spc {fa : List He.Fa} {fn : List He.DefD} {K : PySem.W.Frag} {mg : Str → Option Value} {x y : Str} {P : Program} {wd : World} {base : Heap} {A : Around} {φ : Sc} {j k : Nat} (F : Fx fa fn K mg) (g : FnG P wd K mg base j (He.fAd K (x, some y)) φ) (rm : Rm k A) (le : j + 1 ≤ k) (i i2 i3 : Nat) (e : fa[i]? = some (.glo x)) (e2 : fa[i2]? = some (.cls x)) (e3 : fa[i3]? = some (.meth x y)) : SpcG P wd K mg base A x y φ :=
  ⟨_, _, j, F.glo i e, He.cls_ok (F.c.fact i2 e2), He.meth_ok (F.c.fact i3 e3), rm.mono le, g⟩
/-- the callee runs inside a built-in and comes back -/
theorem run_in {X : Cx} {r : Res} {s : S} {ds : List D} {mu' : List MC} {φ : Sc} {A : Around} {k : Nat} {f : Addr} {pins : List (Addr × Obj)} {sh : Shared} {E : En} {w : Wd} {σ : L2.St} {H : Hp} {us : List Value} {vs : List V} {Q : VK} {xe : Value → Shared → Prop} (F : FnG X.prog X.w X.K X.mg X.base k f φ) (rm : Rm k A) (hfr : A.frames = X.A.frames) (I : Inv X pins σ H sh)
    (rl : Rel X.K X.mg E w s σ H) (va : Vals vs us) (rs : Rs X.K X.mg w vs ds) (h : φ ds s.mu r mu') (hne : ∀ c fs, r ≠ .exc c fs)
    (k2 : ∀ v H' w', Le w w' → Rel X.K X.mg E w' ⟨s.ls, mu'⟩ σ H' → ResOk X.K X.mg E w' ⟨s.ls, mu'⟩ σ H' v r → Q v H') : wpAny (model X.prog X.w) A (call (.ref f) us) (EP X pins σ Q) xe sh := by
  have env : Env0 X.prog X.w X.K X.mg X.base A X.stack sh H := by
    have e := I.env0
    exact ⟨by rw [hfr]; exact e.frames, e.mod, e.bs, e.bsz, e.funs, e.frf, e.hok, e.bare⟩
  refine wpAny_call (codeAny_mono (F.run A X.stack sh H us vs Q (fun _ _ _ => False) rm env va ⟨w, ds, s.mu, r, mu', ⟨rl.ex, rl.nd, rl.off, rl.cl⟩, rs, h, fun v H' w' st c rv => ?_, fun c fs C dd vs' H' w' e => absurd e (hne c fs)⟩) fun rr s' hq => ?_)
  · refine k2 v H' w' st.le (Step.toRel rl st c) ?_
    cases r with
    | val d => exact rv
    | exc c fs => exact rv
    | new m =>
      obtain ⟨p, e, c1, g1, n1, h1⟩ := rv
      refine ⟨p, e, c1, g1, n1, rl.en_none h1 fun z => rl.none_as h1 (rl.eL.mem z), fun i m' hi e' => ?_⟩
      obtain ⟨a, e2, c2, _⟩ := rl.own_at hi
      rw [e'] at e2; cases e2
      obtain ⟨o', e3⟩ := c2.there
      rw [h1] at e3; cases e3
  · cases rr with
    | error er =>
      obtain ⟨_, _, _, _, _, _, _, _, _, _, _, _, hf⟩ := hq
      exact hf.elim
    | ok fl => cases fl with
      | ret u => exact I.after hq
      | next => exact hq.elim
      | brk => exact hq.elim
      | cont => exact hq.elim
section
variable {X : Cx} {pos : Pos} {s s0 : S} {d0 : D} {e : Expr}
def tLenO (X : Cx) (te : TE) (R : V → L2.St → Hp → VK → Prop) : TE := fun σ H Q => te σ H fun v H1 => R v σ H1 Q
/-- len(o), o an object with an own __len__ -/
theorem ev_leno {p : Pos} {c : Str} {fs : List (Str × D)} {φ : Sc} {n : Int} {mu' : List MC} (hm : X.mg "len" = none) (M : SpcG X.prog X.w X.K X.mg X.base X.A c "__len__" φ) (ho : Ev X e s d0 s0) (hi : IsObj s0 c fs d0) (h : φ [d0] s0.mu (.val (.int n)) mu') (h0 : 0 ≤ n) (h1 : n < 2 ^ 63)
    (hg : Gl X "len" := by rfl) (he : starEach [e] X.env = (false, eval e X.env) :: starEach [] X.env := by rfl) (hpl : (backTo pos (starEach [] X.env)).any (·.1) = false := by rfl) : Ev X (.Call (.Name "len" p) [e] [] pos) s (.int n) ⟨s0.ls, mu'⟩ := by
  intro E w σ H rl Q k pins sh I
  obtain ⟨C, f, kk, g, cl, me, rm, F⟩ := M.ex
  refine wpAny_Call_Name_kw (ld_blt I hg hm boot_len ?_ (by decide) (by decide))
  refine PyProof.Rows.callWith_builtin1 ?_ he hpl
  refine thn ((pa_cons pe_sem pa_nil he : PA X [e] (tCons (semE X e) tNil)).run pos pins sh σ H (fun vs H1 => ∃ v w1, vs = [v] ∧ Le w w1 ∧ Rel X.K X.mg E w1 s0 σ H1 ∧ R X.K X.mg w1 v d0) I (ho E w σ H rl _ fun v H1 w1 l1 r1 q1 => ⟨v, w1, rfl, l1, r1, q1⟩)) fun us s1 h1' => ?_
  obtain ⟨vs, H1, I1, va, v, w1, rfl, l1, r1, q1⟩ := h1'
  obtain ⟨u, rfl, ru⟩ := vals1 va
  obtain ⟨p', C', dx, fv, rfl, g', hp, hf⟩ := hi.at r1 q1
  rw [g] at g'; cases g'
  cases ru
  obtain ⟨mA, O, _⟩ := ins_get I1.hok hp
  obtain ⟨od, J, _⟩ := O.look
  refine Calls.call_function_entry kind_len plain_len entry_len (args_len1 _) ?_
  unfold Builtin.«len»
  refine wpAny_bind (m := oneArg "len" _) (wpAny_pure ?_)
  refine wpAny_bind (m := callSpecial? (.ref p') (Str.ofString "__len__")) (PySem.W.special_fn I1.kIn J me.at_ (beq_iff_eq.mp me.fn) ?_)
  refine wpAny_mono (run_in (A := X.A.in1) (us := [.ref p']) (vs := [.ref p']) (Q := fun v H' => v = .int n ∧ Q (.int n) H') F rm.in1 rfl I1 r1 (.cons rfl .nil) (.cons q1 .nil) h (fun _ _ z => nomatch z) fun v H' w' l' r' rv => ?_) (fun u' s' hq => ?_) fun _ _ y => y
  · cases rv
    exact ⟨rfl, k _ H' w' (l1.trans l') r' (.int n)⟩
  · obtain ⟨v, H', I', rv, ev, q⟩ := hq
    subst ev
    obtain ⟨t, rfl⟩ := rv
    refine wpAny_bind (wpAny_holding (wpAny_pure ?_))
    refine wpAny_bind (wpAny_letGo ?_)
    show wpAny _ _ (if n < 0 then _ else _) _ _ _
    rw [if_neg (by omega)]
    show wpAny _ _ (if n ≥ 2 ^ 63 then _ else _) _ _ _
    rw [if_neg (by omega)]
    exact wpAny_bind (wpAny_mkInt (wpAny_pure ⟨_, rfl, ⟨.int n, H', I'.tok _, ⟨_, rfl⟩, q⟩⟩))
end
end Y
namespace Y
open PySem.Spec PySem PyProof.Rows L2
/-- a list as an argument: a tree, or a cell -/
def LsA (mu : List MC) (d : D) (ds : List D) : Prop := d = .lst ds ∨ ∃ j, d = .cell j ∧ mu[j]? = some (.lst ds)
theorem LsA.app {mu : List MC} {d : D} {ds : List D} (h : LsA mu d ds) (m : List MC) : LsA (mu ++ m) d ds := by
  rcases h with h | ⟨j, h, e⟩
  · exact .inl h
  · exact .inr ⟨j, h, by rw [List.getElem?_append_left (List.getElem?_eq_some_iff.mp e).1]; exact e⟩
theorem LsA.look {K : PySem.W.Frag} {mg : Str → Option Value} {E : En} {w w1 : Wd} {s : S} {σ : L2.St} {H : Hp} {v : V} {d : D} {ds : List D} (r : Rel K mg E w s σ H) (l : Le w1 w) (q : R K mg w1 v d) (h : LsA s.mu d ds) : ∃ p vs, v = .ref p ∧ SqL K H p vs ∧ Rs K mg w vs ds := by
  rcases h with h | ⟨j, h, e⟩
  · subst h
    cases q with
    | lst a b => exact ⟨_, _, rfl, r.sq l a, b.up l⟩
  · subst h
    cases q with
    | cell ha =>
      obtain ⟨vs, h1, h2⟩ := r.cell_at e (l.get ha)
      exact ⟨_, vs, rfl, SqL.of h1, h2⟩
section
variable {X : Cx} {tg e : Expr} {pos p : Pos} {s s1 : S} {d : D} {ds : List D}
theorem el_lsa (h : Ev X e s d s1) (hl : LsA s1.mu d ds) : El X e s ds s1 := fun E w σ H r Q k => h E w σ H r Q fun v H' w' l r' q => by
  obtain ⟨p, vs, rfl, _, _⟩ := LsA.look r' Le.rfl q hl
  refine k p H' w' l r' fun w2 H2 l2 r2 => ?_
  obtain ⟨p', vs2, e, a, b⟩ := LsA.look r2 l2 q hl
  cases e
  exact ⟨vs2, a, b⟩
theorem eit_lsa (h : Ev X e s d s1) (hl : LsA s1.mu d ds) : Eit X tg e s ds s1 (fun mu => LsA mu d ds) := ⟨_, pi_list pe_sem, fun E w σ H r Rr k => h E w σ H r _ fun v H' w' l r' q => by
  obtain ⟨p, vs, rfl, a, b⟩ := LsA.look r' Le.rfl q hl
  refine ⟨p, rfl, ⟨vs, a⟩, k _ H' w' l r' fun E2 w2 s2 σ2 H2 i l2 r2 g2 => ?_⟩
  obtain ⟨p', vs2, e, a2, b2⟩ := LsA.look r2 l2 q g2
  cases e
  refine ⟨fun hi => ⟨vs2, a2, by rw [b2.length]; exact hi⟩, fun d hd => ?_⟩
  obtain ⟨y, hy, ry⟩ := b2.get hd
  refine ⟨⟨vs2, y, a2, hy⟩, fun x H' ⟨e1, f⟩ => ?_⟩
  subst e1
  have e2 := f vs2 a2
  rw [hy] at e2; cases e2
  exact ⟨w2, Le.rfl, r2, ry⟩⟩
theorem eit_enuma {elts : List Expr} {kk : Nat} {tpos : Pos} (hm : X.mg "enumerate" = none) (ha : Ev X e s d s1) (hl : LsA s1.mu d ds) (hg : Gl X "enumerate" := by rfl) (hs : starEach [e] X.env = [(false, eval e X.env)] := by rfl) :
    Eit X (.Tuple elts kk tpos) (.Call (.Name "enumerate" p) [e] [] pos) s (enumD ds) s1 (fun mu => LsA mu d ds) := ⟨_, pi_enum hg hm (pa_cons pe_sem pa_nil hs) hs, fun E w σ H r Rr k => ha E w σ H r _ fun v H' w' l r' q => by
  obtain ⟨q0, vs, rfl, a, b⟩ := LsA.look r' Le.rfl q hl
  refine ⟨q0, vs, rfl, a, k _ H' w' l r' fun E2 w2 s2 σ2 H2 i l2 r2 g2 => ?_⟩
  obtain ⟨p', vs2, e, a2, b2⟩ := LsA.look r2 l2 q g2
  cases e
  refine ⟨fun hi => ⟨vs2, a2, by rw [b2.length]; simpa [enumD] using hi⟩, fun d hd => ?_⟩
  unfold enumD at hd
  rw [List.getElem?_mapIdx] at hd
  cases hx : ds[i]? with
  | none => rw [hx] at hd; cases hd
  | some d0 =>
    rw [hx] at hd; cases hd
    obtain ⟨y, hy, ry⟩ := b2.get hx
    refine ⟨⟨vs2, y, a2, hy⟩, fun x H' ⟨T, y', e1, hT, e2, f⟩ => ?_⟩
    subst e1 e2
    have e3 := f vs2 a2
    rw [hy] at e3; cases e3
    obtain ⟨l3, r3⟩ := r2.known (o := .tup [.int (i : Int), y]) hT
    exact ⟨_, l3, r3, .tup (.inl (.inl upd_same)) (.cons (.int _) (.cons (ry.up l3) .nil))⟩⟩
/-- isinstance of a list, wherever it stands -/
theorem ev_isil {p2 : Pos} {x : Str} {T : String} {b : Bool} (hm : X.mg "isinstance" = none) (hx : X.mg x = none) (hv : bootBuiltins x = some (.type T)) (ha : El X e s ds s1) (hk : PySem.W.kitOne X.K (.type "list") (.type T) = some b)
    (hn : x ≠ "__name__") (hd : (x == ("__debug__" : Str)) = false) (hgx : Gl X x := by rfl) (hg : Gl X "isinstance" := by rfl) (he : starEach [e, .Name x p2] X.env = (false, eval e X.env) :: starEach [.Name x p2] X.env := by rfl)
    (he2 : starEach [.Name x p2] X.env = (false, eval (.Name x p2) X.env) :: starEach [] X.env := by rfl)
    (hpl : (backTo pos (starEach [.Name x p2] X.env)).any (·.1) = false := by rfl) : Ev X (.Call (.Name "isinstance" p) [e, .Name x p2] [] pos) s (.bl b) s1 :=
  ev_of (pe_callB call_isi hg hm (by decide +kernel) (pa_cons pe_sem (pa_cons (pe_bltn (v := .ty T) hgx hx hv rfl hn hd) pa_nil he2) he) (by decide) (by decide) he hpl) fun E w σ H r Q k => ha E w σ H r _ fun q H1 w1 l1 r1 f => by
    obtain ⟨vs, g1, g2⟩ := f w1 H1 Le.rfl r1
    have ty : TyX X.K H1 (.ref q) (.type "list") := by
      rcases g1 with (a | ⟨o, a⟩) | ⟨o, its, n, a, c, _⟩
      · exact .base (.lst a)
      · exact .base (.frz a)
      · exact .kList a c
    exact ⟨.ref q, .ty T, _, _, b, rfl, .ty T, ty, hk, k _ H1 w1 l1 r1 (.bl b)⟩
end
end Y
namespace Y
open PySem.Spec PySem PyProof.Rows L2
/-- target = e, any target -/
theorem bk_tgt {X : Cx} {tg e : Expr} {pos : Pos} {s s1 s2 : S} {d : D} {P : Post} {rest : List Stmt} {g : TG} {js : List Nat} (he : Ev X e s d s1) (hg : PG X tg g) (ht : TgT X.K X.mg js g d s1 s2) (k : Bk X rest s2 P)
    (hs : swapsWithSole [tg] e pos.line X.env = pure false := by rfl) (hw : swappedStores [tg] e X.env = pure none := by rfl) (h1 : (assignEach [tg] X.env).map (·.2) = [assign tg X.env] := by rfl) : Bk X (.Assign [tg] e pos :: rest) s P :=
  bk_cons (ps_asg pe_sem hg hs hw h1) fun W tk E w σ H r D f => he E w σ H r _ fun v H' w' l r' q => ht E w' σ H' v r' q _ fun σ' _ _ r2 => f.nx _ w' _ H' k r2
end Y
namespace Y
open PySem.Spec PySem PyProof.Rows L2
/-- over a range, with a state -/
theorem xc_lcr {X : Cx} {tg iter elt : Expr} {scope : Scope} {pos : Pos} {s s1 : S} {gd : List MC → Prop} {g : TG} {js : List Nat} {lo : Int} {n : Nat} (f : Nat → List MC) (q : Nat → D) (hN : X.N.Nodup) (own : List (Str × Nat)) (hi : Eit X tg iter s (rngD lo n) s1 gd) (ok : blkC X.N X.env.scope scope own = true)
    (hg : ∀ (s0 : Shared) (H0 : Hp) (C : Addr) (cl : List (Str × Addr)) (fp : List Addr), PG (X.blk s0 H0 scope (compEnvC scope cl C X.env) fp) tg g)
    (f0 : f 0 = s1.mu) (hj : ∀ j ∈ js, j ∈ own.map (·.2)) (hv : ∀ v ∈ own.map (·.2), ∀ m, s1.ls[v]? ≠ some (.own m)) (hz : n ≤ 16777216)
    (ht : ∀ i, i < n → ∃ s2 s4, TgT X.K X.mg js g (.int (lo + (i : Int))) ⟨wipeL s1.ls (own.map (·.2)), f i⟩ s2 ∧ (∀ (s0 : Shared) (H0 : Hp) (C : Addr) (cl : List (Str × Addr)) (fp : List Addr), Ev (X.blk s0 H0 scope (compEnvC scope cl C X.env) fp) elt s2 (q i) s4) ∧
      s4.mu = f (i + 1) ∧ wipeL s4.ls (own.map (·.2)) = wipeL s1.ls (own.map (·.2)))
    (hok : ∀ i, i ≤ n → gd (f i) := by intros; trivial) (hc : X.calm = true := by rfl) (hs : ∀ x, foldedSetIterable iter X.env x = pure x := by intro _; rfl) : Xc X (.ListComp elt [⟨tg, iter, [], 0⟩] scope pos) s (.lst ((List.range n).map q)) ⟨s1.ls, f n⟩ := by
  have main := xc_lc (pos := pos) (scope := scope) (elt := elt) hN own hi ok hg f q f0 hj hv (by rw [rng_len]; exact hz) (fun i d hd => by
    obtain ⟨h1, rfl⟩ := rng_get hd
    exact ht i h1) (fun i h => hok i (by rw [rng_len] at h; exact h)) hc hs
  rw [rng_len] at main
  exact main
end Y
namespace Y
open PySem.Spec PySem PyProof.Rows L2
/-- an object as an argument: a tree, or a cell -/
def ObA (mu : List MC) (d : D) (c : Str) (fs : List (Str × D)) : Prop := d = .obj c fs ∨ ∃ i, d = .cell i ∧ mu[i]? = some (.obj c fs)
theorem ObA.is {s : S} {d : D} {c : Str} {fs : List (Str × D)} (h : ObA s.mu d c fs) : IsObj s c fs d := by
  rcases h with h | ⟨i, h, e⟩
  · subst h; exact .tree
  · subst h; exact .cell e
end Y
namespace Y
open PySem.Spec PySem PyProof.Rows L2
/-! ### the bag -/
structure Bag where
  a : Int
  b : Int
  c : Nat
  ns : List Int
def Bag.m (g : Bag) : MC := .lst [.int g.a, .int g.b, .int (g.c : Int), .lst (g.ns.map .int)]
def Bag.cell (g : Bag) : Int := g.ns.getD g.c 0
def Bag.fill (g : Bag) : Bag := if g.a = 0 then ⟨if 1000000000000000000 ≤ g.cell then g.cell else g.a, (g.b * 48271 + g.cell % 2147483647 + 7919 * ((g.c : Int) + 1)) % 2147483647, g.c + 1, g.ns⟩ else g
def Bag.low (g : Bag) (m : Int) : Int :=
  let f := (g.b + 1) * 39373 % 1000000007
  let s := f * f % 998244353 * 30011 % 998244353
  if 1000000 < m then (s * 1000000007 + f) % m else s / 7 % m
def Bag.tk (g : Bag) (m : Int) : Int := if 0 < g.fill.a then g.fill.a % m else g.fill.low m
def Bag.nx (g : Bag) (m : Int) : Bag := if 0 < g.fill.a then ⟨g.fill.a / m, g.fill.b, g.fill.c, g.fill.ns⟩ else g.fill
theorem Bag.tk_lo (g : Bag) {m : Int} (h : 0 < m) : 0 ≤ g.tk m := by
  unfold Bag.tk Bag.low
  split
  · exact Int.emod_nonneg _ (by omega)
  · dsimp only
    split <;> exact Int.emod_nonneg _ (by omega)
theorem Bag.tk_hi (g : Bag) {m : Int} (h : 0 < m) : g.tk m < m := by
  unfold Bag.tk Bag.low
  split
  · exact Int.emod_lt_of_pos _ h
  · dsimp only
    split <;> exact Int.emod_lt_of_pos _ h
def Bag.it (g : Bag) (m : Int) : Nat → Bag
  | 0 => g
  | i + 1 => (g.it m i).nx m
def bag0 (ns : List Int) : Bag := ⟨0, 1234567891, 0, (ns.take 63).map fun i => (i.natAbs : Int)⟩
def φ__law_bag : Sc := fun ds mu r mu' => ∃ ns : List Int, ds = [.lst (ns.map .int)] ∧ r = .new (bag0 ns).m ∧ mu' = mu
def φ__law_take : Sc := fun ds mu r mu' => ∃ (b : Bag) (m : Int) (rest : List MC), ds = [.cell 0, .int m] ∧ mu = b.m :: rest ∧ (0 < m ∧ m < 2 ^ 64) ∧ r = .val (.int (b.tk m)) ∧ mu' = (b.nx m).m :: rest
theorem bag_get {ns : List Int} {c : Nat} (h : ((c : Int)) < ((ns.map D.int).length : Int)) : L2.atI (ns.map D.int) (c : Int) = some (.int (ns.getD c 0)) := by
  rw [List.length_map] at h
  have h2 : c < ns.length := by omega
  unfold L2.atI ixN
  rw [if_pos (by omega), if_pos (by rw [List.length_map]; omega)]
  show (ns.map D.int)[(c : Int).toNat]? = _
  rw [Int.toNat_natCast, List.getElem?_map, List.getElem?_eq_getElem h2, List.getD_eq_getElem?_getD, List.getElem?_eq_getElem h2]; rfl
theorem cut_map {α β : Type} (f : α → β) (xs : List α) (l u : Option Int) : cut (xs.map f) l u = (cut xs l u).map f := by
  unfold cut
  rw [List.length_map, List.map_take, List.map_drop]
theorem cut_nat {α : Type} (xs : List α) (a b : Nat) : cut xs (some (a : Int)) (some (b : Int)) = (xs.take b).drop a := by
  unfold cut
  rw [HT.sIx_nat, HT.sIx_nat, List.drop_take]
  by_cases h : a ≤ xs.length
  · have e : min a xs.length = a := by omega
    rw [e]
    by_cases h2 : b ≤ xs.length
    · have e2 : min b xs.length = b := by omega
      rw [e2]
    · have e2 : min b xs.length = xs.length := by omega
      rw [e2, List.take_of_length_le (by rw [List.length_drop]; omega), List.take_of_length_le (by rw [List.length_drop]; omega)]
  · have e : min a xs.length = xs.length := by omega
    rw [e, List.drop_eq_nil_of_le (Nat.le_refl _), List.drop_eq_nil_of_le (as := xs) (i := a) (by omega)]; simp
theorem cut_front {α : Type} (xs : List α) (n : Nat) : cut xs none (some (n : Int)) = xs.take n := by
  have := cut_nat xs 0 n
  rw [List.drop_zero] at this
  rw [← this]
  unfold cut
  rw [HT.sIx_none]
  have e : HT.sIx xs.length 0 (some ((0 : Nat) : Int)) = 0 := by rw [HT.sIx_nat]; omega
  rw [e]
theorem cut_back {α : Type} (xs : List α) (n : Nat) : cut xs (some (n : Int)) none = xs.drop n := by
  have := cut_nat xs n xs.length
  rw [List.take_length] at this
  rw [← this]
  unfold cut
  rw [HT.sIx_none, HT.sIx_nat xs.length xs.length]
  rw [Nat.min_self]
theorem cut_last {α : Type} (xs : List α) : cut xs none (some (-1)) = xs.dropLast := by
  unfold cut
  rw [HT.sIx_none]
  have e : HT.sIx xs.length xs.length (some (-1)) = xs.length - 1 := by
    show (if (-1 : Int) < 0 then ((-1 : Int) + (xs.length : Int)).toNat else min (-1 : Int).toNat xs.length) = _
    rw [if_pos (by omega)]; omega
  rw [e, List.drop_zero, Nat.sub_zero, List.dropLast_eq_take]
end Y
namespace Y
open PySem.Spec PySem PyProof.Rows L2
/-! ### helpers -/
theorem map_get {α : Type} {f : α → D} {xs : List α} {i : Nat} {d : D} (h : (xs.map f)[i]? = some d) : ∃ x, xs[i]? = some x ∧ d = f x := by
  rw [List.getElem?_map] at h
  cases e : xs[i]? with
  | none => rw [e] at h; cases h
  | some x => rw [e] at h; cases h; exact ⟨x, rfl, rfl⟩
theorem enum_get {xs : List D} {i : Nat} {d : D} (h : (enumD xs)[i]? = some d) : ∃ x, xs[i]? = some x ∧ d = .tup [.int (i : Int), x] := by
  unfold enumD at h
  rw [List.getElem?_mapIdx] at h
  cases e : xs[i]? with
  | none => rw [e] at h; cases h
  | some x => rw [e] at h; cases h; exact ⟨x, rfl, rfl⟩
theorem enum_len (xs : List D) : (enumD xs).length = xs.length := by simp [enumD]
theorem drop_get {α : Type} {xs : List α} {i : Nat} {x : α} (h : xs[i]? = some x) : xs.drop i = x :: xs.drop (i + 1) := by
  obtain ⟨h1, h2⟩ := List.getElem?_eq_some_iff.mp h
  rw [← h2]; exact List.drop_eq_getElem_cons h1
theorem take_get {α : Type} {xs : List α} {i : Nat} {x : α} (h : xs[i]? = some x) : xs.take (i + 1) = xs.take i ++ [x] := by rw [List.take_succ, h]; rfl
theorem lt_of_get {α : Type} {xs : List α} {i : Nat} {x : α} (h : xs[i]? = some x) : i < xs.length := (List.getElem?_eq_some_iff.mp h).1
section
variable {X : Cx} {pos : Pos} {s s1 : S} {e : Expr}
theorem ev_allq {α : Type} {xs : List α} {q : α → Bool} {p : Pos} (hm : X.mg "all" = none) (ha : El X e s (xs.map fun x => D.bl (q x)) s1) (hc : X.calm = true := by rfl) (hg : Gl X "all" := by rfl) (he : starEach [e] X.env = (false, eval e X.env) :: starEach [] X.env := by rfl)
    (hpl : (backTo pos (starEach [] X.env)).any (·.1) = false := by rfl) : Ev X (.Call (.Name "all" p) [e] [] pos) s (.bl (xs.all q)) s1 := by
  have h := ev_all (bs := xs.map q) (p := p) (pos := pos) hm (ha.eq (by rw [List.map_map]; rfl)) hc hg he hpl
  exact h.eq (by rw [List.all_map]; rfl)
theorem ev_anyq {α : Type} {xs : List α} {q : α → Bool} {p : Pos} (hm : X.mg "any" = none) (ha : El X e s (xs.map fun x => D.bl (q x)) s1) (hc : X.calm = true := by rfl) (hg : Gl X "any" := by rfl) (he : starEach [e] X.env = (false, eval e X.env) :: starEach [] X.env := by rfl)
    (hpl : (backTo pos (starEach [] X.env)).any (·.1) = false := by rfl) : Ev X (.Call (.Name "any" p) [e] [] pos) s (.bl (xs.any q)) s1 := by
  have h := ev_any (bs := xs.map q) (p := p) (pos := pos) hm (ha.eq (by rw [List.map_map]; rfl)) hc hg he hpl
  exact h.eq (by rw [List.any_map]; rfl)
theorem ev_joinq {α : Type} {a : List Nat} {o : Expr} {xs : List α} {q : α → List Nat} {apos : Pos} {s2 : S} (ho : Ev X o s (.str a) s1) (he : El X e s1 (xs.map fun x => D.str (q x)) s2) (hz : (xs.map fun x => (q x).length).sum + xs.length * a.length ≤ 16777216)
    (hs : starEach [e] X.env = [(false, eval e X.env)] := by rfl) (hbase : attributeBase o "join" X.env (eval o X.env) = eval o X.env := by rfl) (hline : (apos.endLine == pos.line) = true := by rfl) :
    Ev X (.Call (.Attribute o "join" apos) [e] [] pos) s (.str (joinS a (xs.map q))) s2 :=
  ev_join ho (he.eq (by rw [List.map_map]; rfl)) (by rw [List.map_map, List.length_map]; exact hz) hs hbase hline
theorem joinS_nil : ∀ xs : List (List Nat), joinS [] xs = xs.flatten
  | [] => rfl
  | x :: r => by
    show x ++ (r.map ([] ++ ·)).flatten = _
    have e : r.map (fun y : List Nat => [] ++ y) = r := by simp
    rw [List.flatten_cons]
    exact congrArg (fun z => x ++ List.flatten z) e
end
/-- o.f = e, o the object last made -/
theorem bk_setfl {X : Cx} {pos : Pos} {s s0 s1 : S} {d : D} {e : Expr} {P : Post} {rest : List Stmt} {mu0 : List MC} {o : Expr} {c f : Str} {fs : List (Str × D)} {ps : Pos} (he : Ev X e s d s0) (ho : Ev X o s0 (.cell mu0.length) s1) (h1 : s1.mu = mu0 ++ [.obj c fs]) (cl : ClsF X.K X.mg c) (nf : NoF X.K X.mg c f) (hz : fs.length < 1000) (k : Bk X rest ⟨s1.ls, mu0 ++ [.obj c (putD f d fs)]⟩ P)
    (hs : swapsWith e (some (.Attribute o f ps)) pos.line X.env = pure false := by rfl) : Bk X (.Assign [.Attribute o f ps] e pos :: rest) s P :=
  bk_setf he ho (by rw [h1]; simp) cl nf hz (by rw [h1]; simpa using k) hs
/-! ### texts -/
def AZ : List Nat := cs "abcdefghijklmnopqrstuvwxyz"
theorem AZ_eq : AZ = (List.range 26).map (· + 97) := by decide +kernel
def Lt (x : List Nat) : Prop := ∀ c ∈ x, 97 ≤ c ∧ c ≤ 122
theorem mem_AZ {c : Nat} : c ∈ AZ ↔ 97 ≤ c ∧ c ≤ 122 := by
  rw [AZ_eq, List.mem_map]
  constructor
  · rintro ⟨i, hi, rfl⟩
    have := List.mem_range.mp hi
    omega
  · intro h
    exact ⟨c - 97, List.mem_range.mpr (by omega), by omega⟩
theorem all_AZ {x : List Nat} : (x.all fun c => decide (c ∈ AZ)) = true ↔ Lt x := by
  rw [List.all_eq_true]
  exact ⟨fun h c hc => mem_AZ.mp (of_decide_eq_true (h c hc)), fun h c hc => decide_eq_true (mem_AZ.mpr (h c hc))⟩
theorem Lt.app {x y : List Nat} (h : Lt x) (k : Lt y) : Lt (x ++ y) := fun c hc => by
  rcases List.mem_append.mp hc with z | z
  · exact h c z
  · exact k c z
theorem Lt.sub {x y : List Nat} (h : Lt x) (k : ∀ c ∈ y, c ∈ x) : Lt y := fun c hc => h c (k c hc)
theorem Lt.take {x : List Nat} (h : Lt x) (n : Nat) : Lt (x.take n) := h.sub fun c hc => List.mem_of_mem_take hc
theorem Lt.drop {x : List Nat} (h : Lt x) (n : Nat) : Lt (x.drop n) := h.sub fun c hc => List.mem_of_mem_drop hc
theorem Lt.cut {x : List Nat} (h : Lt x) (l u : Option Int) : Lt (cut x l u) := (h.drop _).take _
theorem cut_len {α : Type} (xs : List α) (l u : Option Int) : (cut xs l u).length ≤ xs.length := by
  unfold Y.cut
  rw [List.length_take, List.length_drop]; omega
theorem Lt.shw {x : List Nat} (h : Lt x) (k : x.length ≤ 1000000) : Shw (.str x) (.str (st x)) := shw_str (fun c hc => by have := h c hc; omega) k
def isTextB (x : List Nat) (m : Int) : Bool := decide (1 ≤ (x.length : Int)) && decide ((x.length : Int) ≤ m) && x.all fun c => decide (c ∈ AZ)
def isRowB (x : List Nat) : Bool := isTextB x 1000 && decide (1 < (x.length : Int))
theorem isRow_of {x : List Nat} (h : Lt x) (h2 : 2 ≤ x.length) (h3 : x.length ≤ 1000) : isRowB x = true := by
  unfold isRowB isTextB
  rw [all_AZ.mpr h, decide_eq_true (by omega), decide_eq_true (by omega), decide_eq_true (by omega)]; rfl
theorem isRow_iff {x : List Nat} : isRowB x = true ↔ Lt x ∧ 2 ≤ x.length ∧ x.length ≤ 1000 := by
  constructor
  · intro h
    unfold isRowB isTextB at h
    simp only [Bool.and_eq_true, decide_eq_true_eq] at h
    exact ⟨all_AZ.mp h.1.2, by omega, by omega⟩
  · exact fun h => isRow_of h.1 h.2.1 h.2.2
/-! ### stories -/
def storyB : Int → List Int → Bool
  | _, [] => true
  | last, p :: r => (decide (0 ≤ p) && decide (p ≤ last)) && storyB (2 * last) r
def shownI (last called place : Int) : Int := if place < called then place else if place ≤ called + last then place - called else place - last
def madeS (row : List Nat) (p : Int) : List Nat := cut row none (some p) ++ row ++ cut row (some (p + 1)) none
def writtenS (row : List Nat) (ps : List Int) : List Nat := ps.foldl madeS row
def origI : Int → List Int → Int → Int
  | _, [], p => p
  | last, c :: cs, p => shownI last c (origI (2 * last) cs p)
theorem madeS_nat (row : List Nat) (n : Nat) : madeS row (n : Int) = row.take n ++ row ++ row.drop (n + 1) := by
  unfold madeS
  rw [cut_front]
  have : ((n : Int) + 1) = ((n + 1 : Nat) : Int) := rfl
  rw [this, cut_back]
theorem madeS_len {row : List Nat} {p : Int} (h0 : 0 ≤ p) (h1 : p < row.length) : (madeS row p).length = 2 * row.length - 1 := by
  obtain ⟨n, rfl⟩ := Int.eq_ofNat_of_zero_le h0
  rw [madeS_nat]
  simp
  omega
theorem madeS_lt {row : List Nat} (h : Lt row) (p : Int) : Lt (madeS row p) := ((h.cut _ _).app h).app (h.cut _ _)
/-- a row, given by its length less one, after k calls -/
def lastN (row : List Nat) : Int := (row.length : Int) - 1
theorem madeS_last {row : List Nat} {p : Int} (h0 : 0 ≤ p) (h1 : p ≤ lastN row) : lastN (madeS row p) = 2 * lastN row := by
  unfold lastN at *
  rw [madeS_len h0 (by omega)]; omega
theorem writtenS_last : ∀ {row : List Nat} {ps : List Int}, storyB (lastN row) ps = true → lastN (writtenS row ps) = lastN row * 2 ^ ps.length
  | row, [], _ => by simp [writtenS]
  | row, p :: r, h => by
    unfold storyB at h
    simp only [Bool.and_eq_true, decide_eq_true_eq] at h
    have e := madeS_last h.1.1 h.1.2
    have ih := writtenS_last (row := madeS row p) (ps := r) (by rw [e]; exact h.2)
    show lastN (writtenS (madeS row p) r) = _
    rw [ih, e, List.length_cons, Int.pow_succ, Int.mul_comm 2, Int.mul_assoc, Int.mul_comm 2]
theorem writtenS_lt {row : List Nat} (h : Lt row) (ps : List Int) : Lt (writtenS row ps) := by
  induction ps generalizing row with
  | nil => exact h
  | cons p r ih => exact ih (madeS_lt h p)
theorem madeS_get {row : List Nat} {c p : Int} (h0 : 0 ≤ c) (h1 : c ≤ lastN row) (k0 : 0 ≤ p) (k1 : p ≤ 2 * lastN row) : 0 ≤ shownI (lastN row) c p ∧ shownI (lastN row) c p ≤ lastN row ∧ (madeS row c)[p.toNat]? = row[(shownI (lastN row) c p).toNat]? := by
  obtain ⟨n, rfl⟩ := Int.eq_ofNat_of_zero_le h0
  obtain ⟨q, rfl⟩ := Int.eq_ofNat_of_zero_le k0
  rw [madeS_nat]
  unfold lastN shownI at *
  have hl : (row.take n).length = n := by rw [List.length_take]; omega
  split
  · refine ⟨by omega, by omega, ?_⟩
    rw [List.append_assoc, List.getElem?_append_left (by rw [hl]; omega), List.getElem?_take_of_lt (by omega)]
  · split
    · refine ⟨by omega, by omega, ?_⟩
      rw [List.append_assoc, List.getElem?_append_right (by rw [hl]; omega), List.getElem?_append_left (by rw [hl]; omega), hl]
      congr 1; omega
    · refine ⟨by omega, by omega, ?_⟩
      rw [List.getElem?_append_right (by rw [List.length_append, hl]; omega), List.length_append, hl, List.getElem?_drop]
      congr 1; omega
theorem writtenS_get : ∀ {row : List Nat} {ps : List Int} {p : Int}, storyB (lastN row) ps = true → 0 ≤ p → p ≤ lastN row * 2 ^ ps.length → 0 ≤ origI (lastN row) ps p ∧ origI (lastN row) ps p ≤ lastN row ∧ (writtenS row ps)[p.toNat]? = row[(origI (lastN row) ps p).toNat]?
  | row, [], p, _, h0, h1 => ⟨h0, by rw [List.length_nil, Int.pow_zero, Int.mul_one] at h1; exact h1, rfl⟩
  | row, c :: r, p, h, h0, h1 => by
    unfold storyB at h
    simp only [Bool.and_eq_true, decide_eq_true_eq] at h
    have e := madeS_last h.1.1 h.1.2
    obtain ⟨i0, i1, i2⟩ := writtenS_get (row := madeS row c) (ps := r) (p := p) (by rw [e]; exact h.2) h0 (by
      rw [e]
      rw [List.length_cons, Int.pow_succ] at h1
      rw [Int.mul_comm 2, Int.mul_assoc, Int.mul_comm 2]; exact h1)
    rw [e] at i0 i1 i2
    obtain ⟨j0, j1, j2⟩ := madeS_get h.1.1 h.1.2 i0 i1
    exact ⟨j0, j1, i2.trans j2⟩
theorem storyB_append : ∀ {l : Int} {a b : List Int}, storyB l (a ++ b) = (storyB l a && storyB (l * 2 ^ a.length) b)
  | l, [], b => by simp [storyB]
  | l, x :: a, b => by
    rw [List.cons_append, storyB, storyB, storyB_append, List.length_cons, Int.pow_succ, Int.mul_comm 2 l, Int.mul_assoc, Int.mul_comm 2]
    simp only [Bool.and_assoc]
theorem storyB_take {l : Int} {ps : List Int} (h : storyB l ps = true) (i : Nat) : storyB l (ps.take i) = true := by
  have e : ps.take i ++ ps.drop i = ps := List.take_append_drop i ps
  rw [← e, storyB_append] at h
  exact (Bool.and_eq_true_iff.mp h).1
theorem storyB_get {l : Int} {ps : List Int} (h : storyB l ps = true) {i : Nat} {p : Int} (hp : ps[i]? = some p) : 0 ≤ p ∧ p ≤ l * 2 ^ i := by
  have e : ps.take i ++ ps.drop i = ps := List.take_append_drop i ps
  rw [← e, storyB_append, drop_get hp] at h
  have h2 := (Bool.and_eq_true_iff.mp h).2
  unfold storyB at h2
  simp only [Bool.and_eq_true, decide_eq_true_eq] at h2
  have hl : (ps.take i).length = i := by rw [List.length_take]; have := lt_of_get hp; omega
  rw [hl] at h2
  exact h2.1
end Y
namespace Y
open PySem.Spec PySem PyProof.Rows L2
/-! ### what the program's defs do -/
def φ_is_integer : Sc := fun ds mu r mu' => ∃ i : Int, ds = [.int i] ∧ r = .val (.bl true) ∧ mu' = mu
def φ_is_between : Sc := fun ds mu r mu' => ∃ i l g : Int, ds = [.int i, .int l, .int g] ∧ r = .val (.bl (decide (l ≤ i) && decide (i ≤ g))) ∧ mu' = mu
def φ_is_text : Sc := fun ds mu r mu' => ∃ (x : List Nat) (m : Int), ds = [.str x, .int m] ∧ x.length ≤ 16777216 ∧ r = .val (.bl (isTextB x m)) ∧ mu' = mu
def φ_is_row : Sc := fun ds mu r mu' => ∃ (x : List Nat), ds = [.str x] ∧ x.length ≤ 16777216 ∧ r = .val (.bl (isRowB x)) ∧ mu' = mu
def φ_is_story : Sc := fun ds mu r mu' => ∃ (l : Int) (d : D) (ps : List Int), ds = [.int l, d] ∧ LsA mu d (ps.map .int) ∧ (ps.length ≤ 64 ∧ storyB l ps = true) ∧ r = .val (.bl true) ∧ mu' = mu
def φ_shown : Sc := fun ds mu r mu' => ∃ l c p : Int, ds = [.int l, .int c, .int p] ∧ r = .val (.int (shownI l c p)) ∧ mu' = mu
/-- a Far of a row and a story -/
def farF (row : List Nat) (ps : List Int) : List (Str × D) := [("its_row", .str row), ("its_story", .lst (ps.map .int))]
abbrev farD (row : List Nat) (ps : List Int) : D := .obj "Far" (farF row ps)
structure FarOk (row : List Nat) (ps : List Int) : Prop where
  isr : isRowB row = true
  st : storyB (lastN row) ps = true
  ln : ps.length ≤ 64
theorem FarOk.pos {row : List Nat} {ps : List Int} (h : FarOk row ps) : 1 ≤ lastN row ∧ lastN row ≤ 999 ∧ 2 ≤ row.length ∧ row.length ≤ 1000 := by
  have := isRow_iff.mp h.isr
  unfold lastN
  omega
def φ_Far__init : Sc := fun ds mu r mu' => ∃ (mu0 : List MC) (row : List Nat) (d : D) (ps : List Int), ds = [.cell mu0.length, .str row, d] ∧ mu = mu0 ++ [.obj "Far" []] ∧ LsA mu0 d (ps.map .int) ∧ FarOk row ps ∧ r = .val .non ∧ mu' = mu0 ++ [.obj "Far" (farF row ps)]
def φ_Far__row : Sc := fun ds mu r mu' => ∃ (row : List Nat) (ps : List Int), ds = [farD row ps] ∧ r = .val (.str row) ∧ mu' = mu
def φ_Far__story : Sc := fun ds mu r mu' => ∃ (row : List Nat) (ps : List Int), ds = [farD row ps] ∧ r = .new (.lst (ps.map .int)) ∧ mu' = mu
def lastsL (l : Int) (k : Nat) : List Int := (List.range (k + 1)).map fun i => l * 2 ^ i
def φ_Far__lasts : Sc := fun ds mu r mu' => ∃ (row : List Nat) (ps : List Int), ds = [farD row ps] ∧ FarOk row ps ∧ r = .new (.lst ((lastsL (lastN row) ps.length).map .int)) ∧ mu' = mu
def φ_Far__length : Sc := fun ds mu r mu' => ∃ (row : List Nat) (ps : List Int), ds = [farD row ps] ∧ FarOk row ps ∧ r = .val (.int (lastN row * 2 ^ ps.length + 1)) ∧ mu' = mu
def φ_Far__check : Sc := fun ds mu r mu' => ∃ (row : List Nat) (ps : List Int) (p : Int), ds = [farD row ps, .int p] ∧ FarOk row ps ∧ (0 ≤ p ∧ p ≤ lastN row * 2 ^ ps.length) ∧ r = .val .non ∧ mu' = mu
def origL (l : Int) (ps : List Int) (p : Int) (j : Nat) : List Int := (List.range (j + 1)).map fun i => origI (l * 2 ^ (ps.length - i)) (ps.drop (ps.length - i)) p
def φ_Far__origins : Sc := fun ds mu r mu' => ∃ (row : List Nat) (ps : List Int) (p : Int), ds = [farD row ps, .int p] ∧ FarOk row ps ∧ (0 ≤ p ∧ p ≤ lastN row * 2 ^ ps.length) ∧ r = .new (.lst ((origL (lastN row) ps p ps.length).map .int)) ∧ mu' = mu
def φ_Far__letter : Sc := fun ds mu r mu' => ∃ (row : List Nat) (ps : List Int) (p : Int) (c : Nat), ds = [farD row ps, .int p] ∧ FarOk row ps ∧ (0 ≤ p ∧ p ≤ lastN row * 2 ^ ps.length) ∧ (writtenS row ps)[p.toNat]? = some c ∧ r = .val (.str [c]) ∧ mu' = mu
/-- the letters that a story calls -/
def calledS : List Nat → List Int → List Nat
  | _, [] => []
  | row, p :: r => (row[p.toNat]?).getD 0 :: calledS (madeS row p) r
def φ_Far__called : Sc := fun ds mu r mu' => ∃ (row : List Nat) (ps : List Int), ds = [farD row ps] ∧ FarOk row ps ∧ r = .val (.str (calledS row ps)) ∧ mu' = mu
def φ_made : Sc := fun ds mu r mu' => ∃ (row : List Nat) (p : Int), ds = [.str row, .int p] ∧ row.length ≤ 1000000 ∧ r = .val (.str (madeS row p)) ∧ mu' = mu
def φ_follow : Sc := fun ds mu r mu' => ∃ (row : List Nat) (d : D) (ps : List Int), ds = [.str row, d] ∧ LsA mu d (ps.map .int) ∧ (2 ≤ row.length ∧ storyB (lastN row) ps = true ∧ lastN row * 2 ^ ps.length + 1 ≤ 1000) ∧ r = .val (.str (writtenS row ps)) ∧ mu' = mu
def bookF (row : List Nat) : List (Str × D) := [("its_row", .str row)]
def φ_Book__init : Sc := fun ds mu r mu' => ∃ (mu0 : List MC) (row : List Nat), ds = [.cell mu0.length, .str row] ∧ mu = mu0 ++ [.obj "Book" []] ∧ isRowB row = true ∧ r = .val .non ∧ mu' = mu0 ++ [.obj "Book" (bookF row)]
def φ_Book__row : Sc := fun ds mu r mu' => ∃ (d : D) (row : List Nat), ds = [d] ∧ ObA mu d "Book" (bookF row) ∧ r = .val (.str row) ∧ mu' = mu
def φ_Book__len : Sc := fun ds mu r mu' => ∃ (i : Nat) (row : List Nat), ds = [.cell i] ∧ mu[i]? = some (.obj "Book" (bookF row)) ∧ row.length ≤ 1000000 ∧ r = .val (.int (row.length : Int)) ∧ mu' = mu
def φ_Book__call : Sc := fun ds mu r mu' => ∃ (i : Nat) (row : List Nat) (p : Int) (c : Nat), ds = [.cell i, .int p] ∧ mu[i]? = some (.obj "Book" (bookF row)) ∧ (2 ≤ row.length ∧ 0 ≤ p ∧ p ≤ lastN row ∧ lastN row * 2 + 1 ≤ 1000) ∧ row[p.toNat]? = some c ∧ r = .val (.str [c]) ∧ mu' = mu.set i (.obj "Book" (bookF (madeS row p)))
def φ_Book__follow : Sc := fun ds mu r mu' => ∃ (i : Nat) (row : List Nat) (d : D) (ps : List Int), ds = [.cell i, d] ∧ LsA mu d (ps.map .int) ∧ mu[i]? = some (.obj "Book" (bookF row)) ∧ (FarOk row ps ∧ lastN row * 2 ^ ps.length + 1 ≤ 1000) ∧ r = .val (.str (calledS row ps)) ∧ mu' = mu.set i (.obj "Book" (bookF (writtenS row ps)))
theorem pow2 (l : Int) (i : Nat) : l * 2 ^ (i + 1) = 2 * (l * 2 ^ i) := by rw [Int.pow_succ, ← Int.mul_assoc, Int.mul_comm]
theorem atI_nat {α : Type} (xs : List α) (n : Nat) : L2.atI xs (n : Int) = xs[n]? := by
  unfold L2.atI ixN
  rw [if_pos (by omega)]
  by_cases h : n < xs.length
  · rw [if_pos (by omega)]; rfl
  · rw [if_neg (by omega), List.getElem?_eq_none (by omega)]; rfl
theorem atI_int {α : Type} (xs : List α) {p : Int} (h : 0 ≤ p) : L2.atI xs p = xs[p.toNat]? := by
  obtain ⟨n, rfl⟩ := Int.eq_ofNat_of_zero_le h
  exact atI_nat xs n
theorem atI_last {α : Type} (xs : List α) (x : α) : L2.atI (xs ++ [x]) (-1) = some x := by
  unfold L2.atI ixN
  rw [if_neg (by omega), if_pos (by rw [List.length_append, List.length_singleton]; omega)]
  show (xs ++ [x])[_]? = _
  have e : (((xs ++ [x]).length : Int) + -1).toNat = xs.length := by rw [List.length_append, List.length_singleton]; omega
  have e2 : ((-1 : Int) + ((xs ++ [x]).length : Int)).toNat = xs.length := by rw [List.length_append, List.length_singleton]; omega
  rw [e2]; simp
theorem lastsL_succ (l : Int) (k : Nat) : lastsL l (k + 1) = lastsL l k ++ [l * 2 ^ (k + 1)] := by
  unfold lastsL
  rw [List.range_succ (n := k + 1), List.map_append]; rfl
theorem lastsL_last (l : Int) (k : Nat) : L2.atI ((lastsL l k).map D.int) (-1) = some (.int (l * 2 ^ k)) := by
  cases k with
  | zero => show L2.atI ([] ++ [D.int (l * 2 ^ 0)]) (-1) = _; exact atI_last _ _
  | succ k => rw [lastsL_succ, List.map_append]; exact atI_last _ _
theorem lastsL_len (l : Int) (k : Nat) : (lastsL l k).length = k + 1 := by simp [lastsL]
theorem lastsL_get (l : Int) {k i : Nat} (h : i ≤ k) : (lastsL l k)[i]? = some (l * 2 ^ i) := by
  unfold lastsL
  rw [List.getElem?_map, List.getElem?_range (by omega)]; rfl
theorem origL_succ (l : Int) (ps : List Int) (p : Int) (j : Nat) : origL l ps p (j + 1) = origL l ps p j ++ [origI (l * 2 ^ (ps.length - (j + 1))) (ps.drop (ps.length - (j + 1))) p] := by
  unfold origL
  rw [List.range_succ (n := j + 1), List.map_append]; rfl
theorem origL_last (l : Int) (ps : List Int) (p : Int) (j : Nat) : L2.atI ((origL l ps p j).map D.int) (-1) = some (.int (origI (l * 2 ^ (ps.length - j)) (ps.drop (ps.length - j)) p)) := by
  cases j with
  | zero =>
    show L2.atI ([] ++ [D.int _]) (-1) = _
    exact atI_last _ _
  | succ k => rw [origL_succ, List.map_append]; exact atI_last _ _
theorem origL_len (l : Int) (ps : List Int) (p : Int) (j : Nat) : (origL l ps p j).length = j + 1 := by simp [origL]
theorem orig_step (l : Int) {ps : List Int} {p c : Int} {j : Nat} (hj : j < ps.length) (hc : ps[ps.length - (j + 1)]? = some c) :
    origI (l * 2 ^ (ps.length - (j + 1))) (ps.drop (ps.length - (j + 1))) p = shownI (l * 2 ^ (ps.length - (j + 1))) c (origI (l * 2 ^ (ps.length - j)) (ps.drop (ps.length - j)) p) := by
  have e : ps.length - j = ps.length - (j + 1) + 1 := by omega
  rw [drop_get hc, e, Int.pow_succ]
  show shownI _ c (origI (2 * (l * 2 ^ (ps.length - (j + 1)))) _ p) = _
  rw [Int.mul_comm 2 (l * _), Int.mul_assoc]
end Y
namespace Y
theorem zrev_len (l : Int) (ps : List Int) : (zipD ((lastsL l ps.length).map D.int) (ps.map D.int)).reverse.length = ps.length := by
  unfold zipD
  rw [List.length_reverse, List.length_zipWith, List.length_map, List.length_map, lastsL_len]; omega
theorem zrev_get {l : Int} {ps : List Int} {i : Nat} {d : D} (h : (zipD ((lastsL l ps.length).map D.int) (ps.map D.int)).reverse[i]? = some d) :
    ∃ c, i < ps.length ∧ ps[ps.length - (i + 1)]? = some c ∧ d = .tup [.int (l * 2 ^ (ps.length - (i + 1))), .int c] := by
  have hi : i < ps.length := by
    have := (List.getElem?_eq_some_iff.mp h).1
    rw [zrev_len] at this; exact this
  have hl : (zipD ((lastsL l ps.length).map D.int) (ps.map D.int)).length = ps.length := by rw [← List.length_reverse, zrev_len]
  rw [List.getElem?_reverse (by omega), hl] at h
  have e : ps.length - 1 - i = ps.length - (i + 1) := by omega
  rw [e] at h
  unfold zipD at h
  rw [List.getElem?_zipWith, List.getElem?_map, List.getElem?_map, lastsL_get l (by omega)] at h
  have hk : ps.length - (i + 1) < ps.length := by omega
  rw [List.getElem?_eq_getElem hk] at h
  cases h
  exact ⟨_, hi, List.getElem?_eq_getElem hk, rfl⟩
end Y
namespace Y
theorem cbs_ints (n : Nat) : ∀ ps : List Int, cbs n (ps.map D.int) = true
  | [] => by unfold cbs; rfl
  | p :: r => by
    show cbs n (D.int p :: r.map D.int) = true
    unfold cbs
    rw [cbs_ints n r]; unfold cb; rfl
theorem far_lo (n : Nat) (row : List Nat) (ps : List Int) : cbf n (farF row ps) = true := by
  unfold farF
  simp [cbf, cb, cbs_ints]
theorem book_lo (n : Nat) (row : List Nat) : cbf n (bookF row) = true := by
  unfold bookF
  simp [cbf, cb]
theorem flat1 (x : List Nat) : (x.map fun c => [c]).flatten = x := by
  induction x with
  | nil => rfl
  | cons a r ih => rw [List.map_cons, List.flatten_cons, ih]; rfl
theorem join1 (x : List Nat) : joinS [] (x.map fun c => [c]) = x := by rw [joinS_nil, flat1]
theorem calledS_len : ∀ (row : List Nat) (ps : List Int), (calledS row ps).length = ps.length
  | _, [] => rfl
  | row, p :: r => by show ((calledS (madeS row p) r).length) + 1 = r.length + 1; rw [calledS_len]
theorem calledS_get : ∀ {row : List Nat} {ps : List Int} {i : Nat} {p : Int}, 1 ≤ lastN row → storyB (lastN row) ps = true → ps[i]? = some p → ∃ c, (writtenS row (ps.take i))[p.toNat]? = some c ∧ (calledS row ps)[i]? = some c
  | row, p0 :: r, 0, p, hl, h, hp => by
    obtain rfl : p0 = p := Option.some.inj hp
    unfold storyB at h
    simp only [Bool.and_eq_true, decide_eq_true_eq] at h
    have hlt : p0.toNat < row.length := by unfold lastN at *; omega
    refine ⟨row[p0.toNat], ?_, ?_⟩
    · show row[p0.toNat]? = _
      exact List.getElem?_eq_getElem hlt
    · show some ((row[p0.toNat]?).getD 0) = _
      rw [List.getElem?_eq_getElem hlt]; rfl
  | row, p0 :: r, i + 1, p, hl, h, hp => by
    unfold storyB at h
    simp only [Bool.and_eq_true, decide_eq_true_eq] at h
    have e := madeS_last h.1.1 h.1.2
    obtain ⟨c, h1, h2⟩ := calledS_get (row := madeS row p0) (ps := r) (i := i) (p := p) (by rw [e]; omega) (by rw [e]; exact h.2) hp
    exact ⟨c, h1, h2⟩
  | _, [], _, _, _, _, hp => by simp at hp
theorem FarOk.take {row : List Nat} {ps : List Int} (h : FarOk row ps) (i : Nat) : FarOk row (ps.take i) := ⟨h.isr, storyB_take h.st i, by rw [List.length_take]; have := h.ln; omega⟩
theorem pow_up (l : Int) (h : 1 ≤ l) {i k : Nat} (hi : i ≤ k) : l * 2 ^ i ≤ l * 2 ^ k := by
  induction k with
  | zero => have : i = 0 := by omega
            subst this; exact Int.le_refl _
  | succ k ih =>
    by_cases e : i = k + 1
    · subst e; exact Int.le_refl _
    · have := ih (by omega)
      have h0 : 0 ≤ l * 2 ^ k := by
        have : (0 : Int) < 2 ^ k := Int.pow_pos (by decide)
        exact Int.mul_nonneg (by omega) (by omega)
      rw [pow2]; omega
theorem writtenS_succ {row : List Nat} {ps : List Int} {i : Nat} {p : Int} (h : ps[i]? = some p) : writtenS row (ps.take (i + 1)) = madeS (writtenS row (ps.take i)) p := by
  rw [take_get h]
  unfold writtenS
  rw [List.foldl_append]; rfl
end Y
namespace Y
open PySem
theorem sum_ones (x : List Nat) : (x.map fun c => ([c] : List Nat).length).sum = x.length := by
  induction x with
  | nil => rfl
  | cons a r ih => rw [List.map_cons, List.sum_cons, ih]; simp; omega
theorem join1_ok {x : List Nat} (h : x.length ≤ 16777216) : (x.map fun c => ([c] : List Nat).length).sum + x.length * (cs "").length ≤ 16777216 := by
  rw [sum_ones]
  show x.length + x.length * 0 ≤ _
  omega
end Y
namespace Y
open PySem.Spec PySem PyProof.Rows L2
theorem join_map {α : Type} (f : α → Nat) (xs : List α) : joinS [] (xs.map fun x => [f x]) = xs.map f := by
  have := join1 (xs.map f)
  rw [List.map_map] at this
  exact this
theorem join_ok {α : Type} (f : α → Nat) {xs : List α} (h : xs.length ≤ 16777216) : (xs.map fun x => ([f x] : List Nat).length).sum + xs.length * (cs "").length ≤ 16777216 := by
  have := join1_ok (x := xs.map f) (by rw [List.length_map]; exact h)
  rw [List.map_map, List.length_map] at this
  exact this
/-! ### a law's own words -/
def φ__law_alike : Sc := fun ds mu r mu' => ∃ (d1 d2 : D) (p : PyData), ds = [d1, d2] ∧ d1 = d2 ∧ Shw d1 p ∧ r = .val (.bl true) ∧ mu' = mu
def wSt (b : Bag) : Int := b.tk 24
def wFew (b : Bag) : Int := 1 + (b.nx 24).tk 3
def wB2 (b : Bag) : Bag := (b.nx 24).nx 3
def wLet (b : Bag) : List Nat := cut AZ (some (wSt b)) (some (wSt b + wFew b))
def wWay (b : Bag) : Int := (wB2 b).tk 4
def wSize (b : Bag) (most : Int) : Int := 1 + ((wB2 b).nx 4).tk most
def wB4 (b : Bag) (most : Int) : Bag := ((wB2 b).nx 4).nx most
def wMany (b : Bag) (most : Int) : Int := if 1 < wWay b then 1 + (wB4 b most).tk 4 else wSize b most
def wB5 (b : Bag) (most : Int) : Bag := (wB4 b most).nx 4
def wSign (b : Bag) (most : Int) (i : Nat) : Nat := (wLet b).getD (((wB5 b most).it (wFew b) i).tk (wFew b)).toNat 0
def wBase (b : Bag) (most : Int) : List Nat := (List.range (wMany b most).toNat).map (wSign b most)
def wWord (b : Bag) (most : Int) : List Nat := cut (repS (wSize b most / wMany b most + 1) (wBase b most)) none (some (wSize b most))
def wordV (b : Bag) (most : Int) : List Nat := if wWay b = 3 then (wWord b most).reverse else wWord b most
def wordB (b : Bag) (most : Int) : Bag := (wB5 b most).it (wFew b) (wMany b most).toNat
structure WB (b : Bag) (most : Int) : Prop where
  st0 : 0 ≤ wSt b
  st1 : wSt b ≤ 23
  few0 : 1 ≤ wFew b
  few1 : wFew b ≤ 3
  way0 : 0 ≤ wWay b
  way1 : wWay b ≤ 3
  size0 : 1 ≤ wSize b most
  size1 : wSize b most ≤ most
  many0 : 1 ≤ wMany b most
  many1 : wMany b most ≤ most + 4
  many2 : wMany b most ≤ wSize b most + 4
  let_ : (wLet b).length = (wFew b).toNat
theorem cut_int {α : Type} (xs : List α) {a b : Int} (ha : 0 ≤ a) (hb : 0 ≤ b) : cut xs (some a) (some b) = (xs.take b.toNat).drop a.toNat := by
  obtain ⟨n, rfl⟩ := Int.eq_ofNat_of_zero_le ha
  obtain ⟨m, rfl⟩ := Int.eq_ofNat_of_zero_le hb
  exact cut_nat xs n m
theorem cut_fint {α : Type} (xs : List α) {b : Int} (hb : 0 ≤ b) : cut xs none (some b) = xs.take b.toNat := by
  obtain ⟨m, rfl⟩ := Int.eq_ofNat_of_zero_le hb
  exact cut_front xs m
theorem cut_bint {α : Type} (xs : List α) {b : Int} (hb : 0 ≤ b) : cut xs (some b) none = xs.drop b.toNat := by
  obtain ⟨m, rfl⟩ := Int.eq_ofNat_of_zero_le hb
  exact cut_back xs m
theorem AZ_len : AZ.length = 26 := by decide +kernel
theorem wb (b : Bag) {most : Int} (hm : 0 < most) : WB b most := by
  have a1 := b.tk_lo (m := 24) (by decide)
  have a2 := b.tk_hi (m := 24) (by decide)
  have a3 := (b.nx 24).tk_lo (m := 3) (by decide)
  have a4 := (b.nx 24).tk_hi (m := 3) (by decide)
  have a5 := (wB2 b).tk_lo (m := 4) (by decide)
  have a6 := (wB2 b).tk_hi (m := 4) (by decide)
  have a7 := ((wB2 b).nx 4).tk_lo hm
  have a8 := ((wB2 b).nx 4).tk_hi hm
  have a9 := (wB4 b most).tk_lo (m := 4) (by decide)
  have a0 := (wB4 b most).tk_hi (m := 4) (by decide)
  have s0 : 0 ≤ wSt b := a1
  have s1 : wSt b ≤ 23 := by unfold wSt; omega
  have f0 : 1 ≤ wFew b := by unfold wFew; omega
  have f1 : wFew b ≤ 3 := by unfold wFew; omega
  have z0 : 1 ≤ wSize b most := by unfold wSize; omega
  have z1 : wSize b most ≤ most := by unfold wSize; omega
  refine ⟨s0, s1, f0, f1, a5, by unfold wWay; omega, z0, z1, ?_, ?_, ?_, ?_⟩
  · unfold wMany; split <;> omega
  · unfold wMany; split <;> omega
  · unfold wMany; split <;> omega
  · unfold wLet
    rw [cut_int _ s0 (by omega), List.length_drop, List.length_take, AZ_len]; omega
theorem lt_AZ : Lt AZ := fun c hc => mem_AZ.mp hc
theorem wLet_lt (b : Bag) : Lt (wLet b) := lt_AZ.cut _ _
theorem getD_lt {x : List Nat} (h : Lt x) {i : Nat} (hi : i < x.length) : 97 ≤ x.getD i 0 ∧ x.getD i 0 ≤ 122 := by
  rw [List.getD_eq_getElem?_getD, List.getElem?_eq_getElem hi]
  exact h _ (List.getElem_mem hi)
theorem at_getD {x : List Nat} {i : Int} (h0 : 0 ≤ i) (h1 : i < x.length) : L2.atI x i = some (x.getD i.toNat 0) := by
  rw [atI_int _ h0, List.getD_eq_getElem?_getD, List.getElem?_eq_getElem (by omega)]; rfl
theorem wSign_lt (b : Bag) {most : Int} (hm : 0 < most) (i : Nat) : 97 ≤ wSign b most i ∧ wSign b most i ≤ 122 := by
  have W := wb b hm
  refine getD_lt (wLet_lt b) ?_
  have := Bag.tk_hi ((wB5 b most).it (wFew b) i) (m := wFew b) (by have := W.few0; omega)
  have := Bag.tk_lo ((wB5 b most).it (wFew b) i) (m := wFew b) (by have := W.few0; omega)
  rw [W.let_]; have := W.few0; omega
theorem wBase_lt (b : Bag) {most : Int} (hm : 0 < most) : Lt (wBase b most) := fun c hc => by
  obtain ⟨i, _, rfl⟩ := List.mem_map.mp hc
  exact wSign_lt b hm i
theorem wBase_len (b : Bag) (most : Int) : (wBase b most).length = (wMany b most).toNat := by simp [wBase]
theorem repS_len (n : Int) (x : List Nat) : (repS n x).length = n.toNat * x.length := by
  unfold repS
  rw [List.length_flatten]
  simp
theorem repS_lt {x : List Nat} (h : Lt x) (n : Int) : Lt (repS n x) := fun c hc => by
  unfold repS at hc
  obtain ⟨y, hy, hc⟩ := List.mem_flatten.mp hc
  rw [List.eq_of_mem_replicate hy] at hc
  exact h c hc
theorem wDiv (b : Bag) {most : Int} (hm : 0 < most) : 0 ≤ wSize b most / wMany b most ∧ wSize b most / wMany b most ≤ wSize b most ∧ wSize b most ≤ (wSize b most / wMany b most + 1) * wMany b most ∧ wMany b most * (wSize b most / wMany b most) ≤ wSize b most := by
  have W := wb b hm
  have h1 := W.many0
  have h2 := W.size0
  have e := Int.emod_add_mul_ediv (wSize b most) (wMany b most)
  have r0 := Int.emod_nonneg (wSize b most) (show wMany b most ≠ 0 by omega)
  have r1 := Int.emod_lt_of_pos (wSize b most) (show 0 < wMany b most by omega)
  have q0 : 0 ≤ wSize b most / wMany b most := Int.ediv_nonneg (by omega) (by omega)
  refine ⟨q0, Int.ediv_le_self _ (by omega), ?_, by omega⟩
  rw [Int.add_mul, Int.one_mul, Int.mul_comm]; omega
theorem wWord_len (b : Bag) {most : Int} (hm : 0 < most) : (wWord b most).length = (wSize b most).toNat := by
  have W := wb b hm
  obtain ⟨q0, q1, q2, q3⟩ := wDiv b hm
  have h1 := W.many0
  have h2 := W.size0
  unfold wWord
  rw [cut_fint _ (by omega), List.length_take, repS_len, wBase_len]
  have e : (((wSize b most / wMany b most + 1).toNat * (wMany b most).toNat : Nat) : Int) = (wSize b most / wMany b most + 1) * wMany b most := by
    rw [Int.natCast_mul, Int.toNat_of_nonneg (by omega), Int.toNat_of_nonneg (by omega)]
  omega
theorem wordV_len (b : Bag) {most : Int} (hm : 0 < most) : (wordV b most).length = (wSize b most).toNat := by
  unfold wordV
  split
  · rw [List.length_reverse, wWord_len b hm]
  · exact wWord_len b hm
theorem wordV_lt (b : Bag) {most : Int} (hm : 0 < most) : Lt (wordV b most) := by
  have h : Lt (wWord b most) := (repS_lt (wBase_lt b hm) _).cut _ _
  unfold wordV
  split
  · exact h.sub fun c hc => List.mem_reverse.mp hc
  · exact h
def φ__law_word : Sc := fun ds mu r mu' => ∃ (b : Bag) (most : Int) (rest : List MC), ds = [.cell 0, .int most] ∧ mu = b.m :: rest ∧ (0 < most ∧ most ≤ 1000) ∧ r = .val (.str (wordV b most)) ∧ mu' = (wordB b most).m :: rest
/-! a row -/
def rT (b : Bag) (most : Int) : List Nat := if (wordV b most).length < 2 then wordV b most ++ wordV b most else wordV b most
def rWay (b : Bag) (most : Int) : Int := (wordB b most).tk 3
def rTurn (b : Bag) (most : Int) : Int := ((wordB b most).nx 3).tk 2
def rB (b : Bag) (most : Int) : Bag := ((wordB b most).nx 3).nx 2
def ABC : List Nat := cs "abc"
def rOther (t : List Nat) : List Nat := ABC.filter fun c => !decide ([c] = [t.getD 0 0])
def rowV (b : Bag) (most : Int) : List Nat :=
  if rWay b most = 1 then (rT b most).dropLast ++ [(rOther (rT b most)).getD (rTurn b most).toNat 0]
  else if rWay b most = 2 then (rT b most).dropLast ++ [(rT b most).getD 0 0] else rT b most
def rowB (b : Bag) (most : Int) : Bag := rB b most
theorem rT_len (b : Bag) {most : Int} (hm : 0 < most) (h2 : 2 ≤ most) : 2 ≤ (rT b most).length ∧ ((rT b most).length : Int) ≤ most := by
  have W := wb b hm
  have := W.size0
  have := W.size1
  have e := wordV_len b hm
  unfold rT
  split
  · rw [List.length_append]; omega
  · omega
theorem rT_lt (b : Bag) {most : Int} (hm : 0 < most) : Lt (rT b most) := by
  unfold rT
  split
  · exact (wordV_lt b hm).app (wordV_lt b hm)
  · exact wordV_lt b hm
theorem rOther_len (t : List Nat) : 2 ≤ (rOther t).length := by
  unfold rOther
  generalize t.getD 0 0 = x
  have e : ABC = [97, 98, 99] := by decide +kernel
  rw [e]
  by_cases h1 : 97 = x
  · subst h1; decide
  · by_cases h2 : 98 = x
    · subst h2; decide
    · by_cases h3 : 99 = x
      · subst h3; decide
      · simp [h1, h2, h3]
theorem rOther_lt (t : List Nat) : Lt (rOther t) := fun c hc => by
  have := (List.mem_filter.mp hc).1
  have e : ABC = [97, 98, 99] := by decide +kernel
  rw [e] at this
  simp at this
  omega
theorem lt_one {c : Nat} (h : 97 ≤ c ∧ c ≤ 122) : Lt [c] := fun d hd => by rw [List.mem_singleton.mp hd]; exact h
theorem rTurn_b (b : Bag) (most : Int) : 0 ≤ rTurn b most ∧ rTurn b most < 2 := ⟨Bag.tk_lo _ (by decide), Bag.tk_hi _ (by decide)⟩
theorem rWay_b (b : Bag) (most : Int) : 0 ≤ rWay b most ∧ rWay b most < 3 := ⟨Bag.tk_lo _ (by decide), Bag.tk_hi _ (by decide)⟩
theorem rowV_ok (b : Bag) {most : Int} (h2 : 2 ≤ most) : Lt (rowV b most) ∧ 2 ≤ (rowV b most).length ∧ ((rowV b most).length : Int) ≤ most := by
  obtain ⟨l1, l2⟩ := rT_len b (by omega) h2
  have l3 := rT_lt b (show 0 < most by omega)
  have dl : Lt (rT b most).dropLast := l3.sub fun c hc => List.dropLast_subset _ hc
  unfold rowV
  split
  · refine ⟨dl.app (lt_one (getD_lt (rOther_lt _) ?_)), ?_, ?_⟩
    · have := rOther_len (rT b most); have := rTurn_b b most; omega
    · rw [List.length_append, List.length_dropLast, List.length_singleton]; omega
    · rw [List.length_append, List.length_dropLast, List.length_singleton]; omega
  · split
    · refine ⟨dl.app (lt_one (getD_lt l3 (by omega))), ?_, ?_⟩
      · rw [List.length_append, List.length_dropLast, List.length_singleton]; omega
      · rw [List.length_append, List.length_dropLast, List.length_singleton]; omega
    · exact ⟨l3, l1, l2⟩
def φ__law_row : Sc := fun ds mu r mu' => ∃ (b : Bag) (most : Int) (rest : List MC), ds = [.cell 0, .int most] ∧ mu = b.m :: rest ∧ (2 ≤ most ∧ most ≤ 1000) ∧ r = .val (.str (rowV b most)) ∧ mu' = (rowB b most).m :: rest
def aSize (b : Bag) (most : Int) : Int := 2 + (b.nx 3).tk (most - 1)
def aB (b : Bag) (most : Int) : Bag := (b.nx 3).nx (most - 1)
def aSign (b : Bag) (most : Int) (i : Nat) : Nat := AZ.getD (((aB b most).it 26 i).tk 26).toNat 0
def anyV (b : Bag) (most : Int) : List Nat := if 0 < b.tk 3 then rowV (b.nx 3) most else (List.range (aSize b most).toNat).map (aSign b most)
def anyB (b : Bag) (most : Int) : Bag := if 0 < b.tk 3 then rowB (b.nx 3) most else (aB b most).it 26 (aSize b most).toNat
theorem aSize_b (b : Bag) {most : Int} (h2 : 2 ≤ most) : 2 ≤ aSize b most ∧ aSize b most ≤ most := by
  have := (b.nx 3).tk_lo (m := most - 1) (by omega)
  have := (b.nx 3).tk_hi (m := most - 1) (by omega)
  unfold aSize; omega
theorem anyV_ok (b : Bag) {most : Int} (h2 : 2 ≤ most) : Lt (anyV b most) ∧ 2 ≤ (anyV b most).length ∧ ((anyV b most).length : Int) ≤ most := by
  unfold anyV
  split
  · exact rowV_ok _ h2
  · have := aSize_b b h2
    refine ⟨fun c hc => ?_, by simp; omega, by simp; omega⟩
    obtain ⟨i, _, rfl⟩ := List.mem_map.mp hc
    refine getD_lt lt_AZ ?_
    have := Bag.tk_hi ((aB b most).it 26 i) (m := 26) (by decide)
    have := Bag.tk_lo ((aB b most).it 26 i) (m := 26) (by decide)
    rw [AZ_len]; omega
def φ__law_any_row : Sc := fun ds mu r mu' => ∃ (b : Bag) (most : Int) (rest : List MC), ds = [.cell 0, .int most] ∧ mu = b.m :: rest ∧ (2 ≤ most ∧ most ≤ 1000) ∧ r = .val (.str (anyV b most)) ∧ mu' = (anyB b most).m :: rest
/-! calls and stories -/
def φ__law_called : Sc := fun ds mu r mu' => ∃ (row : List Nat) (p : Int), ds = [.str row, .int p] ∧ (0 ≤ p ∧ p ≤ lastN row ∧ row.length ≤ 1000000) ∧ r = .val (.str (madeS row p)) ∧ mu' = mu
def φ__law_written : Sc := fun ds mu r mu' => ∃ (row : List Nat) (d : D) (ps : List Int), ds = [.str row, d] ∧ LsA mu d (ps.map .int) ∧ (1 ≤ lastN row ∧ storyB (lastN row) ps = true ∧ lastN row * 2 ^ ps.length ≤ 900000) ∧ r = .val (.str (writtenS row ps)) ∧ mu' = mu
def sSome (l : Int) (f : List Int) (g : Bag) : List Int := [0, l, l / 2, if f = [] then 0 else 2 * f.getLastD 0, g.tk (l + 1), (g.nx (l + 1)).tk (l + 1)]
def sPick (l : Int) (f : List Int) (g : Bag) : Int := (sSome l f g).getD (((g.nx (l + 1)).nx (l + 1)).tk 6).toNat 0
def sB (l : Int) (g : Bag) : Bag := ((g.nx (l + 1)).nx (l + 1)).nx 6
def storyV (b : Bag) (l : Int) : Nat → List Int × Bag
  | 0 => ([], b)
  | i + 1 => ((storyV b l i).1 ++ [sPick (l * 2 ^ i) (storyV b l i).1 (storyV b l i).2], sB (l * 2 ^ i) (storyV b l i).2)
def φ__law_story : Sc := fun ds mu r mu' => ∃ (b : Bag) (l n : Int) (rest : List MC), ds = [.cell 0, .int l, .int n] ∧ mu = b.m :: rest ∧ (1 ≤ l ∧ l ≤ 100000 ∧ 0 ≤ n ∧ n ≤ 40) ∧ r = .new (.lst ((storyV b l n.toNat).1.map .int)) ∧ mu' = (storyV b l n.toNat).2.m :: rest
theorem storyV_len (b : Bag) (l : Int) : ∀ i, (storyV b l i).1.length = i
  | 0 => rfl
  | i + 1 => by show ((storyV b l i).1 ++ [_]).length = _; rw [List.length_append, storyV_len b l i]; rfl
theorem sPick_b {l : Int} {f : List Int} {g : Bag} (hl : 0 ≤ l) (hf : ∀ x ∈ f, 0 ≤ x) (hk : f ≠ [] → 2 * f.getLastD 0 ≤ l) : 0 ≤ sPick l f g ∧ sPick l f g ≤ l := by
  have a1 := g.tk_lo (m := l + 1) (by omega)
  have a2 := g.tk_hi (m := l + 1) (by omega)
  have a3 := (g.nx (l + 1)).tk_lo (m := l + 1) (by omega)
  have a4 := (g.nx (l + 1)).tk_hi (m := l + 1) (by omega)
  have k0 := ((g.nx (l + 1)).nx (l + 1)).tk_lo (m := 6) (by decide)
  have k1 := ((g.nx (l + 1)).nx (l + 1)).tk_hi (m := 6) (by decide)
  have ag : 0 ≤ (if f = [] then (0 : Int) else 2 * f.getLastD 0) ∧ (if f = [] then (0 : Int) else 2 * f.getLastD 0) ≤ l := by
    split
    · omega
    · rename_i h
      refine ⟨?_, hk h⟩
      have : f.getLastD 0 ∈ f := by
        cases f with
        | nil => exact absurd rfl h
        | cons x r => rw [List.getLastD_eq_getLast?, List.getLast?_eq_some_getLast (List.cons_ne_nil x r)]; exact List.getLast_mem _
      have := hf _ this
      omega
  have all : ∀ x ∈ sSome l f g, 0 ≤ x ∧ x ≤ l := fun x hx => by
    unfold sSome at hx
    simp only [List.mem_cons, List.not_mem_nil, or_false] at hx
    rcases hx with rfl | rfl | rfl | rfl | rfl | rfl <;> omega
  unfold sPick
  have hlen : (sSome l f g).length = 6 := rfl
  rw [List.getD_eq_getElem?_getD, List.getElem?_eq_getElem (by rw [hlen]; omega)]
  exact all _ (List.getElem_mem _)
theorem storyV_ok (b : Bag) {l : Int} (hl : 1 ≤ l) : ∀ i, storyB l (storyV b l i).1 = true ∧ (∀ x ∈ (storyV b l i).1, 0 ≤ x) ∧ ((storyV b l i).1 ≠ [] → 2 * (storyV b l i).1.getLastD 0 ≤ l * 2 ^ i)
  | 0 => ⟨rfl, ⟨fun _ h => (nomatch h), fun h => absurd rfl h⟩⟩
  | i + 1 => by
    obtain ⟨h1, h2, h3⟩ := storyV_ok b hl i
    have p0 : 0 ≤ l * 2 ^ i := Int.mul_nonneg (by omega) (Int.le_of_lt (Int.pow_pos (by decide)))
    obtain ⟨q0, q1⟩ := sPick_b (g := (storyV b l i).2) p0 h2 h3
    refine ⟨?_, fun x hx => ?_, fun _ => ?_⟩
    · show storyB l ((storyV b l i).1 ++ [_]) = true
      rw [storyB_append, h1, storyV_len]
      unfold storyB
      rw [decide_eq_true q0, decide_eq_true q1]; rfl
    · rcases List.mem_append.mp (show x ∈ (storyV b l i).1 ++ [_] from hx) with z | z
      · exact h2 x z
      · rw [List.mem_singleton.mp z]; exact q0
    · show 2 * ((storyV b l i).1 ++ [sPick (l * 2 ^ i) (storyV b l i).1 (storyV b l i).2]).getLastD 0 ≤ _
      rw [List.getLastD_concat, pow2]; omega
def roomB (x : List Nat) (t : Nat) : Bool := decide (lastN x * 2 ^ t < 1000)
def φ__law_room : Sc := fun ds mu r mu' => ∃ (x : List Nat) (t : Int), ds = [.str x, .int t] ∧ (0 ≤ t ∧ t ≤ 4 ∧ x.length ≤ 1000000) ∧ r = .val (.bl (roomB x t.toNat)) ∧ mu' = mu
end Y
namespace Y
open PySem.Spec PySem PyProof.Rows L2
theorem wRep (b : Bag) {most : Int} (hm : 0 < most ∧ most ≤ 1000) : (wBase b most).length * (wSize b most / wMany b most + 1).toNat ≤ 3000 := by
  have W := wb b hm.1
  obtain ⟨q0, q1, q2, q3⟩ := wDiv b hm.1
  have h1 := W.many0
  have h2 := W.many1
  have h3 := W.size1
  rw [wBase_len]
  have e : (((wMany b most).toNat * (wSize b most / wMany b most + 1).toNat : Nat) : Int) = wMany b most * (wSize b most / wMany b most) + wMany b most := by
    rw [Int.natCast_mul, Int.toNat_of_nonneg (by omega), Int.toNat_of_nonneg (by omega), Int.mul_add, Int.mul_one]
  omega
end Y
namespace Y
open PySem.Spec PySem PyProof.Rows L2
theorem at_map {α : Type} {f : α → D} {xs : List α} {i : Int} {c : α} (h : L2.atI xs i = some c) : L2.atI (xs.map f) i = some (f c) := by
  unfold L2.atI at h ⊢
  rw [List.length_map]
  cases e : ixN xs.length i with
  | none => rw [e] at h; cases h
  | some j =>
    rw [e] at h
    show (xs.map f)[j]? = _
    rw [List.getElem?_map, show xs[j]? = some c from h]; rfl
theorem at_getDI {x : List Int} {i : Int} (h0 : 0 ≤ i) (h1 : i < x.length) : L2.atI x i = some (x.getD i.toNat 0) := by
  rw [atI_int _ h0, List.getD_eq_getElem?_getD, List.getElem?_eq_getElem (by omega)]; rfl
theorem at_lastI {x : List Int} (h : x ≠ []) : L2.atI (x.map D.int) (-1) = some (.int (x.getLastD 0)) := by
  cases x with
  | nil => exact absurd rfl h
  | cons a r =>
    have e : a :: r = (a :: r).dropLast ++ [(a :: r).getLast (List.cons_ne_nil a r)] := (List.dropLast_concat_getLast (List.cons_ne_nil a r)).symm
    have e2 : (a :: r).getLastD 0 = (a :: r).getLast (List.cons_ne_nil a r) := by rw [List.getLastD_eq_getLast?, List.getLast?_eq_some_getLast (List.cons_ne_nil a r)]; rfl
    rw [e2]
    generalize (a :: r).getLast (List.cons_ne_nil a r) = z at *
    rw [e, List.map_append]
    exact atI_last _ _
theorem pyDs_ints : ∀ xs : List Int, pyDs (xs.map D.int) = some (xs.map PyData.int)
  | [] => by unfold pyDs; rfl
  | x :: r => by
    show pyDs (D.int x :: r.map D.int) = _
    unfold pyDs
    rw [pyDs_ints r]
    unfold pyD
    rfl
theorem lay_ints : ∀ xs : List Int, PyData.canLayAll0 (xs.map PyData.int) = true
  | [] => rfl
  | x :: r => by show (PyData.canLay0 (.int x) && PyData.canLayAll0 (r.map PyData.int)) = true; rw [lay_ints r]; rfl
theorem dep_ints : ∀ xs : List Int, PyData.depthAll (xs.map PyData.int) = 0
  | [] => rfl
  | x :: r => by show max (PyData.depth (.int x)) (PyData.depthAll (r.map PyData.int)) = 0; rw [dep_ints r]; rfl
theorem shaped_ints (xs : List Int) : SeqAt.shaped (.list (xs.map PyData.int)) = true := by
  unfold SeqAt.shaped
  have h1 : PyData.canLay0 (.list (xs.map PyData.int)) = true := lay_ints xs
  have h2 : PyData.depth (.list (xs.map PyData.int)) = 1 := by show PyData.depthAll _ + 1 = 1; rw [dep_ints]
  rw [h1, h2]; rfl
theorem eqv_ints : ∀ xs ys : List Int, PyData.eqv (.list (xs.map PyData.int)) (.list (ys.map PyData.int)) = decide (xs = ys) := by
  intro xs ys
  rw [PyData.eqv]
  induction xs generalizing ys with
  | nil => cases ys with
    | nil => rfl
    | cons y r => rfl
  | cons x xs ih => cases ys with
    | nil => rfl
    | cons y r =>
      show (PyData.eqv (.int x) (.int y) && PyData.eqvAll (xs.map PyData.int) (r.map PyData.int)) = _
      rw [ih]
      by_cases h : x = y
      · subst h
        by_cases h2 : xs = r
        · subst h2; simp [PyData.eqv]
        · simp [h2]
      · have : PyData.eqv (.int x) (.int y) = false := by simp [PyData.eqv, h]
        rw [this]; simp [h]
theorem calledEq (row : List Nat) {p : Int} (h0 : 0 ≤ p) (h1 : p ≤ lastN row) : cut row none (some p) ++ cut row none (some p) ++ [row.getD p.toNat 0] ++ cut row (some (p + 1)) none ++ cut row (some (p + 1)) none = madeS row p := by
  obtain ⟨n, rfl⟩ := Int.eq_ofNat_of_zero_le h0
  have hn : n < row.length := by unfold lastN at h1; omega
  rw [madeS_nat, cut_front, show ((n : Int) + 1) = ((n + 1 : Nat) : Int) from rfl, cut_back]
  have e : row = row.take n ++ ([row.getD n 0] ++ row.drop (n + 1)) := by
    rw [List.getD_eq_getElem?_getD, List.getElem?_eq_getElem hn]
    show row = row.take n ++ (row[n] :: row.drop (n + 1))
    rw [← List.drop_eq_getElem_cons hn, List.take_append_drop]
  show row.take n ++ row.take n ++ [row.getD n 0] ++ row.drop (n + 1) ++ row.drop (n + 1) = row.take n ++ row ++ row.drop (n + 1)
  have e2 : row.take n ++ row ++ row.drop (n + 1) = row.take n ++ (row.take n ++ ([row.getD n 0] ++ row.drop (n + 1))) ++ row.drop (n + 1) := by rw [← e]
  rw [e2]
  simp only [List.append_assoc]
/-! a deed -/
def dT (b : Bag) : Int := b.tk 5
def dS (b : Bag) (t : List Nat) : List Int := (storyV (b.nx 5) (lastN t) (dT b).toNat).1
def dB2 (b : Bag) (t : List Nat) : Bag := (storyV (b.nx 5) (lastN t) (dT b).toNat).2
def dOne (b : Bag) (t : List Nat) : Bool := decide (dT b = 1) || !roomB t (dT b).toNat
def dP (b : Bag) (t : List Nat) : Int := (dB2 b t).tk (t.length : Int)
def deedV (b : Bag) (t : List Nat) : List Nat := if dOne b t = true then (if roomB t 1 = true then madeS t (dP b t) else t) else writtenS t (dS b t)
def deedB (b : Bag) (t : List Nat) : Bag := if dOne b t = true then (dB2 b t).nx (t.length : Int) else dB2 b t
def TxOk (t : List Nat) : Prop := Lt t ∧ 2 ≤ t.length ∧ t.length ≤ 1000
theorem TxOk.row {t : List Nat} (h : TxOk t) : isRowB t = true := isRow_of h.1 h.2.1 h.2.2
theorem dT_b (b : Bag) : 0 ≤ dT b ∧ dT b ≤ 4 := ⟨b.tk_lo (by decide), by have := b.tk_hi (m := 5) (by decide); unfold dT; omega⟩
theorem dS_ok (b : Bag) {t : List Nat} (h : TxOk t) : storyB (lastN t) (dS b t) = true := (storyV_ok (b.nx 5) (by have := h.2.1; unfold lastN; omega) _).1
theorem dS_len (b : Bag) (t : List Nat) : (dS b t).length = (dT b).toNat := storyV_len _ _ _
theorem dS_far (b : Bag) {t : List Nat} (h : TxOk t) : FarOk t (dS b t) := ⟨h.row, dS_ok b h, by rw [dS_len]; have := dT_b b; omega⟩
theorem dP_b (b : Bag) {t : List Nat} (h : TxOk t) : 0 ≤ dP b t ∧ dP b t ≤ lastN t := by
  have := (dB2 b t).tk_lo (m := (t.length : Int)) (by have := h.2.1; omega)
  have := (dB2 b t).tk_hi (m := (t.length : Int)) (by have := h.2.1; omega)
  unfold dP lastN; omega
theorem deedV_ok (b : Bag) {t : List Nat} (h : TxOk t) : TxOk (deedV b t) := by
  unfold deedV
  split
  · split
    · rename_i h2
      have hr := of_decide_eq_true h2
      obtain ⟨p0, p1⟩ := dP_b b h
      have hl := madeS_last p0 p1
      have := h.2.1
      refine ⟨madeS_lt h.1 _, ?_, ?_⟩ <;> (unfold lastN at *; omega)
    · exact h
  · rename_i h2
    have hr : roomB t (dT b).toNat = true := by
      unfold dOne at h2
      simp at h2
      exact h2.2
    have hr := of_decide_eq_true hr
    have hw := writtenS_last (dS_ok b h)
    rw [dS_len] at hw
    have up := pow_up (lastN t) (by have := h.2.1; unfold lastN; omega) (Nat.zero_le (dT b).toNat)
    rw [Int.pow_zero, Int.mul_one] at up
    have := h.2.1
    refine ⟨writtenS_lt h.1 _, ?_, ?_⟩ <;> (unfold lastN at *; omega)
def φ__law_deed : Sc := fun ds mu r mu' => ∃ (b : Bag) (t : List Nat) (j : Nat) (rest : List MC), ds = [.cell 0, .cell (j + 1), .str t] ∧ mu = b.m :: rest ∧ rest[j]? = some (.obj "Book" (bookF t)) ∧ TxOk t ∧ r = .val (.str (deedV b t)) ∧ mu' = (deedB b t).m :: rest.set j (.obj "Book" (bookF (deedV b t)))
theorem cut0 (ps : List Int) (i : Nat) : cut (ps.map D.int) none (some (0 + (i : Int))) = (ps.take i).map D.int := by
  rw [Int.zero_add]
  exact (cut_map D.int ps none (some (i : Int))).trans (congrArg (List.map D.int) (cut_front ps i))
theorem deed_at {row : List Nat} {ps : List Int} (ok : FarOk row ps) {i : Nat} (hi : i < ps.length) : ps[i]? = some (ps.getD i 0) ∧ 0 ≤ ps.getD i 0 ∧ ps.getD i 0 ≤ lastN row * 2 ^ i ∧ (writtenS row (ps.take i))[(ps.getD i 0).toNat]? = some ((calledS row ps).getD i 0) := by
  have e : ps[i]? = some (ps.getD i 0) := by rw [List.getD_eq_getElem?_getD, List.getElem?_eq_getElem hi]; rfl
  obtain ⟨c, h1, h2⟩ := calledS_get ok.pos.1 ok.st e
  have hb := storyB_get ok.st e
  refine ⟨e, hb.1, hb.2, ?_⟩
  rw [h1, List.getD_eq_getElem?_getD, h2]; rfl
theorem called_map (row : List Nat) (ps : List Int) {n : Nat} (h : n = ps.length) : (List.range n).map (fun i => (calledS row ps).getD i 0) = calledS row ps := by
  apply List.ext_getElem?
  intro i
  rw [List.getElem?_map]
  by_cases hi : i < ps.length
  · rw [List.getElem?_range (by omega), List.getElem?_eq_getElem (by rw [calledS_len]; exact hi)]
    show some ((calledS row ps).getD i 0) = _
    rw [List.getD_eq_getElem?_getD, List.getElem?_eq_getElem (by rw [calledS_len]; exact hi)]; rfl
  · rw [List.getElem?_eq_none (by simp; omega), List.getElem?_eq_none (by rw [calledS_len]; omega)]; rfl
theorem calledS_lt {row : List Nat} {ps : List Int} (hl : Lt row) (ok : FarOk row ps) : Lt (calledS row ps) := fun c hc => by
  obtain ⟨i, hi, rfl⟩ := List.getElem_of_mem hc
  have h2 : i < ps.length := by rw [calledS_len] at hi; exact hi
  obtain ⟨_, _, _, h4⟩ := deed_at ok h2
  have e : (calledS row ps).getD i 0 = (calledS row ps)[i] := by rw [List.getD_eq_getElem?_getD, List.getElem?_eq_getElem hi]; rfl
  rw [e] at h4
  exact writtenS_lt hl _ _ (List.mem_of_getElem? h4)
theorem Bag.cb (b : Bag) (n : Nat) : b.m.cb n = true := by
  unfold Bag.m
  simp [MC.cb, cbs, Y.cb, cbs_ints]
theorem low_deed {b b' : Bag} {rest : List MC} {j : Nat} {t : List Nat} (lo : ∀ m ∈ b.m :: rest, m.cb (b.m :: rest).length = true) : ∀ m ∈ b'.m :: rest.set j (.obj "Book" (bookF t)), m.cb (b'.m :: rest.set j (.obj "Book" (bookF t))).length = true := by
  intro m hm
  have e : (b'.m :: rest.set j (.obj "Book" (bookF t))).length = (b.m :: rest).length := by simp
  rw [e]
  rcases List.mem_cons.mp hm with h | h
  · rw [h]; exact b'.cb _
  · rcases List.mem_or_eq_of_mem_set h with h | h
    · exact lo m (List.mem_cons_of_mem _ h)
    · rw [h]; exact book_lo _ _
theorem set_same {α : Type} {xs : List α} {j : Nat} {x : α} (h : xs[j]? = some x) : xs.set j x = xs := by
  obtain ⟨h1, h2⟩ := List.getElem?_eq_some_iff.mp h
  rw [← h2, List.set_getElem_self]
theorem get_left {α : Type} {xs ys : List α} {j : Nat} {x : α} (h : xs[j]? = some x) : (xs ++ ys)[j]? = some x := by
  rw [List.getElem?_append_left (List.getElem?_eq_some_iff.mp h).1]; exact h
theorem set_left {α : Type} {xs ys : List α} {j : Nat} {x y : α} (h : xs[j]? = some y) : (xs ++ ys).set j x = xs.set j x ++ ys := by
  rw [List.set_append_left _ _ (List.getElem?_eq_some_iff.mp h).1]
def φ_law : Sc := fun ds mu r mu' => ∃ ns : List Int, ds = [.lst (ns.map .int)] ∧ mu = [] ∧ r = .val (.bl true) ∧ mu' = []
end Y
namespace Y
theorem story_big {l : Int} (h1 : 1 ≤ l) (h2 : l ≤ 100000) {i : Nat} (hi : i ≤ 40) : l * 2 ^ i < 2 ^ 63 := by
  have := pow_up l h1 hi
  have e : l * 2 ^ 40 ≤ 100000 * 2 ^ 40 := Int.mul_le_mul_of_nonneg_right h2 (by decide)
  have : (100000 : Int) * 2 ^ 40 < 2 ^ 63 := by decide
  omega
end Y
namespace Y
open PySem.Spec PySem PyProof.Rows L2
theorem deed_cell {rest : List MC} {j : Nat} {c o y : MC} (h : rest[j]? = some y) : ((rest ++ [c]).set j o)[rest.length]? = some c := by
  rw [set_left h, List.getElem?_append_right (by simp)]; simp
theorem deed_end {rest : List MC} {j : Nat} {c o y c' : MC} (h : rest[j]? = some y) : ((rest ++ [c]).set j o).set rest.length c' = rest.set j o ++ [c'] := by
  rw [set_left h, List.set_append_right _ _ (by simp)]; simp
theorem last_get {α : Type} (xs : List α) (x : α) : (xs ++ [x])[xs.length]? = some x := by simp
end Y
set_option maxHeartbeats 0
namespace Hd
open PySem.Spec PySem PyProof.Rows L2
def top (i : Nat) : Stmt := PySem.Challenge.pw_ownlog_k91_books_told.main.body.getD i (.Pass ⟨0, 0, 0, 0⟩)
abbrev s_is_integer : Stmt := top 12
abbrev s_is_between : Stmt := top 13
abbrev s_is_text : Stmt := top 14
abbrev s_is_row : Stmt := top 15
abbrev s_is_story : Stmt := top 16
abbrev s_shown : Stmt := top 18
abbrev s_Far__init : Stmt := inClass (top 20) 0
abbrev s_Far__row : Stmt := inClass (top 20) 1
abbrev s_Far__story : Stmt := inClass (top 20) 2
abbrev s_Far__lasts : Stmt := inClass (top 20) 3
abbrev s_Far__length : Stmt := inClass (top 20) 4
abbrev s_Far__check : Stmt := inClass (top 20) 5
abbrev s_Far__origins : Stmt := inClass (top 20) 6
abbrev s_Far__letter : Stmt := inClass (top 20) 7
abbrev s_Far__piece : Stmt := inClass (top 20) 8
abbrev s_Far__called : Stmt := inClass (top 20) 9
abbrev s_Far__after : Stmt := inClass (top 20) 10
abbrev s_Far__eq : Stmt := inClass (top 20) 11
abbrev s_Far__repr : Stmt := inClass (top 20) 12
abbrev s_made : Stmt := top 22
abbrev s_follow : Stmt := top 23
abbrev s_Book__init : Stmt := inClass (top 26) 0
abbrev s_Book__row : Stmt := inClass (top 26) 1
abbrev s_Book__copied : Stmt := inClass (top 26) 2
abbrev s_Book__call : Stmt := inClass (top 26) 3
abbrev s_Book__follow : Stmt := inClass (top 26) 4
abbrev s_Book__back : Stmt := inClass (top 26) 5
abbrev s_Book__unwind : Stmt := inClass (top 26) 6
abbrev s_Book__eq : Stmt := inClass (top 26) 7
abbrev s_Book__len : Stmt := inClass (top 26) 8
abbrev s__law_bag : Stmt := top 28
abbrev s__law_take : Stmt := top 29
abbrev s__law_alike : Stmt := top 30
abbrev s__law_word : Stmt := top 31
abbrev s__law_row : Stmt := top 32
abbrev s__law_any_row : Stmt := top 33
abbrev s__law_called : Stmt := top 34
abbrev s__law_written : Stmt := top 35
abbrev s__law_story : Stmt := top 36
abbrev s__law_room : Stmt := top 37
abbrev s__law_deed : Stmt := top 38
abbrev s_law : Stmt := top 39
def dd (a : Str × Option Str) (n q : Str) (s : Stmt) : He.DefD := ⟨a, n, q, defArgs s, defBody s, defScope s, [], []⟩
def fn : List He.DefD := [
  dd ("is_integer", none) "is_integer" "is_integer" s_is_integer,
  dd ("is_between", none) "is_between" "is_between" s_is_between,
  dd ("is_text", none) "is_text" "is_text" s_is_text,
  dd ("is_row", none) "is_row" "is_row" s_is_row,
  dd ("is_story", none) "is_story" "is_story" s_is_story,
  dd ("shown", none) "shown" "shown" s_shown,
  dd ("Far", some "__init__") "__init__" "Far.__init__" s_Far__init,
  dd ("Far", some "row") "row" "Far.row" s_Far__row,
  dd ("Far", some "story") "story" "Far.story" s_Far__story,
  dd ("Far", some "lasts") "lasts" "Far.lasts" s_Far__lasts,
  dd ("Far", some "length") "length" "Far.length" s_Far__length,
  dd ("Far", some "check") "check" "Far.check" s_Far__check,
  dd ("Far", some "origins") "origins" "Far.origins" s_Far__origins,
  dd ("Far", some "letter") "letter" "Far.letter" s_Far__letter,
  dd ("Far", some "piece") "piece" "Far.piece" s_Far__piece,
  dd ("Far", some "called") "called" "Far.called" s_Far__called,
  dd ("Far", some "after") "after" "Far.after" s_Far__after,
  dd ("Far", some "__eq__") "__eq__" "Far.__eq__" s_Far__eq,
  dd ("Far", some "__repr__") "__repr__" "Far.__repr__" s_Far__repr,
  dd ("made", none) "made" "made" s_made,
  dd ("follow", none) "follow" "follow" s_follow,
  dd ("Book", some "__init__") "__init__" "Book.__init__" s_Book__init,
  dd ("Book", some "row") "row" "Book.row" s_Book__row,
  dd ("Book", some "copied") "copied" "Book.copied" s_Book__copied,
  dd ("Book", some "call") "call" "Book.call" s_Book__call,
  dd ("Book", some "follow") "follow" "Book.follow" s_Book__follow,
  dd ("Book", some "back") "back" "Book.back" s_Book__back,
  dd ("Book", some "unwind") "unwind" "Book.unwind" s_Book__unwind,
  dd ("Book", some "__eq__") "__eq__" "Book.__eq__" s_Book__eq,
  dd ("Book", some "__len__") "__len__" "Book.__len__" s_Book__len,
  dd ("_law_bag", none) "_law_bag" "_law_bag" s__law_bag,
  dd ("_law_take", none) "_law_take" "_law_take" s__law_take,
  dd ("_law_alike", none) "_law_alike" "_law_alike" s__law_alike,
  dd ("_law_word", none) "_law_word" "_law_word" s__law_word,
  dd ("_law_row", none) "_law_row" "_law_row" s__law_row,
  dd ("_law_any_row", none) "_law_any_row" "_law_any_row" s__law_any_row,
  dd ("_law_called", none) "_law_called" "_law_called" s__law_called,
  dd ("_law_written", none) "_law_written" "_law_written" s__law_written,
  dd ("_law_story", none) "_law_story" "_law_story" s__law_story,
  dd ("_law_room", none) "_law_room" "_law_room" s__law_room,
  dd ("_law_deed", none) "_law_deed" "_law_deed" s__law_deed,
  dd ("law", none) "law" "law" s_law,
  dd ("follow_rows", none) "follow" "follow" s_follow]
def fa : List He.Fa := [
  .glo "_wall",
  .glo "OwnError",
  .glo "Wrong",
  .glo "NoPlace",
  .glo "NoCall",
  .glo "TooLong",
  .glo "TooMany",
  .str "LETTERS" "abcdefghijklmnopqrstuvwxyz",
  .int "MOST_LETTERS" 1000,
  .int "MOST_CALLS" 64,
  .glo "is_integer",
  .glo "is_between",
  .glo "is_text",
  .glo "is_row",
  .glo "is_story",
  .glo "shown",
  .glo "Far",
  .glo "made",
  .glo "follow",
  .glo "follow_rows",
  .glo "Book",
  .glo "_law_bag",
  .glo "_law_take",
  .glo "_law_alike",
  .glo "_law_word",
  .glo "_law_row",
  .glo "_law_any_row",
  .glo "_law_called",
  .glo "_law_written",
  .glo "_law_story",
  .glo "_law_room",
  .glo "_law_deed",
  .glo "law",
  .free "abs",
  .free "all",
  .free "bool",
  .free "enumerate",
  .free "int",
  .free "isinstance",
  .free "len",
  .free "list",
  .free "range",
  .free "repr",
  .free "str",
  .free "super",
  .free "zip",
  .cls "Far",
  .mkr "Far",
  .noat "Far" "at",
  .noat "Far" "its_row",
  .noat "Far" "its_story",
  .noat "Far" "limit",
  .noat "Far" "place",
  .meth "Far" "__init__",
  .meth "Far" "row",
  .meth "Far" "story",
  .meth "Far" "lasts",
  .meth "Far" "length",
  .meth "Far" "check",
  .meth "Far" "origins",
  .meth "Far" "letter",
  .meth "Far" "piece",
  .meth "Far" "called",
  .meth "Far" "after",
  .meth "Far" "__eq__",
  .meth "Far" "__repr__",
  .cls "Book",
  .mkr "Book",
  .noat "Book" "at",
  .noat "Book" "its_row",
  .noat "Book" "its_story",
  .noat "Book" "limit",
  .noat "Book" "place",
  .meth "Book" "__init__",
  .meth "Book" "row",
  .meth "Book" "copied",
  .meth "Book" "call",
  .meth "Book" "follow",
  .meth "Book" "back",
  .meth "Book" "unwind",
  .meth "Book" "__eq__",
  .meth "Book" "__len__"]
def loose : List Str := ["_wall", "OwnError", "Wrong", "NoPlace", "NoCall", "TooLong", "TooMany", "LETTERS", "MOST_LETTERS", "MOST_CALLS", "is_integer", "is_between", "is_text", "is_row", "is_story", "shown", "Far", "made", "follow", "follow_rows", "Book", "_law_bag", "_law_take", "_law_alike", "_law_word", "_law_row", "_law_any_row", "_law_called", "_law_written", "_law_story", "_law_room", "_law_deed"]
abbrev Rr : PySem.W.OpenRow := PySem.W.OpenLaw.row PySem.Challenge.rw_ownlog_k91_books_told
abbrev hk : PySem.W.Hook := He.hookD 6 fa fn
def ob (s : PySem.W.SharedT) : He.AlD := He.obsDG 6 fa fn (HandSHeadRun.getT s)
theorem ob_eq (s : PySem.W.SharedT) : ob s = hk.obs s.abs := He.obsDG_eq (HandSHeadRun.getT_eq s)
theorem run (w : World) : HandSHeadRun.RunEq Rr (PySem.W.view Rr.prog [39]) hk ob 20000 loose w := by
  intro os
  kernel_rfl
end Hd
set_option maxHeartbeats 2000001
namespace Y
open PySem.Spec PySem PyProof.Rows L2 Hd
theorem sc__law_bag : FnScope ["_law_script", "_law_cell"] ["_law_script"] (defScope s__law_bag) := ⟨rfl, rfl, rfl, by decide +kernel, rfl, by decide +kernel, by decide +kernel⟩
theorem v__law_bag {P : Program} {wd : World} {K : PySem.W.Frag} {mg : Str → Option Value} {base : Heap} (F : Fx fa fn K mg) {f : Addr} {fd : FuncData} (fD : FunD K "_law_bag" "_law_bag" (defArgs s__law_bag) (defBody s__law_bag) (defScope s__law_bag) [] [] f fd) : FnG P wd K mg base 1 f φ__law_bag := by
  refine fnG_of fD sc__law_bag (fun _ _ _ _ _ _ us hl => match us, hl with | [_], _ => rfl) (fun G X e rm ds mu r mu' h lo => ?_)
  subst e
  have nd := sc__law_bag.nd
  obtain ⟨ns, rfl, rfl, rfl⟩ := h
  refine ⟨rfl, Nat.le_refl _, ?_⟩
  show Bk _ _ ⟨[.val (.lst (ns.map .int)), .no], _⟩ _
  refine bk_retc (ec_lst (ea_cons ev_int (ea_cons ev_int (ea_cons ev_int (ea_cons (ev_c (Xc.ec (xc_lcm (js := [1]) (xs := ns.take 63) (D.int) (fun i => .int (i.natAbs : Int)) nd [("_law_cell", 1)] (eit_list (ev_c (Ec.eq (ec_sll (el_imm (ev_var 0 rfl rfl)) eo_none (eo_some ev_int)) (congrArg MC.lst ((cut_map D.int ns none (some 63)).trans (congrArg (List.map D.int) (cut_front ns 63))))))) (show blkC ["_law_script", "_law_cell"] (defScope s__law_bag) _ _ = true by decide +kernel) (fun _ _ _ _ _ => (pgn nd 1 rfl)) (by decide) (noown rfl (by intro _ z; cases z)) (by rw [List.length_take]; omega) (fun x x0 => ⟨_, _, (tg_name 1), fun _ _ _ _ _ => (ev_abs (F.free 33) (ev_var 1 rfl rfl)), rfl, rfl⟩)))) ea_nil)))) (by first | assumption | decide | omega | exact Nat.le_of_ble_eq_true rfl | (rw [rng_len]; omega) | (simp only [List.length_append, List.length_map, List.length_range, List.length_cons, List.length_nil]; omega))) ?_
  exact ⟨by unfold bag0 Bag.m; rw [List.map_map]; rfl, .inl rfl⟩
theorem w__law_bag {P : Program} {wd : World} {K : PySem.W.Frag} {mg : Str → Option Value} {base : Heap} (F : Fx fa fn K mg) : FnG P wd K mg base 1 (He.fAd K ("_law_bag", none)) φ__law_bag := (let ⟨_, fD⟩ := F.def_ 30 (s := s__law_bag); v__law_bag F fD)
theorem c__law_bag {P : Program} {wd : World} {K : PySem.W.Frag} {mg : Str → Option Value} {base : Heap} {A : Around} {k : Nat} (F : Fx fa fn K mg) (rm : Rm k A) (h : 1 ≤ k) : Cal P wd K mg base A "_law_bag" φ__law_bag := F.cal (w__law_bag F) rm h 21 30 rfl rfl
theorem sc__law_take : FnScope ["_law_bag_here", "_law_many", "_law_first", "_law_second", "_law_cell", "_law_value"] ["_law_bag_here", "_law_many"] (defScope s__law_take) := ⟨rfl, rfl, rfl, by decide +kernel, rfl, by decide +kernel, by decide +kernel⟩
theorem v__law_take {P : Program} {wd : World} {K : PySem.W.Frag} {mg : Str → Option Value} {base : Heap} (F : Fx fa fn K mg) {f : Addr} {fd : FuncData} (fD : FunD K "_law_take" "_law_take" (defArgs s__law_take) (defBody s__law_take) (defScope s__law_take) [] [] f fd) : FnG P wd K mg base 1 f φ__law_take := by
  refine fnG_of fD sc__law_take (fun _ _ _ _ _ _ us hl => match us, hl with | [_, _], _ => rfl) (fun G X e rm ds mu r mu' h lo => ?_)
  subst e
  have nd := sc__law_take.nd
  obtain ⟨b, m, rest, rfl, rfl, hm, rfl, rfl⟩ := h
  refine ⟨rfl, Nat.le_refl _, ?_⟩
  show Bk _ _ ⟨[.val (.cell 0), .val (.int m), .no, .no, .no, .no], _⟩ _
  have hc : (b.cell : Int) = b.cell := rfl
  refine bk_ifj (fun s' => ∃ x y, s' = ⟨[.val (.cell 0), .val (.int m), .no, .no, x, y], b.fill.m :: rest⟩) (tv_cmp (ev_ixl (el_cell (ev_var 0 rfl rfl) rfl) ev_int rfl) ev_int rfl) (fun h1 => ?_) (fun h1 => ?_) ?_
  ·
    skip
    refine bk_set 4 nd rfl ev_int ?_
    refine bk_ifj (fun s' => s' = ⟨[.val (.cell 0), .val (.int m), .no, .no, .val (.int b.cell), .no], b.m :: rest⟩) (tv_cmp (ev_ixl (el_cell (ev_var 0 rfl rfl) rfl) ev_int rfl) (ev_lenl (F.free 39) (el_imm (ev_ixl (el_cell (ev_var 0 rfl rfl) rfl) ev_int rfl))) rfl) (fun h3 => ?_) (fun h3 => ?_) ?_
    ·
      skip
      refine bk_set 4 nd rfl (ev_ixl (el_imm (ev_ixl (el_cell (ev_var 0 rfl rfl) rfl) ev_int rfl)) (ev_ixl (el_cell (ev_var 0 rfl rfl) rfl) ev_int rfl) (bag_get (of_decide_eq_true h3))) ?_
      refine bk_nil ?_
      rfl
    ·
      skip
      refine bk_nil ?_
      have h3 := of_decide_eq_false h3
      show _ = _
      rw [show b.cell = 0 from by unfold Bag.cell; rw [List.getD_eq_getElem?_getD, List.getElem?_eq_none (by rw [List.length_map] at h3; omega)]; rfl]; rfl
    rintro s' rfl
    refine bk_augit ip_add (ev_var 0 rfl rfl) ev_int ev_int rfl (by decide) rfl ?_
    refine bk_ifj (fun s' => s' = ⟨[.val (.cell 0), .val (.int m), .no, .no, .val (.int b.cell), .no], .lst [.int (if 1000000000000000000 ≤ b.cell then b.cell else b.a), .int b.b, .int ((b.c : Int) + 1), .lst (b.ns.map .int)] :: rest⟩) (tv_cmp (ev_var 4 rfl rfl) ev_int rfl) (fun h6 => ?_) (fun h6 => ?_) ?_
    ·
      skip
      refine bk_setit (ev_var 4 rfl rfl) (ev_var 0 rfl rfl) ev_int rfl rfl ?_
      refine bk_nil ?_
      show _ = _
      rw [if_pos (of_decide_eq_true h6)]; rfl
    ·
      skip
      refine bk_nil ?_
      show _ = _
      rw [if_neg (of_decide_eq_false h6)]; rfl
    rintro s' rfl
    refine bk_setit (ev_bin (ev_bin (ev_bin (ev_bin (ev_ixl (el_cell (ev_var 0 rfl rfl) rfl) ev_int rfl) ev_int rfl (.inl (.inr ⟨by decide, by decide⟩))) (ev_bin (ev_var 4 rfl rfl) ev_int rfl (show (0:Int) < _ by decide)) rfl trivial) (ev_bin ev_int (ev_ixl (el_cell (ev_var 0 rfl rfl) rfl) ev_int rfl) rfl (.inl (.inl ⟨by decide, by decide⟩))) rfl trivial) ev_int rfl (show (0:Int) < _ by decide)) (ev_var 0 rfl rfl) ev_int rfl rfl ?_
    refine bk_nil ?_
    exact ⟨.val (.int b.cell), .no, by unfold Bag.fill; rw [if_pos (of_decide_eq_true h1)]; rfl⟩
  ·
    skip
    refine bk_nil ?_
    exact ⟨.no, .no, by unfold Bag.fill; rw [if_neg (of_decide_eq_false h1)]⟩
  rintro s' ⟨x, y, rfl⟩
  refine bk_if (tv_cmp (ev_ixl (el_cell (ev_var 0 rfl rfl) rfl) ev_int rfl) ev_int rfl) (fun h9 => ?_) (fun h9 => ?_)
  ·
    skip
    refine bk_set 5 nd rfl (ev_bin (ev_ixl (el_cell (ev_var 0 rfl rfl) rfl) ev_int rfl) (ev_var 1 rfl rfl) rfl (show (0:Int) < _ by omega)) ?_
    refine bk_setit (ev_bin (ev_ixl (el_cell (ev_var 0 rfl rfl) rfl) ev_int rfl) (ev_var 1 rfl rfl) rfl (cdivw (i := 0) (by omega) (by omega))) (ev_var 0 rfl rfl) ev_int rfl rfl ?_
    refine bk_ret (ev_var 5 rfl rfl) ?_
    rw [show b.tk m = _ from if_pos (of_decide_eq_true h9), show b.nx m = _ from if_pos (of_decide_eq_true h9)]
    exact ⟨rfl, .inl rfl⟩
  ·
    skip
    refine bk_nil ?_
    show Bk _ _ _ _
    refine bk_set 2 nd rfl (ev_bin (ev_bin (ev_bin (ev_ixl (el_cell (ev_var 0 rfl rfl) rfl) ev_int rfl) ev_int rfl trivial) ev_int rfl (.inl (.inr ⟨by decide, by decide⟩))) ev_int rfl (show (0:Int) < _ by decide)) ?_
    refine bk_set 3 nd rfl (ev_bin (ev_bin (ev_bin (ev_bin (ev_var 2 rfl rfl) (ev_var 2 rfl rfl) rfl (.inl (by unfold CMul; omega))) ev_int rfl (show (0:Int) < _ by decide)) ev_int rfl (.inl (.inr ⟨by decide, by decide⟩))) ev_int rfl (show (0:Int) < _ by decide)) ?_
    refine bk_if (tv_cmp (ev_var 1 rfl rfl) ev_int rfl) (fun h15 => ?_) (fun h15 => ?_)
    ·
      skip
      refine bk_ret (ev_bin (ev_bin (ev_bin (ev_var 3 rfl rfl) ev_int rfl (.inl (.inr ⟨by decide, by decide⟩))) (ev_var 2 rfl rfl) rfl trivial) (ev_var 1 rfl rfl) rfl (show (0:Int) < _ by omega)) ?_
      rw [show b.tk m = _ from if_neg (of_decide_eq_false h9), show b.nx m = _ from if_neg (of_decide_eq_false h9), show Bag.low _ _ = _ from if_pos (of_decide_eq_true h15)]
      exact ⟨rfl, .inl rfl⟩
    ·
      skip
      refine bk_nil ?_
      show Bk _ _ _ _
      refine bk_ret (ev_bin (ev_bin (ev_var 3 rfl rfl) ev_int rfl ⟨by decide, by decide⟩) (ev_var 1 rfl rfl) rfl (show (0:Int) < _ by omega)) ?_
      rw [show b.tk m = _ from if_neg (of_decide_eq_false h9), show b.nx m = _ from if_neg (of_decide_eq_false h9), show Bag.low _ _ = _ from if_neg (of_decide_eq_false h15)]
      exact ⟨rfl, .inl rfl⟩
theorem w__law_take {P : Program} {wd : World} {K : PySem.W.Frag} {mg : Str → Option Value} {base : Heap} (F : Fx fa fn K mg) : FnG P wd K mg base 1 (He.fAd K ("_law_take", none)) φ__law_take := (let ⟨_, fD⟩ := F.def_ 31 (s := s__law_take); v__law_take F fD)
theorem c__law_take {P : Program} {wd : World} {K : PySem.W.Frag} {mg : Str → Option Value} {base : Heap} {A : Around} {k : Nat} (F : Fx fa fn K mg) (rm : Rm k A) (h : 1 ≤ k) : Cal P wd K mg base A "_law_take" φ__law_take := F.cal (w__law_take F) rm h 22 31 rfl rfl
theorem sc_is_integer : FnScope ["thing"] ["thing"] (defScope s_is_integer) := ⟨rfl, rfl, rfl, by decide +kernel, rfl, by decide +kernel, by decide +kernel⟩
theorem v_is_integer {P : Program} {wd : World} {K : PySem.W.Frag} {mg : Str → Option Value} {base : Heap} (F : Fx fa fn K mg) {f : Addr} {fd : FuncData} (fD : FunD K "is_integer" "is_integer" (defArgs s_is_integer) (defBody s_is_integer) (defScope s_is_integer) [] [] f fd) : FnG P wd K mg base 1 f φ_is_integer := by
  refine fnG_of fD sc_is_integer (fun _ _ _ _ _ _ us hl => match us, hl with | [_], _ => rfl) (fun G X e rm ds mu r mu' h lo => ?_)
  subst e
  have nd := sc_is_integer.nd
  obtain ⟨i, rfl, rfl, rfl⟩ := h
  refine ⟨rfl, Nat.le_refl _, ?_⟩
  show Bk _ _ ⟨[.val (.int i)], _⟩ _
  refine bk_ret (ev_and (ev_isi (T := "int") (F.free 38) (F.free 37) (by decide +kernel) (ev_var 0 rfl rfl) rfl rfl (by decide) (by decide)) (fun c0 => (ev_one (ev_not (ev_isi (T := "bool") (F.free 38) (F.free 35) (by decide +kernel) (ev_var 0 rfl rfl) rfl rfl (by decide) (by decide)))))) ?_
  exact ⟨rfl, .inl rfl⟩
theorem w_is_integer {P : Program} {wd : World} {K : PySem.W.Frag} {mg : Str → Option Value} {base : Heap} (F : Fx fa fn K mg) : FnG P wd K mg base 1 (He.fAd K ("is_integer", none)) φ_is_integer := (let ⟨_, fD⟩ := F.def_ 0 (s := s_is_integer); v_is_integer F fD)
theorem c_is_integer {P : Program} {wd : World} {K : PySem.W.Frag} {mg : Str → Option Value} {base : Heap} {A : Around} {k : Nat} (F : Fx fa fn K mg) (rm : Rm k A) (h : 1 ≤ k) : Cal P wd K mg base A "is_integer" φ_is_integer := F.cal (w_is_integer F) rm h 10 0 rfl rfl
theorem sc_is_between : FnScope ["thing", "least", "greatest"] ["thing", "least", "greatest"] (defScope s_is_between) := ⟨rfl, rfl, rfl, by decide +kernel, rfl, by decide +kernel, by decide +kernel⟩
theorem v_is_between {P : Program} {wd : World} {K : PySem.W.Frag} {mg : Str → Option Value} {base : Heap} (F : Fx fa fn K mg) {f : Addr} {fd : FuncData} (fD : FunD K "is_between" "is_between" (defArgs s_is_between) (defBody s_is_between) (defScope s_is_between) [] [] f fd) : FnG P wd K mg base 2 f φ_is_between := by
  refine fnG_of fD sc_is_between (fun _ _ _ _ _ _ us hl => match us, hl with | [_, _, _], _ => rfl) (fun G X e rm ds mu r mu' h lo => ?_)
  subst e
  have nd := sc_is_between.nd
  obtain ⟨i, l, g, rfl, rfl, rfl⟩ := h
  refine ⟨rfl, Nat.le_refl _, ?_⟩
  show Bk _ _ ⟨[.val (.int i), .val (.int l), .val (.int g)], _⟩ _
  refine bk_ret (ev_and (ev_call (c_is_integer F rm (by decide)) (ea_cons (ev_var 0 rfl rfl) ea_nil) ⟨_, rfl, rfl, rfl⟩) (fun c0 => (ev_one (ev_chain (ev_var 1 rfl rfl) (ev_var 0 rfl rfl) (ev_var 2 rfl rfl) rfl rfl)))) ?_
  exact ⟨rfl, .inl rfl⟩
theorem w_is_between {P : Program} {wd : World} {K : PySem.W.Frag} {mg : Str → Option Value} {base : Heap} (F : Fx fa fn K mg) : FnG P wd K mg base 2 (He.fAd K ("is_between", none)) φ_is_between := (let ⟨_, fD⟩ := F.def_ 1 (s := s_is_between); v_is_between F fD)
theorem c_is_between {P : Program} {wd : World} {K : PySem.W.Frag} {mg : Str → Option Value} {base : Heap} {A : Around} {k : Nat} (F : Fx fa fn K mg) (rm : Rm k A) (h : 2 ≤ k) : Cal P wd K mg base A "is_between" φ_is_between := F.cal (w_is_between F) rm h 11 1 rfl rfl
theorem sc_is_text : FnScope ["thing", "most", "letter"] ["thing", "most"] (defScope s_is_text) := ⟨rfl, rfl, rfl, by decide +kernel, rfl, by decide +kernel, by decide +kernel⟩
theorem v_is_text {P : Program} {wd : World} {K : PySem.W.Frag} {mg : Str → Option Value} {base : Heap} (F : Fx fa fn K mg) {f : Addr} {fd : FuncData} (fD : FunD K "is_text" "is_text" (defArgs s_is_text) (defBody s_is_text) (defScope s_is_text) [] [] f fd) : FnG P wd K mg base 1 f φ_is_text := by
  refine fnG_of fD sc_is_text (fun _ _ _ _ _ _ us hl => match us, hl with | [_, _], _ => rfl) (fun G X e rm ds mu r mu' h lo => ?_)
  subst e
  have nd := sc_is_text.nd
  obtain ⟨x, m, rfl, hx, rfl, rfl⟩ := h
  refine ⟨rfl, Nat.le_refl _, ?_⟩
  show Bk _ _ ⟨[.val (.str x), .val (.int m), .no], _⟩ _
  refine bk_if (Tw.tv (tw_orH (tv_not (tv_val (ev_isi (T := "str") (F.free 38) (F.free 43) (by decide +kernel) (ev_var 0 rfl rfl) rfl rfl (by decide) (by decide)))) (fun c0 => (tw_or1 (tv_not (tv_chain ev_int (ev_lens (F.free 39) (ev_var 0 rfl rfl) (by first | assumption | decide | omega | exact Nat.le_of_ble_eq_true rfl | (rw [rng_len]; omega) | (simp only [List.length_append, List.length_map, List.length_range, List.length_cons, List.length_nil]; omega))) (ev_var 1 rfl rfl) rfl rfl)))))) (fun h1 => ?_) (fun h1 => ?_)
  ·
    skip
    refine bk_ret ev_bl ?_
    refine ⟨?_, .inl rfl⟩
    have e : isTextB x m = false := by
      unfold isTextB
      simp at h1
      rcases h1 with h1 | h1
      · rw [decide_eq_false (by omega)]; rfl
      · rw [decide_eq_false (p := (x.length : Int) ≤ m) (by omega)]; simp
    rw [e]
  ·
    skip
    refine bk_nil ?_
    show Bk _ _ _ _
    refine bk_ret (ev_allq (F.free 34) (el_new (Xc.ec (xc_lcm (js := [2]) (xs := x) (fun c => D.str [c]) (fun c => D.bl (decide (c ∈ AZ))) nd [("letter", 2)] (eit_str (ev_var 0 rfl rfl)) (show blkC ["thing", "most", "letter"] (defScope s_is_text) _ _ = true by decide +kernel) (fun _ _ _ _ _ => (pgn nd 2 rfl)) (by decide) (noown rfl (by intro _ z; cases z)) (by first | assumption | decide | omega | exact Nat.le_of_ble_eq_true rfl | (rw [rng_len]; omega) | (simp only [List.length_append, List.length_map, List.length_range, List.length_cons, List.length_nil]; omega)) (fun x x0 => ⟨_, _, (tg_name 2), fun _ _ _ _ _ => (ev_ins (ev_var 2 rfl rfl) (ev_gstr (F.str 7)) (by first | assumption | decide | omega | exact Nat.le_of_ble_eq_true rfl | (rw [rng_len]; omega) | (simp only [List.length_append, List.length_map, List.length_range, List.length_cons, List.length_nil]; omega))), rfl, rfl⟩))))) ?_
    refine ⟨?_, .inl rfl⟩
    have e : isTextB x m = x.all fun c => decide (c ∈ AZ) := by
      unfold isTextB
      simp at h1
      rw [decide_eq_true (by omega), decide_eq_true (by omega)]; rfl
    rw [e]
theorem w_is_text {P : Program} {wd : World} {K : PySem.W.Frag} {mg : Str → Option Value} {base : Heap} (F : Fx fa fn K mg) : FnG P wd K mg base 1 (He.fAd K ("is_text", none)) φ_is_text := (let ⟨_, fD⟩ := F.def_ 2 (s := s_is_text); v_is_text F fD)
theorem c_is_text {P : Program} {wd : World} {K : PySem.W.Frag} {mg : Str → Option Value} {base : Heap} {A : Around} {k : Nat} (F : Fx fa fn K mg) (rm : Rm k A) (h : 1 ≤ k) : Cal P wd K mg base A "is_text" φ_is_text := F.cal (w_is_text F) rm h 12 2 rfl rfl
theorem sc_is_row : FnScope ["thing"] ["thing"] (defScope s_is_row) := ⟨rfl, rfl, rfl, by decide +kernel, rfl, by decide +kernel, by decide +kernel⟩
theorem v_is_row {P : Program} {wd : World} {K : PySem.W.Frag} {mg : Str → Option Value} {base : Heap} (F : Fx fa fn K mg) {f : Addr} {fd : FuncData} (fD : FunD K "is_row" "is_row" (defArgs s_is_row) (defBody s_is_row) (defScope s_is_row) [] [] f fd) : FnG P wd K mg base 2 f φ_is_row := by
  refine fnG_of fD sc_is_row (fun _ _ _ _ _ _ us hl => match us, hl with | [_], _ => rfl) (fun G X e rm ds mu r mu' h lo => ?_)
  subst e
  have nd := sc_is_row.nd
  obtain ⟨x, rfl, hx, rfl, rfl⟩ := h
  refine ⟨rfl, Nat.le_refl _, ?_⟩
  show Bk _ _ ⟨[.val (.str x)], _⟩ _
  refine bk_ret (ev_and (ev_call (c_is_text F rm (by decide)) (ea_cons (ev_var 0 rfl rfl) (ea_cons (ev_gint (F.int 8)) ea_nil)) ⟨_, _, rfl, (by first | assumption | omega), rfl, rfl⟩) (fun c0 => (ev_one (ev_cmp (ev_lens (F.free 39) (ev_var 0 rfl rfl) (by first | assumption | decide | omega | exact Nat.le_of_ble_eq_true rfl | (rw [rng_len]; omega) | (simp only [List.length_append, List.length_map, List.length_range, List.length_cons, List.length_nil]; omega))) ev_int rfl)))) ?_
  exact ⟨rfl, .inl rfl⟩
theorem w_is_row {P : Program} {wd : World} {K : PySem.W.Frag} {mg : Str → Option Value} {base : Heap} (F : Fx fa fn K mg) : FnG P wd K mg base 2 (He.fAd K ("is_row", none)) φ_is_row := (let ⟨_, fD⟩ := F.def_ 3 (s := s_is_row); v_is_row F fD)
theorem c_is_row {P : Program} {wd : World} {K : PySem.W.Frag} {mg : Str → Option Value} {base : Heap} {A : Around} {k : Nat} (F : Fx fa fn K mg) (rm : Rm k A) (h : 2 ≤ k) : Cal P wd K mg base A "is_row" φ_is_row := F.cal (w_is_row F) rm h 13 3 rfl rfl
theorem sc_is_story : FnScope ["last", "thing", "place"] ["last", "thing"] (defScope s_is_story) := ⟨rfl, rfl, rfl, by decide +kernel, rfl, by decide +kernel, by decide +kernel⟩
theorem v_is_story {P : Program} {wd : World} {K : PySem.W.Frag} {mg : Str → Option Value} {base : Heap} (F : Fx fa fn K mg) {f : Addr} {fd : FuncData} (fD : FunD K "is_story" "is_story" (defArgs s_is_story) (defBody s_is_story) (defScope s_is_story) [] [] f fd) : FnG P wd K mg base 3 f φ_is_story := by
  refine fnG_of fD sc_is_story (fun _ _ _ _ _ _ us hl => match us, hl with | [_, _], _ => rfl) (fun G X e rm ds mu r mu' h lo => ?_)
  subst e
  have nd := sc_is_story.nd
  obtain ⟨l, d0, ps, rfl, hd0, hp, rfl, rfl⟩ := h
  refine ⟨rfl, Nat.le_refl _, ?_⟩
  show Bk _ _ ⟨[.val (.int l), .val d0, .no], _⟩ _
  refine bk_if (Tw.tv (tw_orH (tv_not (tv_val (ev_isil (T := "list") (F.free 38) (F.free 40) (by decide +kernel) (el_lsa (ev_var 1 rfl rfl) hd0) rfl (by decide) (by decide)))) (fun c0 => (tw_or1 (tv_cmp (ev_lenl (F.free 39) (el_lsa (ev_var 1 rfl rfl) hd0)) (ev_gint (F.int 9)) rfl))))) (fun h1 => ?_) (fun h1 => ?_)
  ·
    exact absurd h1 (by simp; omega)
  ·
    skip
    refine bk_nil ?_
    show Bk _ _ _ _
    refine bk_for (js := [2]) (pgn nd 2 rfl) (eit_lsa (ev_var 1 rfl rfl) hd0) (fun i s' => ∃ x, s' = ⟨[.val (.int (l * 2 ^ i)), .val d0, x], mu'⟩) ?_ (fun i d s' hd hI => ?_) (fun s' hI => ?_) (hok := by rintro i s' ⟨x, rfl⟩; exact hd0)
    · exact ⟨.no, by rw [Int.pow_zero, Int.mul_one]⟩
    · obtain ⟨p, hp2, rfl⟩ := map_get hd
      obtain ⟨x, rfl⟩ := hI
      have hb := storyB_get hp.2 hp2
      refine ⟨_, (tg_name 2), ?_⟩
      refine bk_if (tv_not (tv_val (ev_call (c_is_between F rm (by decide)) (ea_cons (ev_var 2 rfl rfl) (ea_cons ev_int (ea_cons (ev_var 0 rfl rfl) ea_nil))) ⟨_, _, _, rfl, rfl, rfl⟩))) (fun h4 => ?_) (fun h4 => ?_)
      ·
        exact absurd h4 (by simp; exact hb)
      ·
        skip
        refine bk_nil ?_
        show Bk _ _ _ _
        refine bk_set 0 nd rfl (ev_bin ev_int (ev_var 0 rfl rfl) rfl (.inl (.inl ⟨by decide, by decide⟩))) ?_
        refine bk_nil ?_
        exact ⟨_, by rw [pow2]; rfl⟩
    · obtain ⟨x, rfl⟩ := hI
      refine bk_ret ev_bl ?_
      exact ⟨rfl, .inl rfl⟩
theorem w_is_story {P : Program} {wd : World} {K : PySem.W.Frag} {mg : Str → Option Value} {base : Heap} (F : Fx fa fn K mg) : FnG P wd K mg base 3 (He.fAd K ("is_story", none)) φ_is_story := (let ⟨_, fD⟩ := F.def_ 4 (s := s_is_story); v_is_story F fD)
theorem c_is_story {P : Program} {wd : World} {K : PySem.W.Frag} {mg : Str → Option Value} {base : Heap} {A : Around} {k : Nat} (F : Fx fa fn K mg) (rm : Rm k A) (h : 3 ≤ k) : Cal P wd K mg base A "is_story" φ_is_story := F.cal (w_is_story F) rm h 14 4 rfl rfl
theorem sc_shown : FnScope ["last", "called", "place"] ["last", "called", "place"] (defScope s_shown) := ⟨rfl, rfl, rfl, by decide +kernel, rfl, by decide +kernel, by decide +kernel⟩
theorem v_shown {P : Program} {wd : World} {K : PySem.W.Frag} {mg : Str → Option Value} {base : Heap} (F : Fx fa fn K mg) {f : Addr} {fd : FuncData} (fD : FunD K "shown" "shown" (defArgs s_shown) (defBody s_shown) (defScope s_shown) [] [] f fd) : FnG P wd K mg base 1 f φ_shown := by
  refine fnG_of fD sc_shown (fun _ _ _ _ _ _ us hl => match us, hl with | [_, _, _], _ => rfl) (fun G X e rm ds mu r mu' h lo => ?_)
  subst e
  have nd := sc_shown.nd
  obtain ⟨l, c, p, rfl, rfl, rfl⟩ := h
  refine ⟨rfl, Nat.le_refl _, ?_⟩
  show Bk _ _ ⟨[.val (.int l), .val (.int c), .val (.int p)], _⟩ _
  refine bk_if (tv_cmp (ev_var 2 rfl rfl) (ev_var 1 rfl rfl) rfl) (fun h1 => ?_) (fun h1 => ?_)
  ·
    skip
    refine bk_ret (ev_var 2 rfl rfl) ?_
    exact ⟨by rw [show shownI l c p = p from if_pos (of_decide_eq_true h1)], .inl rfl⟩
  ·
    skip
    refine bk_nil ?_
    show Bk _ _ _ _
    refine bk_if (tv_cmp (ev_var 2 rfl rfl) (ev_bin (ev_var 1 rfl rfl) (ev_var 0 rfl rfl) rfl trivial) rfl) (fun h3 => ?_) (fun h3 => ?_)
    ·
      skip
      refine bk_ret (ev_bin (ev_var 2 rfl rfl) (ev_var 1 rfl rfl) rfl trivial) ?_
      exact ⟨by rw [show shownI l c p = _ from (if_neg (of_decide_eq_false h1)).trans (if_pos (of_decide_eq_true h3))], .inl rfl⟩
    ·
      skip
      refine bk_nil ?_
      show Bk _ _ _ _
      refine bk_ret (ev_bin (ev_var 2 rfl rfl) (ev_var 0 rfl rfl) rfl trivial) ?_
      exact ⟨by rw [show shownI l c p = _ from (if_neg (of_decide_eq_false h1)).trans (if_neg (of_decide_eq_false h3))], .inl rfl⟩
theorem w_shown {P : Program} {wd : World} {K : PySem.W.Frag} {mg : Str → Option Value} {base : Heap} (F : Fx fa fn K mg) : FnG P wd K mg base 1 (He.fAd K ("shown", none)) φ_shown := (let ⟨_, fD⟩ := F.def_ 5 (s := s_shown); v_shown F fD)
theorem c_shown {P : Program} {wd : World} {K : PySem.W.Frag} {mg : Str → Option Value} {base : Heap} {A : Around} {k : Nat} (F : Fx fa fn K mg) (rm : Rm k A) (h : 1 ≤ k) : Cal P wd K mg base A "shown" φ_shown := F.cal (w_shown F) rm h 15 5 rfl rfl
end Y
namespace Y
open PySem.Spec PySem PyProof.Rows L2 Hd
theorem sc_Far__init : FnScope ["self", "row", "story"] ["self", "row", "story"] (defScope s_Far__init) := ⟨rfl, rfl, rfl, by decide +kernel, rfl, by decide +kernel, by decide +kernel⟩
theorem v_Far__init {P : Program} {wd : World} {K : PySem.W.Frag} {mg : Str → Option Value} {base : Heap} (F : Fx fa fn K mg) {f : Addr} {fd : FuncData} (fD : FunD K "__init__" "Far.__init__" (defArgs s_Far__init) (defBody s_Far__init) (defScope s_Far__init) [] [] f fd) : FnG P wd K mg base 4 f φ_Far__init := by
  refine fnG_of fD sc_Far__init (fun _ _ _ _ _ _ us hl => match us, hl with | [_, _, _], _ => rfl) (fun G X e rm ds mu r mu' h lo => ?_)
  subst e
  have nd := sc_Far__init.nd
  obtain ⟨mu0, row, d0, ps, rfl, rfl, hd0, ok, rfl, rfl⟩ := h
  refine ⟨rfl, by simp, ?_⟩
  show Bk _ _ ⟨[.val (.cell mu0.length), .val (.str row), .val d0], _⟩ _
  have hr := ok.pos
  have hd1 := hd0.app [.obj "Far" []]
  refine bk_if (tv_not (tv_val (ev_call (c_is_row F rm (by decide)) (ea_cons (ev_var 1 rfl rfl) ea_nil) ⟨_, rfl, (by first | assumption | omega), rfl, rfl⟩))) (fun h1 => ?_) (fun h1 => ?_)
  ·
    exact absurd h1 (by rw [ok.isr]; decide)
  ·
    skip
    refine bk_nil ?_
    show Bk _ _ _ _
    refine bk_if (tv_not (tv_val (ev_call (c_is_story F rm (by decide)) (ea_cons (ev_bin (ev_lens (F.free 39) (ev_var 1 rfl rfl) (by first | assumption | decide | omega | exact Nat.le_of_ble_eq_true rfl | (rw [rng_len]; omega) | (simp only [List.length_append, List.length_map, List.length_range, List.length_cons, List.length_nil]; omega))) ev_int rfl trivial) (ea_cons (ev_var 2 rfl rfl) ea_nil)) ⟨_, _, _, rfl, (hd1), (show ps.length ≤ 64 ∧ storyB (lastN row) ps = true from ⟨ok.ln, ok.st⟩), rfl, rfl⟩))) (fun h3 => ?_) (fun h3 => ?_)
    ·
      exact absurd h3 (by decide)
    ·
      skip
      refine bk_nil ?_
      show Bk _ _ _ _
      refine bk_setfl (mu0 := mu0) (ev_var 1 rfl rfl) (ev_var 0 rfl rfl) rfl (F.cls 16 46) (F.noat 16 49) (Nat.le_of_ble_eq_true rfl) ?_
      have hd1 := hd0.app [.obj "Far" (putD "its_row" (.str row) [])]
      refine bk_setfl (mu0 := mu0) (ev_c (ec_list (F.free 40) (el_lsa (ev_var 2 rfl rfl) hd1))) (ev_var 0 rfl rfl) rfl (F.cls 16 46) (F.noat 16 50) (Nat.le_of_ble_eq_true rfl) ?_
      refine bk_nil ?_
      exact ⟨rfl, rfl⟩
theorem w_Far__init {P : Program} {wd : World} {K : PySem.W.Frag} {mg : Str → Option Value} {base : Heap} (F : Fx fa fn K mg) : FnG P wd K mg base 4 (He.fAd K ("Far", some "__init__")) φ_Far__init := (let ⟨_, fD⟩ := F.def_ 6 (s := s_Far__init); v_Far__init F fD)
theorem k_Far {P : Program} {wd : World} {K : PySem.W.Frag} {mg : Str → Option Value} {base : Heap} {A : Around} {k : Nat} (F : Fx fa fn K mg) (rm : Rm k A) (h : 5 ≤ k) : MakG P wd K mg base A "Far" φ_Far__init := F.mak (w_Far__init F) rm h 16 47 rfl rfl
theorem sc_Far__row : FnScope ["self"] ["self"] (defScope s_Far__row) := ⟨rfl, rfl, rfl, by decide +kernel, rfl, by decide +kernel, by decide +kernel⟩
theorem v_Far__row {P : Program} {wd : World} {K : PySem.W.Frag} {mg : Str → Option Value} {base : Heap} (F : Fx fa fn K mg) {f : Addr} {fd : FuncData} (fD : FunD K "row" "Far.row" (defArgs s_Far__row) (defBody s_Far__row) (defScope s_Far__row) [] [] f fd) : FnG P wd K mg base 1 f φ_Far__row := by
  refine fnG_of fD sc_Far__row (fun _ _ _ _ _ _ us hl => match us, hl with | [_], _ => rfl) (fun G X e rm ds mu r mu' h lo => ?_)
  subst e
  have nd := sc_Far__row.nd
  obtain ⟨row, ps, rfl, rfl, rfl⟩ := h
  refine ⟨rfl, Nat.le_refl _, ?_⟩
  show Bk _ _ ⟨[.val (farD row ps)], _⟩ _
  refine bk_ret (ev_fld (ev_var 0 rfl rfl) .tree (F.cls 16 46) (F.noat 16 49) rfl) ?_
  exact ⟨rfl, .inl rfl⟩
theorem w_Far__row {P : Program} {wd : World} {K : PySem.W.Frag} {mg : Str → Option Value} {base : Heap} (F : Fx fa fn K mg) : FnG P wd K mg base 1 (He.fAd K ("Far", some "row")) φ_Far__row := (let ⟨_, fD⟩ := F.def_ 7 (s := s_Far__row); v_Far__row F fD)
theorem m_Far__row {P : Program} {wd : World} {K : PySem.W.Frag} {mg : Str → Option Value} {base : Heap} {A : Around} {k : Nat} (F : Fx fa fn K mg) (rm : Rm k A) (h : 1 ≤ k) : MthG P wd K mg base A "Far" "row" φ_Far__row := F.mth (w_Far__row F) rm h 16 46 54 rfl rfl rfl
theorem sc_Far__story : FnScope ["self"] ["self"] (defScope s_Far__story) := ⟨rfl, rfl, rfl, by decide +kernel, rfl, by decide +kernel, by decide +kernel⟩
theorem v_Far__story {P : Program} {wd : World} {K : PySem.W.Frag} {mg : Str → Option Value} {base : Heap} (F : Fx fa fn K mg) {f : Addr} {fd : FuncData} (fD : FunD K "story" "Far.story" (defArgs s_Far__story) (defBody s_Far__story) (defScope s_Far__story) [] [] f fd) : FnG P wd K mg base 1 f φ_Far__story := by
  refine fnG_of fD sc_Far__story (fun _ _ _ _ _ _ us hl => match us, hl with | [_], _ => rfl) (fun G X e rm ds mu r mu' h lo => ?_)
  subst e
  have nd := sc_Far__story.nd
  obtain ⟨row, ps, rfl, rfl, rfl⟩ := h
  refine ⟨rfl, Nat.le_refl _, ?_⟩
  show Bk _ _ ⟨[.val (farD row ps)], _⟩ _
  refine bk_retc (ec_list (F.free 40) (el_imm (ev_fld (ev_var 0 rfl rfl) .tree (F.cls 16 46) (F.noat 16 50) rfl))) ?_
  exact ⟨rfl, .inl rfl⟩
theorem w_Far__story {P : Program} {wd : World} {K : PySem.W.Frag} {mg : Str → Option Value} {base : Heap} (F : Fx fa fn K mg) : FnG P wd K mg base 1 (He.fAd K ("Far", some "story")) φ_Far__story := (let ⟨_, fD⟩ := F.def_ 8 (s := s_Far__story); v_Far__story F fD)
theorem m_Far__story {P : Program} {wd : World} {K : PySem.W.Frag} {mg : Str → Option Value} {base : Heap} {A : Around} {k : Nat} (F : Fx fa fn K mg) (rm : Rm k A) (h : 1 ≤ k) : MthG P wd K mg base A "Far" "story" φ_Far__story := F.mth (w_Far__story F) rm h 16 46 55 rfl rfl rfl
theorem sc_Far__lasts : FnScope ["self", "found", "called"] ["self"] (defScope s_Far__lasts) := ⟨rfl, rfl, rfl, by decide +kernel, rfl, by decide +kernel, by decide +kernel⟩
theorem v_Far__lasts {P : Program} {wd : World} {K : PySem.W.Frag} {mg : Str → Option Value} {base : Heap} (F : Fx fa fn K mg) {f : Addr} {fd : FuncData} (fD : FunD K "lasts" "Far.lasts" (defArgs s_Far__lasts) (defBody s_Far__lasts) (defScope s_Far__lasts) [] [] f fd) : FnG P wd K mg base 1 f φ_Far__lasts := by
  refine fnG_of fD sc_Far__lasts (fun _ _ _ _ _ _ us hl => match us, hl with | [_], _ => rfl) (fun G X e rm ds mu r mu' h lo => ?_)
  subst e
  have nd := sc_Far__lasts.nd
  obtain ⟨row, ps, rfl, ok, rfl, rfl⟩ := h
  refine ⟨rfl, Nat.le_refl _, ?_⟩
  show Bk _ _ ⟨[.val (farD row ps), .no, .no], _⟩ _
  have hr := ok.pos
  refine bk_setc 1 nd rfl (ec_lst (ea_cons (ev_bin (ev_lens (F.free 39) (ev_fld (ev_var 0 rfl rfl) .tree (F.cls 16 46) (F.noat 16 49) rfl) (by first | assumption | decide | omega | exact Nat.le_of_ble_eq_true rfl | (rw [rng_len]; omega) | (simp only [List.length_append, List.length_map, List.length_range, List.length_cons, List.length_nil]; omega))) ev_int rfl trivial) ea_nil) (by first | assumption | decide | omega | exact Nat.le_of_ble_eq_true rfl | (rw [rng_len]; omega) | (simp only [List.length_append, List.length_map, List.length_range, List.length_cons, List.length_nil]; omega))) ?_
  refine bk_for (js := [2]) (pgn nd 2 rfl) (eit_list (ev_fld (ev_var 0 rfl rfl) .tree (F.cls 16 46) (F.noat 16 50) rfl)) (fun i s' => ∃ x, s' = ⟨[.val (farD row ps), .own (.lst ((lastsL (lastN row) i).map .int)), x], mu'⟩) ?_ (fun i d s' hd hI => ?_) (fun s' hI => ?_)
  · exact ⟨.no, by show S.mk _ _ = _; unfold lastsL; simp; rfl⟩
  · obtain ⟨p, hp2, rfl⟩ := map_get hd
    obtain ⟨x, rfl⟩ := hI
    have hi := lt_of_get hp2
    refine ⟨_, (tg_name 2), ?_⟩
    refine bk_app 1 rfl rfl rfl (ev_bin ev_int (ev_ixl (el_own 1 rfl rfl) (ev_neg ev_int) (lastsL_last _ _)) rfl (.inl (.inl ⟨by decide, by decide⟩))) (by rw [List.length_map, lastsL_len]; have := ok.ln; omega) ?_
    refine bk_nil ?_
    exact ⟨_, by rw [lastsL_succ, pow2, List.map_append]; rfl⟩
  · obtain ⟨x, rfl⟩ := hI
    rw [List.length_map]
    refine bk_reto 1 rfl rfl ?_
    exact ⟨rfl, .inl rfl⟩
theorem w_Far__lasts {P : Program} {wd : World} {K : PySem.W.Frag} {mg : Str → Option Value} {base : Heap} (F : Fx fa fn K mg) : FnG P wd K mg base 1 (He.fAd K ("Far", some "lasts")) φ_Far__lasts := (let ⟨_, fD⟩ := F.def_ 9 (s := s_Far__lasts); v_Far__lasts F fD)
theorem m_Far__lasts {P : Program} {wd : World} {K : PySem.W.Frag} {mg : Str → Option Value} {base : Heap} {A : Around} {k : Nat} (F : Fx fa fn K mg) (rm : Rm k A) (h : 1 ≤ k) : MthG P wd K mg base A "Far" "lasts" φ_Far__lasts := F.mth (w_Far__lasts F) rm h 16 46 56 rfl rfl rfl
theorem sc_Far__length : FnScope ["self"] ["self"] (defScope s_Far__length) := ⟨rfl, rfl, rfl, by decide +kernel, rfl, by decide +kernel, by decide +kernel⟩
theorem v_Far__length {P : Program} {wd : World} {K : PySem.W.Frag} {mg : Str → Option Value} {base : Heap} (F : Fx fa fn K mg) {f : Addr} {fd : FuncData} (fD : FunD K "length" "Far.length" (defArgs s_Far__length) (defBody s_Far__length) (defScope s_Far__length) [] [] f fd) : FnG P wd K mg base 2 f φ_Far__length := by
  refine fnG_of fD sc_Far__length (fun _ _ _ _ _ _ us hl => match us, hl with | [_], _ => rfl) (fun G X e rm ds mu r mu' h lo => ?_)
  subst e
  have nd := sc_Far__length.nd
  obtain ⟨row, ps, rfl, ok, rfl, rfl⟩ := h
  refine ⟨rfl, Nat.le_refl _, ?_⟩
  show Bk _ _ ⟨[.val (farD row ps)], _⟩ _
  refine bk_ret (ev_bin (ev_ixl (el_new (ec_meth0 (m_Far__lasts F rm (by decide)) (ev_var 0 rfl rfl) .tree rfl ⟨_, _, rfl, (by first | assumption | omega), rfl, rfl⟩)) (ev_neg ev_int) (lastsL_last _ _)) ev_int rfl trivial) ?_
  exact ⟨rfl, .inl rfl⟩
theorem w_Far__length {P : Program} {wd : World} {K : PySem.W.Frag} {mg : Str → Option Value} {base : Heap} (F : Fx fa fn K mg) : FnG P wd K mg base 2 (He.fAd K ("Far", some "length")) φ_Far__length := (let ⟨_, fD⟩ := F.def_ 10 (s := s_Far__length); v_Far__length F fD)
theorem m_Far__length {P : Program} {wd : World} {K : PySem.W.Frag} {mg : Str → Option Value} {base : Heap} {A : Around} {k : Nat} (F : Fx fa fn K mg) (rm : Rm k A) (h : 2 ≤ k) : MthG P wd K mg base A "Far" "length" φ_Far__length := F.mth (w_Far__length F) rm h 16 46 57 rfl rfl rfl
theorem sc_Far__check : FnScope ["self", "place"] ["self", "place"] (defScope s_Far__check) := ⟨rfl, rfl, rfl, by decide +kernel, rfl, by decide +kernel, by decide +kernel⟩
theorem v_Far__check {P : Program} {wd : World} {K : PySem.W.Frag} {mg : Str → Option Value} {base : Heap} (F : Fx fa fn K mg) {f : Addr} {fd : FuncData} (fD : FunD K "check" "Far.check" (defArgs s_Far__check) (defBody s_Far__check) (defScope s_Far__check) [] [] f fd) : FnG P wd K mg base 3 f φ_Far__check := by
  refine fnG_of fD sc_Far__check (fun _ _ _ _ _ _ us hl => match us, hl with | [_, _], _ => rfl) (fun G X e rm ds mu r mu' h lo => ?_)
  subst e
  have nd := sc_Far__check.nd
  obtain ⟨row, ps, p, rfl, ok, hp, rfl, rfl⟩ := h
  refine ⟨rfl, Nat.le_refl _, ?_⟩
  show Bk _ _ ⟨[.val (farD row ps), .val (.int p)], _⟩ _
  refine bk_if (tv_not (tv_chain ev_int (ev_var 1 rfl rfl) (ev_meth0 (m_Far__length F rm (by decide)) (ev_var 0 rfl rfl) .tree rfl ⟨_, _, rfl, (by first | assumption | omega), rfl, rfl⟩) rfl rfl)) (fun h1 => ?_) (fun h1 => ?_)
  ·
    exact absurd h1 (by rw [decide_eq_true hp.1, decide_eq_true (show p < lastN row * 2 ^ ps.length + 1 by omega)]; decide)
  ·
    skip
    refine bk_nil ?_
    show Bk _ _ _ _
    refine bk_nil ?_
    exact ⟨rfl, rfl⟩
theorem w_Far__check {P : Program} {wd : World} {K : PySem.W.Frag} {mg : Str → Option Value} {base : Heap} (F : Fx fa fn K mg) : FnG P wd K mg base 3 (He.fAd K ("Far", some "check")) φ_Far__check := (let ⟨_, fD⟩ := F.def_ 11 (s := s_Far__check); v_Far__check F fD)
theorem m_Far__check {P : Program} {wd : World} {K : PySem.W.Frag} {mg : Str → Option Value} {base : Heap} {A : Around} {k : Nat} (F : Fx fa fn K mg) (rm : Rm k A) (h : 3 ≤ k) : MthG P wd K mg base A "Far" "check" φ_Far__check := F.mth (w_Far__check F) rm h 16 46 58 rfl rfl rfl
theorem sc_Far__origins : FnScope ["self", "place", "found", "last", "called"] ["self", "place"] (defScope s_Far__origins) := ⟨rfl, rfl, rfl, by decide +kernel, rfl, by decide +kernel, by decide +kernel⟩
theorem v_Far__origins {P : Program} {wd : World} {K : PySem.W.Frag} {mg : Str → Option Value} {base : Heap} (F : Fx fa fn K mg) {f : Addr} {fd : FuncData} (fD : FunD K "origins" "Far.origins" (defArgs s_Far__origins) (defBody s_Far__origins) (defScope s_Far__origins) [] [] f fd) : FnG P wd K mg base 4 f φ_Far__origins := by
  refine fnG_of fD sc_Far__origins (fun _ _ _ _ _ _ us hl => match us, hl with | [_, _], _ => rfl) (fun G X e rm ds mu r mu' h lo => ?_)
  subst e
  have nd := sc_Far__origins.nd
  obtain ⟨row, ps, p, rfl, ok, hp, rfl, rfl⟩ := h
  refine ⟨rfl, Nat.le_refl _, ?_⟩
  show Bk _ _ ⟨[.val (farD row ps), .val (.int p), .no, .no, .no], _⟩ _
  have hr := ok.pos
  have hl := ok.ln
  refine bk_expr (ev_meth (m_Far__check F rm (by decide)) (ev_var 0 rfl rfl) .tree rfl (ea_cons (ev_var 1 rfl rfl) ea_nil) ⟨_, _, _, rfl, (by first | assumption | omega), (by first | assumption | omega), rfl, rfl⟩) ?_
  refine bk_setc 2 nd rfl (ec_lst (ea_cons (ev_var 1 rfl rfl) ea_nil) (by first | assumption | decide | omega | exact Nat.le_of_ble_eq_true rfl | (rw [rng_len]; omega) | (simp only [List.length_append, List.length_map, List.length_range, List.length_cons, List.length_nil]; omega))) ?_
  refine bk_for (js := [3, 4]) (pgtwo (pgn nd 3 rfl) (pgn nd 4 rfl)) (eit_list (ev_c (ec_revl (el_new (ec_listzip (F.free 40) (F.free 45) (ea_cons (ev_c (ec_meth0 (m_Far__lasts F rm (by decide)) (ev_var 0 rfl rfl) .tree rfl ⟨_, _, rfl, (by first | assumption | omega), rfl, rfl⟩)) (ea_cons (ev_fld (ev_var 0 rfl rfl) .tree (F.cls 16 46) (F.noat 16 50) rfl) ea_nil))))))) (fun i s' => ∃ x y, s' = ⟨[.val (farD row ps), .val (.int p), .own (.lst ((origL (lastN row) ps p i).map .int)), x, y], mu'⟩) ?_ (fun i d s' hd hI => ?_) (fun s' hI => ?_)
  · exact ⟨.no, .no, by rw [show origL (lastN row) ps p 0 = [p] by simp [origL, origI]]; rfl⟩
  · obtain ⟨c, hi, hc, rfl⟩ := zrev_get (l := lastN row) hd
    obtain ⟨x, y, rfl⟩ := hI
    refine ⟨_, (tg_two (tg_name 3) (tg_name 4)), ?_⟩
    refine bk_app 2 rfl rfl rfl (ev_call (c_shown F rm (by decide)) (ea_cons (ev_var 3 rfl rfl) (ea_cons (ev_var 4 rfl rfl) (ea_cons (ev_ixl (el_own 2 rfl rfl) (ev_neg ev_int) (origL_last _ _ _ _)) ea_nil))) ⟨_, _, _, rfl, rfl, rfl⟩) (by rw [List.length_map, origL_len]; omega) ?_
    refine bk_nil ?_
    exact ⟨_, _, by rw [origL_succ, orig_step _ hi hc, List.map_append]; rfl⟩
  · obtain ⟨x, y, rfl⟩ := hI
    rw [zrev_len]
    refine bk_reto 2 rfl rfl ?_
    exact ⟨rfl, .inl rfl⟩
theorem w_Far__origins {P : Program} {wd : World} {K : PySem.W.Frag} {mg : Str → Option Value} {base : Heap} (F : Fx fa fn K mg) : FnG P wd K mg base 4 (He.fAd K ("Far", some "origins")) φ_Far__origins := (let ⟨_, fD⟩ := F.def_ 12 (s := s_Far__origins); v_Far__origins F fD)
theorem m_Far__origins {P : Program} {wd : World} {K : PySem.W.Frag} {mg : Str → Option Value} {base : Heap} {A : Around} {k : Nat} (F : Fx fa fn K mg) (rm : Rm k A) (h : 4 ≤ k) : MthG P wd K mg base A "Far" "origins" φ_Far__origins := F.mth (w_Far__origins F) rm h 16 46 59 rfl rfl rfl
theorem sc_Far__letter : FnScope ["self", "place"] ["self", "place"] (defScope s_Far__letter) := ⟨rfl, rfl, rfl, by decide +kernel, rfl, by decide +kernel, by decide +kernel⟩
theorem v_Far__letter {P : Program} {wd : World} {K : PySem.W.Frag} {mg : Str → Option Value} {base : Heap} (F : Fx fa fn K mg) {f : Addr} {fd : FuncData} (fD : FunD K "letter" "Far.letter" (defArgs s_Far__letter) (defBody s_Far__letter) (defScope s_Far__letter) [] [] f fd) : FnG P wd K mg base 5 f φ_Far__letter := by
  refine fnG_of fD sc_Far__letter (fun _ _ _ _ _ _ us hl => match us, hl with | [_, _], _ => rfl) (fun G X e rm ds mu r mu' h lo => ?_)
  subst e
  have nd := sc_Far__letter.nd
  obtain ⟨row, ps, p, c, rfl, ok, hp, hc, rfl, rfl⟩ := h
  refine ⟨rfl, Nat.le_refl _, ?_⟩
  show Bk _ _ ⟨[.val (farD row ps), .val (.int p)], _⟩ _
  refine bk_ret (ev_ixs (ev_fld (ev_var 0 rfl rfl) .tree (F.cls 16 46) (F.noat 16 49) rfl) (ev_ixl (el_new (ec_meth (m_Far__origins F rm (by decide)) (ev_var 0 rfl rfl) .tree rfl (ea_cons (ev_var 1 rfl rfl) ea_nil) ⟨_, _, _, rfl, (by first | assumption | omega), (by first | assumption | omega), rfl, rfl⟩)) (ev_neg ev_int) (show L2.atI _ (-1) = some (D.int (origI (lastN row) ps p)) by rw [origL_last, Nat.sub_self]; simp)) (by have := ok.pos; omega) (by obtain ⟨i0, i1, i2⟩ := writtenS_get ok.st hp.1 hp.2; rw [atI_int _ i0, ← i2]; exact hc)) ?_
  exact ⟨rfl, .inl rfl⟩
theorem w_Far__letter {P : Program} {wd : World} {K : PySem.W.Frag} {mg : Str → Option Value} {base : Heap} (F : Fx fa fn K mg) : FnG P wd K mg base 5 (He.fAd K ("Far", some "letter")) φ_Far__letter := (let ⟨_, fD⟩ := F.def_ 13 (s := s_Far__letter); v_Far__letter F fD)
theorem m_Far__letter {P : Program} {wd : World} {K : PySem.W.Frag} {mg : Str → Option Value} {base : Heap} {A : Around} {k : Nat} (F : Fx fa fn K mg) (rm : Rm k A) (h : 5 ≤ k) : MthG P wd K mg base A "Far" "letter" φ_Far__letter := F.mth (w_Far__letter F) rm h 16 46 60 rfl rfl rfl
theorem sc_Far__called : FnScope ["self", "found", "index", "place"] ["self"] (defScope s_Far__called) := ⟨rfl, rfl, rfl, by decide +kernel, rfl, by decide +kernel, by decide +kernel⟩
theorem v_Far__called {P : Program} {wd : World} {K : PySem.W.Frag} {mg : Str → Option Value} {base : Heap} (F : Fx fa fn K mg) {f : Addr} {fd : FuncData} (fD : FunD K "called" "Far.called" (defArgs s_Far__called) (defBody s_Far__called) (defScope s_Far__called) [] [] f fd) : FnG P wd K mg base 6 f φ_Far__called := by
  refine fnG_of fD sc_Far__called (fun _ _ _ _ _ _ us hl => match us, hl with | [_], _ => rfl) (fun G X e rm ds mu r mu' h lo => ?_)
  subst e
  have nd := sc_Far__called.nd
  obtain ⟨row, ps, rfl, ok, rfl, rfl⟩ := h
  refine ⟨rfl, Nat.le_refl _, ?_⟩
  show Bk _ _ ⟨[.val (farD row ps), .no, .no, .no], _⟩ _
  have hr := ok.pos
  have hl := ok.ln
  refine bk_setc 1 nd rfl (ec_lst ea_nil (by first | assumption | decide | omega | exact Nat.le_of_ble_eq_true rfl | (rw [rng_len]; omega) | (simp only [List.length_append, List.length_map, List.length_range, List.length_cons, List.length_nil]; omega))) ?_
  refine bk_for (js := [2, 3]) (pgtwo (pgn nd 2 rfl) (pgn nd 3 rfl)) (eit_enum (F.free 36) (ev_fld (ev_var 0 rfl rfl) .tree (F.cls 16 46) (F.noat 16 50) rfl)) (fun i s' => ∃ x y, s' = ⟨[.val (farD row ps), .own (.lst (((calledS row ps).take i).map fun c => .str [c])), x, y], mu'⟩) ?_ (fun i d s' hd hI => ?_) (fun s' hI => ?_)
  · exact ⟨.no, .no, rfl⟩
  · obtain ⟨z, hz, rfl⟩ := enum_get hd
    obtain ⟨p, hp, rfl⟩ := map_get hz
    obtain ⟨x, y, rfl⟩ := hI
    obtain ⟨c, h1, h2⟩ := calledS_get hr.1 ok.st hp
    have hi := lt_of_get hp
    have hb := storyB_get ok.st hp
    have ht : (ps.take i).length = i := by rw [List.length_take]; omega
    refine ⟨_, (tg_two (tg_name 2) (tg_name 3)), ?_⟩
    refine bk_app 1 rfl rfl rfl (ev_meth (m_Far__letter F rm (by decide)) (ev_c (ec_make (k_Far F rm (by decide)) (ea_cons (ev_fld (ev_var 0 rfl rfl) .tree (F.cls 16 46) (F.noat 16 49) rfl) (ea_cons (ev_c (Ec.eq (ec_sll (el_imm (ev_fld (ev_var 0 rfl rfl) .tree (F.cls 16 46) (F.noat 16 50) rfl)) eo_none (eo_some (ev_var 2 rfl rfl))) (congrArg MC.lst ((cut_map D.int ps none (some (i : Int))).trans (congrArg (List.map D.int) (cut_front ps i)))))) ea_nil)) ⟨_, _, _, _, rfl, rfl, (by first | exact .inl rfl | assumption | omega), (ok.take i), rfl, rfl⟩ (far_lo _ _ _))) .tree rfl (ea_cons (ev_var 3 rfl rfl) ea_nil) ⟨_, _, _, _, rfl, (ok.take i), (show 0 ≤ p ∧ p ≤ _ by rw [ht]; exact hb), (h1), rfl, rfl⟩) (by rw [List.length_map, List.length_take]; omega) ?_
    refine bk_nil ?_
    exact ⟨_, _, by rw [take_get h2, List.map_append]; rfl⟩
  · obtain ⟨x, y, rfl⟩ := hI
    rw [enum_len, List.length_map]
    refine bk_ret (Ev.eq (ev_joinq ev_str (el_own 1 rfl rfl) (join1_ok (by rw [List.length_take, calledS_len]; omega))) (congrArg D.str (join1 _))) ?_
    exact ⟨by rw [List.take_of_length_le (by rw [calledS_len]; exact Nat.le_refl _)], .inl rfl⟩
theorem w_Far__called {P : Program} {wd : World} {K : PySem.W.Frag} {mg : Str → Option Value} {base : Heap} (F : Fx fa fn K mg) : FnG P wd K mg base 6 (He.fAd K ("Far", some "called")) φ_Far__called := (let ⟨_, fD⟩ := F.def_ 15 (s := s_Far__called); v_Far__called F fD)
theorem m_Far__called {P : Program} {wd : World} {K : PySem.W.Frag} {mg : Str → Option Value} {base : Heap} {A : Around} {k : Nat} (F : Fx fa fn K mg) (rm : Rm k A) (h : 6 ≤ k) : MthG P wd K mg base A "Far" "called" φ_Far__called := F.mth (w_Far__called F) rm h 16 46 62 rfl rfl rfl
end Y
namespace Y
open PySem.Spec PySem PyProof.Rows L2 Hd
theorem sc_made : FnScope ["row", "place"] ["row", "place"] (defScope s_made) := ⟨rfl, rfl, rfl, by decide +kernel, rfl, by decide +kernel, by decide +kernel⟩
theorem v_made {P : Program} {wd : World} {K : PySem.W.Frag} {mg : Str → Option Value} {base : Heap} (F : Fx fa fn K mg) {f : Addr} {fd : FuncData} (fD : FunD K "made" "made" (defArgs s_made) (defBody s_made) (defScope s_made) [] [] f fd) : FnG P wd K mg base 1 f φ_made := by
  refine fnG_of fD sc_made (fun _ _ _ _ _ _ us hl => match us, hl with | [_, _], _ => rfl) (fun G X e rm ds mu r mu' h lo => ?_)
  subst e
  have nd := sc_made.nd
  obtain ⟨row, p, rfl, hr, rfl, rfl⟩ := h
  refine ⟨rfl, Nat.le_refl _, ?_⟩
  show Bk _ _ ⟨[.val (.str row), .val (.int p)], _⟩ _
  have c1 := cut_len row none (some p)
  have c2 := cut_len row (some (p + 1)) none
  refine bk_ret (ev_bin (ev_bin (ev_sls (ev_var 0 rfl rfl) eo_none (eo_some (ev_var 1 rfl rfl)) (by first | omega | (show _ ≤ _; rw [List.length_append]; omega) | (show _ + _ ≤ _; rw [List.length_append]; omega) | (show _ + _ ≤ _; omega))) (ev_var 0 rfl rfl) rfl (by first | omega | (show _ ≤ _; rw [List.length_append]; omega) | (show _ + _ ≤ _; rw [List.length_append]; omega) | (show _ + _ ≤ _; omega))) (ev_sls (ev_var 0 rfl rfl) (eo_some (ev_bin (ev_var 1 rfl rfl) ev_int rfl trivial)) eo_none (by first | omega | (show _ ≤ _; rw [List.length_append]; omega) | (show _ + _ ≤ _; rw [List.length_append]; omega) | (show _ + _ ≤ _; omega))) rfl (by first | omega | (show _ ≤ _; rw [List.length_append]; omega) | (show _ + _ ≤ _; rw [List.length_append]; omega) | (show _ + _ ≤ _; omega))) ?_
  exact ⟨rfl, .inl rfl⟩
theorem w_made {P : Program} {wd : World} {K : PySem.W.Frag} {mg : Str → Option Value} {base : Heap} (F : Fx fa fn K mg) : FnG P wd K mg base 1 (He.fAd K ("made", none)) φ_made := (let ⟨_, fD⟩ := F.def_ 19 (s := s_made); v_made F fD)
theorem c_made {P : Program} {wd : World} {K : PySem.W.Frag} {mg : Str → Option Value} {base : Heap} {A : Around} {k : Nat} (F : Fx fa fn K mg) (rm : Rm k A) (h : 1 ≤ k) : Cal P wd K mg base A "made" φ_made := F.cal (w_made F) rm h 17 19 rfl rfl
theorem sc_follow : FnScope ["row", "calls", "last", "place", "at"] ["row", "calls"] (defScope s_follow) := ⟨rfl, rfl, rfl, by decide +kernel, rfl, by decide +kernel, by decide +kernel⟩
theorem v_follow {P : Program} {wd : World} {K : PySem.W.Frag} {mg : Str → Option Value} {base : Heap} (F : Fx fa fn K mg) {f : Addr} {fd : FuncData} (fD : FunD K "follow" "follow" (defArgs s_follow) (defBody s_follow) (defScope s_follow) [] [] f fd) : FnG P wd K mg base 2 f φ_follow := by
  refine fnG_of fD sc_follow (fun _ _ _ _ _ _ us hl => match us, hl with | [_, _], _ => rfl) (fun G X e rm ds mu r mu' h lo => ?_)
  subst e
  have nd := sc_follow.nd
  obtain ⟨row, d0, ps, rfl, hd0, hp, rfl, rfl⟩ := h
  refine ⟨rfl, Nat.le_refl _, ?_⟩
  show Bk _ _ ⟨[.val (.str row), .val d0, .no, .no, .no], _⟩ _
  have hl : lastN row = (row.length : Int) - 1 := rfl
  have hl2 := pow_up (lastN row) (by omega) (Nat.zero_le ps.length)
  rw [Int.pow_zero, Int.mul_one] at hl2
  refine bk_set 2 nd rfl (ev_bin (ev_lens (F.free 39) (ev_var 0 rfl rfl) (by first | assumption | decide | omega | exact Nat.le_of_ble_eq_true rfl | (rw [rng_len]; omega) | (simp only [List.length_append, List.length_map, List.length_range, List.length_cons, List.length_nil]; omega))) ev_int rfl trivial) ?_
  refine bk_for (js := [4, 3]) (pgtwo (pgn nd 4 rfl) (pgn nd 3 rfl)) (eit_enuma (F.free 36) (ev_var 1 rfl rfl) hd0) (fun i s' => ∃ x y, s' = ⟨[.val (.str row), .val d0, .val (.int (lastN row * 2 ^ i)), x, y], mu'⟩) ?_ (fun i d s' hd hI => ?_) (fun s' hI => ?_) (hok := by rintro i s' ⟨x, y, rfl⟩; exact hd0)
  · exact ⟨.no, .no, by rw [Int.pow_zero, Int.mul_one]; rfl⟩
  · obtain ⟨z, hz, rfl⟩ := enum_get hd
    obtain ⟨p, hp2, rfl⟩ := map_get hz
    obtain ⟨x, y, rfl⟩ := hI
    have hb := storyB_get hp.2.1 hp2
    refine ⟨_, (tg_two (tg_name 4) (tg_name 3)), ?_⟩
    refine bk_if (tv_not (tv_chain ev_int (ev_var 3 rfl rfl) (ev_var 2 rfl rfl) rfl rfl)) (fun h3 => ?_) (fun h3 => ?_)
    ·
      exact absurd h3 (by simp; exact hb)
    ·
      skip
      refine bk_nil ?_
      show Bk _ _ _ _
      refine bk_set 2 nd rfl (ev_bin ev_int (ev_var 2 rfl rfl) rfl (.inl (.inl ⟨by decide, by decide⟩))) ?_
      refine bk_nil ?_
      exact ⟨_, _, by rw [pow2]; rfl⟩
  · obtain ⟨x, y, rfl⟩ := hI
    rw [enum_len, List.length_map]
    refine bk_if (tv_cmp (ev_bin (ev_var 2 rfl rfl) ev_int rfl trivial) (ev_gint (F.int 8)) rfl) (fun h6 => ?_) (fun h6 => ?_)
    ·
      exact absurd h6 (by simp; omega)
    ·
      skip
      refine bk_nil ?_
      show Bk _ _ _ _
      refine bk_for (js := [3]) (pgn nd 3 rfl) (eit_lsa (ev_var 1 rfl rfl) hd0) (fun i s' => ∃ x y z, s' = ⟨[.val (.str (writtenS row (ps.take i))), .val d0, z, x, y], mu'⟩) ?_ (fun i d s' hd hI => ?_) (fun s' hI => ?_) (hok := by rintro i s' ⟨x, y, z, rfl⟩; exact hd0)
      · exact ⟨_, _, _, rfl⟩
      · obtain ⟨p, hp2, rfl⟩ := map_get hd
        obtain ⟨x, y, z, rfl⟩ := hI
        have hi := lt_of_get hp2
        have hw := writtenS_last (storyB_take hp.2.1 i)
        have hlt : (ps.take i).length = i := by rw [List.length_take]; omega
        rw [hlt] at hw
        have hu := pow_up (lastN row) (by omega) (Nat.le_of_lt hi)
        have hle : (writtenS row (ps.take i)).length ≤ 1000000 := by unfold lastN at *; omega
        refine ⟨_, (tg_name 3), ?_⟩
        refine bk_set 0 nd rfl (ev_call (c_made F rm (by decide)) (ea_cons (ev_var 0 rfl rfl) (ea_cons (ev_var 3 rfl rfl) ea_nil)) ⟨_, _, rfl, (by first | assumption | omega), rfl, rfl⟩) ?_
        refine bk_nil ?_
        exact ⟨_, _, _, by rw [writtenS_succ hp2]; rfl⟩
      · obtain ⟨x, y, z, rfl⟩ := hI
        rw [List.length_map]
        refine bk_ret (ev_var 0 rfl rfl) ?_
        exact ⟨by rw [List.take_of_length_le (Nat.le_refl _)], .inl rfl⟩
theorem w_follow {P : Program} {wd : World} {K : PySem.W.Frag} {mg : Str → Option Value} {base : Heap} (F : Fx fa fn K mg) : FnG P wd K mg base 2 (He.fAd K ("follow", none)) φ_follow := (let ⟨_, fD⟩ := F.def_ 20 (s := s_follow); v_follow F fD)
theorem c_follow {P : Program} {wd : World} {K : PySem.W.Frag} {mg : Str → Option Value} {base : Heap} {A : Around} {k : Nat} (F : Fx fa fn K mg) (rm : Rm k A) (h : 2 ≤ k) : Cal P wd K mg base A "follow" φ_follow := F.cal (w_follow F) rm h 18 20 rfl rfl
theorem c_follow_rows {P : Program} {wd : World} {K : PySem.W.Frag} {mg : Str → Option Value} {base : Heap} {A : Around} {k : Nat} (F : Fx fa fn K mg) (rm : Rm k A) (h : 2 ≤ k) : Cal P wd K mg base A "follow_rows" φ_follow := F.cal (let ⟨_, fD⟩ := F.def_ 42 (a := ("follow_rows", none)) (s := s_follow); v_follow F fD) rm h 19 42 rfl rfl
theorem sc_Book__init : FnScope ["self", "row"] ["self", "row"] (defScope s_Book__init) := ⟨rfl, rfl, rfl, by decide +kernel, rfl, by decide +kernel, by decide +kernel⟩
theorem v_Book__init {P : Program} {wd : World} {K : PySem.W.Frag} {mg : Str → Option Value} {base : Heap} (F : Fx fa fn K mg) {f : Addr} {fd : FuncData} (fD : FunD K "__init__" "Book.__init__" (defArgs s_Book__init) (defBody s_Book__init) (defScope s_Book__init) [] [] f fd) : FnG P wd K mg base 3 f φ_Book__init := by
  refine fnG_of fD sc_Book__init (fun _ _ _ _ _ _ us hl => match us, hl with | [_, _], _ => rfl) (fun G X e rm ds mu r mu' h lo => ?_)
  subst e
  have nd := sc_Book__init.nd
  obtain ⟨mu0, row, rfl, rfl, ok, rfl, rfl⟩ := h
  refine ⟨rfl, by simp, ?_⟩
  show Bk _ _ ⟨[.val (.cell mu0.length), .val (.str row)], _⟩ _
  have hr := isRow_iff.mp ok
  refine bk_if (tv_not (tv_val (ev_call (c_is_row F rm (by decide)) (ea_cons (ev_var 1 rfl rfl) ea_nil) ⟨_, rfl, (by first | assumption | omega), rfl, rfl⟩))) (fun h1 => ?_) (fun h1 => ?_)
  ·
    exact absurd h1 (by rw [ok]; decide)
  ·
    skip
    refine bk_nil ?_
    show Bk _ _ _ _
    refine bk_setfl (mu0 := mu0) (ev_var 1 rfl rfl) (ev_var 0 rfl rfl) rfl (F.cls 20 66) (F.noat 20 69) (Nat.le_of_ble_eq_true rfl) ?_
    refine bk_nil ?_
    exact ⟨rfl, rfl⟩
theorem w_Book__init {P : Program} {wd : World} {K : PySem.W.Frag} {mg : Str → Option Value} {base : Heap} (F : Fx fa fn K mg) : FnG P wd K mg base 3 (He.fAd K ("Book", some "__init__")) φ_Book__init := (let ⟨_, fD⟩ := F.def_ 21 (s := s_Book__init); v_Book__init F fD)
theorem k_Book {P : Program} {wd : World} {K : PySem.W.Frag} {mg : Str → Option Value} {base : Heap} {A : Around} {k : Nat} (F : Fx fa fn K mg) (rm : Rm k A) (h : 4 ≤ k) : MakG P wd K mg base A "Book" φ_Book__init := F.mak (w_Book__init F) rm h 20 67 rfl rfl
theorem sc_Book__row : FnScope ["self"] ["self"] (defScope s_Book__row) := ⟨rfl, rfl, rfl, by decide +kernel, rfl, by decide +kernel, by decide +kernel⟩
theorem v_Book__row {P : Program} {wd : World} {K : PySem.W.Frag} {mg : Str → Option Value} {base : Heap} (F : Fx fa fn K mg) {f : Addr} {fd : FuncData} (fD : FunD K "row" "Book.row" (defArgs s_Book__row) (defBody s_Book__row) (defScope s_Book__row) [] [] f fd) : FnG P wd K mg base 1 f φ_Book__row := by
  refine fnG_of fD sc_Book__row (fun _ _ _ _ _ _ us hl => match us, hl with | [_], _ => rfl) (fun G X e rm ds mu r mu' h lo => ?_)
  subst e
  have nd := sc_Book__row.nd
  obtain ⟨d0, row, rfl, hm, rfl, rfl⟩ := h
  refine ⟨rfl, Nat.le_refl _, ?_⟩
  show Bk _ _ ⟨[.val d0], _⟩ _
  refine bk_ret (ev_fld (ev_var 0 rfl rfl) (ObA.is hm) (F.cls 20 66) (F.noat 20 69) rfl) ?_
  exact ⟨rfl, .inl rfl⟩
theorem w_Book__row {P : Program} {wd : World} {K : PySem.W.Frag} {mg : Str → Option Value} {base : Heap} (F : Fx fa fn K mg) : FnG P wd K mg base 1 (He.fAd K ("Book", some "row")) φ_Book__row := (let ⟨_, fD⟩ := F.def_ 22 (s := s_Book__row); v_Book__row F fD)
theorem m_Book__row {P : Program} {wd : World} {K : PySem.W.Frag} {mg : Str → Option Value} {base : Heap} {A : Around} {k : Nat} (F : Fx fa fn K mg) (rm : Rm k A) (h : 1 ≤ k) : MthG P wd K mg base A "Book" "row" φ_Book__row := F.mth (w_Book__row F) rm h 20 66 74 rfl rfl rfl
theorem sc_Book__len : FnScope ["self"] ["self"] (defScope s_Book__len) := ⟨rfl, rfl, rfl, by decide +kernel, rfl, by decide +kernel, by decide +kernel⟩
theorem v_Book__len {P : Program} {wd : World} {K : PySem.W.Frag} {mg : Str → Option Value} {base : Heap} (F : Fx fa fn K mg) {f : Addr} {fd : FuncData} (fD : FunD K "__len__" "Book.__len__" (defArgs s_Book__len) (defBody s_Book__len) (defScope s_Book__len) [] [] f fd) : FnG P wd K mg base 1 f φ_Book__len := by
  refine fnG_of fD sc_Book__len (fun _ _ _ _ _ _ us hl => match us, hl with | [_], _ => rfl) (fun G X e rm ds mu r mu' h lo => ?_)
  subst e
  have nd := sc_Book__len.nd
  obtain ⟨i, row, rfl, hm, hl, rfl, rfl⟩ := h
  refine ⟨rfl, Nat.le_refl _, ?_⟩
  show Bk _ _ ⟨[.val (.cell i)], _⟩ _
  refine bk_ret (ev_lens (F.free 39) (ev_fld (ev_var 0 rfl rfl) (.cell hm) (F.cls 20 66) (F.noat 20 69) rfl) (by first | assumption | decide | omega | exact Nat.le_of_ble_eq_true rfl | (rw [rng_len]; omega) | (simp only [List.length_append, List.length_map, List.length_range, List.length_cons, List.length_nil]; omega))) ?_
  exact ⟨rfl, .inl rfl⟩
theorem w_Book__len {P : Program} {wd : World} {K : PySem.W.Frag} {mg : Str → Option Value} {base : Heap} (F : Fx fa fn K mg) : FnG P wd K mg base 1 (He.fAd K ("Book", some "__len__")) φ_Book__len := (let ⟨_, fD⟩ := F.def_ 29 (s := s_Book__len); v_Book__len F fD)
theorem m_Book__len {P : Program} {wd : World} {K : PySem.W.Frag} {mg : Str → Option Value} {base : Heap} {A : Around} {k : Nat} (F : Fx fa fn K mg) (rm : Rm k A) (h : 1 ≤ k) : MthG P wd K mg base A "Book" "__len__" φ_Book__len := F.mth (w_Book__len F) rm h 20 66 81 rfl rfl rfl
theorem n_Book__len {P : Program} {wd : World} {K : PySem.W.Frag} {mg : Str → Option Value} {base : Heap} {A : Around} {k : Nat} (F : Fx fa fn K mg) (rm : Rm k A) (h : 2 ≤ k) : SpcG P wd K mg base A "Book" "__len__" φ_Book__len := F.spc (w_Book__len F) rm h 20 66 81 rfl rfl rfl
theorem sc_Book__call : FnScope ["self", "place", "letter"] ["self", "place"] (defScope s_Book__call) := ⟨rfl, rfl, rfl, by decide +kernel, rfl, by decide +kernel, by decide +kernel⟩
theorem v_Book__call {P : Program} {wd : World} {K : PySem.W.Frag} {mg : Str → Option Value} {base : Heap} (F : Fx fa fn K mg) {f : Addr} {fd : FuncData} (fD : FunD K "call" "Book.call" (defArgs s_Book__call) (defBody s_Book__call) (defScope s_Book__call) [] [] f fd) : FnG P wd K mg base 3 f φ_Book__call := by
  refine fnG_of fD sc_Book__call (fun _ _ _ _ _ _ us hl => match us, hl with | [_, _], _ => rfl) (fun G X e rm ds mu r mu' h lo => ?_)
  subst e
  have nd := sc_Book__call.nd
  obtain ⟨i, row, p, c, rfl, hm, hp, hc, rfl, rfl⟩ := h
  refine ⟨rfl, by simp, ?_⟩
  show Bk _ _ ⟨[.val (.cell i), .val (.int p), .no], _⟩ _
  have hl : lastN row = (row.length : Int) - 1 := rfl
  refine bk_if (tv_not (tv_val (ev_call (c_is_integer F rm (by decide)) (ea_cons (ev_var 1 rfl rfl) ea_nil) ⟨_, rfl, rfl, rfl⟩))) (fun h1 => ?_) (fun h1 => ?_)
  ·
    exact absurd h1 (by decide)
  ·
    skip
    refine bk_nil ?_
    show Bk _ _ _ _
    refine bk_if (tv_not (tv_chain ev_int (ev_var 1 rfl rfl) (ev_lens (F.free 39) (ev_fld (ev_var 0 rfl rfl) (.cell hm) (F.cls 20 66) (F.noat 20 69) rfl) (by first | assumption | decide | omega | exact Nat.le_of_ble_eq_true rfl | (rw [rng_len]; omega) | (simp only [List.length_append, List.length_map, List.length_range, List.length_cons, List.length_nil]; omega))) rfl rfl)) (fun h3 => ?_) (fun h3 => ?_)
    ·
      exact absurd h3 (by simp; omega)
    ·
      skip
      refine bk_nil ?_
      show Bk _ _ _ _
      refine bk_set 2 nd rfl (ev_ixs (ev_fld (ev_var 0 rfl rfl) (.cell hm) (F.cls 20 66) (F.noat 20 69) rfl) (ev_var 1 rfl rfl) (by first | assumption | decide | omega | exact Nat.le_of_ble_eq_true rfl | (rw [rng_len]; omega) | (simp only [List.length_append, List.length_map, List.length_range, List.length_cons, List.length_nil]; omega)) (by rw [atI_int _ hp.2.1]; exact hc)) ?_
      refine bk_setf (ev_call (c_follow_rows F rm (by decide)) (ea_cons (ev_fld (ev_var 0 rfl rfl) (.cell hm) (F.cls 20 66) (F.noat 20 69) rfl) (ea_cons (ev_c (Ec.eq (ec_lst (ea_cons (ev_var 1 rfl rfl) ea_nil) (by first | assumption | decide | omega | exact Nat.le_of_ble_eq_true rfl | (rw [rng_len]; omega) | (simp only [List.length_append, List.length_map, List.length_range, List.length_cons, List.length_nil]; omega))) (show MC.lst [D.int p] = MC.lst ([p].map D.int) from rfl))) ea_nil)) ⟨_, _, _, rfl, (by first | exact .inl rfl | assumption | omega), (⟨by omega, by simp [storyB]; omega, by show lastN row * 2 ^ 1 + 1 ≤ 1000; omega⟩), rfl, rfl⟩) (ev_var 0 rfl rfl) hm (F.cls 20 66) (F.noat 20 69) (Nat.le_of_ble_eq_true rfl) ?_
      refine bk_ret (ev_var 2 rfl rfl) ?_
      exact ⟨rfl, .inl rfl⟩
theorem w_Book__call {P : Program} {wd : World} {K : PySem.W.Frag} {mg : Str → Option Value} {base : Heap} (F : Fx fa fn K mg) : FnG P wd K mg base 3 (He.fAd K ("Book", some "call")) φ_Book__call := (let ⟨_, fD⟩ := F.def_ 24 (s := s_Book__call); v_Book__call F fD)
theorem m_Book__call {P : Program} {wd : World} {K : PySem.W.Frag} {mg : Str → Option Value} {base : Heap} {A : Around} {k : Nat} (F : Fx fa fn K mg) (rm : Rm k A) (h : 3 ≤ k) : MthG P wd K mg base A "Book" "call" φ_Book__call := F.mth (w_Book__call F) rm h 20 66 76 rfl rfl rfl
theorem sc_Book__follow : FnScope ["self", "calls", "later", "letters", "place"] ["self", "calls"] (defScope s_Book__follow) := ⟨rfl, rfl, rfl, by decide +kernel, rfl, by decide +kernel, by decide +kernel⟩
theorem v_Book__follow {P : Program} {wd : World} {K : PySem.W.Frag} {mg : Str → Option Value} {base : Heap} (F : Fx fa fn K mg) {f : Addr} {fd : FuncData} (fD : FunD K "follow" "Book.follow" (defArgs s_Book__follow) (defBody s_Book__follow) (defScope s_Book__follow) [] [] f fd) : FnG P wd K mg base 7 f φ_Book__follow := by
  refine fnG_of fD sc_Book__follow (fun _ _ _ _ _ _ us hl => match us, hl with | [_, _], _ => rfl) (fun G X e rm ds mu r mu' h lo => ?_)
  subst e
  have nd := sc_Book__follow.nd
  obtain ⟨i, row, d0, ps, rfl, hd0, hm, hp, rfl, rfl⟩ := h
  refine ⟨rfl, by simp, ?_⟩
  show Bk _ _ ⟨[.val (.cell i), .val d0, .no, .no, .no], _⟩ _
  have hr := hp.1.pos
  have hl := hp.1.ln
  refine bk_if (Tw.tv (tw_orH (tv_not (tv_val (ev_isil (T := "list") (F.free 38) (F.free 40) (by decide +kernel) (el_lsa (ev_var 1 rfl rfl) hd0) rfl (by decide) (by decide)))) (fun c0 => (tw_orH (tv_cmp (ev_lenl (F.free 39) (el_lsa (ev_var 1 rfl rfl) hd0)) (ev_gint (F.int 9)) rfl) (fun c1 => (tw_or1 (tv_not (tv_val (ev_allq (F.free 34) (el_new (Xc.ec (xc_lcm (js := [4]) (xs := ps) (D.int) (fun _ => D.bl true) nd [("place", 4)] (eit_lsa (ev_var 1 rfl rfl) hd0) (show blkC ["self", "calls", "later", "letters", "place"] (defScope s_Book__follow) _ _ = true by decide +kernel) (fun _ _ _ _ _ => (pgn nd 4 rfl)) (by decide) (noown rfl (by intro _ z; cases z)) (by first | assumption | decide | omega | exact Nat.le_of_ble_eq_true rfl | (rw [rng_len]; omega) | (simp only [List.length_append, List.length_map, List.length_range, List.length_cons, List.length_nil]; omega)) (fun x x2 => ⟨_, _, (tg_name 4), fun _ _ _ _ _ => (ev_call (c_is_integer F rm (by decide)) (ea_cons (ev_var 4 rfl rfl) ea_nil) ⟨_, rfl, rfl, rfl⟩), rfl, rfl⟩) (hok := hd0))))))))))))) (fun h1 => ?_) (fun h1 => ?_)
  ·
    exact absurd h1 (by simp; omega)
  ·
    skip
    refine bk_nil ?_
    show Bk _ _ _ _
    refine bk_set 2 nd rfl (ev_call (c_follow_rows F rm (by decide)) (ea_cons (ev_fld (ev_var 0 rfl rfl) (.cell hm) (F.cls 20 66) (F.noat 20 69) rfl) (ea_cons (ev_var 1 rfl rfl) ea_nil)) ⟨_, _, _, rfl, (by first | exact .inl rfl | assumption | omega), (⟨by omega, hp.1.st, hp.2⟩), rfl, rfl⟩) ?_
    refine bk_set 3 nd rfl (ev_meth0 (m_Far__called F rm (by decide)) (ev_c (ec_make (k_Far F rm (by decide)) (ea_cons (ev_fld (ev_var 0 rfl rfl) (.cell hm) (F.cls 20 66) (F.noat 20 69) rfl) (ea_cons (ev_var 1 rfl rfl) ea_nil)) ⟨_, _, _, _, rfl, rfl, (by first | exact .inl rfl | assumption | omega), (hp.1), rfl, rfl⟩ (far_lo _ _ _))) .tree rfl ⟨_, _, rfl, (hp.1), rfl, rfl⟩) ?_
    refine bk_setf (ev_var 2 rfl rfl) (ev_var 0 rfl rfl) hm (F.cls 20 66) (F.noat 20 69) (Nat.le_of_ble_eq_true rfl) ?_
    refine bk_ret (ev_var 3 rfl rfl) ?_
    exact ⟨rfl, .inl rfl⟩
theorem w_Book__follow {P : Program} {wd : World} {K : PySem.W.Frag} {mg : Str → Option Value} {base : Heap} (F : Fx fa fn K mg) : FnG P wd K mg base 7 (He.fAd K ("Book", some "follow")) φ_Book__follow := (let ⟨_, fD⟩ := F.def_ 25 (s := s_Book__follow); v_Book__follow F fD)
theorem m_Book__follow {P : Program} {wd : World} {K : PySem.W.Frag} {mg : Str → Option Value} {base : Heap} {A : Around} {k : Nat} (F : Fx fa fn K mg) (rm : Rm k A) (h : 7 ≤ k) : MthG P wd K mg base A "Book" "follow" φ_Book__follow := F.mth (w_Book__follow F) rm h 20 66 77 rfl rfl rfl
end Y
namespace Y
open PySem.Spec PySem PyProof.Rows L2 Hd
theorem sc__law_alike : FnScope ["_law_found", "_law_due"] ["_law_found", "_law_due"] (defScope s__law_alike) := ⟨rfl, rfl, rfl, by decide +kernel, rfl, by decide +kernel, by decide +kernel⟩
theorem v__law_alike {P : Program} {wd : World} {K : PySem.W.Frag} {mg : Str → Option Value} {base : Heap} (F : Fx fa fn K mg) {f : Addr} {fd : FuncData} (fD : FunD K "_law_alike" "_law_alike" (defArgs s__law_alike) (defBody s__law_alike) (defScope s__law_alike) [] [] f fd) : FnG P wd K mg base 1 f φ__law_alike := by
  refine fnG_of fD sc__law_alike (fun _ _ _ _ _ _ us hl => match us, hl with | [_, _], _ => rfl) (fun G X e rm ds mu r mu' h lo => ?_)
  subst e
  have nd := sc__law_alike.nd
  obtain ⟨d, d2, p, rfl, rfl, hs, rfl, rfl⟩ := h
  refine ⟨rfl, Nat.le_refl _, ?_⟩
  show Bk _ _ ⟨[.val d, .val d], _⟩ _
  have hu := rm.room.un
  refine bk_ret (ev_and (ev_eqd (by omega) (ev_var 0 rfl rfl) (ev_var 1 rfl rfl) hs.py hs.py hs.shaped hs.shaped) (fun c0 => ev_one (ev_cmp (ev_repr (F.free 42) rm.gd (by omega) (ev_var 0 rfl rfl) hs.py hs.shb hs.nod hs.dep hs.len) (ev_repr (F.free 42) rm.gd (by omega) (ev_var 1 rfl rfl) hs.py hs.shb hs.nod hs.dep hs.len) rfl))) ?_
  exact ⟨by rw [hs.refl]; simp, .inl rfl⟩
theorem w__law_alike {P : Program} {wd : World} {K : PySem.W.Frag} {mg : Str → Option Value} {base : Heap} (F : Fx fa fn K mg) : FnG P wd K mg base 1 (He.fAd K ("_law_alike", none)) φ__law_alike := (let ⟨_, fD⟩ := F.def_ 32 (s := s__law_alike); v__law_alike F fD)
theorem c__law_alike {P : Program} {wd : World} {K : PySem.W.Frag} {mg : Str → Option Value} {base : Heap} {A : Around} {k : Nat} (F : Fx fa fn K mg) (rm : Rm k A) (h : 1 ≤ k) : Cal P wd K mg base A "_law_alike" φ__law_alike := F.cal (w__law_alike F) rm h 23 32 rfl rfl
theorem sc__law_word : FnScope ["_law_bag_here", "_law_most", "_law_letters", "_law_many", "_law_word_here", "_law_start", "_law_few", "_law_way", "_law_size", "_law_k"] ["_law_bag_here", "_law_most"] (defScope s__law_word) := ⟨rfl, rfl, rfl, by decide +kernel, rfl, by decide +kernel, by decide +kernel⟩
theorem v__law_word {P : Program} {wd : World} {K : PySem.W.Frag} {mg : Str → Option Value} {base : Heap} (F : Fx fa fn K mg) {f : Addr} {fd : FuncData} (fD : FunD K "_law_word" "_law_word" (defArgs s__law_word) (defBody s__law_word) (defScope s__law_word) [] [] f fd) : FnG P wd K mg base 2 f φ__law_word := by
  refine fnG_of fD sc__law_word (fun _ _ _ _ _ _ us hl => match us, hl with | [_, _], _ => rfl) (fun G X e rm ds mu r mu' h lo => ?_)
  subst e
  have nd := sc__law_word.nd
  obtain ⟨b, most, rest, rfl, rfl, hm, rfl, rfl⟩ := h
  refine ⟨rfl, Nat.le_refl _, ?_⟩
  show Bk _ _ ⟨[.val (.cell 0), .val (.int most), .no, .no, .no, .no, .no, .no, .no, .no], _⟩ _
  have W := wb b hm.1
  have h1 := W.st0
  have h2 := W.st1
  have h3 := W.few0
  have h4 := W.few1
  have h5 := W.way0
  have h6 := W.way1
  have h7 := W.size0
  have h8 := W.size1
  have h9 := W.many0
  have h10 := W.many1
  have h11 := W.let_
  obtain ⟨q0, q1, q2, q3⟩ := wDiv b hm.1
  have hb := wBase_len b most
  have hw := wWord_len b hm.1
  have hr := wRep b hm
  refine bk_tgt (js := [5, 6]) (ev_tup (ea_cons (ev_call (c__law_take F rm (by decide)) (ea_cons (ev_var 0 rfl rfl) (ea_cons ev_int ea_nil)) ⟨_, _, _, rfl, rfl, (by first | assumption | omega), rfl, rfl⟩) (ea_cons (ev_bin ev_int (ev_call (c__law_take F rm (by decide)) (ea_cons (ev_var 0 rfl rfl) (ea_cons ev_int ea_nil)) ⟨_, _, _, rfl, rfl, (by first | assumption | omega), rfl, rfl⟩) rfl trivial) ea_nil)) (Nat.le_of_ble_eq_true rfl)) (pgtwo (pgn nd 5 rfl) (pgn nd 6 rfl)) (tg_two (tg_name 5) (tg_name 6)) ?_
  show Bk _ _ ⟨[.val (.cell 0), .val (.int most), .no, .no, .no, .val (.int (wSt b)), .val (.int (wFew b)), .no, .no, .no], (wB2 b).m :: rest⟩ _
  refine bk_set 2 nd rfl (ev_sls ev_str (eo_some (ev_var 5 rfl rfl)) (eo_some (ev_bin (ev_var 5 rfl rfl) (ev_var 6 rfl rfl) rfl trivial)) (by decide)) ?_
  refine bk_par 7 8 rfl nd rfl rfl (ea_cons (ev_call (c__law_take F rm (by decide)) (ea_cons (ev_var 0 rfl rfl) (ea_cons ev_int ea_nil)) ⟨_, _, _, rfl, rfl, (by first | assumption | omega), rfl, rfl⟩) (ea_cons (ev_bin ev_int (ev_call (c__law_take F rm (by decide)) (ea_cons (ev_var 0 rfl rfl) (ea_cons (ev_var 1 rfl rfl) ea_nil)) ⟨_, _, _, rfl, rfl, (by first | assumption | omega), rfl, rfl⟩) rfl trivial) ea_nil)) ?_
  show Bk _ _ ⟨[.val (.cell 0), .val (.int most), .val (.str (wLet b)), .no, .no, .val (.int (wSt b)), .val (.int (wFew b)), .val (.int (wWay b)), .val (.int (wSize b most)), .no], (wB4 b most).m :: rest⟩ _
  refine bk_set 3 nd rfl (ev_ixv (ev_c (ec_lst (ea_cons (ev_var 8 rfl rfl) (ea_cons (ev_bin ev_int (ev_call (c__law_take F rm (by decide)) (ea_cons (ev_var 0 rfl rfl) (ea_cons ev_int ea_nil)) ⟨_, _, _, rfl, rfl, (by first | assumption | omega), rfl, rfl⟩) rfl trivial) ea_nil)) (by first | assumption | decide | omega | exact Nat.le_of_ble_eq_true rfl | (rw [rng_len]; omega) | (simp only [List.length_append, List.length_map, List.length_range, List.length_cons, List.length_nil]; omega)))) (ev_intb (F.free 37) (ev_cmp (ev_var 7 rfl rfl) ev_int rfl)) (show L2.atI _ _ = some (D.int (wMany b most)) by unfold wMany; by_cases h : 1 < wWay b; (rw [if_pos (decide_eq_true h), if_pos h]; rfl); (rw [if_neg (by simp [h]), if_neg h]; rfl))) ?_
  show Bk _ _ ⟨[.val (.cell 0), .val (.int most), .val (.str (wLet b)), .val (.int (wMany b most)), .no, .val (.int (wSt b)), .val (.int (wFew b)), .val (.int (wWay b)), .val (.int (wSize b most)), .no], (wB5 b most).m :: rest⟩ _
  refine bk_set 4 nd rfl (Ev.eq (ev_joinq ev_str (el_new (Xc.ec (xc_lcr (js := [9]) (fun i => ((wB5 b most).it (wFew b) i).m :: rest) (fun i => .str [wSign b most i]) nd [("_law_k", 9)] (eit_rng1 (F.free 41) (ev_var 3 rfl rfl) (by omega) (by omega)) (show blkC ["_law_bag_here", "_law_most", "_law_letters", "_law_many", "_law_word_here", "_law_start", "_law_few", "_law_way", "_law_size", "_law_k"] (defScope s__law_word) _ _ = true by decide +kernel) (fun _ _ _ _ _ => (pgn nd 9 rfl)) rfl (by decide) (noown rfl (by intro _ z; cases z)) (by first | assumption | decide | omega | exact Nat.le_of_ble_eq_true rfl | (rw [rng_len]; omega) | (simp only [List.length_append, List.length_map, List.length_range, List.length_cons, List.length_nil]; omega)) (fun i hi => ⟨_, _, (tg_name 9), fun _ _ _ _ _ => (ev_ixs (ev_var 2 rfl rfl) (ev_call (c__law_take F rm (by decide)) (ea_cons (ev_var 0 rfl rfl) (ea_cons (ev_var 6 rfl rfl) ea_nil)) ⟨_, _, _, rfl, rfl, (by first | assumption | omega), rfl, rfl⟩) (by rw [h11]; omega) (at_getD (Bag.tk_lo _ (by omega)) (by rw [h11]; have := Bag.tk_hi ((wB5 b most).it (wFew b) i) (m := wFew b) (by omega); omega))), rfl, rfl⟩)))) (join_ok _ (by rw [List.length_range]; omega))) (congrArg D.str (join_map (wSign b most) _))) ?_
  show Bk _ _ ⟨[.val (.cell 0), .val (.int most), .val (.str (wLet b)), .val (.int (wMany b most)), .val (.str (wBase b most)), .val (.int (wSt b)), .val (.int (wFew b)), .val (.int (wWay b)), .val (.int (wSize b most)), .no], (wordB b most).m :: rest⟩ _
  refine bk_set 4 nd rfl (ev_sls (ev_bin (ev_var 4 rfl rfl) (ev_bin (ev_bin (ev_var 8 rfl rfl) (ev_var 3 rfl rfl) rfl (cdivw (i := 0) (by omega) (by omega))) ev_int rfl trivial) rfl (show _ ∧ _ ∧ _ from ⟨by omega, by omega, by omega⟩)) eo_none (eo_some (ev_var 8 rfl rfl)) (by rw [repS_len, Nat.mul_comm]; omega)) ?_
  show Bk _ _ ⟨[.val (.cell 0), .val (.int most), .val (.str (wLet b)), .val (.int (wMany b most)), .val (.str (wWord b most)), .val (.int (wSt b)), .val (.int (wFew b)), .val (.int (wWay b)), .val (.int (wSize b most)), .no], (wordB b most).m :: rest⟩ _
  refine bk_ret (ev_ixl (el_new (ec_lst (ea_cons (ev_var 4 rfl rfl) (ea_cons (ev_var 4 rfl rfl) (ea_cons (ev_var 4 rfl rfl) (ea_cons (ev_revs (ev_var 4 rfl rfl) (by first | assumption | decide | omega | exact Nat.le_of_ble_eq_true rfl | (rw [rng_len]; omega) | (simp only [List.length_append, List.length_map, List.length_range, List.length_cons, List.length_nil]; omega))) ea_nil)))) (by first | assumption | decide | omega | exact Nat.le_of_ble_eq_true rfl | (rw [rng_len]; omega) | (simp only [List.length_append, List.length_map, List.length_range, List.length_cons, List.length_nil]; omega)))) (ev_var 7 rfl rfl) (show L2.atI _ _ = some (D.str (wordV b most)) by unfold wordV; rcases (by omega : wWay b = 0 ∨ wWay b = 1 ∨ wWay b = 2 ∨ wWay b = 3) with e | e | e | e <;> rw [e] <;> rfl)) ?_
  exact ⟨rfl, .inl rfl⟩
theorem w__law_word {P : Program} {wd : World} {K : PySem.W.Frag} {mg : Str → Option Value} {base : Heap} (F : Fx fa fn K mg) : FnG P wd K mg base 2 (He.fAd K ("_law_word", none)) φ__law_word := (let ⟨_, fD⟩ := F.def_ 33 (s := s__law_word); v__law_word F fD)
theorem c__law_word {P : Program} {wd : World} {K : PySem.W.Frag} {mg : Str → Option Value} {base : Heap} {A : Around} {k : Nat} (F : Fx fa fn K mg) (rm : Rm k A) (h : 2 ≤ k) : Cal P wd K mg base A "_law_word" φ__law_word := F.cal (w__law_word F) rm h 24 33 rfl rfl
end Y
namespace Y
open PySem.Spec PySem PyProof.Rows L2 Hd
theorem sc__law_row : FnScope ["_law_bag_here", "_law_most", "_law_text", "_law_way", "_law_turn", "_law_letter"] ["_law_bag_here", "_law_most"] (defScope s__law_row) := ⟨rfl, rfl, rfl, by decide +kernel, rfl, by decide +kernel, by decide +kernel⟩
theorem v__law_row {P : Program} {wd : World} {K : PySem.W.Frag} {mg : Str → Option Value} {base : Heap} (F : Fx fa fn K mg) {f : Addr} {fd : FuncData} (fD : FunD K "_law_row" "_law_row" (defArgs s__law_row) (defBody s__law_row) (defScope s__law_row) [] [] f fd) : FnG P wd K mg base 3 f φ__law_row := by
  refine fnG_of fD sc__law_row (fun _ _ _ _ _ _ us hl => match us, hl with | [_, _], _ => rfl) (fun G X e rm ds mu r mu' h lo => ?_)
  subst e
  have nd := sc__law_row.nd
  obtain ⟨b, most, rest, rfl, rfl, hm, rfl, rfl⟩ := h
  refine ⟨rfl, Nat.le_refl _, ?_⟩
  show Bk _ _ ⟨[.val (.cell 0), .val (.int most), .no, .no, .no, .no], _⟩ _
  have W := wb b (show 0 < most by omega)
  have hs0 := W.size0
  have hs1 := W.size1
  have hv := wordV_len b (show 0 < most by omega)
  obtain ⟨l1, l2⟩ := rT_len b (show 0 < most by omega) hm.1
  have ht := rTurn_b b most
  have hw := rWay_b b most
  have ho := rOther_len (rT b most)
  have hd : (rT b most).dropLast.length = (rT b most).length - 1 := List.length_dropLast
  refine bk_set 2 nd rfl (ev_call (c__law_word F rm (by decide)) (ea_cons (ev_var 0 rfl rfl) (ea_cons (ev_var 1 rfl rfl) ea_nil)) ⟨_, _, _, rfl, rfl, (by first | assumption | omega), rfl, rfl⟩) ?_
  refine bk_ifj (fun s' => s' = ⟨[.val (.cell 0), .val (.int most), .val (.str (rT b most)), .no, .no, .no], (wordB b most).m :: rest⟩) (tv_cmp (ev_lens (F.free 39) (ev_var 2 rfl rfl) (by first | assumption | decide | omega | exact Nat.le_of_ble_eq_true rfl | (rw [rng_len]; omega) | (simp only [List.length_append, List.length_map, List.length_range, List.length_cons, List.length_nil]; omega))) ev_int rfl) (fun h2 => ?_) (fun h2 => ?_) ?_
  ·
    skip
    refine bk_set 2 nd rfl (ev_bin (ev_var 2 rfl rfl) (ev_var 2 rfl rfl) rfl (show _ + _ ≤ 16777216 by first | omega | (simp only [List.length_append, List.length_map, List.length_range, List.length_cons, List.length_nil]; omega))) ?_
    refine bk_nil ?_
    show S.mk _ _ = _
    unfold rT
    rw [if_pos (by have := of_decide_eq_true h2; omega)]; rfl
  ·
    skip
    refine bk_nil ?_
    show S.mk _ _ = _
    unfold rT
    rw [if_neg (by have := of_decide_eq_false h2; omega)]; rfl
  rintro s' rfl
  refine bk_par 3 4 rfl nd rfl rfl (ea_cons (ev_call (c__law_take F rm (by decide)) (ea_cons (ev_var 0 rfl rfl) (ea_cons ev_int ea_nil)) ⟨_, _, _, rfl, rfl, (by first | assumption | omega), rfl, rfl⟩) (ea_cons (ev_call (c__law_take F rm (by decide)) (ea_cons (ev_var 0 rfl rfl) (ea_cons ev_int ea_nil)) ⟨_, _, _, rfl, rfl, (by first | assumption | omega), rfl, rfl⟩) ea_nil)) ?_
  show Bk _ _ ⟨[.val (.cell 0), .val (.int most), .val (.str (rT b most)), .val (.int (rWay b most)), .val (.int (rTurn b most)), .no], (rB b most).m :: rest⟩ _
  refine bk_if (tv_cmp (ev_var 3 rfl rfl) ev_int rfl) (fun h5 => ?_) (fun h5 => ?_)
  ·
    skip
    refine bk_ret (ev_bin (Ev.eq (ev_sls (ev_var 2 rfl rfl) eo_none (eo_some (ev_neg ev_int)) (by first | assumption | decide | omega | exact Nat.le_of_ble_eq_true rfl | (rw [rng_len]; omega) | (simp only [List.length_append, List.length_map, List.length_range, List.length_cons, List.length_nil]; omega))) (congrArg D.str (cut_last _))) (ev_ixl (el_new (Xc.ec (xc_lcfm (js := [5]) (xs := ABC) (fun c => D.str [c]) (fun c => D.str [c]) (fun c => !decide ([c] = [(rT b most).getD 0 0])) nd [("_law_letter", 5)] (eit_str ev_str) (show blkC ["_law_bag_here", "_law_most", "_law_text", "_law_way", "_law_turn", "_law_letter"] (defScope s__law_row) _ _ = true by decide +kernel) (fun _ _ _ _ _ => (pgn nd 5 rfl)) (by decide) (noown rfl (by intro _ z; cases z)) (by first | assumption | decide | omega | exact Nat.le_of_ble_eq_true rfl | (rw [rng_len]; omega) | (simp only [List.length_append, List.length_map, List.length_range, List.length_cons, List.length_nil]; omega)) (fun x x0 => ⟨_, _, (tg_name 5), fun _ _ _ _ _ => (tv_cmp (ev_var 5 rfl rfl) (ev_ixs (ev_var 2 rfl rfl) ev_int (by first | assumption | decide | omega | exact Nat.le_of_ble_eq_true rfl | (rw [rng_len]; omega) | (simp only [List.length_append, List.length_map, List.length_range, List.length_cons, List.length_nil]; omega)) (at_getD (by decide) (by omega))) rfl), fun _ _ _ _ _ _ => (ev_var 5 rfl rfl), rfl, rfl, rfl, rfl⟩)))) (ev_var 4 rfl rfl) (show L2.atI ((rOther (rT b most)).map fun c => D.str [c]) _ = some (D.str [(rOther (rT b most)).getD (rTurn b most).toNat 0]) from at_map (f := fun c => D.str [c]) (at_getD (by omega) (by show rTurn b most < ((rOther (rT b most)).length : Int); omega)))) rfl (show _ + _ ≤ 16777216 by first | omega | (simp only [List.length_append, List.length_map, List.length_range, List.length_cons, List.length_nil]; omega))) ?_
    exact ⟨by rw [show rowV b most = _ from if_pos (of_decide_eq_true h5)], .inl rfl⟩
  ·
    skip
    refine bk_nil ?_
    show Bk _ _ _ _
    refine bk_ret (ev_ixl (el_new (ec_lst (ea_cons (ev_var 2 rfl rfl) (ea_cons (ev_var 2 rfl rfl) (ea_cons (ev_bin (Ev.eq (ev_sls (ev_var 2 rfl rfl) eo_none (eo_some (ev_neg ev_int)) (by first | assumption | decide | omega | exact Nat.le_of_ble_eq_true rfl | (rw [rng_len]; omega) | (simp only [List.length_append, List.length_map, List.length_range, List.length_cons, List.length_nil]; omega))) (congrArg D.str (cut_last _))) (ev_ixs (ev_var 2 rfl rfl) ev_int (by first | assumption | decide | omega | exact Nat.le_of_ble_eq_true rfl | (rw [rng_len]; omega) | (simp only [List.length_append, List.length_map, List.length_range, List.length_cons, List.length_nil]; omega)) (at_getD (by decide) (by omega))) rfl (show _ + _ ≤ 16777216 by first | omega | (simp only [List.length_append, List.length_map, List.length_range, List.length_cons, List.length_nil]; omega))) ea_nil))) (by first | assumption | decide | omega | exact Nat.le_of_ble_eq_true rfl | (rw [rng_len]; omega) | (simp only [List.length_append, List.length_map, List.length_range, List.length_cons, List.length_nil]; omega)))) (ev_var 3 rfl rfl) (show L2.atI _ _ = some (D.str (rowV b most)) by unfold rowV; have h5 := of_decide_eq_false h5; rw [if_neg h5]; rcases (by omega : rWay b most = 0 ∨ rWay b most = 2) with e | e <;> rw [e] <;> rfl)) ?_
    exact ⟨rfl, .inl rfl⟩
theorem w__law_row {P : Program} {wd : World} {K : PySem.W.Frag} {mg : Str → Option Value} {base : Heap} (F : Fx fa fn K mg) : FnG P wd K mg base 3 (He.fAd K ("_law_row", none)) φ__law_row := (let ⟨_, fD⟩ := F.def_ 34 (s := s__law_row); v__law_row F fD)
theorem c__law_row {P : Program} {wd : World} {K : PySem.W.Frag} {mg : Str → Option Value} {base : Heap} {A : Around} {k : Nat} (F : Fx fa fn K mg) (rm : Rm k A) (h : 3 ≤ k) : Cal P wd K mg base A "_law_row" φ__law_row := F.cal (w__law_row F) rm h 25 34 rfl rfl
theorem sc__law_any_row : FnScope ["_law_bag_here", "_law_most", "_law_size", "_law_k"] ["_law_bag_here", "_law_most"] (defScope s__law_any_row) := ⟨rfl, rfl, rfl, by decide +kernel, rfl, by decide +kernel, by decide +kernel⟩
theorem v__law_any_row {P : Program} {wd : World} {K : PySem.W.Frag} {mg : Str → Option Value} {base : Heap} (F : Fx fa fn K mg) {f : Addr} {fd : FuncData} (fD : FunD K "_law_any_row" "_law_any_row" (defArgs s__law_any_row) (defBody s__law_any_row) (defScope s__law_any_row) [] [] f fd) : FnG P wd K mg base 4 f φ__law_any_row := by
  refine fnG_of fD sc__law_any_row (fun _ _ _ _ _ _ us hl => match us, hl with | [_, _], _ => rfl) (fun G X e rm ds mu r mu' h lo => ?_)
  subst e
  have nd := sc__law_any_row.nd
  obtain ⟨b, most, rest, rfl, rfl, hm, rfl, rfl⟩ := h
  refine ⟨rfl, Nat.le_refl _, ?_⟩
  show Bk _ _ ⟨[.val (.cell 0), .val (.int most), .no, .no], _⟩ _
  refine bk_if (tv_cmp (ev_call (c__law_take F rm (by decide)) (ea_cons (ev_var 0 rfl rfl) (ea_cons ev_int ea_nil)) ⟨_, _, _, rfl, rfl, (by first | assumption | omega), rfl, rfl⟩) ev_int rfl) (fun h1 => ?_) (fun h1 => ?_)
  ·
    skip
    refine bk_ret (ev_call (c__law_row F rm (by decide)) (ea_cons (ev_var 0 rfl rfl) (ea_cons (ev_var 1 rfl rfl) ea_nil)) ⟨_, _, _, rfl, rfl, (by first | assumption | omega), rfl, rfl⟩) ?_
    exact ⟨by rw [show anyV b most = _ from if_pos (of_decide_eq_true h1)], .inl (by rw [show anyB b most = _ from if_pos (of_decide_eq_true h1)])⟩
  ·
    skip
    refine bk_nil ?_
    show Bk _ _ _ _
    have ha := aSize_b b hm.1
    refine bk_set 2 nd rfl (ev_bin ev_int (ev_call (c__law_take F rm (by decide)) (ea_cons (ev_var 0 rfl rfl) (ea_cons (ev_bin (ev_var 1 rfl rfl) ev_int rfl trivial) ea_nil)) ⟨_, _, _, rfl, rfl, (by first | assumption | omega), rfl, rfl⟩) rfl trivial) ?_
    show Bk _ _ ⟨[.val (.cell 0), .val (.int most), .val (.int (aSize b most)), .no], (aB b most).m :: rest⟩ _
    refine bk_ret (Ev.eq (ev_joinq ev_str (el_new (Xc.ec (xc_lcr (js := [3]) (fun i => ((aB b most).it 26 i).m :: rest) (fun i => .str [aSign b most i]) nd [("_law_k", 3)] (eit_rng1 (F.free 41) (ev_var 2 rfl rfl) (by omega) (by omega)) (show blkC ["_law_bag_here", "_law_most", "_law_size", "_law_k"] (defScope s__law_any_row) _ _ = true by decide +kernel) (fun _ _ _ _ _ => (pgn nd 3 rfl)) rfl (by decide) (noown rfl (by intro _ z; cases z)) (by first | assumption | decide | omega | exact Nat.le_of_ble_eq_true rfl | (rw [rng_len]; omega) | (simp only [List.length_append, List.length_map, List.length_range, List.length_cons, List.length_nil]; omega)) (fun i hi => ⟨_, _, (tg_name 3), fun _ _ _ _ _ => (ev_ixs ev_str (ev_call (c__law_take F rm (by decide)) (ea_cons (ev_var 0 rfl rfl) (ea_cons ev_int ea_nil)) ⟨_, _, _, rfl, rfl, (by first | assumption | omega), rfl, rfl⟩) (show AZ.length ≤ 16777216 by rw [AZ_len]; decide) (show L2.atI AZ _ = some (aSign b most i) from at_getD (Bag.tk_lo _ (by decide)) (by rw [AZ_len]; exact Bag.tk_hi _ (by decide)))), rfl, rfl⟩)))) (join_ok _ (by rw [List.length_range]; omega))) (congrArg D.str (join_map (aSign b most) _))) ?_
    exact ⟨by rw [show anyV b most = _ from if_neg (of_decide_eq_false h1)], .inl (by rw [show anyB b most = _ from if_neg (of_decide_eq_false h1)])⟩
theorem w__law_any_row {P : Program} {wd : World} {K : PySem.W.Frag} {mg : Str → Option Value} {base : Heap} (F : Fx fa fn K mg) : FnG P wd K mg base 4 (He.fAd K ("_law_any_row", none)) φ__law_any_row := (let ⟨_, fD⟩ := F.def_ 35 (s := s__law_any_row); v__law_any_row F fD)
theorem c__law_any_row {P : Program} {wd : World} {K : PySem.W.Frag} {mg : Str → Option Value} {base : Heap} {A : Around} {k : Nat} (F : Fx fa fn K mg) (rm : Rm k A) (h : 4 ≤ k) : Cal P wd K mg base A "_law_any_row" φ__law_any_row := F.cal (w__law_any_row F) rm h 26 35 rfl rfl
theorem sc__law_called : FnScope ["_law_row_here", "_law_place", "_law_ahead", "_law_behind"] ["_law_row_here", "_law_place"] (defScope s__law_called) := ⟨rfl, rfl, rfl, by decide +kernel, rfl, by decide +kernel, by decide +kernel⟩
theorem v__law_called {P : Program} {wd : World} {K : PySem.W.Frag} {mg : Str → Option Value} {base : Heap} (F : Fx fa fn K mg) {f : Addr} {fd : FuncData} (fD : FunD K "_law_called" "_law_called" (defArgs s__law_called) (defBody s__law_called) (defScope s__law_called) [] [] f fd) : FnG P wd K mg base 1 f φ__law_called := by
  refine fnG_of fD sc__law_called (fun _ _ _ _ _ _ us hl => match us, hl with | [_, _], _ => rfl) (fun G X e rm ds mu r mu' h lo => ?_)
  subst e
  have nd := sc__law_called.nd
  obtain ⟨row, p, rfl, hp, rfl, rfl⟩ := h
  refine ⟨rfl, Nat.le_refl _, ?_⟩
  show Bk _ _ ⟨[.val (.str row), .val (.int p), .no, .no], _⟩ _
  have c1 := cut_len row none (some p)
  have c2 := cut_len row (some (p + 1)) none
  have hl : lastN row = (row.length : Int) - 1 := rfl
  refine bk_par 2 3 rfl nd rfl rfl (ea_cons (ev_sls (ev_var 0 rfl rfl) eo_none (eo_some (ev_var 1 rfl rfl)) (by first | assumption | decide | omega | exact Nat.le_of_ble_eq_true rfl | (rw [rng_len]; omega) | (simp only [List.length_append, List.length_map, List.length_range, List.length_cons, List.length_nil]; omega))) (ea_cons (ev_sls (ev_var 0 rfl rfl) (eo_some (ev_bin (ev_var 1 rfl rfl) ev_int rfl trivial)) eo_none (by first | assumption | decide | omega | exact Nat.le_of_ble_eq_true rfl | (rw [rng_len]; omega) | (simp only [List.length_append, List.length_map, List.length_range, List.length_cons, List.length_nil]; omega))) ea_nil)) ?_
  refine bk_ret (ev_bin (ev_bin (ev_bin (ev_bin (ev_var 2 rfl rfl) (ev_var 2 rfl rfl) rfl (show _ + _ ≤ 16777216 by first | omega | (simp only [List.length_append, List.length_map, List.length_range, List.length_cons, List.length_nil]; omega))) (ev_ixs (ev_var 0 rfl rfl) (ev_var 1 rfl rfl) (by first | assumption | decide | omega | exact Nat.le_of_ble_eq_true rfl | (rw [rng_len]; omega) | (simp only [List.length_append, List.length_map, List.length_range, List.length_cons, List.length_nil]; omega)) (at_getD hp.1 (by omega))) rfl (show _ + _ ≤ 16777216 by first | omega | (simp only [List.length_append, List.length_map, List.length_range, List.length_cons, List.length_nil]; omega))) (ev_var 3 rfl rfl) rfl (show _ + _ ≤ 16777216 by first | omega | (simp only [List.length_append, List.length_map, List.length_range, List.length_cons, List.length_nil]; omega))) (ev_var 3 rfl rfl) rfl (show _ + _ ≤ 16777216 by first | omega | (simp only [List.length_append, List.length_map, List.length_range, List.length_cons, List.length_nil]; omega))) ?_
  exact ⟨by rw [calledEq row hp.1 hp.2.1], .inl rfl⟩
theorem w__law_called {P : Program} {wd : World} {K : PySem.W.Frag} {mg : Str → Option Value} {base : Heap} (F : Fx fa fn K mg) : FnG P wd K mg base 1 (He.fAd K ("_law_called", none)) φ__law_called := (let ⟨_, fD⟩ := F.def_ 36 (s := s__law_called); v__law_called F fD)
theorem c__law_called {P : Program} {wd : World} {K : PySem.W.Frag} {mg : Str → Option Value} {base : Heap} {A : Around} {k : Nat} (F : Fx fa fn K mg) (rm : Rm k A) (h : 1 ≤ k) : Cal P wd K mg base A "_law_called" φ__law_called := F.cal (w__law_called F) rm h 27 36 rfl rfl
theorem sc__law_written : FnScope ["_law_row_here", "_law_story_here", "_law_place"] ["_law_row_here", "_law_story_here"] (defScope s__law_written) := ⟨rfl, rfl, rfl, by decide +kernel, rfl, by decide +kernel, by decide +kernel⟩
theorem v__law_written {P : Program} {wd : World} {K : PySem.W.Frag} {mg : Str → Option Value} {base : Heap} (F : Fx fa fn K mg) {f : Addr} {fd : FuncData} (fD : FunD K "_law_written" "_law_written" (defArgs s__law_written) (defBody s__law_written) (defScope s__law_written) [] [] f fd) : FnG P wd K mg base 2 f φ__law_written := by
  refine fnG_of fD sc__law_written (fun _ _ _ _ _ _ us hl => match us, hl with | [_, _], _ => rfl) (fun G X e rm ds mu r mu' h lo => ?_)
  subst e
  have nd := sc__law_written.nd
  obtain ⟨row, d0, ps, rfl, hd0, hp, rfl, rfl⟩ := h
  refine ⟨rfl, Nat.le_refl _, ?_⟩
  show Bk _ _ ⟨[.val (.str row), .val d0, .no], _⟩ _
  refine bk_for (js := [2]) (pgn nd 2 rfl) (eit_lsa (ev_var 1 rfl rfl) hd0) (fun i s' => ∃ z, s' = ⟨[.val (.str (writtenS row (ps.take i))), .val d0, z], mu'⟩) ?_ (fun i d s' hd hI => ?_) (fun s' hI => ?_) (hok := by rintro i s' ⟨z, rfl⟩; exact hd0)
  · exact ⟨_, rfl⟩
  · obtain ⟨p, hp2, rfl⟩ := map_get hd
    obtain ⟨z, rfl⟩ := hI
    have hi := lt_of_get hp2
    have hw := writtenS_last (storyB_take hp.2.1 i)
    have hlt : (ps.take i).length = i := by rw [List.length_take]; omega
    rw [hlt] at hw
    have hu := pow_up (lastN row) hp.1 (Nat.le_of_lt hi)
    have hb := storyB_get hp.2.1 hp2
    have hle : (writtenS row (ps.take i)).length ≤ 1000000 := by unfold lastN at *; omega
    refine ⟨_, (tg_name 2), ?_⟩
    refine bk_set 0 nd rfl (ev_call (c__law_called F rm (by decide)) (ea_cons (ev_var 0 rfl rfl) (ea_cons (ev_var 2 rfl rfl) ea_nil)) ⟨_, _, rfl, (by first | assumption | omega), rfl, rfl⟩) ?_
    refine bk_nil ?_
    exact ⟨_, by rw [writtenS_succ hp2]; rfl⟩
  · obtain ⟨z, rfl⟩ := hI
    rw [List.length_map]
    refine bk_ret (ev_var 0 rfl rfl) ?_
    exact ⟨by rw [List.take_of_length_le (Nat.le_refl _)], .inl rfl⟩
theorem w__law_written {P : Program} {wd : World} {K : PySem.W.Frag} {mg : Str → Option Value} {base : Heap} (F : Fx fa fn K mg) : FnG P wd K mg base 2 (He.fAd K ("_law_written", none)) φ__law_written := (let ⟨_, fD⟩ := F.def_ 37 (s := s__law_written); v__law_written F fD)
theorem c__law_written {P : Program} {wd : World} {K : PySem.W.Frag} {mg : Str → Option Value} {base : Heap} {A : Around} {k : Nat} (F : Fx fa fn K mg) (rm : Rm k A) (h : 2 ≤ k) : Cal P wd K mg base A "_law_written" φ__law_written := F.cal (w__law_written F) rm h 28 37 rfl rfl
theorem sc__law_story : FnScope ["_law_bag_here", "_law_last", "_law_calls", "_law_found", "_law_k", "_law_again", "_law_some"] ["_law_bag_here", "_law_last", "_law_calls"] (defScope s__law_story) := ⟨rfl, rfl, rfl, by decide +kernel, rfl, by decide +kernel, by decide +kernel⟩
theorem v__law_story {P : Program} {wd : World} {K : PySem.W.Frag} {mg : Str → Option Value} {base : Heap} (F : Fx fa fn K mg) {f : Addr} {fd : FuncData} (fD : FunD K "_law_story" "_law_story" (defArgs s__law_story) (defBody s__law_story) (defScope s__law_story) [] [] f fd) : FnG P wd K mg base 2 f φ__law_story := by
  refine fnG_of fD sc__law_story (fun _ _ _ _ _ _ us hl => match us, hl with | [_, _, _], _ => rfl) (fun G X e rm ds mu r mu' h lo => ?_)
  subst e
  have nd := sc__law_story.nd
  obtain ⟨b, l, n, rest, rfl, rfl, hm, rfl, rfl⟩ := h
  refine ⟨rfl, Nat.le_refl _, ?_⟩
  show Bk _ _ ⟨[.val (.cell 0), .val (.int l), .val (.int n), .no, .no, .no, .no], _⟩ _
  refine bk_setc 3 nd rfl (ec_lst ea_nil (by first | assumption | decide | omega | exact Nat.le_of_ble_eq_true rfl | (rw [rng_len]; omega) | (simp only [List.length_append, List.length_map, List.length_range, List.length_cons, List.length_nil]; omega))) ?_
  refine bk_for (js := [4]) (pgn nd 4 rfl) (eit_rng1 (F.free 41) (ev_var 2 rfl rfl) (by omega) (by omega)) (fun i s' => ∃ x y z, s' = ⟨[.val (.cell 0), .val (.int (l * 2 ^ i)), .val (.int n), .own (.lst ((storyV b l i).1.map .int)), x, y, z], (storyV b l i).2.m :: rest⟩) ?_ (fun i d s' hd hI => ?_) (fun s' hI => ?_)
  · exact ⟨.no, .no, .no, by rw [Int.pow_zero, Int.mul_one]; rfl⟩
  · obtain ⟨hi, rfl⟩ := rng_get hd
    obtain ⟨x, y, z, rfl⟩ := hI
    obtain ⟨s1, s2, s3⟩ := storyV_ok b hm.1 i
    have hlen := storyV_len b l i
    have p0 := pow_up l hm.1 (Nat.zero_le i)
    rw [Int.pow_zero, Int.mul_one] at p0
    have hb : l * 2 ^ i < 2 ^ 63 := story_big hm.1 hm.2.1 (show i ≤ 40 by omega)
    refine ⟨_, (tg_name 4), ?_⟩
    refine bk_set 5 nd rfl (ev_ifH (tv_nel (by have := rm.room.un; first | omega | (show Around.units _ + 64 < _; omega)) (el_own 3 rfl rfl) (el_new (ec_lst ea_nil (by first | assumption | decide | omega | exact Nat.le_of_ble_eq_true rfl | (rw [rng_len]; omega) | (simp only [List.length_append, List.length_map, List.length_range, List.length_cons, List.length_nil]; omega)))) (pyDs_ints _) (by rfl) (shaped_ints _) (by rfl)) (fun c0 => (Ev.eq (ev_bin ev_int (ev_ixl (el_own 3 rfl rfl) (ev_neg ev_int) (at_lastI (by have := c0; rw [show ([] : List PyData) = ([] : List Int).map PyData.int from rfl, eqv_ints] at this; simpa using this))) rfl (.inl (.inl ⟨by decide, by decide⟩))) (show D.int (2 * (storyV b l i).1.getLastD 0) = D.int (if (storyV b l i).1 = [] then 0 else 2 * (storyV b l i).1.getLastD 0) by rw [if_neg (by have := c0; rw [show ([] : List PyData) = ([] : List Int).map PyData.int from rfl, eqv_ints] at this; simpa using this)]))) (fun c0 => (Ev.eq ev_int (show D.int 0 = D.int (if (storyV b l i).1 = [] then 0 else 2 * (storyV b l i).1.getLastD 0) by rw [if_pos (by have := c0; rw [show ([] : List PyData) = ([] : List Int).map PyData.int from rfl, eqv_ints] at this; simpa using this)])))) ?_
    refine bk_setc 6 nd rfl (ec_lst (ea_cons ev_int (ea_cons (ev_var 1 rfl rfl) (ea_cons (ev_bin (ev_var 1 rfl rfl) ev_int rfl ⟨by decide, by decide⟩) (ea_cons (ev_var 5 rfl rfl) (ea_cons (ev_call (c__law_take F rm (by decide)) (ea_cons (ev_var 0 rfl rfl) (ea_cons (ev_bin (ev_var 1 rfl rfl) ev_int rfl trivial) ea_nil)) ⟨_, _, _, rfl, rfl, (by first | assumption | omega), rfl, rfl⟩) (ea_cons (ev_call (c__law_take F rm (by decide)) (ea_cons (ev_var 0 rfl rfl) (ea_cons (ev_bin (ev_var 1 rfl rfl) ev_int rfl trivial) ea_nil)) ⟨_, _, _, rfl, rfl, (by first | assumption | omega), rfl, rfl⟩) ea_nil)))))) (by first | assumption | decide | omega | exact Nat.le_of_ble_eq_true rfl | (rw [rng_len]; omega) | (simp only [List.length_append, List.length_map, List.length_range, List.length_cons, List.length_nil]; omega))) ?_
    refine bk_frz 6 rfl rfl ?_
    refine bk_app 3 rfl rfl rfl (ev_ixv (ev_var 6 rfl rfl) (ev_call (c__law_take F rm (by decide)) (ea_cons (ev_var 0 rfl rfl) (ea_cons ev_int ea_nil)) ⟨_, _, _, rfl, rfl, (by first | assumption | omega), rfl, rfl⟩) (show L2.atI ((sSome (l * 2 ^ i) (storyV b l i).1 (storyV b l i).2).map D.int) _ = some (D.int (sPick (l * 2 ^ i) (storyV b l i).1 (storyV b l i).2)) from at_map (at_getDI (Bag.tk_lo _ (by decide)) (Bag.tk_hi _ (by decide))))) (by rw [List.length_map, hlen]; omega) ?_
    refine bk_set 1 nd rfl (ev_bin ev_int (ev_var 1 rfl rfl) rfl (.inl (.inl ⟨by decide, by decide⟩))) ?_
    refine bk_nil ?_
    exact ⟨_, _, _, by rw [pow2, show (storyV b l (i + 1)).1 = (storyV b l i).1 ++ [sPick (l * 2 ^ i) (storyV b l i).1 (storyV b l i).2] from rfl, List.map_append]; rfl⟩
  · obtain ⟨x, y, z, rfl⟩ := hI
    rw [rng_len]
    refine bk_reto 3 rfl rfl ?_
    exact ⟨rfl, .inl rfl⟩
theorem w__law_story {P : Program} {wd : World} {K : PySem.W.Frag} {mg : Str → Option Value} {base : Heap} (F : Fx fa fn K mg) : FnG P wd K mg base 2 (He.fAd K ("_law_story", none)) φ__law_story := (let ⟨_, fD⟩ := F.def_ 38 (s := s__law_story); v__law_story F fD)
theorem c__law_story {P : Program} {wd : World} {K : PySem.W.Frag} {mg : Str → Option Value} {base : Heap} {A : Around} {k : Nat} (F : Fx fa fn K mg) (rm : Rm k A) (h : 2 ≤ k) : Cal P wd K mg base A "_law_story" φ__law_story := F.cal (w__law_story F) rm h 29 38 rfl rfl
theorem sc__law_room : FnScope ["_law_text", "_law_times"] ["_law_text", "_law_times"] (defScope s__law_room) := ⟨rfl, rfl, rfl, by decide +kernel, rfl, by decide +kernel, by decide +kernel⟩
theorem v__law_room {P : Program} {wd : World} {K : PySem.W.Frag} {mg : Str → Option Value} {base : Heap} (F : Fx fa fn K mg) {f : Addr} {fd : FuncData} (fD : FunD K "_law_room" "_law_room" (defArgs s__law_room) (defBody s__law_room) (defScope s__law_room) [] [] f fd) : FnG P wd K mg base 1 f φ__law_room := by
  refine fnG_of fD sc__law_room (fun _ _ _ _ _ _ us hl => match us, hl with | [_, _], _ => rfl) (fun G X e rm ds mu r mu' h lo => ?_)
  subst e
  have nd := sc__law_room.nd
  obtain ⟨x, t, rfl, ht, rfl, rfl⟩ := h
  refine ⟨rfl, Nat.le_refl _, ?_⟩
  show Bk _ _ ⟨[.val (.str x), .val (.int t)], _⟩ _
  refine bk_ret (ev_cmp (ev_bin (ev_bin (ev_lens (F.free 39) (ev_var 0 rfl rfl) (by first | assumption | decide | omega | exact Nat.le_of_ble_eq_true rfl | (rw [rng_len]; omega) | (simp only [List.length_append, List.length_map, List.length_range, List.length_cons, List.length_nil]; omega))) ev_int rfl trivial) (ev_ixl (el_new (ec_lst (ea_cons ev_int (ea_cons ev_int (ea_cons ev_int (ea_cons ev_int (ea_cons ev_int ea_nil))))) (by first | assumption | decide | omega | exact Nat.le_of_ble_eq_true rfl | (rw [rng_len]; omega) | (simp only [List.length_append, List.length_map, List.length_range, List.length_cons, List.length_nil]; omega)))) (ev_var 1 rfl rfl) (show L2.atI _ _ = some (D.int (2 ^ t.toNat)) by rcases (by omega : t = 0 ∨ t = 1 ∨ t = 2 ∨ t = 3 ∨ t = 4) with e | e | e | e | e <;> subst e <;> rfl)) rfl (.inl (.inl ⟨by omega, by omega⟩))) ev_int rfl) ?_
  exact ⟨rfl, .inl rfl⟩
theorem w__law_room {P : Program} {wd : World} {K : PySem.W.Frag} {mg : Str → Option Value} {base : Heap} (F : Fx fa fn K mg) : FnG P wd K mg base 1 (He.fAd K ("_law_room", none)) φ__law_room := (let ⟨_, fD⟩ := F.def_ 39 (s := s__law_room); v__law_room F fD)
theorem c__law_room {P : Program} {wd : World} {K : PySem.W.Frag} {mg : Str → Option Value} {base : Heap} {A : Around} {k : Nat} (F : Fx fa fn K mg) (rm : Rm k A) (h : 1 ≤ k) : Cal P wd K mg base A "_law_room" φ__law_room := F.cal (w__law_room F) rm h 30 39 rfl rfl
end Y
namespace Y
open PySem.Spec PySem PyProof.Rows L2 Hd
theorem sc__law_deed : FnScope ["_law_bag_here", "_law_book", "_law_text", "_law_times", "_law_calls", "_law_letters", "_law_kept", "_law_place", "_law_k"] ["_law_bag_here", "_law_book", "_law_text"] (defScope s__law_deed) := ⟨rfl, rfl, rfl, by decide +kernel, rfl, by decide +kernel, by decide +kernel⟩
theorem v__law_deed {P : Program} {wd : World} {K : PySem.W.Frag} {mg : Str → Option Value} {base : Heap} (F : Fx fa fn K mg) {f : Addr} {fd : FuncData} (fD : FunD K "_law_deed" "_law_deed" (defArgs s__law_deed) (defBody s__law_deed) (defScope s__law_deed) [] [] f fd) : FnG P wd K mg base 8 f φ__law_deed := by
  refine fnG_of fD sc__law_deed (fun _ _ _ _ _ _ us hl => match us, hl with | [_, _, _], _ => rfl) (fun G X e rm ds mu r mu' h lo => ?_)
  subst e
  have nd := sc__law_deed.nd
  obtain ⟨b, t, j, rest, rfl, rfl, hm, hx, rfl, rfl⟩ := h
  refine ⟨rfl, by simp, ?_⟩
  show Bk _ _ ⟨[.val (.cell 0), .val (.cell (j + 1)), .val (.str t), .no, .no, .no, .no, .no, .no], _⟩ _
  have hl := hx.2.1
  have hl2 := hx.2.2
  have hlt : lastN t = (t.length : Int) - 1 := rfl
  have hT := dT_b b
  obtain ⟨hp0, hp1⟩ := dP_b b hx
  have far := dS_far b hx
  have hn := dS_len b t
  refine bk_set 3 nd rfl (ev_call (c__law_take F rm (by decide)) (ea_cons (ev_var 0 rfl rfl) (ea_cons ev_int ea_nil)) ⟨_, _, _, rfl, rfl, (by first | assumption | omega), rfl, rfl⟩) ?_
  show Bk _ _ ⟨[.val (.cell 0), .val (.cell (j + 1)), .val (.str t), .val (.int (dT b)), .no, .no, .no, .no, .no], (b.nx 5).m :: rest⟩ _
  refine bk_setc 4 nd rfl (ec_call (c__law_story F rm (by decide)) (ea_cons (ev_var 0 rfl rfl) (ea_cons (ev_bin (ev_lens (F.free 39) (ev_var 2 rfl rfl) (by first | assumption | decide | omega | exact Nat.le_of_ble_eq_true rfl | (rw [rng_len]; omega) | (simp only [List.length_append, List.length_map, List.length_range, List.length_cons, List.length_nil]; omega))) ev_int rfl trivial) (ea_cons (ev_var 3 rfl rfl) ea_nil))) ⟨_, _, _, _, rfl, rfl, (by first | assumption | omega), rfl, rfl⟩) ?_
  refine bk_share 4 rfl ?_
  show Bk _ _ ⟨[.val (.cell 0), .val (.cell (j + 1)), .val (.str t), .val (.int (dT b)), .val (.cell (rest.length + 1)), .no, .no, .no, .no], (dB2 b t).m :: (rest ++ [.lst ((dS b t).map .int)])⟩ _
  refine bk_if (Tw.tv (tw_orH (tv_cmp (ev_var 3 rfl rfl) ev_int rfl) (fun c0 => (tw_or1 (tv_not (tv_val (ev_call (c__law_room F rm (by decide)) (ea_cons (ev_var 2 rfl rfl) (ea_cons (ev_var 3 rfl rfl) ea_nil)) ⟨_, _, rfl, (by first | assumption | omega), rfl, rfl⟩))))))) (fun h3 => ?_) (fun h3 => ?_)
  ·
    skip
    have h3 : dOne b t = true := h3
    refine bk_set 7 nd rfl (ev_call (c__law_take F rm (by decide)) (ea_cons (ev_var 0 rfl rfl) (ea_cons (ev_lens (F.free 39) (ev_var 2 rfl rfl) (by first | assumption | decide | omega | exact Nat.le_of_ble_eq_true rfl | (rw [rng_len]; omega) | (simp only [List.length_append, List.length_map, List.length_range, List.length_cons, List.length_nil]; omega))) ea_nil)) ⟨_, _, _, rfl, rfl, (by first | assumption | omega), rfl, rfl⟩) ?_
    show Bk _ _ ⟨[.val (.cell 0), .val (.cell (j + 1)), .val (.str t), .val (.int (dT b)), .val (.cell (rest.length + 1)), .no, .no, .val (.int (dP b t)), .no], ((dB2 b t).nx (t.length : Int)).m :: (rest ++ [.lst ((dS b t).map .int)])⟩ _
    refine bk_if (tv_not (tv_val (ev_call (c__law_room F rm (by decide)) (ea_cons (ev_var 2 rfl rfl) (ea_cons ev_int ea_nil)) ⟨_, _, rfl, (by first | assumption | omega), rfl, rfl⟩))) (fun h5 => ?_) (fun h5 => ?_)
    ·
      skip
      refine bk_ret (ev_var 2 rfl rfl) ?_
      refine ⟨?_, .inr ⟨rfl, low_deed lo, [.lst ((dS b t).map .int)], ?_⟩⟩
      · rw [show deedV b t = _ from if_pos h3, if_neg (by have := h5; simpa using this)]
      · rw [show deedB b t = _ from if_pos h3, show deedV b t = t from (if_pos h3).trans (if_neg (by have := h5; simpa using this)), set_same hm]; rfl
    ·
      skip
      refine bk_nil ?_
      show Bk _ _ _ _
      have h5 : roomB t 1 = true := by simpa using h5
      have hr1 := of_decide_eq_true h5
      have hc : t[(dP b t).toNat]? = some (t.getD (dP b t).toNat 0) := by rw [List.getD_eq_getElem?_getD, List.getElem?_eq_getElem (by omega)]; rfl
      refine bk_ret (ev_ifH (tv_val (ev_call (c__law_alike F rm (by decide)) (ea_cons (ev_meth (m_Book__call F rm (by decide)) (ev_var 1 rfl rfl) (.cell (show (rest ++ _)[j]? = _ from get_left hm)) rfl (ea_cons (ev_var 7 rfl rfl) ea_nil) ⟨_, _, _, _, rfl, (show (rest ++ _)[j]? = _ from get_left hm), (⟨hl, hp0, hp1, by omega⟩), (hc), rfl, rfl⟩) (ea_cons (ev_ixs (ev_var 2 rfl rfl) (ev_var 7 rfl rfl) (by first | assumption | decide | omega | exact Nat.le_of_ble_eq_true rfl | (rw [rng_len]; omega) | (simp only [List.length_append, List.length_map, List.length_range, List.length_cons, List.length_nil]; omega)) (at_getD hp0 (by omega))) ea_nil)) ⟨_, _, _, rfl, (by first | rfl | assumption), (Lt.shw (lt_one (getD_lt hx.1 (by omega))) (Nat.le_of_ble_eq_true rfl)), rfl, rfl⟩)) (fun c0 => (ev_call (c__law_called F rm (by decide)) (ea_cons (ev_var 2 rfl rfl) (ea_cons (ev_var 7 rfl rfl) ea_nil)) ⟨_, _, rfl, (by first | assumption | omega), rfl, rfl⟩)) (fun c0 => (absurd c0 (by decide)))) ?_
      refine ⟨?_, .inr ⟨rfl, low_deed lo, [.lst ((dS b t).map .int)], ?_⟩⟩
      · rw [show deedV b t = _ from if_pos h3, if_pos h5]
      · rw [show deedB b t = _ from if_pos h3, show deedV b t = _ from (if_pos h3).trans (if_pos h5)]
        exact congrArg (((dB2 b t).nx (t.length : Int)).m :: ·) (set_left hm)
  ·
    skip
    have h3 : dOne b t = false := h3
    refine bk_nil ?_
    show Bk _ _ _ _
    have hroom : roomB t (dT b).toNat = true := by
      unfold dOne at h3
      simp at h3
      exact h3.2
    have hr := of_decide_eq_true hroom
    have hwl : ∀ i, i ≤ (dT b).toNat → (writtenS t ((dS b t).take i)).length ≤ 1000 := fun i hi => by
      have h1 := writtenS_last (storyB_take far.st i)
      have h2 := pow_up (lastN t) far.pos.1 (show ((dS b t).take i).length ≤ (dT b).toNat by rw [List.length_take]; omega)
      unfold lastN at *; omega
    have hwp : ∀ i, i ≤ (dT b).toNat → lastN t * 2 ^ ((dS b t).take i).length ≤ 900000 := fun i hi => by
      have h2 := pow_up (lastN t) far.pos.1 (show ((dS b t).take i).length ≤ (dT b).toNat by rw [List.length_take]; omega)
      omega
    refine bk_set 5 nd rfl (Ev.eq (ev_joinq ev_str (el_new (Xc.ec (xc_lcr (js := [8]) (fun _ => (dB2 b t).m :: (rest ++ [MC.lst ((dS b t).map D.int)])) (fun i => .str [(calledS t (dS b t)).getD i 0]) nd [("_law_k", 8)] (eit_rng1 (F.free 41) (ev_var 3 rfl rfl) (by omega) (by omega)) (show blkC ["_law_bag_here", "_law_book", "_law_text", "_law_times", "_law_calls", "_law_letters", "_law_kept", "_law_place", "_law_k"] (defScope s__law_deed) _ _ = true by decide +kernel) (fun _ _ _ _ _ => (pgn nd 8 rfl)) rfl (by decide) (noown rfl (by intro _ z; cases z)) (by first | assumption | decide | omega | exact Nat.le_of_ble_eq_true rfl | (rw [rng_len]; omega) | (simp only [List.length_append, List.length_map, List.length_range, List.length_cons, List.length_nil]; omega)) (fun i hi => ⟨_, _, (tg_name 8), fun _ _ _ _ _ => (ev_ixs (ev_call (c__law_written F rm (by decide)) (ea_cons (ev_var 2 rfl rfl) (ea_cons (ev_c (Ec.eq (ec_sll (el_cell (ev_var 4 rfl rfl) (show (rest ++ [MC.lst ((dS b t).map D.int)])[rest.length]? = _ from last_get _ _)) eo_none (eo_some (ev_var 8 rfl rfl))) (congrArg MC.lst (cut0 (dS b t) i)))) ea_nil)) ⟨_, _, _, rfl, (by first | exact .inl rfl | assumption | omega), (⟨far.pos.1, storyB_take far.st i, hwp i (by omega)⟩), rfl, rfl⟩) (ev_ixl (el_cell (ev_var 4 rfl rfl) (show (rest ++ [MC.lst ((dS b t).map D.int)])[rest.length]? = _ from last_get _ _)) (ev_var 8 rfl rfl) (show L2.atI _ _ = some (D.int ((dS b t).getD i 0)) from at_map (by rw [Int.zero_add, atI_nat]; exact (deed_at far (by omega)).1))) (by have := hwl i (by omega); omega) (by rw [atI_int _ (deed_at far (by omega)).2.1]; exact (deed_at far (by omega)).2.2.2)), rfl, rfl⟩)))) (join_ok _ (by rw [List.length_range]; omega))) (congrArg D.str ((join_map (fun i => (calledS t (dS b t)).getD i 0) _).trans (called_map t (dS b t) (by rw [hn]))))) ?_
    show Bk _ _ ⟨[.val (.cell 0), .val (.cell (j + 1)), .val (.str t), .val (.int (dT b)), .val (.cell (rest.length + 1)), .val (.str (calledS t (dS b t))), .no, .no, .no], (dB2 b t).m :: (rest ++ [.lst ((dS b t).map .int)])⟩ _
    refine bk_setc 6 nd rfl (ec_list (F.free 40) (el_cell (ev_var 4 rfl rfl) (show (rest ++ [MC.lst ((dS b t).map D.int)])[rest.length]? = _ from last_get _ _))) ?_
    refine bk_frz 6 rfl rfl ?_
    refine bk_if (Tw.tv (tw_orH (tv_not (tv_val (ev_call (c__law_alike F rm (by decide)) (ea_cons (ev_meth (m_Book__follow F rm (by decide)) (ev_var 1 rfl rfl) (.cell (show (rest ++ _)[j]? = _ from get_left hm)) rfl (ea_cons (ev_var 4 rfl rfl) ea_nil) ⟨_, _, _, _, rfl, (.inr ⟨_, rfl, (show (rest ++ [MC.lst ((dS b t).map D.int)])[rest.length]? = _ from last_get _ _)⟩), (show (rest ++ _)[j]? = _ from get_left hm), (⟨far, by rw [hn]; omega⟩), rfl, rfl⟩) (ea_cons (ev_var 5 rfl rfl) ea_nil)) ⟨_, _, _, rfl, (by first | rfl | assumption), ((calledS_lt hx.1 far).shw (by rw [calledS_len]; omega)), rfl, rfl⟩))) (fun c0 => (tw_or1 (tv_nel (by have := rm.room.un; first | omega | (show Around.units _ + 64 < _; omega)) (el_cell (ev_var 4 rfl rfl) (show ((rest ++ [MC.lst ((dS b t).map D.int)]).set j _)[rest.length]? = _ from deed_cell hm)) (el_imm (ev_var 6 rfl rfl)) (pyDs_ints _) (pyDs_ints _) (shaped_ints _) (shaped_ints _)))))) (fun h10 => ?_) (fun h10 => ?_)
    ·
      exact absurd h10 (by rw [eqv_ints]; simp)
    ·
      skip
      refine bk_nil ?_
      show Bk _ _ _ _
      refine bk_appc (ev_var 4 rfl rfl) ev_int (⟨(dS b t).map D.int, show ((rest ++ [MC.lst ((dS b t).map D.int)]).set j _)[rest.length]? = _ from deed_cell hm⟩) (show ((rest ++ [MC.lst ((dS b t).map D.int)]).set j _)[rest.length]? = _ from deed_cell hm) (by rw [List.length_map]; omega) ?_
      refine bk_ret (ev_call (c__law_written F rm (by decide)) (ea_cons (ev_var 2 rfl rfl) (ea_cons (ev_var 6 rfl rfl) ea_nil)) ⟨_, _, _, rfl, (by first | exact .inl rfl | assumption | omega), (⟨far.pos.1, far.st, by rw [hn]; omega⟩), rfl, rfl⟩) ?_
      refine ⟨?_, .inr ⟨rfl, low_deed lo, [.lst ((dS b t).map .int ++ [.int 0])], ?_⟩⟩
      · rw [show deedV b t = _ from if_neg (by rw [h3]; decide)]
      · rw [show deedB b t = _ from if_neg (by rw [h3]; decide), show deedV b t = _ from if_neg (by rw [h3]; decide)]
        exact congrArg ((dB2 b t).m :: ·) (deed_end hm)
theorem w__law_deed {P : Program} {wd : World} {K : PySem.W.Frag} {mg : Str → Option Value} {base : Heap} (F : Fx fa fn K mg) : FnG P wd K mg base 8 (He.fAd K ("_law_deed", none)) φ__law_deed := (let ⟨_, fD⟩ := F.def_ 40 (s := s__law_deed); v__law_deed F fD)
theorem c__law_deed {P : Program} {wd : World} {K : PySem.W.Frag} {mg : Str → Option Value} {base : Heap} {A : Around} {k : Nat} (F : Fx fa fn K mg) (rm : Rm k A) (h : 8 ≤ k) : Cal P wd K mg base A "_law_deed" φ__law_deed := F.cal (w__law_deed F) rm h 31 40 rfl rfl
end Y
namespace Y
open PySem.Spec PySem PyProof.Rows L2 Hd
theorem sc_law : FnScope ["_law_script", "_law_bag_here", "_law_k", "_law_text", "_law_book", "_law_turn"] ["_law_script"] (defScope s_law) := ⟨rfl, rfl, rfl, by decide +kernel, rfl, by decide +kernel, by decide +kernel⟩
theorem v_law {P : Program} {wd : World} {K : PySem.W.Frag} {mg : Str → Option Value} {base : Heap} (F : Fx fa fn K mg) {f : Addr} {fd : FuncData} (fD : FunD K "law" "law" (defArgs s_law) (defBody s_law) (defScope s_law) [] [] f fd) : FnG P wd K mg base 9 f φ_law := by
  refine fnG_of fD sc_law (fun _ _ _ _ _ _ us hl => match us, hl with | [_], _ => rfl) (fun G X e rm ds mu r mu' h lo => ?_)
  subst e
  have nd := sc_law.nd
  obtain ⟨ns, rfl, rfl, rfl, rfl⟩ := h
  refine ⟨rfl, Nat.le_refl _, ?_⟩
  show Bk _ _ ⟨[.val (.lst (ns.map .int)), .no, .no, .no, .no, .no], _⟩ _
  refine bk_setc 1 nd rfl (ec_call (c__law_bag F rm (by decide)) (ea_cons (ev_var 0 rfl rfl) ea_nil) ⟨_, rfl, rfl, rfl⟩) ?_
  refine bk_share 1 rfl ?_
  show Bk _ _ ⟨[.val (.lst (ns.map .int)), .val (.cell 0), .no, .no, .no, .no], [(bag0 ns).m]⟩ _
  refine bk_for (js := [2]) (pgn nd 2 rfl) (eit_rng1 (F.free 41) ev_int (by omega) (by omega)) (fun i s' => ∃ (b : Bag) (olds : List MC) (x y z w : SD), s' = ⟨[.val (.lst (ns.map .int)), .val (.cell 0), x, y, z, w], b.m :: olds⟩) ?_ (fun i d s' hd hI => ?_) (fun s' hI => ?_)
  · exact ⟨_, [], .no, .no, .no, .no, rfl⟩
  · obtain ⟨hi, rfl⟩ := rng_get hd
    obtain ⟨b, olds, x, y, z, w, rfl⟩ := hI
    refine ⟨_, (tg_name 2), ?_⟩
    refine bk_set 3 nd rfl (ev_call (c__law_any_row F rm (by decide)) (ea_cons (ev_var 1 rfl rfl) (ea_cons ev_int ea_nil)) ⟨_, _, _, rfl, rfl, (by first | assumption | omega), rfl, rfl⟩) ?_
    have hx : TxOk (anyV b 40) := (let ⟨h1, h2, h3⟩ := anyV_ok b (most := 40) (by decide); ⟨h1, h2, by omega⟩)
    have hxr := hx.row
    refine bk_setc 4 nd rfl (ec_make (k_Book F rm (by decide)) (ea_cons (ev_var 3 rfl rfl) ea_nil) ⟨_, _, rfl, rfl, (hxr), rfl, rfl⟩ (book_lo _ _)) ?_
    refine bk_share 4 rfl ?_
    show Bk _ _ ⟨[.val (.lst (ns.map .int)), .val (.cell 0), .val (.int (0 + (i : Int))), .val (.str (anyV b 40)), .val (.cell (olds.length + 1)), w], (anyB b 40).m :: (olds ++ [.obj "Book" (bookF (anyV b 40))])⟩ _
    have hk0 := Bag.tk_lo (anyB b 40) (m := 10) (by decide)
    have hk1 := Bag.tk_hi (anyB b 40) (m := 10) (by decide)
    refine bk_for (js := [5]) (pgn nd 5 rfl) (eit_rng1 (F.free 41) (ev_bin ev_int (ev_call (c__law_take F rm (by decide)) (ea_cons (ev_var 1 rfl rfl) (ea_cons ev_int ea_nil)) ⟨_, _, _, rfl, rfl, (by first | assumption | omega), rfl, rfl⟩) rfl trivial) (by omega) (by omega)) (fun i s' => ∃ (b : Bag) (t : List Nat) (u w : SD), s' = ⟨[.val (.lst (ns.map .int)), .val (.cell 0), u, .val (.str t), .val (.cell (olds.length + 1)), w], b.m :: (olds ++ [.obj "Book" (bookF t)])⟩ ∧ TxOk t) ?_ (fun i d s' hd hI => ?_) (fun s' hI => ?_)
    · exact ⟨_, _, _, _, rfl, hx⟩
    · obtain ⟨hi, rfl⟩ := rng_get hd
      clear hx hxr
      obtain ⟨b, t, u, w, rfl, hx⟩ := hI
      refine ⟨_, (tg_name 5), ?_⟩
      have hl1 := hx.2.1
      have hl2 := hx.2.2
      have hsh := hx.1.shw (by omega)
      refine bk_if (Tw.tv (tw_orH (tv_not (tv_val (ev_call (c__law_alike F rm (by decide)) (ea_cons (ev_meth0 (m_Book__row F rm (by decide)) (ev_var 4 rfl rfl) (.cell (show (olds ++ [_])[olds.length]? = _ from last_get _ _)) rfl ⟨_, _, rfl, (.inr ⟨_, rfl, (show (olds ++ [_])[olds.length]? = _ from last_get _ _)⟩), rfl, rfl⟩) (ea_cons (ev_var 3 rfl rfl) ea_nil)) ⟨_, _, _, rfl, (by first | rfl | assumption), (hsh), rfl, rfl⟩))) (fun c0 => (tw_or1 (tv_not (tv_val (ev_call (c__law_alike F rm (by decide)) (ea_cons (ev_leno (F.free 39) (n_Book__len F rm (by decide)) (ev_var 4 rfl rfl) (.cell (show (olds ++ [_])[olds.length]? = _ from last_get _ _)) ⟨_, _, rfl, (show (olds ++ [_])[olds.length]? = _ from last_get _ _), (by omega), rfl, rfl⟩ (by omega) (by omega)) (ea_cons (ev_lens (F.free 39) (ev_var 3 rfl rfl) (by first | assumption | decide | omega | exact Nat.le_of_ble_eq_true rfl | (rw [rng_len]; omega) | (simp only [List.length_append, List.length_map, List.length_range, List.length_cons, List.length_nil]; omega))) ea_nil)) ⟨_, _, _, rfl, (by first | rfl | assumption), (shw_int (by omega) (by omega)), rfl, rfl⟩))))))) (fun h6 => ?_) (fun h6 => ?_)
      ·
        exact absurd h6 (by decide)
      ·
        skip
        refine bk_nil ?_
        show Bk _ _ _ _
        refine bk_set 3 nd rfl (ev_call (c__law_deed F rm (by decide)) (ea_cons (ev_var 1 rfl rfl) (ea_cons (ev_var 4 rfl rfl) (ea_cons (ev_var 3 rfl rfl) ea_nil))) ⟨_, _, _, _, rfl, rfl, (show (olds ++ [_])[olds.length]? = _ from last_get _ _), (hx), rfl, rfl⟩) ?_
        show Bk _ _ ⟨[.val (.lst (ns.map .int)), .val (.cell 0), u, .val (.str (deedV b t)), .val (.cell (olds.length + 1)), .val (.int (0 + (i : Int)))], (deedB b t).m :: (olds ++ [MC.obj "Book" (bookF t)]).set olds.length (.obj "Book" (bookF (deedV b t)))⟩ _
        rw [show (olds ++ [MC.obj "Book" (bookF t)]).set olds.length (.obj "Book" (bookF (deedV b t))) = olds ++ [.obj "Book" (bookF (deedV b t))] by simp]
        refine bk_if (Tw.tv (tw_orH (tv_cmp (ev_var 3 rfl rfl) ev_non rfl) (fun c0 => (tw_or1 (tv_cmp (ev_meth0 (m_Book__row F rm (by decide)) (ev_var 4 rfl rfl) (.cell (show (olds ++ [_])[olds.length]? = _ from last_get _ _)) rfl ⟨_, _, rfl, (.inr ⟨_, rfl, (show (olds ++ [_])[olds.length]? = _ from last_get _ _)⟩), rfl, rfl⟩) (ev_var 3 rfl rfl) rfl))))) (fun h9 => ?_) (fun h9 => ?_)
        ·
          exact absurd h9 (by simp)
        ·
          skip
          refine bk_nil ?_
          show Bk _ _ _ _
          refine bk_nil ?_
          exact ⟨_, _, _, _, rfl, deedV_ok b hx⟩
    · clear hx hxr
      obtain ⟨b, t, u, w, rfl, hx⟩ := hI
      have hl1 := hx.2.1
      have hl2 := hx.2.2
      refine bk_if (Tw.tv (tw_orH (tv_cmp (ev_meth0 (m_Book__row F rm (by decide)) (ev_var 4 rfl rfl) (.cell (show (olds ++ [_])[olds.length]? = _ from last_get _ _)) rfl ⟨_, _, rfl, (.inr ⟨_, rfl, (show (olds ++ [_])[olds.length]? = _ from last_get _ _)⟩), rfl, rfl⟩) (ev_var 3 rfl rfl) rfl) (fun c0 => (tw_or1 (tv_cmp (ev_leno (F.free 39) (n_Book__len F rm (by decide)) (ev_var 4 rfl rfl) (.cell (show (olds ++ [_])[olds.length]? = _ from last_get _ _)) ⟨_, _, rfl, (show (olds ++ [_])[olds.length]? = _ from last_get _ _), (by omega), rfl, rfl⟩ (by omega) (by omega)) (ev_lens (F.free 39) (ev_var 3 rfl rfl) (by first | assumption | decide | omega | exact Nat.le_of_ble_eq_true rfl | (rw [rng_len]; omega) | (simp only [List.length_append, List.length_map, List.length_range, List.length_cons, List.length_nil]; omega))) rfl))))) (fun h11 => ?_) (fun h11 => ?_)
      ·
        exact absurd h11 (by simp)
      ·
        skip
        refine bk_nil ?_
        show Bk _ _ _ _
        refine bk_nil ?_
        exact ⟨_, _, _, _, _, _, rfl⟩
  · obtain ⟨b, olds, x, y, z, w, rfl⟩ := hI
    refine bk_ret (ev_cmp (ev_meth0 (m_Book__row F rm (by decide)) (ev_c (ec_make (k_Book F rm (by decide)) (ea_cons ev_str ea_nil) ⟨_, _, rfl, rfl, (show isRowB (cs "ab") = true by decide +kernel), rfl, rfl⟩ (book_lo _ _))) .tree rfl ⟨_, _, rfl, (.inl rfl), rfl, rfl⟩) ev_str rfl) ?_
    refine ⟨by simp, .inr ⟨rfl, fun m hm => (nomatch hm), _, rfl⟩⟩
theorem w_law {P : Program} {wd : World} {K : PySem.W.Frag} {mg : Str → Option Value} {base : Heap} (F : Fx fa fn K mg) : FnG P wd K mg base 9 (He.fAd K ("law", none)) φ_law := (let ⟨_, fD⟩ := F.def_ 41 (s := s_law); v_law F fD)
theorem c_law {P : Program} {wd : World} {K : PySem.W.Frag} {mg : Str → Option Value} {base : Heap} {A : Around} {k : Nat} (F : Fx fa fn K mg) (rm : Rm k A) (h : 9 ≤ k) : Cal P wd K mg base A "law" φ_law := F.cal (w_law F) rm h 32 41 rfl rfl
end Y
set_option maxHeartbeats 0
open PySem PySem.W PySem.Calls PyProof.Rows in
theorem PySem.Challenge.cw_ownlog_k91_books_told_holds : PySem.Challenge.rw_ownlog_k91_books_told.Holds := by
  w_on; o_law
  refine HandSHeadRun.head_any (r := Hd.Rr) (q := PySem.W.view Hd.Rr.prog [39]) (H := Hd.hk) (ob := Hd.ob) (M := 20000) (loose := Hd.loose) (d := HandSHeadRun.topDef Hd.Rr.prog 39) (kwd := []) Hd.ob_eq
    (by kernel_rfl) (fun s => by kernel_rfl) Hd.run (by kernel_rfl) (by kernel_rfl) (by kernel_rfl) (by rfl) (by first | assumption | decide +kernel) (by decide +kernel) ⟨rfl, rfl, rfl, rfl, rfl, by decide +kernel⟩ ?hw ?hc
  case hw => w_witness2
  case hc =>
    refine Y.law_walk (l := PySem.Challenge.rw_ownlog_k91_books_told) (n := 63) (k := 9) (φ := Y.φ_law) rfl (by decide) (by kernel_rfl) ⟨⟨rfl, by decide, by decide⟩, rfl⟩ ?F (fun ns _ => ⟨_, ns, rfl, rfl, rfl, rfl⟩)
    intro w mg fa h Z G hmg0
    obtain ⟨K, KX, c⟩ := Z
    have hmg : mg ("law" : PySem.Str) = some (.ref fa) := by
      have e : (HandSHeadRun.topDef Hd.Rr.prog 39).name = ("law" : PySem.Str) := by kernel_rfl
      rw [← e]; exact hmg0
    have F : Y.Fx Hd.fa Hd.fn K mg := ⟨⟨h, KX, G⟩, c⟩
    have e := hmg.symm.trans (F.glo (x := "law") 32)
    cases e
    exact ⟨K, KX, fun base => Y.w_law F⟩
