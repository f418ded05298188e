import PyProof.Rows.All
import Wide.All
import OpenK.AllK
import Wide.FinOn
import HandS.ForMost
import HandS.TupAny
import HandS.TupMul
import HandS.TupLe
import HandS.Style
import HandS.Star
import HandS.IsInst
import HandS.SortInts
import HandS.SortKw
import HandS.Iter
import HandS.Walk
import HandS.Comp
import KE.GoesEnum
import HandS.Dict
import HandS.Small
import HandS.Ends
import HandS.More
import HandS.Words
import HandS.Defaults
import HandS.Head0
import HandS.Head1
import HandS.Head2
import HandS.HeadEnd
import HandS.HeadHook1
import HandS.HeadHook2
import PySem.Challenge.RW_letparts_k85_whole_all_rows_by_cores_and
set_option Elab.async false
set_option linter.all false
set_option maxRecDepth 100000
set_option maxHeartbeats 4000000
namespace Lp
open PySem PySem.Spec PyProof.Rows L2

/-! ### plain values, objects, slots, results -/
/-- built-in types -/
inductive Ty where
  | non | bool | int | str | tuple | list | dict | set
  deriving DecidableEq
def Ty.nm : Ty → String
  | .non => "NoneType" | .bool => "bool" | .int => "int" | .str => "str" | .tuple => "tuple" | .list => "list" | .dict => "dict" | .set => "set"
inductive D where
  | non | bl (b : Bool) | int (i : Int) | str (s : Str)
  | tup (l : List D) | lst (l : List D) | scr (l : List D)
  | ins (c : Nat) (ns : List Str) (l : List D)
  | dK (ks : List Key) (vs : List D) | dT (ks : List (List Key)) (vs : List D)
  | ref (n : Nat) | ty (t : Ty) | cls (c : Nat) | fn (f : Nat)
inductive Ob where
  | lst (l : List D) | dK (ks : List Key) (vs : List D) | dT (ks : List (List Key)) (vs : List D)
  | ins (c : Nat) (ns : List Str) (l : List D)
inductive Sl where
  | no | v (d : D) | own (o : Ob)
inductive R where
  | d (x : D) | tmp (o : Ob) | bor (i : Nat) (o : Ob)
abbrev Env := List Sl
abbrev Sto := List Ob

/-- what the text's names stand for behind the top -/
structure Md where
  K : PySem.W.Frag
  ca : Nat → Addr
  fa : Nat → Addr
/-- what stands for good, where the shared objects stand -/
structure Wd where
  fz : Hp
  al : List Addr

mutual
def Rep (M : Md) (w : Wd) : D → V → Prop
  | .non, v => v = .non
  | .bl b, v => v = .bl b
  | .int i, v => v = .int i
  | .str s, v => v = .str s
  | .tup l, v => ∃ a xs, v = .ref a ∧ w.fz a = some (.tup xs) ∧ RepL M w l xs
  | .lst l, v => ∃ a xs, v = .ref a ∧ w.fz a = some (.lst xs) ∧ RepL M w l xs
  | .scr l, v => ∃ a xs, v = .ref a ∧ SqL M.K w.fz a xs ∧ RepL M w l xs
  | .ins c ns l, v => ∃ a dx fs, v = .ref a ∧ w.fz a = some (.ins (M.ca c) dx fs) ∧ fs.map (·.1) = ns ∧ RepL M w l (fs.map (·.2))
  | .dK ks vs, v => ∃ a od kvs, v = .ref a ∧ w.fz a = some (.frz od (.dK kvs)) ∧ kvs.map (·.1) = ks ∧ RepL M w vs (kvs.map (·.2))
  | .dT ks vs, v => ∃ a od kvs, v = .ref a ∧ w.fz a = some (.frz od (.dT kvs)) ∧ kvs.map (·.1) = ks ∧ RepL M w vs (kvs.map (·.2))
  | .ref n, v => ∃ a, v = .ref a ∧ w.al[n]? = some a
  | .ty t, v => v = .ty t.nm
  | .cls c, v => v = .ref (M.ca c)
  | .fn f, v => v = .ref (M.fa f)
def RepL (M : Md) (w : Wd) : List D → List V → Prop
  | [], xs => xs = []
  | d :: l, xs => ∃ x r, xs = x :: r ∧ Rep M w d x ∧ RepL M w l r
end

def ObAt (M : Md) (w : Wd) (H : Hp) (a : Addr) : Ob → Prop
  | .lst l => ∃ xs, H a = some (.lst xs) ∧ RepL M w l xs
  | .dK ks vs => ∃ kvs, H a = some (.dK kvs) ∧ kvs.map (·.1) = ks ∧ RepL M w vs (kvs.map (·.2))
  | .dT ks vs => ∃ kvs, H a = some (.dT kvs) ∧ kvs.map (·.1) = ks ∧ RepL M w vs (kvs.map (·.2))
  | .ins c ns l => ∃ dx fs, H a = some (.ins (M.ca c) dx fs) ∧ fs.map (·.1) = ns ∧ RepL M w l (fs.map (·.2))

/-- later: what stands for good stays so, only new things have been added, all else but the shared objects stays -/
structure Lat (H : Hp) (w : Wd) (H' : Hp) (w' : Wd) : Prop where
  fz : ∀ a o, w.fz a = some o → w'.fz a = some o
  al : ∃ t, w'.al = w.al ++ t ∧ ∀ a ∈ t, H a = none
  nw : ∀ a, w'.fz a ≠ none → w.fz a = none → H a = none ∨ ∃ xs, H a = some (.tup xs)
  tb : ∀ a xs, H' a = some (.tup xs) → H a = none ∨ H a = some (.tup xs)
  kp : ∀ a o, H a = some o → a ∉ w.al → H' a = some o
  dm : ∀ a, H a ≠ none → H' a ≠ none

theorem Lat.refl (H : Hp) (w : Wd) : Lat H w H w :=
  ⟨fun _ _ h => h, ⟨[], by simp, fun _ h => absurd h (by simp)⟩, fun _ h h' => absurd h' h, fun _ _ h => .inr h, fun _ _ h _ => h, fun _ h => h⟩
theorem Lat.trans {H H1 H2 : Hp} {w w1 w2 : Wd} (a : Lat H w H1 w1) (b : Lat H1 w1 H2 w2) : Lat H w H2 w2 := by
  obtain ⟨t1, e1, n1⟩ := a.al
  obtain ⟨t2, e2, n2⟩ := b.al
  refine ⟨fun x o h => b.fz x o (a.fz x o h), ⟨t1 ++ t2, by rw [e2, e1, List.append_assoc], fun x hx => ?_⟩, fun x h1 h2 => ?_, fun x xs h => ?_, fun x o h1 h2 => ?_, fun x h => b.dm x (a.dm x h)⟩
  · rcases List.mem_append.mp hx with h | h
    · exact n1 x h
    · cases q : H x with
      | none => rfl
      | some o => exact absurd (n2 x h) (a.dm x (by rw [q]; simp))
  · cases q : w1.fz x with
    | none =>
      rcases b.nw x h1 q with z | ⟨xs, z⟩
      · cases q2 : H x with
        | none => exact .inl rfl
        | some o => exact absurd z (a.dm x (by rw [q2]; simp))
      · exact (a.tb x xs z).imp (fun h => h) fun h => ⟨xs, h⟩
    | some o => exact a.nw x (by rw [q]; simp) h2
  · rcases b.tb x xs h with z | z
    · cases q2 : H x with
      | none => exact .inl rfl
      | some o => exact absurd z (a.dm x (by rw [q2]; simp))
    · exact a.tb x xs z
  · refine b.kp x o (a.kp x o h1 h2) ?_
    rw [e1]
    intro hm
    rcases List.mem_append.mp hm with h | h
    · exact h2 h
    · rw [n1 x h] at h1; cases h1
theorem Lat.al_get {H H' : Hp} {w w' : Wd} (L : Lat H w H' w') {n : Nat} {a : Addr} (h : w.al[n]? = some a) : w'.al[n]? = some a := by
  obtain ⟨t, e, _⟩ := L.al
  rw [e, List.getElem?_append_left (List.getElem?_eq_some_iff.mp h).1]
  exact h

theorem sqT_mono {K : PySem.W.Frag} {H H' : Hp} (e : ∀ a o, H a = some o → H' a = some o) {a : Addr} {xs : List V} (h : SqT K H a xs) : SqT K H' a xs := by
  rcases h with (h | ⟨o, h⟩) | h
  · exact .inl (.inl (e _ _ h))
  · exact .inl (.inr ⟨o, e _ _ h⟩)
  · exact .inr h
theorem sqL_mono {K : PySem.W.Frag} {H H' : Hp} (e : ∀ a o, H a = some o → H' a = some o) {a : Addr} {xs : List V} (h : SqL K H a xs) : SqL K H' a xs := by
  rcases h with (h | ⟨o, h⟩) | h
  · exact .inl (.inl (e _ _ h))
  · exact .inl (.inr ⟨o, e _ _ h⟩)
  · exact .inr h

mutual
theorem Rep.mono {M : Md} {w w' : Wd} (hf : ∀ a o, w.fz a = some o → w'.fz a = some o) (ha : ∀ (n : Nat) (a : Addr), w.al[n]? = some a → w'.al[n]? = some a) : ∀ (d : D) (v : V), Rep M w d v → Rep M w' d v
  | .non, _, h => by simp only [Rep] at h ⊢; exact h
  | .bl _, _, h => by simp only [Rep] at h ⊢; exact h
  | .int _, _, h => by simp only [Rep] at h ⊢; exact h
  | .str _, _, h => by simp only [Rep] at h ⊢; exact h
  | .tup l, _, h => by
    simp only [Rep] at h ⊢
    obtain ⟨a, xs, e, s, r⟩ := h
    exact ⟨a, xs, e, hf _ _ s, RepL.mono hf ha l xs r⟩
  | .lst l, _, h => by
    simp only [Rep] at h ⊢
    obtain ⟨a, xs, e, s, r⟩ := h
    exact ⟨a, xs, e, hf _ _ s, RepL.mono hf ha l xs r⟩
  | .scr l, _, h => by
    simp only [Rep] at h ⊢
    obtain ⟨a, xs, e, s, r⟩ := h
    exact ⟨a, xs, e, sqL_mono hf s, RepL.mono hf ha l xs r⟩
  | .ins c ns l, _, h => by
    simp only [Rep] at h ⊢
    obtain ⟨a, dx, fs, e, s, q, r⟩ := h
    exact ⟨a, dx, fs, e, hf _ _ s, q, RepL.mono hf ha l _ r⟩
  | .dK ks l, _, h => by
    simp only [Rep] at h ⊢
    obtain ⟨a, dx, fs, e, s, q, r⟩ := h
    exact ⟨a, dx, fs, e, hf _ _ s, q, RepL.mono hf ha l _ r⟩
  | .dT ks l, _, h => by
    simp only [Rep] at h ⊢
    obtain ⟨a, dx, fs, e, s, q, r⟩ := h
    exact ⟨a, dx, fs, e, hf _ _ s, q, RepL.mono hf ha l _ r⟩
  | .ref _, _, h => by
    simp only [Rep] at h ⊢
    obtain ⟨a, e, s⟩ := h
    exact ⟨a, e, ha _ _ s⟩
  | .ty _, _, h => by simp only [Rep] at h ⊢; exact h
  | .cls _, _, h => by simp only [Rep] at h ⊢; exact h
  | .fn _, _, h => by simp only [Rep] at h ⊢; exact h
theorem RepL.mono {M : Md} {w w' : Wd} (hf : ∀ a o, w.fz a = some o → w'.fz a = some o) (ha : ∀ (n : Nat) (a : Addr), w.al[n]? = some a → w'.al[n]? = some a) : ∀ (l : List D) (xs : List V), RepL M w l xs → RepL M w' l xs
  | [], _, h => by simp only [RepL] at h ⊢; exact h
  | d :: l, _, h => by
    simp only [RepL] at h ⊢
    obtain ⟨x, r, e, h1, h2⟩ := h
    exact ⟨x, r, e, Rep.mono hf ha d x h1, RepL.mono hf ha l r h2⟩
end
theorem Rep.lat {M : Md} {H H' : Hp} {w w' : Wd} {d : D} {v : V} (h : Rep M w d v) (L : Lat H w H' w') : Rep M w' d v := Rep.mono L.fz (fun _ _ q => L.al_get q) d v h
theorem RepL.lat {M : Md} {H H' : Hp} {w w' : Wd} {l : List D} {xs : List V} (h : RepL M w l xs) (L : Lat H w H' w') : RepL M w' l xs := RepL.mono L.fz (fun _ _ q => L.al_get q) l xs h
theorem RepL.nil {M : Md} {w : Wd} : RepL M w [] [] := by simp only [RepL]
theorem RepL.cons {M : Md} {w : Wd} {d : D} {l : List D} {x : V} {r : List V} (h : Rep M w d x) (t : RepL M w l r) : RepL M w (d :: l) (x :: r) := by
  simp only [RepL]; exact ⟨x, r, rfl, h, t⟩
theorem RepL.length {M : Md} {w : Wd} : ∀ {l : List D} {xs : List V}, RepL M w l xs → l.length = xs.length
  | [], _, h => by simp only [RepL] at h; rw [h]; rfl
  | d :: l, _, h => by
    simp only [RepL] at h
    obtain ⟨x, r, rfl, _, t⟩ := h
    simp [RepL.length t]
theorem RepL.get {M : Md} {w : Wd} : ∀ {l : List D} {xs : List V} {i : Nat} {x : V}, RepL M w l xs → xs[i]? = some x → ∃ d, l[i]? = some d ∧ Rep M w d x
  | [], _, i, x, h, e => by simp only [RepL] at h; subst h; simp at e
  | d :: l, _, i, x, h, e => by
    simp only [RepL] at h
    obtain ⟨y, r, rfl, h1, t⟩ := h
    cases i with
    | zero => simp at e; subst e; exact ⟨d, rfl, h1⟩
    | succ i => simp at e; obtain ⟨d', q1, q2⟩ := RepL.get t e; exact ⟨d', by simpa using q1, q2⟩
theorem RepL.getD {M : Md} {w : Wd} {l : List D} {xs : List V} {i : Nat} {d : D} (h : RepL M w l xs) (e : l[i]? = some d) : ∃ x, xs[i]? = some x ∧ Rep M w d x := by
  have hi : i < xs.length := by rw [← h.length]; exact (List.getElem?_eq_some_iff.mp e).1
  obtain ⟨d', q1, q2⟩ := h.get (List.getElem?_eq_getElem hi)
  rw [e] at q1; cases q1
  exact ⟨_, List.getElem?_eq_getElem hi, q2⟩
theorem RepL.append {M : Md} {w : Wd} : ∀ {l m : List D} {xs ys : List V}, RepL M w l xs → RepL M w m ys → RepL M w (l ++ m) (xs ++ ys)
  | [], _, _, _, h, t => by simp only [RepL] at h; subst h; exact t
  | d :: l, _, _, _, h, t => by
    simp only [RepL] at h
    obtain ⟨x, r, rfl, h1, h2⟩ := h
    exact RepL.cons h1 (RepL.append h2 t)
theorem RepL.set {M : Md} {w : Wd} : ∀ {l : List D} {xs : List V} {d : D} {x : V} (i : Nat), RepL M w l xs → Rep M w d x → RepL M w (l.set i d) (xs.set i x)
  | [], _, _, _, i, h, _ => by simp only [RepL] at h; subst h; exact RepL.nil
  | d :: l, _, _, _, i, h, q => by
    simp only [RepL] at h
    obtain ⟨x, r, rfl, h1, h2⟩ := h
    cases i with
    | zero => exact RepL.cons q h2
    | succ i => exact RepL.cons h1 (RepL.set i h2 q)
theorem RepL.drop {M : Md} {w : Wd} : ∀ {l : List D} {xs : List V} (n : Nat), RepL M w l xs → RepL M w (l.drop n) (xs.drop n)
  | _, _, 0, h => h
  | [], _, n + 1, h => by simp only [RepL] at h; subst h; exact RepL.nil
  | d :: l, _, n + 1, h => by
    simp only [RepL] at h
    obtain ⟨x, r, rfl, h1, h2⟩ := h
    exact RepL.drop n h2
theorem RepL.take {M : Md} {w : Wd} : ∀ {l : List D} {xs : List V} (n : Nat), RepL M w l xs → RepL M w (l.take n) (xs.take n)
  | _, _, 0, h => RepL.nil
  | [], _, n + 1, h => by simp only [RepL] at h; subst h; exact RepL.nil
  | d :: l, _, n + 1, h => by
    simp only [RepL] at h
    obtain ⟨x, r, rfl, h1, h2⟩ := h
    exact RepL.cons h1 (RepL.take n h2)
theorem RepL.reverse {M : Md} {w : Wd} : ∀ {l : List D} {xs : List V}, RepL M w l xs → RepL M w l.reverse xs.reverse
  | [], _, h => by simp only [RepL] at h; subst h; exact RepL.nil
  | d :: l, _, h => by
    simp only [RepL] at h
    obtain ⟨x, r, rfl, h1, h2⟩ := h
    rw [List.reverse_cons, List.reverse_cons]
    exact RepL.append (RepL.reverse h2) (RepL.cons h1 RepL.nil)
theorem RepL.rep {M : Md} {w : Wd} {l : List D} {xs : List V} (h : RepL M w l xs) : ∀ k : Nat, RepL M w (List.replicate k l).flatten (List.replicate k xs).flatten
  | 0 => RepL.nil
  | k + 1 => by rw [List.replicate_succ, List.replicate_succ, List.flatten_cons, List.flatten_cons]; exact RepL.append h (RepL.rep h k)

theorem ObAt.lat {M : Md} {H H' : Hp} {w w' : Wd} {a : Addr} {o : Ob} (h : ObAt M w H a o) (L : Lat H w H' w') (ha : a ∉ w.al) : ObAt M w' H' a o := by
  cases o with
  | lst l => obtain ⟨xs, e, r⟩ := h; exact ⟨xs, L.kp _ _ e ha, r.lat L⟩
  | dK ks vs => obtain ⟨xs, e, q, r⟩ := h; exact ⟨xs, L.kp _ _ e ha, q, r.lat L⟩
  | dT ks vs => obtain ⟨xs, e, q, r⟩ := h; exact ⟨xs, L.kp _ _ e ha, q, r.lat L⟩
  | ins c ns l => obtain ⟨dx, fs, e, q, r⟩ := h; exact ⟨dx, fs, L.kp _ _ e ha, q, r.lat L⟩
theorem ObAt.there {M : Md} {H : Hp} {w : Wd} {a : Addr} {o : Ob} (h : ObAt M w H a o) : H a ≠ none := by
  cases o with
  | lst l => obtain ⟨xs, e, r⟩ := h; rw [e]; simp
  | dK ks vs => obtain ⟨xs, e, q, r⟩ := h; rw [e]; simp
  | dT ks vs => obtain ⟨xs, e, q, r⟩ := h; rw [e]; simp
  | ins c ns l => obtain ⟨dx, fs, e, q, r⟩ := h; rw [e]; simp

theorem ObAt.nt {M : Md} {H : Hp} {w : Wd} {a : Addr} {o : Ob} (h : ObAt M w H a o) : ¬ (H a = none ∨ ∃ xs, H a = some (.tup xs)) := by
  rintro (z | ⟨ys, z⟩)
  · exact h.there z
  · cases o with
    | lst l => obtain ⟨xs, e, r⟩ := h; rw [e] at z; cases z
    | dK ks vs => obtain ⟨xs, e, q, r⟩ := h; rw [e] at z; cases z
    | dT ks vs => obtain ⟨xs, e, q, r⟩ := h; rw [e] at z; cases z
    | ins c ns l => obtain ⟨dx, fs, e, q, r⟩ := h; rw [e] at z; cases z

def SlAt (M : Md) (w : Wd) (H : Hp) : Sl → Option (Option V) → Prop
  | .no, _ => True
  | .v d, o => ∃ v, o = some (some v) ∧ Rep M w d v
  | .own ob, o => ∃ a, o = some (some (.ref a)) ∧ ObAt M w H a ob ∧ w.fz a = none ∧ a ∉ w.al
/-- the names' values -/
structure SlOk (M : Md) (H : Hp) (w : Wd) (σ : L2.St) (ρ : Env) : Prop where
  len : σ.length = ρ.length
  at_ : ∀ (i : Nat) (s : Sl), ρ[i]? = some s → SlAt M w H s σ[i]?
  sep : ∀ (i j : Nat) (o o' : Ob) (a : Addr), ρ[i]? = some (.own o) → ρ[j]? = some (.own o') → σ[i]? = some (some (.ref a)) → σ[j]? = some (some (.ref a)) → i = j
/-- the shared objects -/
structure StOk (M : Md) (H : Hp) (w : Wd) (G : Sto) : Prop where
  fzH : ∀ a o, w.fz a = some o → H a = some o
  len : w.al.length = G.length
  nd : w.al.Nodup
  at_ : ∀ (n : Nat) (o : Ob) (a : Addr), G[n]? = some o → w.al[n]? = some a → ObAt M w H a o ∧ w.fz a = none

theorem SlOk.lat {M : Md} {H H' : Hp} {w w' : Wd} {σ : L2.St} {ρ : Env} (h : SlOk M H w σ ρ) (L : Lat H w H' w') : SlOk M H' w' σ ρ := by
  refine ⟨h.len, fun i s e => ?_, h.sep⟩
  have q := h.at_ i s e
  cases s with
  | no => trivial
  | v d => obtain ⟨v, e1, r⟩ := q; exact ⟨v, e1, r.lat L⟩
  | own o =>
    obtain ⟨a, e1, r, n1, n2⟩ := q
    refine ⟨a, e1, r.lat L n2, ?_, ?_⟩
    · cases z : w'.fz a with
      | none => rfl
      | some u => exact absurd (L.nw a (by rw [z]; simp) n1) r.nt
    · obtain ⟨t, et, nt⟩ := L.al
      rw [et]
      intro hm
      rcases List.mem_append.mp hm with z | z
      · exact n2 z
      · exact r.there (nt a z)
theorem StOk.al_there {M : Md} {H : Hp} {w : Wd} {G : Sto} (h : StOk M H w G) {a : Addr} (ha : a ∈ w.al) : H a ≠ none ∧ w.fz a = none := by
  obtain ⟨n, hn, e⟩ := List.getElem_of_mem ha
  have hn' : n < G.length := by rw [← h.len]; exact hn
  obtain ⟨q, z⟩ := h.at_ n G[n] a (List.getElem?_eq_getElem hn') (by rw [List.getElem?_eq_getElem hn, e])
  exact ⟨q.there, z⟩
/-- a new object, not yet given a place -/
theorem Lat.new {M : Md} {H : Hp} {w : Wd} {G : Sto} {p : Addr} {o : HO} (hp : H p = none) : Lat H w (upd H p o) w :=
  ⟨fun _ _ h => h, ⟨[], by simp, fun _ h => absurd h (by simp)⟩, fun _ h h' => absurd h' h, fun a xs h => by
    by_cases e : a = p
    · subst e; exact .inl hp
    · rw [upd_ne e] at h; exact .inr h, fun a u h _ => by rw [upd_ne (ne_of_none h hp)]; exact h, fun a h => by
    by_cases e : a = p
    · subst e; exact absurd hp h
    · rw [upd_ne e]; exact h⟩
theorem StOk.keep {M : Md} {H H' : Hp} {w w' : Wd} {G : Sto} (h : StOk M H w G) (L : Lat H w H' w') (ea : w'.al = w.al) (hk : ∀ a ∈ w.al, H' a = H a) (hf : ∀ a o, w'.fz a = some o → H' a = some o) : StOk M H' w' G := by
  refine ⟨hf, by rw [ea]; exact h.len, by rw [ea]; exact h.nd, fun n o a e1 e2 => ?_⟩
  rw [ea] at e2
  obtain ⟨q, z⟩ := h.at_ n o a e1 e2
  have ha : a ∈ w.al := List.mem_of_getElem? e2
  refine ⟨?_, ?_⟩
  · cases o with
    | lst l => obtain ⟨xs, e, r⟩ := q; exact ⟨xs, (hk a ha).trans e, r.lat L⟩
    | dK ks vs => obtain ⟨xs, e, q, r⟩ := q; exact ⟨xs, (hk a ha).trans e, q, r.lat L⟩
    | dT ks vs => obtain ⟨xs, e, q, r⟩ := q; exact ⟨xs, (hk a ha).trans e, q, r.lat L⟩
    | ins c ns l => obtain ⟨dx, fs, e, q, r⟩ := q; exact ⟨dx, fs, (hk a ha).trans e, q, r.lat L⟩
  · cases z' : w'.fz a with
    | none => rfl
    | some u => exact absurd (L.nw a (by rw [z']; simp) z) q.nt
theorem StOk.new {M : Md} {H : Hp} {w : Wd} {G : Sto} {p : Addr} {o : HO} (h : StOk M H w G) (hp : H p = none) : StOk M (upd H p o) w G :=
  h.keep (Lat.new (M := M) (G := G) hp) rfl (fun a ha => upd_ne fun e => (h.al_there ha).1 (by rw [e]; exact hp)) fun a u e => by
    have q := h.fzH a u e
    rw [upd_ne (ne_of_none q hp)]; exact q
/-- a new object that stands for good -/
def Wd.put (w : Wd) (p : Addr) (o : HO) : Wd := ⟨upd w.fz p o, w.al⟩
theorem StOk.fzn {M : Md} {H : Hp} {w : Wd} {G : Sto} {p : Addr} (h : StOk M H w G) (hp : H p = none) : w.fz p = none := by
  cases e : w.fz p with
  | none => rfl
  | some o => rw [h.fzH p o e] at hp; cases hp
theorem StOk.aln {M : Md} {H : Hp} {w : Wd} {G : Sto} {p : Addr} (h : StOk M H w G) (hp : H p = none) : p ∉ w.al := fun z => (h.al_there z).1 hp
/-- freezing what is new behind H -/
theorem Lat.freeze {M : Md} {H H1 : Hp} {w w1 : Wd} {G : Sto} {p : Addr} {o : HO} (L : Lat H w H1 w1) (hn : H p = none) (h1 : w1.fz p = none) : Lat H w H1 (w1.put p o) := by
  refine ⟨fun a u h => ?_, L.al, fun a z1 z2 => ?_, L.tb, L.kp, L.dm⟩
  · have q := L.fz a u h
    show upd w1.fz p o a = some u
    rw [upd_ne (ne_of_none q h1)]; exact q
  · by_cases e : a = p
    · rw [e]; exact .inl hn
    · exact L.nw a (by have z : upd w1.fz p o a ≠ none := z1; rwa [upd_ne e] at z) z2
theorem Wd.put_lat {H : Hp} {w : Wd} {p : Addr} {o : HO} (h1 : w.fz p = none) : (∀ a u, w.fz a = some u → (w.put p o).fz a = some u) ∧ ∀ (n : Nat) (a : Addr), w.al[n]? = some a → (w.put p o).al[n]? = some a :=
  ⟨fun a u h => by show upd w.fz p o a = some u; rw [upd_ne (ne_of_none h h1)]; exact h, fun _ _ h => h⟩
theorem StOk.freeze {M : Md} {H : Hp} {w : Wd} {G : Sto} {p : Addr} {o : HO} (h : StOk M H w G) (hp : H p = some o) (h1 : w.fz p = none) (h2 : p ∉ w.al) : StOk M H (w.put p o) G := by
  have m := Wd.put_lat (H := H) (o := o) h1
  refine ⟨fun a u e => ?_, h.len, h.nd, fun n ob a e1 e2 => ?_⟩
  · by_cases z : a = p
    · subst z
      have e : upd w.fz a o a = some u := e
      rw [upd_same] at e; cases e; exact hp
    · have e : upd w.fz p o a = some u := e
      rw [upd_ne z] at e; exact h.fzH a u e
  · obtain ⟨q, z⟩ := h.at_ n ob a e1 e2
    have ne : a ≠ p := fun z => h2 (by rw [← z]; exact List.mem_of_getElem? e2)
    refine ⟨?_, by show upd w.fz p o a = none; rw [upd_ne ne]; exact z⟩
    cases ob with
    | lst l => obtain ⟨xs, e, r⟩ := q; exact ⟨xs, e, RepL.mono m.1 m.2 _ _ r⟩
    | dK ks vs => obtain ⟨xs, e, q, r⟩ := q; exact ⟨xs, e, q, RepL.mono m.1 m.2 _ _ r⟩
    | dT ks vs => obtain ⟨xs, e, q, r⟩ := q; exact ⟨xs, e, q, RepL.mono m.1 m.2 _ _ r⟩
    | ins c ns l => obtain ⟨dx, fs, e, q, r⟩ := q; exact ⟨dx, fs, e, q, RepL.mono m.1 m.2 _ _ r⟩

/-! ### results -/
def RX (M : Md) (H : Hp) (σ : L2.St) (ρ : Env) (H' : Hp) (w' : Wd) : R → V → Prop
  | .d x, v => Rep M w' x v
  | .tmp o, v => ∃ a, v = .ref a ∧ ObAt M w' H' a o ∧ w'.fz a = none ∧ a ∉ w'.al ∧ H a = none
  | .bor i o, v => ρ[i]? = some (.own o) ∧ σ[i]? = some (some v)
theorem RX.lat {M : Md} {H H1 H2 : Hp} {w1 w2 : Wd} {σ : L2.St} {ρ : Env} {r : R} {v : V} (h : RX M H σ ρ H1 w1 r v) (L : Lat H1 w1 H2 w2) : RX M H σ ρ H2 w2 r v := by
  cases r with
  | d x => exact Rep.lat h L
  | tmp o =>
    obtain ⟨a, e, q, n1, n2, n3⟩ := h
    refine ⟨a, e, q.lat L n2, ?_, ?_, n3⟩
    · cases z : w2.fz a with
      | none => rfl
      | some u => exact absurd (L.nw a (by rw [z]; simp) n1) q.nt
    · obtain ⟨t, et, nt⟩ := L.al
      rw [et]
      intro hm
      rcases List.mem_append.mp hm with z | z
      · exact n2 z
      · exact q.there (nt a z)
  | bor i o => exact h
theorem RX.back {M : Md} {H H1 H2 : Hp} {w w1 w2 : Wd} {σ : L2.St} {ρ : Env} {r : R} {v : V} (h : RX M H1 σ ρ H2 w2 r v) (L : Lat H w H1 w1) : RX M H σ ρ H2 w2 r v := by
  cases r with
  | d x => exact h
  | tmp o =>
    obtain ⟨a, e, q, n1, n2, n3⟩ := h
    refine ⟨a, e, q, n1, n2, ?_⟩
    cases z : H a with
    | none => rfl
    | some u => exact absurd n3 (L.dm a (by rw [z]; simp))
  | bor i o => exact h
/-- what must hold behind an expression -/
def Post (M : Md) (H : Hp) (w : Wd) (σ : L2.St) (ρ : Env) (r : R) (G' : Sto) (Q : VK) : Prop :=
  ∀ v H' w', Lat H w H' w' → StOk M H' w' G' → RX M H σ ρ H' w' r v → Q v H'
end Lp

namespace Lp
open PySem PySem.Spec PyProof.Rows L2

abbrev CF := Nat → List D → Sto → Option (R × Sto)
abbrev Fn := CF → Env → Sto → Option (R × Sto)
/-- several values: an argument list, all plain -/
abbrev FnL := CF → Env → Sto → Option (List D × Sto)
abbrev FnT := CF → Env → Sto → Option (Bool × Sto)

def tE (M : Md) (cf : CF) (c : Fn) : TE := fun σ H Q => ∃ ρ w G r G', SlOk M H w σ ρ ∧ StOk M H w G ∧ c cf ρ G = some (r, G') ∧ Post M H w σ ρ r G' Q
def tT (M : Md) (cf : CF) (c : FnT) : TT := fun σ H Q => ∃ ρ w G b G', SlOk M H w σ ρ ∧ StOk M H w G ∧ c cf ρ G = some (b, G') ∧ ∀ H' w', Lat H w H' w' → StOk M H' w' G' → Q b H'
def tA (M : Md) (cf : CF) (c : FnL) : TA := fun σ H Q => ∃ ρ w G l G', SlOk M H w σ ρ ∧ StOk M H w G ∧ c cf ρ G = some (l, G') ∧ ∀ vs H' w', Lat H w H' w' → StOk M H' w' G' → RepL M w' l vs → Q vs H'

theorem peW {X : Cx} {e : Expr} {t t' : TE} (h : PE X e t) (k : ∀ σ H Q, t' σ H Q → t σ H Q) : PE X e t' := ⟨fun pins s σ H Q I q => h.run pins s σ H Q I (k σ H Q q)⟩
theorem ptW {X : Cx} {e : Expr} {t t' : TT} (h : PT X e t) (k : ∀ σ H Q, t' σ H Q → t σ H Q) : PT X e t' := ⟨fun pins s σ H Q I q => h.run pins s σ H Q I (k σ H Q q)⟩
theorem pwW {X : Cx} {e : Expr} {t t' : TT} (h : PW X e t) (k : ∀ σ H Q, t' σ H Q → t σ H Q) : PW X e t' := ⟨fun wh pins s σ H Q I q => h.run wh pins s σ H Q I (k σ H Q q)⟩
theorem paW {X : Cx} {e : List Expr} {t t' : TA} (h : PA X e t) (k : ∀ σ H Q, t' σ H Q → t σ H Q) : PA X e t' := ⟨fun pos pins s σ H Q I q => h.run pos pins s σ H Q I (k σ H Q q)⟩
theorem psW {X : Cx} {e : Stmt} {t t' : TS} (h : PS X e t) (k : ∀ D σ H, t' D σ H → t D σ H) : PS X e t' := ⟨fun pins s σ H D I q => h.run pins s σ H D I (k D σ H q)⟩
theorem pssW {X : Cx} {e : List Stmt} {t t' : TS} (h : PSs X e t) (k : ∀ D σ H, t' D σ H → t D σ H) : PSs X e t' := ⟨fun pins s σ H D I q => h.run pins s σ H D I (k D σ H q)⟩

/-- where an evaluation stands that began at H0 -/
structure At (M : Md) (H0 : Hp) (w0 : Wd) (σ : L2.St) (ρ : Env) (H : Hp) (w : Wd) (G : Sto) : Prop where
  lat : Lat H0 w0 H w
  st : StOk M H w G
  sl0 : SlOk M H0 w0 σ ρ
theorem At.sl {M : Md} {H0 H : Hp} {w0 w : Wd} {σ : L2.St} {ρ : Env} {G : Sto} (a : At M H0 w0 σ ρ H w G) : SlOk M H w σ ρ := a.sl0.lat a.lat
theorem At.start {M : Md} {H : Hp} {w : Wd} {σ : L2.St} {ρ : Env} {G : Sto} (a : SlOk M H w σ ρ) (b : StOk M H w G) : At M H w σ ρ H w G := ⟨Lat.refl H w, b, a⟩
theorem At.step {M : Md} {H0 H H' : Hp} {w0 w w' : Wd} {σ : L2.St} {ρ : Env} {G G' : Sto} (a : At M H0 w0 σ ρ H w G) (L : Lat H w H' w') (s : StOk M H' w' G') : At M H0 w0 σ ρ H' w' G' :=
  ⟨a.lat.trans L, s, a.sl0⟩

theorem bindSome {α β : Type} {x : Option α} {f : α → Option β} {z : β} (h : x.bind f = some z) : ∃ y, x = some y ∧ f y = some z := by
  cases x with
  | none => cases h
  | some y => exact ⟨y, rfl, h⟩

section
variable {M : Md} {cf : CF} {H0 H : Hp} {w0 w : Wd} {σ : L2.St} {ρ : Env} {G : Sto}
/-- run a part, go on with what it gives -/
theorem At.run {c : Fn} {α : Type} {f : R × Sto → Option α} {z : α} {K : V → Hp → Prop} (a : At M H0 w0 σ ρ H w G) (h : (c cf ρ G).bind f = some z)
    (k : ∀ r G1 v H1 w1, f (r, G1) = some z → Lat H w H1 w1 → At M H0 w0 σ ρ H1 w1 G1 → RX M H0 σ ρ H1 w1 r v → K v H1) : tE M cf c σ H K := by
  obtain ⟨⟨r, G1⟩, e1, e2⟩ := bindSome h
  exact ⟨ρ, w, G, r, G1, a.sl, a.st, e1, fun v H1 w1 L s x => k r G1 v H1 w1 e2 L (a.step L s) (x.back a.lat)⟩
theorem At.runT {c : FnT} {α : Type} {f : Bool × Sto → Option α} {z : α} {K : Bool → Hp → Prop} (a : At M H0 w0 σ ρ H w G) (h : (c cf ρ G).bind f = some z)
    (k : ∀ b G1 H1 w1, f (b, G1) = some z → Lat H w H1 w1 → At M H0 w0 σ ρ H1 w1 G1 → K b H1) : tT M cf c σ H K := by
  obtain ⟨⟨r, G1⟩, e1, e2⟩ := bindSome h
  exact ⟨ρ, w, G, r, G1, a.sl, a.st, e1, fun H1 w1 L s => k r G1 H1 w1 e2 L (a.step L s)⟩
theorem At.runA {c : FnL} {α : Type} {f : List D × Sto → Option α} {z : α} {K : List V → Hp → Prop} (a : At M H0 w0 σ ρ H w G) (h : (c cf ρ G).bind f = some z)
    (k : ∀ l G1 vs H1 w1, f (l, G1) = some z → Lat H w H1 w1 → At M H0 w0 σ ρ H1 w1 G1 → RepL M w1 l vs → K vs H1) : tA M cf c σ H K := by
  obtain ⟨⟨r, G1⟩, e1, e2⟩ := bindSome h
  exact ⟨ρ, w, G, r, G1, a.sl, a.st, e1, fun vs H1 w1 L s x => k r G1 vs H1 w1 e2 L (a.step L s) x⟩

/-! ### ends -/
theorem At.fin {r : R} {v : V} {Q : VK} (a : At M H0 w0 σ ρ H w G) (q : Post M H0 w0 σ ρ r G Q) (x : RX M H0 σ ρ H w r v) : Q v H := q v H w a.lat a.st x
/-- a new list (or another object that nobody else knows) -/
theorem At.newTmp {o : Ob} {p : Addr} {ho : HO} {Q : VK} (a : At M H0 w0 σ ρ H w G) (q : Post M H0 w0 σ ρ (.tmp o) G Q) (hp : H p = none) (ob : ObAt M w (upd H p ho) p o) : Q (.ref p) (upd H p ho) := by
  have L : Lat H w (upd H p ho) w := Lat.new (M := M) (G := G) hp
  refine q _ _ w (a.lat.trans L) (a.st.new hp) ⟨p, rfl, ob, a.st.fzn hp, a.st.aln hp, ?_⟩
  cases z : H0 p with
  | none => rfl
  | some u => exact absurd hp (a.lat.dm p (by rw [z]; simp))
theorem At.newLst {l : List D} {xs : List V} {p : Addr} {Q : VK} (a : At M H0 w0 σ ρ H w G) (q : Post M H0 w0 σ ρ (.tmp (.lst l)) G Q) (hp : H p = none) (r : RepL M w l xs) : Q (.ref p) (upd H p (.lst xs)) :=
  a.newTmp q hp ⟨xs, upd_same, r⟩
/-- a new object for good -/
theorem At.newFz {d : D} {p : Addr} {ho : HO} {Q : VK} (a : At M H0 w0 σ ρ H w G) (q : Post M H0 w0 σ ρ (.d d) G Q) (hp : H p = none) (r : Rep M (w.put p ho) d (.ref p)) : Q (.ref p) (upd H p ho) := by
  have L : Lat H w (upd H p ho) w := Lat.new (M := M) (G := G) hp
  have L2 := (a.lat.trans L).freeze (M := M) (G := G) (p := p) (o := ho) (by
    cases z : H0 p with
    | none => rfl
    | some u => exact absurd hp (a.lat.dm p (by rw [z]; simp))) (a.st.fzn hp)
  exact q _ _ _ L2 ((a.st.new hp).freeze upd_same (a.st.fzn hp) (a.st.aln hp)) r
theorem RepL.put {w : Wd} {p : Addr} {ho : HO} {l : List D} {xs : List V} (r : RepL M w l xs) (h1 : w.fz p = none) : RepL M (w.put p ho) l xs :=
  RepL.mono (Wd.put_lat (H := fun _ => none) h1).1 (Wd.put_lat (H := fun _ => none) h1).2 l xs r
theorem Rep.put {w : Wd} {p : Addr} {ho : HO} {l : D} {xs : V} (r : Rep M w l xs) (h1 : w.fz p = none) : Rep M (w.put p ho) l xs :=
  Rep.mono (Wd.put_lat (H := fun _ => none) h1).1 (Wd.put_lat (H := fun _ => none) h1).2 l xs r
theorem At.newTup {l : List D} {xs : List V} {p : Addr} {Q : VK} (a : At M H0 w0 σ ρ H w G) (q : Post M H0 w0 σ ρ (.d (.tup l)) G Q) (hp : H p = none) (r : RepL M w l xs) : Q (.ref p) (upd H p (.tup xs)) := by
  refine a.newFz q hp ?_
  simp only [Rep]
  exact ⟨p, xs, rfl, (show upd w.fz p (.tup xs) p = _ from upd_same), r.put (a.st.fzn hp)⟩
/-- a result of one's own becomes a value for good -/
def frz : R → Option D
  | .d x => some x
  | .tmp (.lst l) => some (.lst l)
  | .tmp (.ins c ns l) => some (.ins c ns l)
  | _ => none
theorem At.frz {r : R} {d : D} {v : V} (a : At M H0 w0 σ ρ H w G) (x : RX M H0 σ ρ H w r v) (e : frz r = some d) : ∃ w', At M H0 w0 σ ρ H w' G ∧ Rep M w' d v ∧ Lat H0 w0 H w' := by
  cases r with
  | d y => cases e; exact ⟨w, a, x, a.lat⟩
  | bor i o => cases e
  | tmp o =>
    obtain ⟨p, rfl, ob, n1, n2, n3⟩ := x
    have go : ∀ ho, H p = some ho → At M H0 w0 σ ρ H (w.put p ho) G := fun ho hh => by
      have s := a.st.freeze hh n1 n2
      exact ⟨a.lat.freeze (M := M) (G := G) n3 n1, s, a.sl0⟩
    cases o with
    | lst l =>
      cases e
      obtain ⟨xs, hx, rr⟩ := ob
      refine ⟨_, go _ hx, ?_, (go _ hx).lat⟩
      simp only [Rep]
      exact ⟨p, xs, rfl, (show upd w.fz p (.lst xs) p = _ from upd_same), rr.put n1⟩
    | ins c ns l =>
      cases e
      obtain ⟨dx, fs, hx, hn, rr⟩ := ob
      refine ⟨_, go _ hx, ?_, (go _ hx).lat⟩
      simp only [Rep]
      exact ⟨p, dx, fs, rfl, (show upd w.fz p (.ins (M.ca c) dx fs) p = _ from upd_same), hn, rr.put n1⟩
    | dK _ _ => cases e
    | dT _ _ => cases e
end
end Lp

namespace Lp
open PySem PySem.Spec PyProof.Rows L2

/-! ### names, constants -/
def cVar (i : Nat) : Fn := fun _ ρ G => match ρ[i]? with
  | some (.v d) => some (.d d, G)
  | some (.own o) => some (.bor i o, G)
  | _ => none
def cC (d : D) : Fn := fun _ _ G => some (.d d, G)
section
variable {X : Cx} {M : Md} {cf : CF}
theorem x_var {i : Nat} {x : Str} {pos : Pos} (hN : X.N[i]? = some x) (hv : Vis X.env.scope x) (hd : (x == ("__debug__" : Str)) = false) (hcd : (x == ("__classdict__" : Str)) = false) : PE X (.Name x pos) (tE M cf (cVar i)) :=
  peW (pe_var hN hv hd hcd) fun σ H Q h => by
    obtain ⟨ρ, w, G, r, G', sl, st, e, q⟩ := h
    unfold cVar at e
    cases z : ρ[i]? with
    | none => rw [z] at e; cases e
    | some s =>
      rw [z] at e
      have k := sl.at_ i s z
      cases s with
      | no => cases e
      | v d =>
        cases e
        obtain ⟨v, e1, r⟩ := k
        exact ⟨v, e1, q v H w (Lat.refl H w) st r⟩
      | own o =>
        cases e
        obtain ⟨a, e1, r, n1, n2⟩ := k
        exact ⟨.ref a, e1, q _ H w (Lat.refl H w) st ⟨z, e1⟩⟩
theorem x_cst {e : Expr} {d : D} {v : V} (h : PE X e (tC v)) (r : ∀ w : Wd, Rep M w d v) : PE X e (tE M cf (cC d)) :=
  peW h fun σ H Q h => by
    obtain ⟨ρ, w, G, r', G', sl, st, e, q⟩ := h
    cases e
    exact q v H w (Lat.refl H w) st (r w)
theorem x_int {i j pos} : PE X (.Constant (.int i) j pos) (tE M cf (cC (.int i))) := x_cst pe_int fun _ => by simp only [Rep]
theorem x_bl {b j pos} : PE X (.Constant (.bool b) j pos) (tE M cf (cC (.bl b))) := x_cst pe_bl fun _ => by simp only [Rep]
theorem x_non {j pos} : PE X (.Constant .none j pos) (tE M cf (cC .non)) := x_cst pe_non fun _ => by simp only [Rep]
theorem x_str {x j pos} : PE X (.Constant (.str x) j pos) (tE M cf (cC (.str x))) := x_cst pe_str fun _ => by simp only [Rep]
/-- a global constant of the module -/
theorem x_glob {x : Str} {d : D} {v : V} {u : Value} {pos : Pos} (hg : Gl X x) (hm : X.mg x = some u) (r : RelV v u) (hd : (x == ("__debug__" : Str)) = false) (rd : ∀ w : Wd, Rep M w d v) : PE X (.Name x pos) (tE M cf (cC d)) := x_cst (pe_glob hg hm r hd) rd
end

/-! ### operations on results -/
abbrev sz : Nat := 16777216
theorem sz_line {n : Nat} (h : n ≤ sz) : n ≤ sizeLine := by rw [sizeLine_eq]; exact h
theorem sz_lineT {n : Nat} (h : n < sz) : n < sizeLine := by rw [sizeLine_eq]; exact h
def lstOf : R → Option (List D)
  | .d (.lst l) => some l
  | .tmp (.lst l) => some l
  | .bor _ (.lst l) => some l
  | _ => none
def seqOf : R → Option (List D)
  | .d (.lst l) => some l
  | .tmp (.lst l) => some l
  | .bor _ (.lst l) => some l
  | .d (.scr l) => some l
  | _ => none
def tupOf : R → Option (List D)
  | .d (.tup l) => some l
  | _ => none
section
variable {M : Md} {cf : CF} {H0 H : Hp} {w0 w : Wd} {σ : L2.St} {ρ : Env} {G : Sto}
theorem At.lst {r : R} {v : V} {l : List D} (a : At M H0 w0 σ ρ H w G) (x : RX M H0 σ ρ H w r v) (e : lstOf r = some l) : ∃ p xs, v = .ref p ∧ H p = some (.lst xs) ∧ RepL M w l xs := by
  cases r with
  | d y =>
    cases y <;> first | (cases e; done) | skip
    cases e
    have x : Rep M w (.lst l) v := x
    simp only [Rep] at x
    obtain ⟨p, xs, rfl, q, r⟩ := x
    exact ⟨p, xs, rfl, a.st.fzH _ _ q, r⟩
  | tmp o =>
    cases o <;> first | (cases e; done) | skip
    cases e
    obtain ⟨p, rfl, ⟨xs, q, r⟩, _⟩ := x
    exact ⟨p, xs, rfl, q, r⟩
  | bor i o =>
    cases o <;> first | (cases e; done) | skip
    cases e
    obtain ⟨e1, e2⟩ := x
    obtain ⟨p, e3, ⟨xs, q, r⟩, _⟩ := a.sl.at_ i _ e1
    rw [e2] at e3; cases e3
    exact ⟨p, xs, rfl, q, r⟩
theorem At.seq {r : R} {v : V} {l : List D} (a : At M H0 w0 σ ρ H w G) (x : RX M H0 σ ρ H w r v) (e : seqOf r = some l) : ∃ p xs, v = .ref p ∧ SqL M.K H p xs ∧ RepL M w l xs := by
  cases z : lstOf r with
  | some m =>
    have : m = l := by
      cases r with
      | d y => cases y <;> first | (cases z; done) | (cases z; cases e; rfl)
      | tmp o => cases o <;> first | (cases z; done) | (cases z; cases e; rfl)
      | bor i o => cases o <;> first | (cases z; done) | (cases z; cases e; rfl)
    subst this
    obtain ⟨p, xs, rfl, q, r⟩ := a.lst x z
    exact ⟨p, xs, rfl, .inl (.inl q), r⟩
  | none =>
    cases r with
    | d y =>
      cases y <;> first | (cases e; done) | (cases z; done) | skip
      cases e
      have x : Rep M w (.scr l) v := x
      simp only [Rep] at x
      obtain ⟨p, xs, rfl, q, r⟩ := x
      exact ⟨p, xs, rfl, sqL_mono a.st.fzH q, r⟩
    | tmp o => cases o <;> first | (cases e; done) | (cases z; done)
    | bor i o => cases o <;> first | (cases e; done) | (cases z; done)
theorem At.tup {r : R} {v : V} {l : List D} (a : At M H0 w0 σ ρ H w G) (x : RX M H0 σ ρ H w r v) (e : tupOf r = some l) : ∃ p xs, v = .ref p ∧ SqT M.K H p xs ∧ w.fz p = some (.tup xs) ∧ RepL M w l xs := by
  cases r with
  | d y =>
    cases y <;> first | (cases e; done) | skip
    cases e
    have x : Rep M w (.tup l) v := x
    simp only [Rep] at x
    obtain ⟨p, xs, rfl, q, r⟩ := x
    exact ⟨p, xs, rfl, .inl (.inl (a.st.fzH _ _ q)), q, r⟩
  | tmp o => cases e
  | bor i o => cases e
theorem rx_int {i : Int} {v : V} (x : RX M H0 σ ρ H w (.d (.int i)) v) : v = .int i := by
  have x : Rep M w (.int i) v := x
  simpa only [Rep] using x
theorem rx_bl {i : Bool} {v : V} (x : RX M H0 σ ρ H w (.d (.bl i)) v) : v = .bl i := by
  have x : Rep M w (.bl i) v := x
  simpa only [Rep] using x
theorem rx_str {i : Str} {v : V} (x : RX M H0 σ ρ H w (.d (.str i)) v) : v = .str i := by
  have x : Rep M w (.str i) v := x
  simpa only [Rep] using x
theorem rx_non {v : V} (x : RX M H0 σ ρ H w (.d .non) v) : v = .non := by
  have x : Rep M w .non v := x
  simpa only [Rep] using x
theorem of_int {i : Int} : RX M H0 σ ρ H w (.d (.int i)) (.int i) := by show Rep M w _ _; simp only [Rep]
theorem of_bl {i : Bool} : RX M H0 σ ρ H w (.d (.bl i)) (.bl i) := by show Rep M w _ _; simp only [Rep]
theorem of_str {i : Str} : RX M H0 σ ρ H w (.d (.str i)) (.str i) := by show Rep M w _ _; simp only [Rep]
theorem of_non : RX M H0 σ ρ H w (.d .non) .non := by show Rep M w _ _; simp only [Rep]
theorem of_tup {l : List D} {p : Addr} {xs : List V} (h : w.fz p = some (.tup xs)) (r : RepL M w l xs) : RX M H0 σ ρ H w (.d (.tup l)) (.ref p) := by
  show Rep M w _ _
  simp only [Rep]
  exact ⟨p, xs, rfl, h, r⟩
end

def rB (M : Md) (f : R → R → Option R) : R2 := fun x y H Q => ∃ H0 w0 σ ρ w G ra rb r, At M H0 w0 σ ρ H w G ∧ RX M H0 σ ρ H w ra x ∧ RX M H0 σ ρ H w rb y ∧ f ra rb = some r ∧ Post M H0 w0 σ ρ r G Q

def smallI (i : Int) : Bool := decide (i.natAbs < 18446744073709551616)
def mulOkI (i j : Int) : Bool := smallI i || smallI j
theorem mulOkI_ok {i j : Int} (h : mulOkI i j = true) : CMul i j := by
  unfold mulOkI smallI at h
  simp only [Bool.or_eq_true, decide_eq_true_eq] at h
  exact h.imp (fun h => ⟨by omega, by omega⟩) fun h => ⟨by omega, by omega⟩
def addR (a b : R) : Option R := match a, b with
  | .d (.int i), .d (.int j) => some (.d (.int (i + j)))
  | .d (.str s), .d (.str t) => if s.length + t.length ≤ sz then some (.d (.str (s ++ t))) else none
  | .d (.tup l), .d (.tup m) => if l.length + m.length ≤ sz then some (.d (.tup (l ++ m))) else none
  | a, b => match lstOf a, lstOf b with
    | some l, some m => if l.length + m.length ≤ sz then some (.tmp (.lst (l ++ m))) else none
    | _, _ => none
def subR (a b : R) : Option R := match a, b with
  | .d (.int i), .d (.int j) => some (.d (.int (i - j)))
  | _, _ => none
def repOk (n : Nat) (k : Int) : Bool := decide (k.natAbs < 9223372036854775808) && decide (n * k.toNat ≤ sz)
def mulR (a b : R) : Option R := match a, b with
  | .d (.int i), .d (.int j) => if mulOkI i j = true then some (.d (.int (i * j))) else none
  | a, .d (.int k) => match lstOf a with
    | some l => if repOk l.length k = true then some (.tmp (.lst (List.replicate k.toNat l).flatten)) else none
    | none => none
  | _, _ => none
def divOk (j : Int) : Bool := decide (0 < j) && decide (j.natAbs < 1073741824)
def fdivR (a b : R) : Option R := match a, b with
  | .d (.int i), .d (.int j) => if divOk j = true then some (.d (.int (i / j))) else none
  | _, _ => none
def modR (a b : R) : Option R := match a, b with
  | .d (.int i), .d (.int j) => if 0 < j then some (.d (.int (i % j))) else none
  | _, _ => none
def powOk (i j : Int) : Bool := decide (0 ≤ j) && decide (j.natAbs ≤ 1000000) && decide (i.natAbs < 18446744073709551616)
theorem powOk_ok {i j : Int} (h : powOk i j = true) : CPow i j := by
  unfold powOk at h
  simp only [Bool.and_eq_true, decide_eq_true_eq] at h
  exact ⟨h.1.1, by omega, by omega⟩
def powR (a b : R) : Option R := match a, b with
  | .d (.int i), .d (.int j) => if powOk i j = true then some (.d (.int (i ^ j.toNat))) else none
  | _, _ => none
def shlR (a b : R) : Option R := match a, b with
  | .d (.int i), .d (.int j) => if powOk i j = true then some (.d (.int (i * 2 ^ j.toNat))) else none
  | _, _ => none
def shrR (a b : R) : Option R := match a, b with
  | .d (.int i), .d (.int j) => if 0 ≤ j then some (.d (.int (i / 2 ^ j.toNat))) else none
  | _, _ => none
def andR (a b : R) : Option R := match a, b with
  | .d (.int i), .d (.int j) => some (.d (.int (Builtin.bitAnd i j)))
  | _, _ => none
def xorR (a b : R) : Option R := match a, b with
  | .d (.int i), .d (.int j) => some (.d (.int (Builtin.bitXor i j)))
  | _, _ => none

theorem ifSome {α : Type} {c : Prop} [Decidable c] {x y : α} (h : (if c then some x else none) = some y) : c ∧ x = y := by
  by_cases z : c
  · rw [if_pos z] at h; exact ⟨z, Option.some.inj h⟩
  · rw [if_neg z] at h; cases h

section
variable {X : Cx} {M : Md}
theorem op_lstcat {a b : R} {x y : V} {H0 H : Hp} {w0 w : Wd} {σ : L2.St} {ρ : Env} {G : Sto} {r : R} {Q : VK} (A : At M H0 w0 σ ρ H w G) (xa : RX M H0 σ ρ H w a x) (xb : RX M H0 σ ρ H w b y)
    (e : (match lstOf a, lstOf b with | some l, some m => if l.length + m.length ≤ sz then some (R.tmp (.lst (l ++ m))) else none | _, _ => none) = some r) (q : Post M H0 w0 σ ρ r G Q) : rCat x y H Q := by
  split at e
  · rename_i l m e1 e2
    obtain ⟨h, rfl⟩ := ifSome e
    obtain ⟨p1, xs, rfl, h1, r1⟩ := A.lst xa e1
    obtain ⟨p2, ys, rfl, h2, r2⟩ := A.lst xb e2
    exact ⟨p1, p2, xs, ys, rfl, rfl, h1, h2, by rw [← r1.length, ← r2.length]; exact sz_line h, fun p hp => A.newLst q hp (r1.append r2)⟩
  · cases e
theorem o_add (hK : X.K = M.K) : OpR X (binaryOp .Add) (rB M addR) := by
  intro pins s σ' H x y v u Q I rx ry h
  obtain ⟨H0, w0, σ, ρ, w, G, ra, rb, r, A, xa, xb, e, q⟩ := h
  unfold addR at e
  split at e
  · cases e
    cases rx_int xa; cases rx_int xb
    exact op_add pins s σ' H _ _ v u Q I rx ry ⟨_, _, rfl, rfl, A.fin q of_int⟩
  · obtain ⟨h, rfl⟩ := ifSome e
    cases rx_str xa; cases rx_str xb
    exact op_add_str pins s σ' H _ _ v u Q I rx ry ⟨_, _, rfl, rfl, sz_line h, A.fin q of_str⟩
  · obtain ⟨h, rfl⟩ := ifSome e
    obtain ⟨p1, xs, rfl, h1, f1, r1⟩ := A.tup xa rfl
    obtain ⟨p2, ys, rfl, h2, f2, r2⟩ := A.tup xb rfl
    refine op_catA pins s σ' H _ _ v u Q I rx ry ⟨p1, p2, xs, ys, rfl, rfl, by rw [hK]; exact h1, by rw [hK]; exact h2, by rw [← r1.length, ← r2.length]; exact sz_line h, fun e => ?_, fun _ e => ?_, fun _ _ p hp => A.newTup q hp (r1.append r2)⟩
    · subst e
      exact A.fin q (of_tup f2 (r1.append r2))
    · subst e
      refine A.fin q (of_tup f1 ?_)
      have z := r1.append r2
      rwa [List.append_nil] at z
  · exact op_cat pins s σ' H _ _ v u Q I rx ry (op_lstcat A xa xb e q)
theorem o_sub : OpR X (binaryOp .Sub) (rB M subR) := by
  intro pins s σ' H x y v u Q I rx ry h
  obtain ⟨H0, w0, σ, ρ, w, G, ra, rb, r, A, xa, xb, e, q⟩ := h
  unfold subR at e
  split at e
  · cases e
    cases rx_int xa; cases rx_int xb
    exact op_sub pins s σ' H _ _ v u Q I rx ry ⟨_, _, rfl, rfl, A.fin q of_int⟩
  · cases e
theorem o_fdiv : OpR X (binaryOp .FloorDiv) (rB M fdivR) := by
  intro pins s σ' H x y v u Q I rx ry h
  obtain ⟨H0, w0, σ, ρ, w, G, ra, rb, r, A, xa, xb, e, q⟩ := h
  unfold fdivR at e
  split at e
  · obtain ⟨h, rfl⟩ := ifSome e
    cases rx_int xa; cases rx_int xb
    unfold divOk at h
    simp only [Bool.and_eq_true, decide_eq_true_eq] at h
    exact op_fdiv pins s σ' H _ _ v u Q I rx ry ⟨_, _, rfl, rfl, ⟨h.1, by omega⟩, A.fin q of_int⟩
  · cases e
theorem o_mod : OpR X (binaryOp .Mod) (rB M modR) := by
  intro pins s σ' H x y v u Q I rx ry h
  obtain ⟨H0, w0, σ, ρ, w, G, ra, rb, r, A, xa, xb, e, q⟩ := h
  unfold modR at e
  split at e
  · obtain ⟨h, rfl⟩ := ifSome e
    cases rx_int xa; cases rx_int xb
    exact op_mod pins s σ' H _ _ v u Q I rx ry ⟨_, _, rfl, rfl, h, A.fin q of_int⟩
  · cases e
theorem o_pow : OpR X (binaryOp .Pow) (rB M powR) := by
  intro pins s σ' H x y v u Q I rx ry h
  obtain ⟨H0, w0, σ, ρ, w, G, ra, rb, r, A, xa, xb, e, q⟩ := h
  unfold powR at e
  split at e
  · obtain ⟨h, rfl⟩ := ifSome e
    cases rx_int xa; cases rx_int xb
    exact op_pow pins s σ' H _ _ v u Q I rx ry ⟨_, _, rfl, rfl, powOk_ok h, A.fin q of_int⟩
  · cases e
theorem o_shl : OpR X (binaryOp .LShift) (rB M shlR) := by
  intro pins s σ' H x y v u Q I rx ry h
  obtain ⟨H0, w0, σ, ρ, w, G, ra, rb, r, A, xa, xb, e, q⟩ := h
  unfold shlR at e
  split at e
  · obtain ⟨h, rfl⟩ := ifSome e
    cases rx_int xa; cases rx_int xb
    exact op_shl pins s σ' H _ _ v u Q I rx ry ⟨_, _, rfl, rfl, powOk_ok h, A.fin q of_int⟩
  · cases e
theorem o_shr : OpR X (binaryOp .RShift) (rB M shrR) := by
  intro pins s σ' H x y v u Q I rx ry h
  obtain ⟨H0, w0, σ, ρ, w, G, ra, rb, r, A, xa, xb, e, q⟩ := h
  unfold shrR at e
  split at e
  · obtain ⟨h, rfl⟩ := ifSome e
    cases rx_int xa; cases rx_int xb
    exact op_shr pins s σ' H _ _ v u Q I rx ry ⟨_, _, rfl, rfl, h, A.fin q of_int⟩
  · cases e
theorem o_and : OpR X (binaryOp .BitAnd) (rB M andR) := by
  intro pins s σ' H x y v u Q I rx ry h
  obtain ⟨H0, w0, σ, ρ, w, G, ra, rb, r, A, xa, xb, e, q⟩ := h
  unfold andR at e
  split at e
  · cases e
    cases rx_int xa; cases rx_int xb
    exact op_and pins s σ' H _ _ v u Q I rx ry ⟨_, _, rfl, rfl, A.fin q of_int⟩
  · cases e
theorem o_xor : OpR X (binaryOp .BitXor) (rB M xorR) := by
  intro pins s σ' H x y v u Q I rx ry h
  obtain ⟨H0, w0, σ, ρ, w, G, ra, rb, r, A, xa, xb, e, q⟩ := h
  unfold xorR at e
  split at e
  · cases e
    cases rx_int xa; cases rx_int xb
    exact op_xor pins s σ' H _ _ v u Q I rx ry ⟨_, _, rfl, rfl, A.fin q of_int⟩
  · cases e
theorem o_mul : OpR X (binaryOp .Mult) (rB M mulR) := by
  intro pins s σ' H x y v u Q I rx ry h
  obtain ⟨H0, w0, σ, ρ, w, G, ra, rb, r, A, xa, xb, e, q⟩ := h
  unfold mulR at e
  split at e
  · obtain ⟨h, rfl⟩ := ifSome e
    cases rx_int xa; cases rx_int xb
    exact op_mul pins s σ' H _ _ v u Q I rx ry ⟨_, _, rfl, rfl, mulOkI_ok h, A.fin q of_int⟩
  · split at e
    · rename_i l e1
      obtain ⟨h, rfl⟩ := ifSome e
      cases rx_int xb
      obtain ⟨p1, xs, rfl, h1, r1⟩ := A.lst xa e1
      unfold repOk at h
      simp only [Bool.and_eq_true, decide_eq_true_eq] at h
      exact op_rep pins s σ' H _ _ v u Q I rx ry ⟨p1, _, xs, rfl, rfl, h1, by omega, by omega, by rw [← r1.length]; exact sz_line h.2, fun p hp => A.newLst q hp (r1.rep _)⟩
    · cases e
  · cases e

/-! ### an operator over two expressions -/
def cBin (f : R → R → Option R) (a b : Fn) : Fn := fun cf ρ G => (a cf ρ G).bind fun p => (b cf ρ p.2).bind fun q => (f p.1 q.1).map (·, q.2)
theorem mapSome {α β : Type} {x : Option α} {f : α → β} {z : β} (h : x.map f = some z) : ∃ y, x = some y ∧ f y = z := by
  cases x with
  | none => cases h
  | some y => exact ⟨y, rfl, Option.some.inj h⟩
theorem tE_bin {cf : CF} {f : R → R → Option R} {ca cb : Fn} (σ : L2.St) (H : Hp) (Q : VK) (h : tE M cf (cBin f ca cb) σ H Q) : tOp (rB M f) (tE M cf ca) (tE M cf cb) σ H Q := by
  obtain ⟨ρ, w, G, r, G', sl, st, e, q⟩ := h
  refine (At.start sl st).run e fun ra G1 x H1 w1 e1 L1 A1 x1 => ?_
  refine A1.run e1 fun rb G2 y H2 w2 e2 L2 A2 x2 => ?_
  obtain ⟨r', e3, e4⟩ := mapSome e2
  cases e4
  exact ⟨H, w, σ, ρ, w2, _, ra, rb, r, A2, x1.lat L2, x2, e3, q⟩
theorem x_bin {cf : CF} {op : Operator} {f : R → R → Option R} {a b : Expr} {pos : Pos} {ca cb : Fn} (ho : OpR X (binaryOp op) (rB M f)) (ha : PE X a (tE M cf ca)) (hb : PE X b (tE M cf cb)) : PE X (.BinOp a op b pos) (tE M cf (cBin f ca cb)) :=
  peW (pe_op ho ha hb) tE_bin
def opF : Operator → Option (R → R → Option R)
  | .Add => some addR | .Sub => some subR | .Mult => some mulR | .FloorDiv => some fdivR | .Mod => some modR | .Pow => some powR
  | .LShift => some shlR | .RShift => some shrR | .BitAnd => some andR | .BitXor => some xorR | _ => none
theorem opF_ok {op : Operator} {f : R → R → Option R} (hK : X.K = M.K) (h : opF op = some f) : OpR X (binaryOp op) (rB M f) := by
  cases op <;> first | (cases h; done) | (cases h; first | exact o_add hK | exact o_sub | exact o_mul | exact o_fdiv | exact o_mod | exact o_pow | exact o_shl | exact o_shr | exact o_and | exact o_xor)
end
end Lp

namespace Lp
open PySem PySem.Spec PyProof.Rows L2

/-! ### data as the library's own -/
mutual
def py : D → Option PyData
  | .non => some .none
  | .bl b => some (.bool b)
  | .int i => some (.int i)
  | .str s => some (.str s)
  | .tup l => (pyL l).map .tuple
  | .lst l => (pyL l).map .list
  | .scr l => (pyL l).map .list
  | .ins _ _ _ => none
  | .dK _ _ => none
  | .dT _ _ => none
  | .ref _ => none
  | .ty _ => none
  | .cls _ => none
  | .fn _ => none
def pyL : List D → Option (List PyData)
  | [] => some []
  | d :: l => match py d, pyL l with
    | some x, some r => some (x :: r)
    | _, _ => none
end
mutual
theorem py_dp {M : Md} {w : Wd} {H : Hp} (hf : ∀ a o, w.fz a = some o → H a = some o) : ∀ (d : D) (v : V) (p : PyData), py d = some p → Rep M w d v → Dp M.K H v p
  | .non, v, p, e, r => by simp only [py, Option.some.injEq] at e; subst e; simp only [Rep] at r; subst r; exact .non
  | .bl b, v, p, e, r => by simp only [py, Option.some.injEq] at e; subst e; simp only [Rep] at r; subst r; exact .bl b
  | .int b, v, p, e, r => by simp only [py, Option.some.injEq] at e; subst e; simp only [Rep] at r; subst r; exact .int b
  | .str b, v, p, e, r => by simp only [py, Option.some.injEq] at e; subst e; simp only [Rep] at r; subst r; exact .str b
  | .tup l, v, p, e, r => by
    simp only [py] at e
    obtain ⟨q, e1, e2⟩ := mapSome e
    subst e2
    simp only [Rep] at r
    obtain ⟨a, xs, rfl, s, r⟩ := r
    exact .tup (.inl (.inl (hf _ _ s))) (pyL_dp hf l xs q e1 r)
  | .lst l, v, p, e, r => by
    simp only [py] at e
    obtain ⟨q, e1, e2⟩ := mapSome e
    subst e2
    simp only [Rep] at r
    obtain ⟨a, xs, rfl, s, r⟩ := r
    exact .lst (.inl (.inl (hf _ _ s))) (pyL_dp hf l xs q e1 r)
  | .scr l, v, p, e, r => by
    simp only [py] at e
    obtain ⟨q, e1, e2⟩ := mapSome e
    subst e2
    simp only [Rep] at r
    obtain ⟨a, xs, rfl, s, r⟩ := r
    exact .lst (sqL_mono hf s) (pyL_dp hf l xs q e1 r)
  | .ins _ _ _, _, _, e, _ => by simp only [py] at e; cases e
  | .dK _ _, _, _, e, _ => by simp only [py] at e; cases e
  | .dT _ _, _, _, e, _ => by simp only [py] at e; cases e
  | .ref _, _, _, e, _ => by simp only [py] at e; cases e
  | .ty _, _, _, e, _ => by simp only [py] at e; cases e
  | .cls _, _, _, e, _ => by simp only [py] at e; cases e
  | .fn _, _, _, e, _ => by simp only [py] at e; cases e
theorem pyL_dp {M : Md} {w : Wd} {H : Hp} (hf : ∀ a o, w.fz a = some o → H a = some o) : ∀ (l : List D) (xs : List V) (p : List PyData), pyL l = some p → RepL M w l xs → DpAll M.K H xs p
  | [], xs, p, e, r => by simp only [pyL, Option.some.injEq] at e; subst e; simp only [RepL] at r; subst r; exact .nil
  | d :: l, xs, p, e, r => by
    simp only [pyL] at e
    simp only [RepL] at r
    obtain ⟨x, t, rfl, r1, r2⟩ := r
    split at e
    · rename_i a b e1 e2
      cases e
      exact .cons (py_dp hf d x _ e1 r1) (pyL_dp hf l t _ e2 r2)
    · cases e
end
def pyR : R → Option PyData
  | .d x => py x
  | .tmp (.lst l) => (pyL l).map .list
  | .bor _ (.lst l) => (pyL l).map .list
  | _ => none
theorem At.dp {M : Md} {H0 H : Hp} {w0 w : Wd} {σ : L2.St} {ρ : Env} {G : Sto} {r : R} {v : V} {p : PyData} (a : At M H0 w0 σ ρ H w G) (x : RX M H0 σ ρ H w r v) (e : pyR r = some p) : Dp M.K H v p := by
  cases r with
  | d y => exact py_dp a.st.fzH y v p e x
  | tmp o =>
    cases o <;> first | (cases e; done) | skip
    obtain ⟨q, e1, e2⟩ := mapSome e
    subst e2
    obtain ⟨b, xs, rfl, h, r⟩ := a.lst x rfl
    exact .lst (.inl (.inl h)) (pyL_dp a.st.fzH _ _ _ e1 r)
  | bor i o =>
    cases o <;> first | (cases e; done) | skip
    obtain ⟨q, e1, e2⟩ := mapSome e
    subst e2
    obtain ⟨b, xs, rfl, h, r⟩ := a.lst x rfl
    exact .lst (.inl (.inl h)) (pyL_dp a.st.fzH _ _ _ e1 r)
def eqG (a b : R) : Option Bool := match pyR a, pyR b with
  | some d, some e => if (SeqAt.shaped d && SeqAt.shaped e) = true then some (PyData.eqv d e) else none
  | _, _ => none
def eqR (a b : R) : Option Bool := match a, b with
  | .d (.int i), .d (.int j) => some (decide (i = j))
  | .d (.str i), .d (.str j) => some (decide (i = j))
  | .d (.bl i), .d (.bl j) => some (decide (i = j))
  | a, b => eqG a b
/-- is None, is not None; is True, is False -/
def isR (a b : R) : Option Bool := match a, b with
  | .d .non, .d .non => some true
  | .d (.int _), .d .non => some false
  | .d (.str _), .d .non => some false
  | .d (.bl _), .d .non => some false
  | .d (.tup _), .d .non => some false
  | .d (.lst _), .d .non => some false
  | .d (.scr _), .d .non => some false
  | .d (.ins _ _ _), .d .non => some false
  | .tmp _, .d .non => some false
  | .d (.bl i), .d (.bl j) => some (decide (i = j))
  | _, _ => none
def cmpI (p : Int → Int → Bool) (a b : R) : Option Bool := match a, b with
  | .d (.int i), .d (.int j) => some (p i j)
  | _, _ => none
def vb (f : R → R → Option Bool) : R → R → Option R := fun a b => (f a b).map fun k => .d (.bl k)
def nb (f : R → R → Option Bool) : R → R → Option Bool := fun a b => (f a b).map not
section
variable {X : Cx} {M : Md}
theorem dv_int {i j : Int} : decide (V.int i = V.int j) = decide (i = j) := by rw [dec_int, Bool.beq_eq_decide_eq]
theorem dv_str {i j : Str} : decide (V.str i = V.str j) = decide (i = j) := by rw [dec_str, Bool.beq_eq_decide_eq]
theorem dv_bl {i j : Bool} : decide (V.bl i = V.bl j) = decide (i = j) := by rw [dec_bl, Bool.beq_eq_decide_eq]
theorem o_cmpI {op : CmpOp} {p : Int → Int → Bool} (ho : OpR X (compareOp op) (rI0 fun i j => .bl (p i j))) : OpR X (compareOp op) (rB M (vb (cmpI p))) := by
  intro pins s σ' H x y v u Q I rx ry h
  obtain ⟨H0, w0, σ, ρ, w, G, ra, rb, r, A, xa, xb, e, q⟩ := h
  obtain ⟨k, e1, e2⟩ := mapSome e
  subst e2
  clear e
  have e := e1
  clear e1
  unfold cmpI at e
  split at e
  · cases e
    cases rx_int xa; cases rx_int xb
    exact ho pins s σ' H _ _ v u Q I rx ry ⟨_, _, rfl, rfl, A.fin q of_bl⟩
  · cases e
theorem o_lt : OpR X (compareOp .Lt) (rB M (vb (cmpI fun i j => decide (i < j)))) := o_cmpI op_lt
theorem o_le : OpR X (compareOp .LtE) (rB M (vb (cmpI fun i j => decide (i ≤ j)))) := o_cmpI op_le
theorem o_gt : OpR X (compareOp .Gt) (rB M (vb (cmpI fun i j => decide (j < i)))) := o_cmpI op_gt
theorem o_ge : OpR X (compareOp .GtE) (rB M (vb (cmpI fun i j => decide (j ≤ i)))) := o_cmpI op_ge
theorem o_eqG {a b : R} {k : Bool} {x y : V} {H0 H : Hp} {w0 w : Wd} {σ : L2.St} {ρ : Env} {G : Sto} (hK : X.K = M.K) (A : At M H0 w0 σ ρ H w G) (xa : RX M H0 σ ρ H w a x) (xb : RX M H0 σ ρ H w b y) (e : eqG a b = some k) :
    ∃ d f, Dp X.K H x d ∧ Dp X.K H y f ∧ SeqAt.shaped d = true ∧ SeqAt.shaped f = true ∧ k = PyData.eqv d f := by
  unfold eqG at e
  split at e
  · rename_i d f e1 e2
    obtain ⟨h, rfl⟩ := ifSome e
    simp only [Bool.and_eq_true] at h
    exact ⟨d, f, by rw [hK]; exact A.dp xa e1, by rw [hK]; exact A.dp xb e2, h.1, h.2, rfl⟩
  · cases e
theorem o_eq (hK : X.K = M.K) (hu : X.A.units + 64 < cLine) : OpR X (compareOp .Eq) (rB M (vb eqR)) := by
  intro pins s σ' H x y v u Q I rx ry h
  obtain ⟨H0, w0, σ, ρ, w, G, ra, rb, r, A, xa, xb, e, q⟩ := h
  obtain ⟨k, e1, e2⟩ := mapSome e
  subst e2
  clear e
  have e := e1
  clear e1
  unfold eqR at e
  split at e
  · cases e
    cases rx_int xa; cases rx_int xb
    exact op_eq pins s σ' H _ _ v u Q I rx ry ⟨rfl, by rw [dv_int]; exact A.fin q of_bl⟩
  · cases e
    cases rx_str xa; cases rx_str xb
    exact op_eq pins s σ' H _ _ v u Q I rx ry ⟨rfl, by rw [dv_str]; exact A.fin q of_bl⟩
  · cases e
    cases rx_bl xa; cases rx_bl xb
    exact op_eq pins s σ' H _ _ v u Q I rx ry ⟨rfl, by rw [dv_bl]; exact A.fin q of_bl⟩
  · obtain ⟨d, f, h1, h2, h3, h4, rfl⟩ := o_eqG hK A xa xb e
    exact op_eqD hu pins s σ' H _ _ v u Q I rx ry ⟨d, f, h1, h2, h3, h4, A.fin q of_bl⟩
theorem o_ne (hK : X.K = M.K) (hu : X.A.units + 64 < cLine) : OpR X (compareOp .NotEq) (rB M (vb (nb eqR))) := by
  intro pins s σ' H x y v u Q I rx ry h
  obtain ⟨H0, w0, σ, ρ, w, G, ra, rb, r, A, xa, xb, e, q⟩ := h
  obtain ⟨k, e1, e2⟩ := mapSome e
  subst e2
  obtain ⟨k2, e3, e4⟩ := mapSome e1
  subst e4
  clear e e1
  have e := e3
  clear e3
  unfold eqR at e
  split at e
  · cases e
    cases rx_int xa; cases rx_int xb
    exact op_ne pins s σ' H _ _ v u Q I rx ry ⟨rfl, by rw [dv_int]; exact A.fin q of_bl⟩
  · cases e
    cases rx_str xa; cases rx_str xb
    exact op_ne pins s σ' H _ _ v u Q I rx ry ⟨rfl, by rw [dv_str]; exact A.fin q of_bl⟩
  · cases e
    cases rx_bl xa; cases rx_bl xb
    exact op_ne pins s σ' H _ _ v u Q I rx ry ⟨rfl, by rw [dv_bl]; exact A.fin q of_bl⟩
  · obtain ⟨d, f, h1, h2, h3, h4, rfl⟩ := o_eqG hK A xa xb e
    exact op_neD hu pins s σ' H _ _ v u Q I rx ry ⟨d, f, h1, h2, h3, h4, A.fin q of_bl⟩
theorem isR_cases {a b : R} {k : Bool} {x y : V} {H0 H : Hp} {w0 w : Wd} {σ : L2.St} {ρ : Env} {G : Sto} (A : At M H0 w0 σ ρ H w G) (xa : RX M H0 σ ρ H w a x) (xb : RX M H0 σ ρ H w b y) (e : isR a b = some k) :
    (y = .non ∧ k = decide (x = .non)) ∨ ∃ i j, x = .bl i ∧ y = .bl j ∧ k = decide (i = j) := by
  unfold isR at e
  split at e <;> first | (cases e; done) | skip
  · cases e; cases rx_non xa; cases rx_non xb; exact .inl ⟨rfl, rfl⟩
  · cases e; cases rx_int xa; cases rx_non xb; exact .inl ⟨rfl, rfl⟩
  · cases e; cases rx_str xa; cases rx_non xb; exact .inl ⟨rfl, rfl⟩
  · cases e; cases rx_bl xa; cases rx_non xb; exact .inl ⟨rfl, rfl⟩
  · cases e; obtain ⟨p, xs, rfl, _⟩ := A.tup xa rfl; cases rx_non xb; exact .inl ⟨rfl, rfl⟩
  · cases e; obtain ⟨p, xs, rfl, _⟩ := A.lst xa rfl; cases rx_non xb; exact .inl ⟨rfl, rfl⟩
  · cases e; obtain ⟨p, xs, rfl, _⟩ := A.seq xa rfl; cases rx_non xb; exact .inl ⟨rfl, rfl⟩
  · rename_i c ns l
    cases e
    have xa : Rep M w (.ins c ns l) x := xa
    simp only [Rep] at xa
    obtain ⟨p, dx, fs, rfl, _⟩ := xa
    cases rx_non xb; exact .inl ⟨rfl, rfl⟩
  · cases e
    obtain ⟨p, rfl, _⟩ := xa
    cases rx_non xb; exact .inl ⟨rfl, rfl⟩
  · cases e; cases rx_bl xa; cases rx_bl xb; exact .inr ⟨_, _, rfl, rfl, rfl⟩
theorem o_is : OpR X (compareOp .Is) (rB M (vb isR)) := by
  intro pins s σ' H x y v u Q I rx ry h
  obtain ⟨H0, w0, σ, ρ, w, G, ra, rb, r, A, xa, xb, e, q⟩ := h
  obtain ⟨k, e1, e2⟩ := mapSome e
  subst e2
  clear e
  have e := e1
  clear e1
  rcases isR_cases A xa xb e with ⟨rfl, rfl⟩ | ⟨i, j, rfl, rfl, rfl⟩
  · exact op_isN pins s σ' H _ _ v u Q I rx ry ⟨rfl, A.fin q of_bl⟩
  · exact op_isBl pins s σ' H _ _ v u Q I rx ry ⟨i, j, rfl, rfl, A.fin q of_bl⟩
theorem o_isnot : OpR X (compareOp .IsNot) (rB M (vb (nb isR))) := by
  intro pins s σ' H x y v u Q I rx ry h
  obtain ⟨H0, w0, σ, ρ, w, G, ra, rb, r, A, xa, xb, e, q⟩ := h
  obtain ⟨k, e1, e2⟩ := mapSome e
  subst e2
  obtain ⟨k2, e3, e4⟩ := mapSome e1
  subst e4
  clear e e1
  have e := e3
  clear e3
  rcases isR_cases A xa xb e with ⟨rfl, rfl⟩ | ⟨i, j, rfl, rfl, rfl⟩
  · exact op_notN pins s σ' H _ _ v u Q I rx ry ⟨rfl, A.fin q of_bl⟩
  · exact op_notBl pins s σ' H _ _ v u Q I rx ry ⟨i, j, rfl, rfl, A.fin q of_bl⟩
def cmpF : CmpOp → Option (R → R → Option Bool)
  | .Eq => some eqR | .NotEq => some (nb eqR) | .Is => some isR | .IsNot => some (nb isR)
  | .Lt => some (cmpI fun i j => decide (i < j)) | .LtE => some (cmpI fun i j => decide (i ≤ j)) | .Gt => some (cmpI fun i j => decide (j < i)) | .GtE => some (cmpI fun i j => decide (j ≤ i))
  | _ => none
theorem cmpF_ok {op : CmpOp} {f : R → R → Option Bool} (hK : X.K = M.K) (hu : X.A.units + 64 < cLine) (h : cmpF op = some f) : OpR X (compareOp op) (rB M (vb f)) := by
  cases op <;> first | (cases h; done) | (cases h; first | exact o_eq hK hu | exact o_ne hK hu | exact o_is | exact o_isnot | exact o_lt | exact o_le | exact o_gt | exact o_ge)
theorem cmpF_mark {op : CmpOp} {f : R → R → Option Bool} (h : cmpF op = some f) (b : Expr) : behindInMarks op b = false := by
  cases op <;> first | (cases h; done) | exact nomark b
end

/-! ### tests -/
def cTv (c : Fn) : FnT := fun cf ρ G => (c cf ρ G).bind fun p => match p.1 with
  | .d (.bl b) => some (b, p.2)
  | _ => none
def cVt (c : FnT) : Fn := fun cf ρ G => (c cf ρ G).map fun p => (.d (.bl p.1), p.2)
def cAnd (a b : FnT) : FnT := fun cf ρ G => (a cf ρ G).bind fun p => if p.1 = true then b cf ρ p.2 else some (false, p.2)
def cOr (a b : FnT) : FnT := fun cf ρ G => (a cf ρ G).bind fun p => if p.1 = true then some (true, p.2) else b cf ρ p.2
def cNot (a : FnT) : FnT := fun cf ρ G => (a cf ρ G).map fun p => (!p.1, p.2)
def cIf (t : FnT) (a b : Fn) : Fn := fun cf ρ G => (t cf ρ G).bind fun p => if p.1 = true then a cf ρ p.2 else b cf ρ p.2
def cChain (f g : R → R → Option Bool) (a b c : Fn) : FnT := fun cf ρ G => (a cf ρ G).bind fun p => (b cf ρ p.2).bind fun q => (f p.1 q.1).bind fun k =>
  if k = true then (c cf ρ q.2).bind fun r => (g q.1 r.1).map (·, r.2) else some (false, q.2)
section
variable {X : Cx} {M : Md} {cf : CF} {a b c : Expr} {ca cb cc : Fn} {ta tb : FnT} {pos : Pos}
theorem tT_val (σ : L2.St) (H : Hp) (Q : Bool → Hp → Prop) (h : tT M cf (cTv ca) σ H Q) : tTest (tE M cf ca) σ H Q := by
  obtain ⟨ρ, w, G, r, G', sl, st, e, q⟩ := h
  refine (At.start sl st).run e fun ra G1 x H1 w1 e1 L1 A1 x1 => ?_
  dsimp only at e1
  cases ra with
  | d y =>
    cases y <;> first | (cases e1; done) | skip
    cases e1
    exact ⟨_, rx_bl x1, q H1 w1 L1 A1.st⟩
  | tmp _ => cases e1
  | bor _ _ => cases e1
theorem t_cmp {op : CmpOp} {f : R → R → Option Bool} (ho : OpR X (compareOp op) (rB M (vb f))) (ha : PE X a (tE M cf ca)) (hb : PE X b (tE M cf cb)) (hm : behindInMarks op b = false) : PT X (.Compare a [op] [b] pos) (tT M cf (cTv (cBin (vb f) ca cb))) :=
  ptW (pt_cmpR ho ha hb hm) fun σ H Q h => by
    obtain ⟨ρ, w, G, r, G', sl, st, e, q⟩ := h
    obtain ⟨⟨r1, G1⟩, e1, e2⟩ := bindSome e
    refine tE_bin σ H _ ⟨ρ, w, G, r1, G1, sl, st, e1, fun v H' w' L s x => ?_⟩
    dsimp only at e2
    cases r1 with
    | d y =>
      cases y <;> first | (cases e2; done) | skip
      cases e2
      exact ⟨_, rx_bl x, q H' w' L s⟩
    | tmp _ => cases e2
    | bor _ _ => cases e2
theorem x_cmp {op : CmpOp} {f : R → R → Option Bool} (ho : OpR X (compareOp op) (rB M (vb f))) (ha : PE X a (tE M cf ca)) (hb : PE X b (tE M cf cb)) (hm : behindInMarks op b = false) : PE X (.Compare a [op] [b] pos) (tE M cf (cBin (vb f) ca cb)) :=
  peW (pe_cmpR ho ha hb hm) tE_bin
theorem t_val (ha : PE X a (tE M cf ca)) (he : ∀ whole, isTrue a X.env whole = (do let v ← whole; standAt a.pos; holding [v] (truthy v))) : PT X a (tT M cf (cTv ca)) :=
  ptW (pt_val ha he) fun σ H Q h => tT_val σ H Q h
/-- a test's answer as a value -/
theorem tE_vt (σ : L2.St) (H : Hp) (Q : VK) (h : tE M cf (cVt ta) σ H Q) : tT M cf ta σ H fun k H1 => Q (.bl k) H1 := by
  obtain ⟨ρ, w, G, r, G', sl, st, e, q⟩ := h
  obtain ⟨⟨k, G1⟩, e1, e2⟩ := mapSome e
  cases e2
  exact ⟨ρ, w, G, k, G1, sl, st, e1, fun H' w' L s => q _ H' w' L s of_bl⟩
theorem t_and (σ : L2.St) (H : Hp) (Q : Bool → Hp → Prop) (h : tT M cf (cAnd ta tb) σ H Q) : tAnd (tT M cf ta) (tT M cf tb) σ H Q := by
  obtain ⟨ρ, w, G, r, G', sl, st, e, q⟩ := h
  refine (At.start sl st).runT e fun k G1 H1 w1 e1 L1 A1 => ?_
  cases k with
  | true => exact iteT ⟨ρ, w1, G1, r, G', A1.sl, A1.st, e1, fun H' w' L s => q H' w' (L1.trans L) s⟩
  | false => cases e1; exact iteF (q H1 w1 L1 A1.st)
theorem t_or (σ : L2.St) (H : Hp) (Q : Bool → Hp → Prop) (h : tT M cf (cOr ta tb) σ H Q) : tOr (tT M cf ta) (tT M cf tb) σ H Q := by
  obtain ⟨ρ, w, G, r, G', sl, st, e, q⟩ := h
  refine (At.start sl st).runT e fun k G1 H1 w1 e1 L1 A1 => ?_
  cases k with
  | false => exact iteF ⟨ρ, w1, G1, r, G', A1.sl, A1.st, e1, fun H' w' L s => q H' w' (L1.trans L) s⟩
  | true => cases e1; exact iteT (q H1 w1 L1 A1.st)
theorem t_not (σ : L2.St) (H : Hp) (Q : Bool → Hp → Prop) (h : tT M cf (cNot ta) σ H Q) : tNot (tT M cf ta) σ H Q := by
  obtain ⟨ρ, w, G, r, G', sl, st, e, q⟩ := h
  obtain ⟨⟨k, G1⟩, e1, e2⟩ := mapSome e
  cases e2
  exact ⟨ρ, w, G, k, G1, sl, st, e1, q⟩
theorem x_if (ht : PT X c (tT M cf ta)) (ha : PE X a (tE M cf ca)) (hb : PE X b (tE M cf cb)) : PE X (.IfExp c a b pos) (tE M cf (cIf ta ca cb)) :=
  peW (pe_ifExp ht ha hb) fun σ H Q h => by
    obtain ⟨ρ, w, G, r, G', sl, st, e, q⟩ := h
    refine (At.start sl st).runT e fun k G1 H1 w1 e1 L1 A1 => ?_
    have go : ∀ {cx : Fn}, cx cf ρ G1 = some (r, G') → tE M cf cx σ H1 Q := fun e => ⟨ρ, w1, G1, r, G', A1.sl, A1.st, e, fun v H' w' L s x => q v H' w' (L1.trans L) s (x.back L1)⟩
    cases k with
    | true => exact iteT (go e1)
    | false => exact iteF (go e1)
/-- a comparison of three ints -/
theorem tE_chain {p p' : Int → Int → Bool} (σ : L2.St) (H : Hp) (Q : VK) (h : tE M cf (cVt (cChain (cmpI p) (cmpI p') ca cb cc)) σ H Q) : tChain (rI0 fun i j => .bl (p i j)) (rI0 fun i j => .bl (p' i j)) (tE M cf ca) (tE M cf cb) (tE M cf cc) σ H Q := by
  obtain ⟨ρ, w, G, r, G', sl, st, e, q⟩ := h
  obtain ⟨⟨kk, G0⟩, e0, e9⟩ := mapSome e
  cases e9
  clear e
  refine (At.start sl st).run e0 fun ra G1 x H1 w1 e1 L1 A1 x1 => ?_
  refine A1.run e1 fun rb G2 y H2 w2 e2 L2 A2 x2 => ?_
  obtain ⟨k, e3, e4⟩ := bindSome e2
  dsimp only at e3 e4
  unfold cmpI at e3
  split at e3
  · rename_i i j
    cases e3
    cases rx_int (x1.lat L2); cases rx_int x2
    refine ⟨i, j, rfl, rfl, p i j, rfl, ?_⟩
    by_cases hk : p i j = true
    · rw [if_pos hk] at e4 ⊢
      refine A2.run e4 fun rc G3 z H3 w3 e5 L3 A3 x3 => ?_
      obtain ⟨k', e6, e7⟩ := mapSome e5
      cases e7
      cases rc with
      | d y =>
        cases y <;> first | (cases e6; done) | skip
        rename_i l
        cases e6
        have ez := rx_int x3
        subst ez
        exact ⟨j, l, rfl, rfl, A3.fin q of_bl⟩
      | tmp _ => cases e6
      | bor _ _ => cases e6
    · rw [if_neg hk] at e4 ⊢
      cases e4
      exact A2.fin q of_bl
  · cases e3
theorem x_chain {op op' : CmpOp} {p p' : Int → Int → Bool} (ho : OpR X (compareOp op) (rI0 fun i j => .bl (p i j))) (ho' : OpR X (compareOp op') (rI0 fun i j => .bl (p' i j))) (ha : PE X a (tE M cf ca)) (hb : PE X b (tE M cf cb)) (hc : PE X c (tE M cf cc))
    (hm : lastMarks [op, op'] [b, c] = false) : PE X (.Compare a [op, op'] [b, c] pos) (tE M cf (cVt (cChain (cmpI p) (cmpI p') ca cb cc))) :=
  peW (pe_chain ho ho' ha hb hc hm) tE_chain
theorem t_chain {op op' : CmpOp} {p p' : Int → Int → Bool} (ho : OpR X (compareOp op) (rI0 fun i j => .bl (p i j))) (ho' : OpR X (compareOp op') (rI0 fun i j => .bl (p' i j))) (ha : PE X a (tE M cf ca)) (hb : PE X b (tE M cf cb)) (hc : PE X c (tE M cf cc))
    (hm : lastMarks [op, op'] [b, c] = false) : PT X (.Compare a [op, op'] [b, c] pos) (tT M cf (cChain (cmpI p) (cmpI p') ca cb cc)) :=
  ptW (pt_chain ho ho' ha hb hc hm) fun σ H Q h => by
    refine tE_chain σ H _ ?_
    obtain ⟨ρ, w, G, r, G', sl, st, e, q⟩ := h
    exact ⟨ρ, w, G, .d (.bl r), G', sl, st, by unfold cVt; rw [e]; rfl, fun v H' w' L s x => ⟨r, rx_bl x, q H' w' L s⟩⟩
def ordF : CmpOp → Option (Int → Int → Bool)
  | .Lt => some fun i j => decide (i < j) | .LtE => some fun i j => decide (i ≤ j) | .Gt => some fun i j => decide (j < i) | .GtE => some fun i j => decide (j ≤ i)
  | _ => none
theorem ordF_ok {op : CmpOp} {p : Int → Int → Bool} (h : ordF op = some p) : OpR X (compareOp op) (rI0 fun i j => .bl (p i j)) := by
  cases op <;> first | (cases h; done) | (cases h; first | exact op_lt | exact op_le | exact op_gt | exact op_ge)
theorem ordF_mark {op op' : CmpOp} {p p' : Int → Int → Bool} (h : ordF op = some p) (h' : ordF op' = some p') (b c : Expr) : lastMarks [op, op'] [b, c] = false := by
  have e : lastMarks [op, op'] [b, c] = behindInMarks op' c := rfl
  rw [e]
  cases op' <;> first | (cases h'; done) | exact nomark c
/-- -a -/
def negR (a : R) : Option R := match a with
  | .d (.int i) => some (.d (.int (-i)))
  | _ => none
def cUn (f : R → Option R) (a : Fn) : Fn := fun cf ρ G => (a cf ρ G).bind fun p => (f p.1).map (·, p.2)
theorem x_neg (ha : PE X a (tE M cf ca)) : PE X (.UnaryOp .USub a pos) (tE M cf (cUn negR ca)) :=
  peW (pe_un un_neg ha) fun σ H Q h => by
    obtain ⟨ρ, w, G, r, G', sl, st, e, q⟩ := h
    refine (At.start sl st).run e fun ra G1 x H1 w1 e1 L1 A1 x1 => ?_
    obtain ⟨r', e2, e3⟩ := mapSome e1
    cases e3
    dsimp only at e2
    unfold negR at e2
    split at e2
    · cases e2
      cases rx_int x1
      exact ⟨_, rfl, A1.fin q of_int⟩
    · cases e2
/-! and, or, not as values: of tests -/
theorem x_and1 {op : BoolOp} (ha : PE X a (tE M cf (cVt ta))) : PE X (.BoolOp op [a] pos) (tE M cf (cVt ta)) := pe_one ha
theorem x_and {rest : List Expr} (ha : PE X a (tE M cf (cVt ta))) (hb : PE X (.BoolOp .And (b :: rest) pos) (tE M cf (cVt tb))) : PE X (.BoolOp .And (a :: b :: rest) pos) (tE M cf (cVt (cAnd ta tb))) :=
  peW (pe_and ha hb) fun σ H Q h => by
    obtain ⟨ρ, w, G, r, G', sl, st, e, q⟩ := h
    obtain ⟨⟨kk, G0⟩, e0, e9⟩ := mapSome e
    cases e9
    obtain ⟨⟨k, G1⟩, e1, e2⟩ := bindSome e0
    refine ⟨ρ, w, G, .d (.bl k), G1, sl, st, by unfold cVt; rw [e1]; rfl, fun v H1 w1 L1 s1 x1 => ⟨k, rx_bl x1, ?_⟩⟩
    have A1 := (At.start sl st).step L1 s1
    dsimp only at e2
    cases k with
    | true =>
      rw [if_pos rfl] at e2 ⊢
      exact ⟨ρ, w1, G1, .d (.bl kk), G0, A1.sl, s1, by unfold cVt; rw [e2]; rfl, fun v H' w' L s x => q v H' w' (L1.trans L) s x⟩
    | false => cases e2; rw [if_neg Bool.false_ne_true]; exact A1.fin q of_bl
theorem x_or {rest : List Expr} (ha : PE X a (tE M cf (cVt ta))) (hb : PE X (.BoolOp .Or (b :: rest) pos) (tE M cf (cVt tb))) : PE X (.BoolOp .Or (a :: b :: rest) pos) (tE M cf (cVt (cOr ta tb))) :=
  peW (pe_or ha hb) fun σ H Q h => by
    obtain ⟨ρ, w, G, r, G', sl, st, e, q⟩ := h
    obtain ⟨⟨kk, G0⟩, e0, e9⟩ := mapSome e
    cases e9
    obtain ⟨⟨k, G1⟩, e1, e2⟩ := bindSome e0
    refine ⟨ρ, w, G, .d (.bl k), G1, sl, st, by unfold cVt; rw [e1]; rfl, fun v H1 w1 L1 s1 x1 => ⟨k, rx_bl x1, ?_⟩⟩
    have A1 := (At.start sl st).step L1 s1
    dsimp only at e2
    cases k with
    | false =>
      rw [if_neg Bool.false_ne_true] at e2 ⊢
      exact ⟨ρ, w1, G1, .d (.bl kk), G0, A1.sl, s1, by unfold cVt; rw [e2]; rfl, fun v H' w' L s x => q v H' w' (L1.trans L) s x⟩
    | true => cases e2; rw [if_pos rfl]; exact A1.fin q of_bl
theorem x_not (ha : PE X a (tE M cf (cVt ta))) : PE X (.UnaryOp .Not a pos) (tE M cf (cVt (cNot ta))) :=
  peW (pe_not ha) fun σ H Q h => by
    obtain ⟨ρ, w, G, r, G', sl, st, e, q⟩ := h
    obtain ⟨⟨kk, G0⟩, e0, e9⟩ := mapSome e
    cases e9
    obtain ⟨⟨k, G1⟩, e1, e2⟩ := mapSome e0
    cases e2
    exact ⟨ρ, w, G, .d (.bl k), G1, sl, st, by unfold cVt; rw [e1]; rfl, fun v H1 w1 L1 s1 x1 => ⟨k, rx_bl x1, q _ H1 w1 L1 s1 of_bl⟩⟩
/-- a value known as a test's answer -/
theorem x_tv (ha : PE X a (tE M cf ca)) : PE X a (tE M cf (cVt (cTv ca))) :=
  peW ha fun σ H Q h => by
    obtain ⟨ρ, w, G, r, G', sl, st, e, q⟩ := h
    obtain ⟨⟨kk, G0⟩, e0, e9⟩ := mapSome e
    cases e9
    obtain ⟨⟨r1, G1⟩, e1, e2⟩ := bindSome e0
    dsimp only at e2
    cases r1 with
    | d y =>
      cases y <;> first | (cases e2; done) | skip
      cases e2
      exact ⟨ρ, w, G, _, _, sl, st, e1, q⟩
    | tmp _ => cases e2
    | bor _ _ => cases e2
end
end Lp

namespace Lp
open PySem PySem.Spec PyProof.Rows L2

/-! ### argument lists, displays -/
def isStar : Expr → Bool
  | .Starred _ _ => true
  | _ => false
theorem starEach_plain {e : Expr} {es : List Expr} {env : PySem.Env} (h : isStar e = false) : starEach (e :: es) env = (false, eval e env) :: starEach es env := by
  cases e <;> first | rfl | cases h
theorem starEach_any {pos : Pos} {env : PySem.Env} : ∀ {es : List Expr}, es.any isStar = false → (backTo pos (starEach es env)).any (·.1) = false
  | [], _ => rfl
  | e :: es, h => by
    rw [List.any_cons, Bool.or_eq_false_iff] at h
    rw [starEach_plain h.1]
    show (false || (backTo pos (starEach es env)).any (·.1)) = false
    rw [Bool.false_or]
    exact starEach_any h.2
def cNil : FnL := fun _ _ G => some ([], G)
def cCons (a : Fn) (r : FnL) : FnL := fun cf ρ G => (a cf ρ G).bind fun p => (frz p.1).bind fun d => (r cf ρ p.2).bind fun q => some (d :: q.1, q.2)
def itemsOf : R → Option (List D)
  | .d (.tup l) => some l
  | r => seqOf r
def cStar (a : Fn) (r : FnL) : FnL := fun cf ρ G => (a cf ρ G).bind fun p => (itemsOf p.1).bind fun l => (r cf ρ p.2).bind fun q => some (l ++ q.1, q.2)
section
variable {M : Md} {cf : CF} {H0 H : Hp} {w0 w : Wd} {σ : L2.St} {ρ : Env} {G : Sto}
theorem At.items {r : R} {v : V} {l : List D} (a : At M H0 w0 σ ρ H w G) (x : RX M H0 σ ρ H w r v) (e : itemsOf r = some l) : ∃ p xs, v = .ref p ∧ (SqT M.K H p xs ∨ SqL M.K H p xs) ∧ RepL M w l xs := by
  unfold itemsOf at e
  split at e
  · cases e
    obtain ⟨p, xs, rfl, h, _, r⟩ := a.tup x rfl
    exact ⟨p, xs, rfl, .inl h, r⟩
  · obtain ⟨p, xs, rfl, h, r⟩ := a.seq x e
    exact ⟨p, xs, rfl, .inr h, r⟩
end
section
variable {X : Cx} {M : Md} {cf : CF} {a b c : Expr} {es : List Expr} {ca cb cc : Fn} {cl : FnL} {pos : Pos}
theorem x_nil : PA X [] (tA M cf cNil) := paW pa_nil fun σ H Q h => by
  obtain ⟨ρ, w, G, l, G', sl, st, e, q⟩ := h
  cases e
  exact q [] H w (Lat.refl H w) st RepL.nil
theorem x_cons (ha : PE X a (tE M cf ca)) (hr : PA X es (tA M cf cl)) (hs : isStar a = false) : PA X (a :: es) (tA M cf (cCons ca cl)) := paW (pa_cons ha hr (starEach_plain hs)) fun σ H Q h => by
  obtain ⟨ρ, w, G, l, G', sl, st, e, q⟩ := h
  refine (At.start sl st).run e fun ra G1 x H1 w1 e1 L1 A1 x1 => ?_
  obtain ⟨d, e2, e3⟩ := bindSome e1
  obtain ⟨w1', A1', r1, L1'⟩ := A1.frz x1 e2
  refine A1'.runA e3 fun l2 G2 vs H2 w2 e4 L2 A2 r2 => ?_
  cases e4
  exact q _ H2 w2 A2.lat A2.st (RepL.cons (r1.lat L2) r2)
theorem x_star {p : Pos} (hK : X.K = M.K) (ha : PE X a (tE M cf ca)) (hr : PA X es (tA M cf cl)) : PA X (.Starred a p :: es) (tA M cf (cStar ca cl)) := paW (StX.pa_star ha hr) fun σ H Q h => by
  obtain ⟨ρ, w, G, l, G', sl, st, e, q⟩ := h
  refine (At.start sl st).run e fun ra G1 x H1 w1 e1 L1 A1 x1 => ?_
  obtain ⟨l1, e2, e3⟩ := bindSome e1
  obtain ⟨p, xs, rfl, hx, r1⟩ := A1.items x1 e2
  refine ⟨p, xs, rfl, by rw [hK]; exact hx, ?_⟩
  refine A1.runA e3 fun l2 G2 vs H2 w2 e4 L2 A2 r2 => ?_
  cases e4
  exact q _ H2 w2 A2.lat A2.st ((r1.lat L2).append r2)
def cTup (c : FnL) : Fn := fun cf ρ G => (c cf ρ G).bind fun p => if p.1.length ≤ sz then some (.d (.tup p.1), p.2) else none
def cLst (c : FnL) : Fn := fun cf ρ G => (c cf ρ G).bind fun p => if p.1.length ≤ sz then some (.tmp (.lst p.1), p.2) else none
theorem x_tup {k} (h : PA X es (tA M cf cl)) : PE X (.Tuple es k pos) (tE M cf (cTup cl)) := peW (pe_tup h) fun σ H Q h => by
  obtain ⟨ρ, w, G, r, G', sl, st, e, q⟩ := h
  refine (At.start sl st).runA e fun l G1 vs H1 w1 e1 L1 A1 r1 => ?_
  obtain ⟨hz, e2⟩ := ifSome e1
  cases e2
  exact ⟨by rw [← r1.length]; exact sz_line hz, fun p hp => A1.newTup q hp r1⟩
theorem x_lst (h : PA X es (tA M cf cl)) : PE X (.List es pos) (tE M cf (cLst cl)) := peW (pe_lst h) fun σ H Q h => by
  obtain ⟨ρ, w, G, r, G', sl, st, e, q⟩ := h
  refine (At.start sl st).runA e fun l G1 vs H1 w1 e1 L1 A1 r1 => ?_
  obtain ⟨hz, e2⟩ := ifSome e1
  cases e2
  exact ⟨by rw [← r1.length]; exact sz_line hz, fun p hp => A1.newLst q hp r1⟩

/-! ### operations that look at the shared objects -/
def rG (M : Md) (f : R → R → Sto → Option R) : R2 := fun x y H Q => ∃ H0 w0 σ ρ w G ra rb r, At M H0 w0 σ ρ H w G ∧ RX M H0 σ ρ H w ra x ∧ RX M H0 σ ρ H w rb y ∧ f ra rb G = some r ∧ Post M H0 w0 σ ρ r G Q
def cBinG (f : R → R → Sto → Option R) (a b : Fn) : Fn := fun cf ρ G => (a cf ρ G).bind fun p => (b cf ρ p.2).bind fun q => (f p.1 q.1 q.2).map (·, q.2)
theorem tE_binG {f : R → R → Sto → Option R} (σ : L2.St) (H : Hp) (Q : VK) (h : tE M cf (cBinG f ca cb) σ H Q) : tOp (rG M f) (tE M cf ca) (tE M cf cb) σ H Q := by
  obtain ⟨ρ, w, G, r, G', sl, st, e, q⟩ := h
  refine (At.start sl st).run e fun ra G1 x H1 w1 e1 L1 A1 x1 => ?_
  refine A1.run e1 fun rb G2 y H2 w2 e2 L2 A2 x2 => ?_
  obtain ⟨r', e3, e4⟩ := mapSome e2
  cases e4
  exact ⟨H, w, σ, ρ, w2, _, ra, rb, r, A2, x1.lat L2, x2, e3, q⟩
theorem At.ref {H0 H : Hp} {w0 w : Wd} {σ : L2.St} {ρ : Env} {G : Sto} {n : Nat} {v : V} {o : Ob} (A : At M H0 w0 σ ρ H w G) (x : RX M H0 σ ρ H w (.d (.ref n)) v) (e : G[n]? = some o) : ∃ a, v = .ref a ∧ w.al[n]? = some a ∧ ObAt M w H a o ∧ w.fz a = none := by
  have x : Rep M w (.ref n) v := x
  simp only [Rep] at x
  obtain ⟨a, rfl, ha⟩ := x
  obtain ⟨q, z⟩ := A.st.at_ n o a e ha
  exact ⟨a, rfl, ha, q, z⟩
/-- the items of a list that is read, also of a shared one -/
def seqG (r : R) (G : Sto) : Option (List D) := match r with
  | .d (.ref n) => match G[n]? with
    | some (.lst l) => some l
    | _ => none
  | r => seqOf r
theorem At.seqG {H0 H : Hp} {w0 w : Wd} {σ : L2.St} {ρ : Env} {G : Sto} {r : R} {v : V} {l : List D} (a : At M H0 w0 σ ρ H w G) (x : RX M H0 σ ρ H w r v) (e : seqG r G = some l) : ∃ p xs, v = .ref p ∧ SqL M.K H p xs ∧ RepL M w l xs := by
  unfold Lp.seqG at e
  split at e
  · split at e
    · rename_i n l' e1
      cases e
      obtain ⟨p, rfl, _, ⟨xs, h, r⟩, _⟩ := a.ref x e1
      exact ⟨p, xs, rfl, .inl (.inl h), r⟩
    · cases e
  · exact a.seq x e
theorem atI_rep {w : Wd} {l : List D} {xs : List V} {i : Int} {d : D} (r : RepL M w l xs) (e : atI l i = some d) : ∃ x, atI xs i = some x ∧ Rep M w d x := by
  unfold atI at e ⊢
  rw [← r.length]
  cases z : ixN l.length i with
  | none => rw [z] at e; cases e
  | some j =>
    rw [z] at e
    have e : l[j]? = some d := e
    exact r.getD e
def ixR (a b : R) (G : Sto) : Option R := match b with
  | .d (.int i) => match a with
    | .d (.tup l) => (atI l i).map .d
    | .d (.str s) => if s.length ≤ sz then (atI s.cps.toList i).map fun c => .d (.str ⟨#[c]⟩) else none
    | a => (seqG a G).bind fun l => (atI l i).map .d
  | _ => none
theorem o_ix (hK : X.K = M.K) : IxR X (rG M ixR) := by
  intro va sc pins s σ' H x y v u Q I rx ry h hs
  obtain ⟨H0, w0, σ, ρ, w, G, ra, rb, r, A, xa, xb, e, q⟩ := h
  unfold ixR at e
  split at e
  · rename_i i
    cases rx_int xb
    split at e
    · obtain ⟨d, e1, rfl⟩ := mapSome e
      obtain ⟨p, xs, rfl, h1, f1, r1⟩ := A.tup xa rfl
      obtain ⟨z, e2, r2⟩ := atI_rep r1 e1
      refine ix_tup va sc pins s σ' H _ _ v u Q I rx ry ⟨p, xs, _, z, rfl, rfl, by rw [hK]; exact h1, e2, A.fin q r2⟩ hs
    · obtain ⟨hz, e⟩ : _ ∧ _ := by
        split at e
        · rename_i hz; exact ⟨hz, e⟩
        · cases e
      obtain ⟨c, e1, rfl⟩ := mapSome e
      cases rx_str xa
      refine ix_str va sc pins s σ' H _ _ v u Q I rx ry ⟨_, _, c, rfl, rfl, sz_line hz, e1, A.fin q of_str⟩ hs
    · obtain ⟨l, e0, e9⟩ := bindSome e
      obtain ⟨d, e1, rfl⟩ := mapSome e9
      obtain ⟨p, xs, rfl, h1, r1⟩ := A.seqG xa e0
      obtain ⟨z, e2, r2⟩ := atI_rep r1 e1
      refine ix_list va sc pins s σ' H _ _ v u Q I rx ry ⟨p, xs, _, z, rfl, rfl, by rw [hK]; exact h1, e2, A.fin q r2⟩ hs
  · cases e
def isSlice : Expr → Bool
  | .Slice _ _ _ _ => true
  | _ => false
theorem plainIx {b : Expr} (h : isSlice b = false) : PlainIx b := fun o i => by
  cases b <;> first | rfl | cases h
theorem x_ix (hK : X.K = M.K) (ha : PE X a (tE M cf ca)) (hb : PE X b (tE M cf cb)) (hs : isSlice b = false) : PE X (.Subscript a b pos) (tE M cf (cBinG ixR ca cb)) :=
  peW (pe_ix (o_ix hK) ha hb (plainIx hs)) tE_binG

/-! ### slices -/
def cutD (l : List D) (lo hi : Option Int) : List D := (l.drop (HT.sIx l.length 0 lo)).take (HT.sIx l.length l.length hi - HT.sIx l.length 0 lo)
theorem cutD_rep {w : Wd} {l : List D} {xs : List V} (r : RepL M w l xs) (lo hi : Option Int) : RepL M w (cutD l lo hi) (cutV xs lo hi) := by
  unfold cutD cutV
  rw [← r.length]
  exact (r.drop _).take _
abbrev FnO := CF → Env → Sto → Option (Option Int × Sto)
def tO (M : Md) (cf : CF) (c : FnO) : TO := fun σ H Q => ∃ ρ w G l G', SlOk M H w σ ρ ∧ StOk M H w G ∧ c cf ρ G = some (l, G') ∧ ∀ H' w', Lat H w H' w' → StOk M H' w' G' → Q l H'
def cNo : FnO := fun _ _ G => some (none, G)
def cPart (a : Fn) : FnO := fun cf ρ G => (a cf ρ G).bind fun p => match p.1 with
  | .d (.int i) => some (some i, p.2)
  | _ => none
theorem x_no : PO X none (tO M cf cNo) := ⟨fun pins s σ H Q I h => po_none.run pins s σ H Q I (by
  obtain ⟨ρ, w, G, l, G', sl, st, e, q⟩ := h
  cases e
  exact q H w (Lat.refl H w) st)⟩
theorem x_part (ha : PE X a (tE M cf ca)) : PO X (some a) (tO M cf (cPart ca)) := ⟨fun pins s σ H Q I h => (po_some ha).run pins s σ H Q I (by
  obtain ⟨ρ, w, G, l, G', sl, st, e, q⟩ := h
  refine (At.start sl st).run e fun ra G1 x H1 w1 e1 L1 A1 x1 => ?_
  cases ra with
  | d y =>
    cases y <;> first | (cases e1; done) | skip
    cases e1
    have ez := rx_int x1
    subst ez
    exact ⟨_, rfl, q H1 w1 L1 A1.st⟩
  | tmp _ => cases e1
  | bor _ _ => cases e1)⟩
def slR (r : R) (lo hi : Option Int) : Option R := match r with
  | .d (.tup l) => some (.d (.tup (cutD l lo hi)))
  | r => (seqOf r).map fun l => .tmp (.lst (cutD l lo hi))
def cSl (a : Fn) (lo hi : FnO) : Fn := fun cf ρ G => (a cf ρ G).bind fun p => (lo cf ρ p.2).bind fun l => (hi cf ρ l.2).bind fun h => (slR p.1 l.1 h.1).map (·, h.2)
def rSl (M : Md) : V → Option Int → Option Int → Hp → VK → Prop := fun x lo hi H Q => ∃ H0 w0 σ ρ w G ra r, At M H0 w0 σ ρ H w G ∧ RX M H0 σ ρ H w ra x ∧ slR ra lo hi = some r ∧ Post M H0 w0 σ ρ r G Q
theorem o_sl (hK : X.K = M.K) : SlR X (rSl M) := by
  intro pins s σ' H x v vl vu lo hi sl Q I rx hs pl pu h
  obtain ⟨H0, w0, σ, ρ, w, G, ra, r, A, xa, e, q⟩ := h
  unfold slR at e
  split at e
  · cases e
    obtain ⟨p, xs, rfl, h1, f1, r1⟩ := A.tup xa rfl
    refine sl_tupA pins s σ' H _ v vl vu lo hi sl Q I rx hs pl pu ⟨p, xs, rfl, by rw [hK]; exact h1, fun hw => ?_, fun _ p' hp => A.newTup q hp (cutD_rep r1 lo hi)⟩
    refine A.fin q (of_tup f1 ?_)
    have z := cutD_rep r1 lo hi
    have : cutV xs lo hi = xs := by
      unfold cutV
      rw [hw.1, hw.2, List.drop_zero, Nat.sub_zero, List.take_length]
    rwa [this] at z
  · obtain ⟨l, e1, rfl⟩ := mapSome e
    obtain ⟨p, xs, rfl, h1, r1⟩ := A.seq xa e1
    exact sl_list pins s σ' H _ v vl vu lo hi sl Q I rx hs pl pu ⟨p, xs, rfl, by rw [hK]; exact h1, fun p' hp => A.newLst q hp (cutD_rep r1 lo hi)⟩
theorem x_sl {lo hi : Option Expr} {cl ch : FnO} {p2 : Pos} (hK : X.K = M.K) (ha : PE X a (tE M cf ca)) (hl : PO X lo (tO M cf cl)) (hh : PO X hi (tO M cf ch)) : PE X (.Subscript a (.Slice lo hi none p2) pos) (tE M cf (cSl ca cl ch)) :=
  peW (pe_slice (o_sl hK) ha hl hh) fun σ H Q h => by
    obtain ⟨ρ, w, G, r, G', sl, st, e, q⟩ := h
    refine (At.start sl st).run e fun ra G1 x H1 w1 e1 L1 A1 x1 => ?_
    obtain ⟨⟨lo', G2⟩, e2, e3⟩ := bindSome e1
    refine ⟨ρ, w1, G1, lo', G2, A1.sl, A1.st, e2, fun H2 w2 L2 s2 => ?_⟩
    have A2 := A1.step L2 s2
    obtain ⟨⟨hi', G3⟩, e4, e5⟩ := bindSome e3
    refine ⟨ρ, w2, G2, hi', G3, A2.sl, A2.st, e4, fun H3 w3 L3 s3 => ?_⟩
    have A3 := A2.step L3 s3
    obtain ⟨r', e6, e7⟩ := mapSome e5
    cases e7
    exact ⟨H, w, σ, ρ, w3, _, ra, r, A3, (x1.lat L2).lat L3, e6, q⟩
/-- xs[::-1], a list -/
def revR (r : R) : Option R := (seqOf r).map fun l => .tmp (.lst l.reverse)
theorem x_rev {k : Nat} {p1 p2 p3 : Pos} (hK : X.K = M.K) (ha : PE X a (tE M cf ca)) : PE X (.Subscript a (.Slice none none (some (.UnaryOp .USub (.Constant (.int 1) k p1) p2)) p3) pos) (tE M cf (cUn revR ca)) :=
  peW (pe_revL ha) fun σ H Q h => by
    obtain ⟨ρ, w, G, r, G', sl, st, e, q⟩ := h
    refine (At.start sl st).run e fun ra G1 x H1 w1 e1 L1 A1 x1 => ?_
    obtain ⟨r', e2, e3⟩ := mapSome e1
    cases e3
    obtain ⟨l, e4, e5⟩ := mapSome e2
    subst e5
    obtain ⟨p, xs, rfl, h1, r1⟩ := A1.seq x1 e4
    exact ⟨p, xs, rfl, by rw [hK]; exact h1, fun p' hp => A1.newLst q hp r1.reverse⟩
end
end Lp

namespace Lp
open PySem PySem.Spec PyProof.Rows L2

/-! ### built-ins of one argument, of two -/
def r1 (M : Md) (f : R → Sto → Option R) : List V → Hp → VK → Prop := fun xs H Q => ∃ H0 w0 σ ρ w G ra r x, xs = [x] ∧ At M H0 w0 σ ρ H w G ∧ RX M H0 σ ρ H w ra x ∧ f ra G = some r ∧ Post M H0 w0 σ ρ r G Q
def r2 (M : Md) (f : R → R → Sto → Option R) : List V → Hp → VK → Prop := fun xs H Q => ∃ H0 w0 σ ρ w G ra rb r x y, xs = [x, y] ∧ At M H0 w0 σ ρ H w G ∧ RX M H0 σ ρ H w ra x ∧ RX M H0 σ ρ H w rb y ∧ f ra rb G = some r ∧ Post M H0 w0 σ ρ r G Q
def cUnG (f : R → Sto → Option R) (a : Fn) : Fn := fun cf ρ G => (a cf ρ G).bind fun p => (f p.1 p.2).map (·, p.2)
section
variable {X : Cx} {M : Md} {cf : CF} {a b c : Expr} {es : List Expr} {ca cb cc : Fn} {cl : FnL} {pos p : Pos} {x : Str}
theorem tE_c1 {f : R → Sto → Option R} (σ : L2.St) (H : Hp) (Q : VK) (h : tE M cf (cUnG f ca) σ H Q) : tCB (r1 M f) (tCons (tE M cf ca) tNil) σ H Q := by
  obtain ⟨ρ, w, G, r, G', sl, st, e, q⟩ := h
  refine (At.start sl st).run e fun ra G1 x H1 w1 e1 L1 A1 x1 => ?_
  obtain ⟨r', e3, e4⟩ := mapSome e1
  cases e4
  exact ⟨H, w, σ, ρ, w1, _, ra, r, x, rfl, A1, x1, e3, q⟩
theorem tE_c2 {f : R → R → Sto → Option R} (σ : L2.St) (H : Hp) (Q : VK) (h : tE M cf (cBinG f ca cb) σ H Q) : tCB (r2 M f) (tCons (tE M cf ca) (tCons (tE M cf cb) tNil)) σ H Q := by
  obtain ⟨ρ, w, G, r, G', sl, st, e, q⟩ := h
  refine (At.start sl st).run e fun ra G1 x H1 w1 e1 L1 A1 x1 => ?_
  refine A1.run e1 fun rb G2 y H2 w2 e2 L2 A2 x2 => ?_
  obtain ⟨r', e3, e4⟩ := mapSome e2
  cases e4
  exact ⟨H, w, σ, ρ, w2, _, ra, rb, r, x, y, rfl, A2, x1.lat L2, x2, e3, q⟩
theorem x_b1 {f : R → Sto → Option R} {id : String} (hc : CallR X (.builtin id) (r1 M f)) (hg : Gl X x) (hm : X.mg x = none) (hv : bootBuiltins x = some (.builtin id)) (ha : PE X a (tE M cf ca)) (hs : isStar a = false) (hn : x ≠ "__name__") (hdb : (x == ("__debug__" : Str)) = false) :
    PE X (.Call (.Name x p) [a] [] pos) (tE M cf (cUnG f ca)) := peW (pe_callB hc hg hm hv (pa_cons ha pa_nil (starEach_plain hs)) hn hdb (starEach_plain hs) rfl) tE_c1
theorem x_t1 {f : R → Sto → Option R} {T : String} (hc : CallR X (.type T) (r1 M f)) (hg : Gl X x) (hm : X.mg x = none) (hv : bootBuiltins x = some (.type T)) (ha : PE X a (tE M cf ca)) (hs : isStar a = false) (hn : x ≠ "__name__") (hdb : (x == ("__debug__" : Str)) = false) :
    PE X (.Call (.Name x p) [a] [] pos) (tE M cf (cUnG f ca)) := peW (pe_callTy hc hg hm hv (pa_cons ha pa_nil (starEach_plain hs)) hn hdb (starEach_plain hs) rfl) tE_c1
theorem any1 {env : PySem.Env} (hs : isStar b = false) : (backTo pos (starEach [b] env)).any (·.1) = false := starEach_any (by rw [List.any_cons, hs]; rfl)
theorem x_b2 {f : R → R → Sto → Option R} {id : String} (hc : CallR X (.builtin id) (r2 M f)) (hg : Gl X x) (hm : X.mg x = none) (hv : bootBuiltins x = some (.builtin id)) (ha : PE X a (tE M cf ca)) (hb : PE X b (tE M cf cb)) (hs : isStar a = false) (hs2 : isStar b = false) (hn : x ≠ "__name__") (hdb : (x == ("__debug__" : Str)) = false) :
    PE X (.Call (.Name x p) [a, b] [] pos) (tE M cf (cBinG f ca cb)) := peW (pe_callB hc hg hm hv (pa_cons ha (pa_cons hb pa_nil (starEach_plain hs2)) (starEach_plain hs)) hn hdb (starEach_plain hs) (any1 hs2)) tE_c2

/-! ### which -/
def lenR (r : R) (G : Sto) : Option R := match r with
  | .d (.str s) => if s.length ≤ sz then some (.d (.int s.length)) else none
  | .d (.tup l) => some (.d (.int l.length))
  | r => (seqG r G).map fun l => .d (.int l.length)
theorem c_len (hK : X.K = M.K) : CallR X (.builtin "len") (r1 M lenR) := by
  intro pins s σ' H xs us Q I rx h
  obtain ⟨H0, w0, σ, ρ, w, G, ra, r, x, rfl, A, xa, e, q⟩ := h
  unfold lenR at e
  split at e
  · obtain ⟨hz, rfl⟩ := ifSome e
    cases rx_str xa
    exact call_len pins s σ' H _ us Q I rx ⟨_, _, rfl, ⟨sz_line hz, rfl⟩, A.fin q of_int⟩
  · cases e
    obtain ⟨p, xs, rfl, h1, f1, r1⟩ := A.tup xa rfl
    exact call_len pins s σ' H _ us Q I rx ⟨_, xs.length, rfl, .inr ⟨xs, by rw [hK]; exact h1, rfl⟩, A.fin q (by rw [r1.length]; exact of_int)⟩
  · obtain ⟨l, e1, rfl⟩ := mapSome e
    obtain ⟨p, xs, rfl, h1, r1⟩ := A.seqG xa e1
    exact call_len pins s σ' H _ us Q I rx ⟨_, xs.length, rfl, .inl ⟨xs, by rw [hK]; exact h1, rfl⟩, A.fin q (by rw [r1.length]; exact of_int)⟩
def intsOf : List D → Option (List Int)
  | [] => some []
  | .int i :: l => (intsOf l).map (i :: ·)
  | _ :: _ => none
theorem intsOf_rep {w : Wd} : ∀ {l : List D} {xs : List V} {ns : List Int}, RepL M w l xs → intsOf l = some ns → xs = ns.map V.int
  | [], xs, ns, r, e => by simp only [RepL] at r; subst r; cases e; rfl
  | d :: l, xs, ns, r, e => by
    simp only [RepL] at r
    obtain ⟨x, t, rfl, r1, r2⟩ := r
    cases d <;> first | (cases e; done) | skip
    obtain ⟨ms, e1, rfl⟩ := mapSome e
    simp only [Rep] at r1
    rw [r1, intsOf_rep r2 e1]
    rfl
theorem RepL.ints {w : Wd} : ∀ ns : List Int, RepL M w (ns.map D.int) (ns.map V.int)
  | [] => RepL.nil
  | n :: ns => RepL.cons (by simp only [Rep]) (RepL.ints ns)
def bsOf : List D → Option (List Bool)
  | [] => some []
  | .bl i :: l => (bsOf l).map (i :: ·)
  | _ :: _ => none
theorem bsOf_rep {w : Wd} : ∀ {l : List D} {xs : List V} {ns : List Bool}, RepL M w l xs → bsOf l = some ns → xs = ns.map V.bl
  | [], xs, ns, r, e => by simp only [RepL] at r; subst r; cases e; rfl
  | d :: l, xs, ns, r, e => by
    simp only [RepL] at r
    obtain ⟨x, t, rfl, r1, r2⟩ := r
    cases d <;> first | (cases e; done) | skip
    obtain ⟨ms, e1, rfl⟩ := mapSome e
    simp only [Rep] at r1
    rw [r1, bsOf_rep r2 e1]
    rfl
def sumR (r : R) (G : Sto) : Option R := ((seqG r G).bind intsOf).map fun ns => .d (.int ns.sum)
theorem c_sum (hK : X.K = M.K) (hc : X.calm = true) : CallR X (.builtin "sum") (r1 M sumR) := by
  intro pins s σ' H xs us Q I rx h
  obtain ⟨H0, w0, σ, ρ, w, G, ra, r, x, rfl, A, xa, e, q⟩ := h
  obtain ⟨ns, e1, rfl⟩ := mapSome e
  obtain ⟨l, e2, e3⟩ := bindSome e1
  obtain ⟨p, xs, rfl, h1, r1⟩ := A.seqG xa e2
  have ex := intsOf_rep r1 e3
  subst ex
  exact cr_sum hc pins s σ' H _ us Q I rx ⟨p, ns, rfl, by rw [hK]; exact h1, A.fin q of_int⟩
def allR (r : R) (G : Sto) : Option R := ((seqG r G).bind bsOf).map fun ns => .d (.bl (ns.all id))
def anyR (r : R) (G : Sto) : Option R := ((seqG r G).bind bsOf).map fun ns => .d (.bl (ns.any id))
theorem c_all (hK : X.K = M.K) (hc : X.calm = true) : CallR X (.builtin "all") (r1 M allR) := by
  intro pins s σ' H xs us Q I rx h
  obtain ⟨H0, w0, σ, ρ, w, G, ra, r, x, rfl, A, xa, e, q⟩ := h
  obtain ⟨ns, e1, rfl⟩ := mapSome e
  obtain ⟨l, e2, e3⟩ := bindSome e1
  obtain ⟨p, xs, rfl, h1, r1⟩ := A.seqG xa e2
  have ex := bsOf_rep r1 e3
  subst ex
  exact cr_all hc pins s σ' H _ us Q I rx ⟨p, ns, rfl, by rw [hK]; exact h1, A.fin q of_bl⟩
theorem c_any (hK : X.K = M.K) (hc : X.calm = true) : CallR X (.builtin "any") (r1 M anyR) := by
  intro pins s σ' H xs us Q I rx h
  obtain ⟨H0, w0, σ, ρ, w, G, ra, r, x, rfl, A, xa, e, q⟩ := h
  obtain ⟨ns, e1, rfl⟩ := mapSome e
  obtain ⟨l, e2, e3⟩ := bindSome e1
  obtain ⟨p, xs, rfl, h1, r1⟩ := A.seqG xa e2
  have ex := bsOf_rep r1 e3
  subst ex
  exact cr_any hc pins s σ' H _ us Q I rx ⟨p, ns, rfl, by rw [hK]; exact h1, A.fin q of_bl⟩
def itemsG (r : R) (G : Sto) : Option (List D) := match r with
  | .d (.tup l) => some l
  | r => seqG r G
def listR (r : R) (G : Sto) : Option R := (itemsG r G).map fun l => .tmp (.lst l)
theorem At.itemsG {H0 H : Hp} {w0 w : Wd} {σ : L2.St} {ρ : Env} {G : Sto} {r : R} {v : V} {l : List D} (a : At M H0 w0 σ ρ H w G) (x : RX M H0 σ ρ H w r v) (e : itemsG r G = some l) : ∃ p xs, v = .ref p ∧ (SqL M.K H p xs ∨ SqT M.K H p xs) ∧ RepL M w l xs := by
  unfold Lp.itemsG at e
  split at e
  · cases e
    obtain ⟨p, xs, rfl, h, _, r⟩ := a.tup x rfl
    exact ⟨p, xs, rfl, .inr h, r⟩
  · obtain ⟨p, xs, rfl, h, r⟩ := a.seqG x e
    exact ⟨p, xs, rfl, .inl h, r⟩
theorem c_list (hK : X.K = M.K) : CallR X (.type "list") (r1 M listR) := by
  intro pins s σ' H xs us Q I rx h
  obtain ⟨H0, w0, σ, ρ, w, G, ra, r, x, rfl, A, xa, e, q⟩ := h
  obtain ⟨l, e1, rfl⟩ := mapSome e
  obtain ⟨p, xs, rfl, h1, r1⟩ := A.itemsG xa e1
  exact call_list_of pins s σ' H _ us Q I rx ⟨p, xs, rfl, by rw [hK]; exact h1, fun p' hp => A.newLst q hp r1⟩
def tupleR (r : R) (G : Sto) : Option R := (itemsG r G).map fun l => .d (.tup l)
theorem c_tuple (hK : X.K = M.K) : CallR X (.type "tuple") (r1 M tupleR) := by
  intro pins s σ' H xs us Q I rx h
  obtain ⟨H0, w0, σ, ρ, w, G, ra, r, x, rfl, A, xa, e, q⟩ := h
  obtain ⟨l, e1, rfl⟩ := mapSome e
  unfold Lp.itemsG at e1
  split at e1
  · cases e1
    obtain ⟨p, xs, rfl, h, f, r⟩ := A.tup xa rfl
    exact call_tuple_of pins s σ' H _ us Q I rx ⟨p, xs, rfl, .inr ⟨by rw [hK]; exact h, A.fin q (of_tup f r)⟩⟩
  · obtain ⟨p, xs, rfl, h, r⟩ := A.seqG xa e1
    exact call_tuple_of pins s σ' H _ us Q I rx ⟨p, xs, rfl, .inl ⟨by rw [hK]; exact h, fun p' hp => A.newTup q hp r⟩⟩
def absR (r : R) (G : Sto) : Option R := match r with
  | .d (.int i) => some (.d (.int (if i < 0 then -i else i)))
  | _ => none
theorem c_abs : CallR X (.builtin "abs") (r1 M absR) := by
  intro pins s σ' H xs us Q I rx h
  obtain ⟨H0, w0, σ, ρ, w, G, ra, r, x, rfl, A, xa, e, q⟩ := h
  unfold absR at e
  split at e
  · cases e
    cases rx_int xa
    exact call_abs pins s σ' H _ us Q I rx ⟨_, rfl, A.fin q of_int⟩
  · cases e
def intR (r : R) (G : Sto) : Option R := match r with
  | .d (.int i) => some (.d (.int i))
  | .d (.bl k) => some (.d (.int (if k then 1 else 0)))
  | _ => none
theorem c_int : CallR X (.type "int") (r1 M intR) := by
  intro pins s σ' H xs us Q I rx h
  obtain ⟨H0, w0, σ, ρ, w, G, ra, r, x, rfl, A, xa, e, q⟩ := h
  unfold intR at e
  split at e
  · cases e
    cases rx_int xa
    exact call_int1 pins s σ' H _ us Q I rx (.inl ⟨_, rfl, A.fin q of_int⟩)
  · cases e
    cases rx_bl xa
    exact call_int1 pins s σ' H _ us Q I rx (.inr ⟨_, rfl, A.fin q of_int⟩)
  · cases e
/-- greatest, least of a list of ints -/
def maxI : Int → List Int → Int
  | m, [] => m
  | m, n :: l => maxI (if n > m then n else m) l
def minI : Int → List Int → Int
  | m, [] => m
  | m, n :: l => minI (if n < m then n else m) l
theorem maxI_spec : ∀ (l : List Int) (m : Int), (maxI m l = m ∨ maxI m l ∈ l) ∧ m ≤ maxI m l ∧ ∀ n ∈ l, n ≤ maxI m l
  | [], m => ⟨.inl rfl, Int.le_refl _, fun n h => absurd h (by simp)⟩
  | a :: l, m => by
    obtain ⟨h1, h2, h3⟩ := maxI_spec l (if a > m then a else m)
    show (maxI (if a > m then a else m) l = m ∨ maxI (if a > m then a else m) l ∈ a :: l) ∧ m ≤ maxI (if a > m then a else m) l ∧ ∀ n ∈ a :: l, n ≤ maxI (if a > m then a else m) l
    have k1 : m ≤ (if a > m then a else m) := by split <;> omega
    have k2 : a ≤ (if a > m then a else m) := by split <;> omega
    refine ⟨?_, Int.le_trans k1 h2, fun n hn => ?_⟩
    · rcases h1 with h1 | h1
      · rw [h1]
        by_cases z : a > m
        · rw [if_pos z]; exact .inr (by simp)
        · rw [if_neg z]; exact .inl rfl
      · exact .inr (List.mem_cons_of_mem _ h1)
    · rcases List.mem_cons.mp hn with rfl | hn
      · exact Int.le_trans k2 h2
      · exact h3 n hn
theorem minI_spec : ∀ (l : List Int) (m : Int), (minI m l = m ∨ minI m l ∈ l) ∧ minI m l ≤ m ∧ ∀ n ∈ l, minI m l ≤ n
  | [], m => ⟨.inl rfl, Int.le_refl _, fun n h => absurd h (by simp)⟩
  | a :: l, m => by
    obtain ⟨h1, h2, h3⟩ := minI_spec l (if a < m then a else m)
    show (minI (if a < m then a else m) l = m ∨ minI (if a < m then a else m) l ∈ a :: l) ∧ minI (if a < m then a else m) l ≤ m ∧ ∀ n ∈ a :: l, minI (if a < m then a else m) l ≤ n
    have k1 : (if a < m then a else m) ≤ m := by split <;> omega
    have k2 : (if a < m then a else m) ≤ a := by split <;> omega
    refine ⟨?_, Int.le_trans h2 k1, fun n hn => ?_⟩
    · rcases h1 with h1 | h1
      · rw [h1]
        by_cases z : a < m
        · rw [if_pos z]; exact .inr (by simp)
        · rw [if_neg z]; exact .inl rfl
      · exact .inr (List.mem_cons_of_mem _ h1)
    · rcases List.mem_cons.mp hn with rfl | hn
      · exact Int.le_trans h2 k2
      · exact h3 n hn
def maxR (r : R) (G : Sto) : Option R := ((seqG r G).bind intsOf).bind fun ns => match ns with
  | [] => none
  | n :: l => some (.d (.int (maxI n l)))
def minR (r : R) (G : Sto) : Option R := ((seqG r G).bind intsOf).bind fun ns => match ns with
  | [] => none
  | n :: l => some (.d (.int (minI n l)))
theorem c_max (hK : X.K = M.K) (hc : X.calm = true) : CallR X (.builtin "max") (r1 M maxR) := by
  intro pins s σ' H xs us Q I rx h
  obtain ⟨H0, w0, σ, ρ, w, G, ra, r, x, rfl, A, xa, e, q⟩ := h
  obtain ⟨ns, e1, e4⟩ := bindSome e
  obtain ⟨l, e2, e3⟩ := bindSome e1
  obtain ⟨p, xs, rfl, h1, r1⟩ := A.seqG xa e2
  have ex := intsOf_rep r1 e3
  subst ex
  cases ns with
  | nil => cases e4
  | cons n l =>
    cases e4
    obtain ⟨k1, k2, k3⟩ := maxI_spec l n
    refine cr_max hc pins s σ' H _ us Q I rx ⟨p, n :: l, rfl, by rw [hK]; exact h1, by simp, fun m hm hle => ?_⟩
    have em : m = maxI n l := by
      have a1 : maxI n l ≤ m := by
        rcases k1 with k1 | k1
        · rw [k1]; exact hle n (by simp)
        · exact hle _ (List.mem_cons_of_mem _ k1)
      have a2 : m ≤ maxI n l := by
        rcases List.mem_cons.mp hm with rfl | hm
        · exact k2
        · exact k3 m hm
      omega
    subst em
    exact A.fin q of_int
theorem c_min (hK : X.K = M.K) (hc : X.calm = true) : CallR X (.builtin "min") (r1 M minR) := by
  intro pins s σ' H xs us Q I rx h
  obtain ⟨H0, w0, σ, ρ, w, G, ra, r, x, rfl, A, xa, e, q⟩ := h
  obtain ⟨ns, e1, e4⟩ := bindSome e
  obtain ⟨l, e2, e3⟩ := bindSome e1
  obtain ⟨p, xs, rfl, h1, r1⟩ := A.seqG xa e2
  have ex := intsOf_rep r1 e3
  subst ex
  cases ns with
  | nil => cases e4
  | cons n l =>
    cases e4
    obtain ⟨k1, k2, k3⟩ := minI_spec l n
    refine cr_min hc pins s σ' H _ us Q I rx ⟨p, n :: l, rfl, by rw [hK]; exact h1, by simp, fun m hm hle => ?_⟩
    have em : m = minI n l := by
      have a1 : m ≤ minI n l := by
        rcases k1 with k1 | k1
        · rw [k1]; exact hle n (by simp)
        · exact hle _ (List.mem_cons_of_mem _ k1)
      have a2 : minI n l ≤ m := by
        rcases List.mem_cons.mp hm with rfl | hm
        · exact k2
        · exact k3 m hm
      omega
    subst em
    exact A.fin q of_int
def max2R (a b : R) (G : Sto) : Option R := match a, b with
  | .d (.int i), .d (.int j) => some (.d (.int (if j > i then j else i)))
  | _, _ => none
def min2R (a b : R) (G : Sto) : Option R := match a, b with
  | .d (.int i), .d (.int j) => some (.d (.int (if j < i then j else i)))
  | _, _ => none
theorem c_max2 (hc : X.calm = true) : CallR X (.builtin "max") (r2 M max2R) := by
  intro pins s σ' H xs us Q I rx h
  obtain ⟨H0, w0, σ, ρ, w, G, ra, rb, r, x, y, rfl, A, xa, xb, e, q⟩ := h
  unfold max2R at e
  split at e
  · cases e
    cases rx_int xa; cases rx_int xb
    exact call_max2 hc pins s σ' H _ us Q I rx ⟨_, _, rfl, A.fin q of_int⟩
  · cases e
theorem c_min2 (hc : X.calm = true) : CallR X (.builtin "min") (r2 M min2R) := by
  intro pins s σ' H xs us Q I rx h
  obtain ⟨H0, w0, σ, ρ, w, G, ra, rb, r, x, y, rfl, A, xa, xb, e, q⟩ := h
  unfold min2R at e
  split at e
  · cases e
    cases rx_int xa; cases rx_int xb
    exact call_min2 hc pins s σ' H _ us Q I rx ⟨_, _, rfl, A.fin q of_int⟩
  · cases e
def divmodR (a b : R) (G : Sto) : Option R := match a, b with
  | .d (.int i), .d (.int j) => if divOk j = true then some (.d (.tup [.int (i / j), .int (i % j)])) else none
  | _, _ => none
theorem c_divmod : CallR X (.builtin "divmod") (r2 M divmodR) := by
  intro pins s σ' H xs us Q I rx h
  obtain ⟨H0, w0, σ, ρ, w, G, ra, rb, r, x, y, rfl, A, xa, xb, e, q⟩ := h
  unfold divmodR at e
  split at e
  · obtain ⟨hd, rfl⟩ := ifSome e
    cases rx_int xa; cases rx_int xb
    unfold divOk at hd
    simp only [Bool.and_eq_true, decide_eq_true_eq] at hd
    exact call_divmod pins s σ' H _ us Q I rx ⟨_, _, rfl, ⟨hd.1, by omega⟩, fun p hp => A.newTup q hp (RepL.cons (by simp only [Rep]) (RepL.cons (by simp only [Rep]) RepL.nil))⟩
  · cases e
/-! sorted, of ints -/
def insI (n : Int) : List Int → List Int
  | [] => [n]
  | m :: l => if n ≤ m then n :: m :: l else m :: insI n l
def isort : List Int → List Int
  | [] => []
  | n :: l => insI n (isort l)
theorem insI_perm (n : Int) : ∀ l, (insI n l).Perm (n :: l)
  | [] => List.Perm.refl _
  | m :: l => by
    show (if n ≤ m then n :: m :: l else m :: insI n l).Perm _
    split
    · exact List.Perm.refl _
    · exact ((insI_perm n l).cons m).trans (List.Perm.swap n m l)
theorem isort_perm : ∀ l, (isort l).Perm l
  | [] => List.Perm.refl _
  | n :: l => (insI_perm n (isort l)).trans ((isort_perm l).cons n)
theorem insI_sorted (n : Int) : ∀ l : List Int, l.Pairwise (· ≤ ·) → (insI n l).Pairwise (· ≤ ·)
  | [], _ => List.pairwise_singleton _ _
  | m :: l, h => by
    show (if n ≤ m then n :: m :: l else m :: insI n l).Pairwise _
    rw [List.pairwise_cons] at h
    split
    · rename_i z
      refine List.pairwise_cons.mpr ⟨fun y hy => ?_, List.pairwise_cons.mpr h⟩
      rcases List.mem_cons.mp hy with rfl | hy
      · exact z
      · exact Int.le_trans z (h.1 y hy)
    · rename_i z
      refine List.pairwise_cons.mpr ⟨fun y hy => ?_, insI_sorted n l h.2⟩
      rcases List.mem_cons.mp ((insI_perm n l).mem_iff.mp hy) with rfl | hy
      · omega
      · exact h.1 y hy
theorem isort_sorted : ∀ l, (isort l).Pairwise (· ≤ ·)
  | [] => List.Pairwise.nil
  | n :: l => insI_sorted n _ (isort_sorted l)
theorem sorted_one {α : Type} {r : α → α → Prop} (ha : ∀ a b, r a b → r b a → a = b) : ∀ {l m : List α}, l.Perm m → l.Pairwise r → m.Pairwise r → l = m
  | [], m, p, _, _ => by rw [List.nil_perm.mp p]
  | a :: l, [], p, _, _ => absurd p.length_eq (by simp)
  | a :: l, b :: m, p, h1, h2 => by
    rw [List.pairwise_cons] at h1 h2
    have e : a = b := by
      have m1 : a ∈ b :: m := p.mem_iff.mp (by simp)
      have m2 : b ∈ a :: l := p.mem_iff.mpr (by simp)
      rcases List.mem_cons.mp m1 with e | m1
      · exact e
      · rcases List.mem_cons.mp m2 with e | m2
        · exact e.symm
        · exact ha _ _ (h1.1 b m2) (h2.1 a m1)
    subst e
    rw [sorted_one ha (List.Perm.cons_inv p) h1.2 h2.2]
def dsort (l : List Int) : List Int := (isort l).reverse
theorem dsort_sorted (l : List Int) : (dsort l).Pairwise (· ≥ ·) := by
  unfold dsort
  rw [List.pairwise_reverse]
  exact isort_sorted l
def sortedR (r : R) (G : Sto) : Option R := ((itemsG r G).bind intsOf).map fun ns => .tmp (.lst ((isort ns).map .int))
def sortedOnly (r : R) (G : Sto) : Option R := ((seqG r G).bind intsOf).map fun ns => .tmp (.lst ((isort ns).map .int))
def sortedRev (r : R) (G : Sto) : Option R := ((seqG r G).bind intsOf).map fun ns => .tmp (.lst ((dsort ns).map .int))
theorem c_sorted (hK : X.K = M.K) : CallR X (.builtin "sorted") (r1 M sortedOnly) := by
  intro pins s σ' H xs us Q I rx h
  obtain ⟨H0, w0, σ, ρ, w, G, ra, r, x, rfl, A, xa, e, q⟩ := h
  obtain ⟨ns, e1, rfl⟩ := mapSome e
  obtain ⟨l, e2, e3⟩ := bindSome e1
  obtain ⟨p, xs, rfl, h1, r1⟩ := A.seqG xa e2
  have ex := intsOf_rep r1 e3
  subst ex
  refine cr_sortedI pins s σ' H _ us Q I rx ⟨p, ns, rfl, by rw [hK]; exact h1, fun ns' p' hp hs hn => ?_⟩
  have e4 : ns' = isort ns := sorted_one (fun a b h1 h2 => Int.le_antisymm h1 h2) (hp.trans (isort_perm ns).symm) hs (isort_sorted ns)
  subst e4
  exact A.newLst q hn (RepL.ints _)
/-- sorted(xs, reverse=True) -/
theorem x_sortedRev {kp : Pos} {k : Nat} {p2 : Pos} (hK : X.K = M.K) (hg : Gl X "sorted") (hm : X.mg "sorted" = none) (ha : PE X a (tE M cf ca)) (hs : isStar a = false) :
    PE X (.Call (.Name "sorted" p) [a] [⟨some "reverse", .Constant (.bool true) k p2, kp⟩] pos) (tE M cf (cUnG sortedRev ca)) := by
  refine peW (pe_callBK (cr_sortedRev (b := true)) hg hm (by decide +kernel) (pa_cons ha pa_nil (starEach_plain hs)) (pk_cons pe_bl pk_nil) (by decide) (by decide) (by rw [starEach_plain hs]; rfl) (starEach_any (by rw [List.any_cons, hs]; rfl))) fun σ H Q h => ?_
  obtain ⟨ρ, w, G, r, G', sl, st, e, q⟩ := h
  refine (At.start sl st).run e fun ra G1 x H1 w1 e1 L1 A1 x1 => ?_
  obtain ⟨r', e3, e4⟩ := mapSome e1
  cases e4
  obtain ⟨ns, e5, e6⟩ := mapSome e3
  obtain ⟨l, e7, e8⟩ := bindSome e5
  subst e6
  obtain ⟨p, xs, rfl, h1, r1⟩ := A1.seqG x1 e7
  have ex := intsOf_rep r1 e8
  subst ex
  refine ⟨p, ns, rfl, rfl, by rw [hK]; exact h1, fun ns' p' hp hs hn => ?_⟩
  have hs : ns'.Pairwise (· ≥ ·) := hs
  have e4 : ns' = dsort ns := sorted_one (fun a b h1 h2 => Int.le_antisymm h2 h1) (hp.trans ((isort_perm ns).symm.trans (List.reverse_perm _).symm)) hs (dsort_sorted ns)
  subst e4
  exact A1.newLst q hn (RepL.ints _)
end
end Lp

namespace Lp
open PySem PySem.Spec PyProof.Rows L2

/-! ### enumerate(v, k) over a list or a tuple -/
/-- what is walked: a list, a tuple -/
def Sq (K : PySem.W.Frag) (tp : Bool) (H : Hp) (a : Addr) (xs : List V) : Prop := if tp then SqT K H a xs else SqL K H a xs
def IteK (K : PySem.W.Frag) (tp : Bool) (k : Int) (a : Addr) : It :=
  ⟨fun i H => ∃ (xs : List V) (x : V), Sq K tp H a xs ∧ xs[i]? = some x, fun i H v H' => ∃ T x, v = .ref T ∧ H T = none ∧ H' = upd H T (.tup [.int (k + (i : Nat)), x]) ∧ ∀ xs, Sq K tp H a xs → xs[i]? = some x, fun i H => ∃ xs : List V, Sq K tp H a xs ∧ xs.length = i⟩
def SqIt (tp : Bool) (h : Heap) (it a : Addr) (i : Nat) : Prop := if tp then h.IsTupleIter it a i else h.IsListIter it a i
theorem SqIt.at {tp : Bool} {h h' : Heap} {it a : Addr} {i : Nat} (s : SqIt tp h it a i) (k : ∀ o, h.get? it = some o → h'.get? it = some o) : SqIt tp h' it a i := by
  unfold SqIt at s ⊢
  cases tp with
  | true => exact Heap.IsTupleIter.at s k
  | false => exact Heap.IsListIter.at s k
theorem SqIt.there {tp : Bool} {h : Heap} {it a : Addr} {i : Nat} (s : SqIt tp h it a i) : ∃ o, h.get? it = some o ∧ ∀ v, o.data ≠ .cell v := by
  unfold SqIt at s
  cases tp with
  | true => obtain ⟨o, ho, hc, hd⟩ := s; exact ⟨o, ho, fun v q => by rw [hd] at q; cases q⟩
  | false => obtain ⟨o, ho, hc, hd⟩ := s; exact ⟨o, ho, fun v q => by rw [hd] at q; cases q⟩
def SqH (tp : Bool) (h : Heap) (a : Addr) (items : Array Value) : Prop := if tp then h.IsTuple a items else h.IsList a items
theorem sq_draws {P : Program} {w : World} {A : Around} (tp : Bool) (hh : A.handled = none) (it a : Addr) (hne : a ≠ it) (items : Array Value) : Draws P w A it [it, a] items.size (fun i v => items[i]? = some v) (fun i h => SqIt tp h it a i ∧ SqH tp h a items) := by
  cases tp with
  | true => exact Draws.tuple hh it a hne items
  | false => exact Draws.list hh it a hne items
section
variable {X : Cx} {pins : List (Addr × Obj)} {σ : L2.St} {H : Hp} {s : Shared} {a : Addr} {xs ys : List V} {tp : Bool}
theorem sq_of (I : Inv X pins σ H s) (h : Sq X.K tp H a xs) : ∃ its : List Value, Vals xs its ∧ SqH tp s.heap a its.toArray ∧ xs.length ≤ sizeLine := by
  unfold Sq at h
  unfold SqH
  cases tp with
  | true => obtain ⟨its, r, p, z⟩ := I.tuple h; exact ⟨its, r, p, z⟩
  | false => obtain ⟨its, r, p, z⟩ := I.list h; exact ⟨its, r, p.isList, z⟩
theorem sq_inj (I : Inv X pins σ H s) (h : Sq X.K tp H a xs) (h' : Sq X.K tp H a ys) : xs = ys := by
  unfold Sq at h h'
  cases tp with
  | true => exact I.tuple_inj h h'
  | false => exact I.list_inj h h'
end
theorem turn_enumK {P : Program} {w : World} {K : PySem.W.Frag} {elts : List Expr} {kk : Nat} {tpos : Pos} (tp : Bool) (k : Int) (a e it : Addr) :
    Turn P w K (.Tuple elts kk tpos) (IteK K tp k a) [e, it] e (fun i h => (∃ old, IsEnum h e it (k + ((i : Nat) : Int)) old) ∧ SqIt tp h it a i ∧ e ≠ it ∧ a ≠ it ∧ a ≠ e) where
  mem := by simp
  obj := fun i h st b hb => by
    obtain ⟨⟨old, he⟩, hit, _⟩ := st
    have e' : b = e ∨ b = it := by simpa using hb
    rcases e' with z | z
    · rw [z]; exact ⟨_, he, fun v q => nomatch q⟩
    · rw [z]; exact hit.there
  keep := fun i h h' st kp => let ⟨⟨old, he⟩, hi, hne⟩ := st; ⟨⟨old, kp e (by simp) _ he⟩, hi.at fun o q => kp it (by simp) o q, hne⟩
  item := by
    intro X hP hw hK hc i pins s σ H E I hf st hg
    subst hP hw hK
    obtain ⟨⟨old, he⟩, hit, hne, hai, hae⟩ := st
    obtain ⟨xs, x, hq, hx⟩ := hg
    obtain ⟨its, rv, p, hz⟩ := sq_of I hq
    obtain ⟨u, hu, ru⟩ := rv.get hx
    have hel : e < s.heap.objs.size := Heap.lt_size he
    have hil : it < s.heap.objs.size := by obtain ⟨o, q, _⟩ := hit.there; exact Heap.lt_size q
    have hlt : i < its.toArray.size := by
      rw [List.size_toArray]
      exact (List.getElem?_eq_some_iff.mp hu).1
    refine wpAny_pyNext_enum_itemC (sq_draws (A := X.A.in1) tp (show X.A.in1.handled = none from I.ok.hd hc) it a hai its.toArray) he ⟨hit, p⟩ hlt hne (by
      intro hm
      rcases List.mem_cons.mp hm with z | z
      · exact hne z
      · exact hae (List.mem_singleton.mp z).symm) fun x' h' tk hP ho hst hT hsz hk => ?_
    have hxu : x' = u := by
      rw [List.getElem?_toArray, hu] at hP
      exact (Option.some.inj hP).symm
    subst hxu
    refine ⟨_, rfl, wpAny_letOwnedTupleGo_enum (s := { s with heap := h', toks := tk + 1 }) ho fun h'' he' sb => ?_⟩
    have hT2 : h''.get? s.heap.objs.size = some { cls := .type "tuple", data := .seq #[.int (k + (i : Nat)) tk, x'] } := (sb.2 _ (Nat.ne_of_gt hel)).trans hT
    have new : ObjOk X.prog X.w (upd H s.heap.objs.size (.tup [.int (k + (i : Nat)), x])) h'' s.heap.objs.size (.tup [.int (k + (i : Nat)), x]) :=
      ⟨by show 2 ≤ sizeLine; decide, [.int (k + (i : Nat)) tk, x'], .cons ⟨_, rfl⟩ (.cons ru .nil), ⟨_, hT2, rfl, _, rfl⟩⟩
    have I1 : Inv X pins σ (upd H s.heap.objs.size (.tup [.int (k + (i : Nat)), x])) { s with heap := h'', toks := tk + 1 } :=
      I.turnedNew (ch := [e, it]) (fun b ob hb q => (sb.2 b (fun z => hb (by simp [z]))).trans (hk b ob (fun z => hb (by simp [z])) (fun z => hb (by simp [z])) q)) hf (Nat.le_refl _) new
    refine ⟨.ref s.heap.objs.size, _, I1, rfl, ⟨_, x, rfl, I.hok.fresh (Nat.le_refl _), rfl, fun ys hy => by rw [sq_inj I hy hq]; exact hx⟩, ⟨⟨x', ?_⟩, hst.1.at fun o q => (sb.2 it (Ne.symm hne)).trans q, hne, hai, hae⟩, fun b hb => ?_⟩
    · have e1 : k + ((i + 1 : Nat) : Int) = k + (i : Int) + 1 := by omega
      rw [e1]; exact he'
    · have hb' : b < s.heap.objs.size := by
        have e' : b = e ∨ b = it := by simpa using hb
        rcases e' with z | z
        · rw [z]; exact hel
        · rw [z]; exact hil
      rw [upd_ne (Nat.ne_of_lt hb')]
      exact (hf b hb).1
  done := by
    intro X hP hw hK hc i pins s σ H E I hf st hg
    subst hP hw hK
    obtain ⟨⟨old, he⟩, hit, hne, hai, hae⟩ := st
    obtain ⟨xs, hq, hx⟩ := hg
    obtain ⟨its, rv, p, hz⟩ := sq_of I hq
    obtain ⟨f0, f1, f2, f3, f4, f5⟩ := hf it (by simp)
    have hl := rv.length
    have en : i = its.toArray.size := by rw [List.size_toArray]; omega
    subst en
    exact wpAny_pyNext_enum_endD (sq_draws (A := X.A.in1) tp (show X.A.in1.handled = none from I.ok.hd hc) it a hai its.toArray) he ⟨hit, p⟩ fun h' eb => ⟨rfl, I.turned (t' := s.toks) (fun b o hb q => eb b o hb q) f0 f1 f3 f4 f5⟩
  self := fun A i s Q E st h => let ⟨⟨_, he⟩, _⟩ := st; wpAny_pyIter_enum he h
/-- enumerate(v), whatever is walked -/
theorem meets_enumerate_newB1 {v : Value} {o : Obj} {H : Heap → Prop} (B : Begins v o H) :
    Meets (Builtin.«enumerate.__new__» ⟨[.type "enumerate", v], []⟩) (fun _ R s => H s.heap ∧
      R (.ok (.ret (.ref (s.heap.push o).objs.size))) { s with heap := (s.heap.push o).push { cls := .type "enumerate", data := .fields #[.none, .bool false, .ref s.heap.objs.size, rawInt 0, .none, .none] } }) :=
  .of_wp fun prog w A R s h => by
    obtain ⟨hp, g, d, tk, os⟩ := s; obtain ⟨h1, h⟩ := h
    have hsub := sub_enumerate
    have q1 : ∀ {A' : Around} {E : Value → Shared → Prop} {Q : Value → Shared → Prop}, Q (.ref hp.objs.size) ⟨hp.push o, g, d, tk, os⟩ → wpAny (model prog w) A' (pyIter v) Q E ⟨hp, g, d, tk, os⟩ :=
      fun q => B.iter prog w _ _ ⟨hp, g, d, tk, os⟩ _ h1 q
    wp_walk using q1
    refine wpAny_stack_any fun st => wpAny_pure ?_
    split
    · rename_i c _ _ _ _ _
      cases (c == Value.type "enumerate")
      · wp_walk using q1
        exact ⟨_, rfl, h⟩
      · wp_walk using q1
        exact ⟨_, rfl, h⟩
    · wp_walk using q1
      exact ⟨_, rfl, h⟩
theorem enum_begins1 {prog : Program} {w : World} {A : Around} {E : Value → Shared → Prop} {s : Shared} {v : Value} {o : Obj} {H : Heap → Prop} {Q : Value → Shared → Prop} (B : Begins v o H) (h1 : H s.heap)
    (h : ∀ h', IsEnum h' (s.heap.objs.size + 1) s.heap.objs.size 0 .none → h'.get? s.heap.objs.size = some o → h'.objs.size = s.heap.objs.size + 2 →
      (∀ b o, s.heap.get? b = some o → h'.get? b = some o) → Q (.ref (s.heap.objs.size + 1)) { s with heap := h' }) :
    wpAny (model prog w) A (call (.type "enumerate") [v]) Q E s := by
  refine callType_new F.called_enumerate (by decide) (F.typeCall_enumerate_1 _) (F.newCall_enumerate_1 _) (fun obj => F.args_object_init_2 obj _) F.entry_enumerate_new
    (meets_enumerate_newB1 B) ⟨h1, ?_⟩
  have hz : (s.heap.push o).objs.size = s.heap.objs.size + 1 := Heap.size_push ..
  show _ ∧ _
  rw [hz]
  have he : IsEnum ((s.heap.push o).push { cls := .type "enumerate", data := .fields #[.none, .bool false, .ref s.heap.objs.size, rawInt 0, .none, .none] }) (s.heap.objs.size + 1) s.heap.objs.size 0 .none := by
    have := Heap.get?_push_size (s.heap.push o) (o := { cls := .type "enumerate", data := .fields #[.none, .bool false, .ref s.heap.objs.size, rawInt 0, .none, .none] }) rfl
    rw [hz] at this; exact this
  refine ⟨⟨_, he, rfl⟩, h _ he (Heap.get?_push_of_some _ (Heap.get?_push_size _ B.free)) (by rw [Heap.size_push, hz]) fun b o x => Heap.get?_push_of_some _ (Heap.get?_push_of_some _ x)⟩
def iEnumK (K : PySem.W.Frag) (ta : TA) : TI := fun σ H R => ta σ H fun vs H1 => ∃ a xs tp k, vs = [.ref a, .int k] ∧ -(2 ^ 63) ≤ k ∧ k < 2 ^ 63 ∧ Sq K tp H1 a xs ∧ R (IteK K tp k a) H1
def iEnum1 (K : PySem.W.Frag) (ta : TA) : TI := fun σ H R => ta σ H fun vs H1 => ∃ a xs tp, vs = [.ref a] ∧ Sq K tp H1 a xs ∧ R (IteK K tp 0 a) H1
theorem enum_go {X : Cx} {pins : List (Addr × Obj)} {σ : L2.St} {H1 : Hp} {s1 : Shared} {a : Addr} {xs : List V} {tp : Bool} {k : Int} {R : It → Hp → Prop} {elts : List Expr} {kk : Nat} {tpos : Pos} (I1 : Inv X pins σ H1 s1) (hq : Sq X.K tp H1 a xs) (q : R (IteK X.K tp k a) H1)
    {h' : Heap} (he : IsEnum h' (s1.heap.objs.size + 1) s1.heap.objs.size k .none) (hit : SqIt tp h' s1.heap.objs.size a 0) (hk : ∀ b o, s1.heap.get? b = some o → h'.get? b = some o) :
    PIE X pins σ (.Tuple elts kk tpos) R (.ref (s1.heap.objs.size + 1)) { s1 with heap := h' } := by
  have I2 : Inv X pins σ H1 { s1 with heap := h' } := I1.kept (t' := s1.toks) hk
  have al : a < s1.heap.objs.size := by
    obtain ⟨its, rv, p, hz⟩ := sq_of I1 hq
    unfold SqH at p
    cases tp with
    | true => obtain ⟨o, e, _⟩ := p; exact Heap.lt_size e
    | false => obtain ⟨o, e, _⟩ := p; exact Heap.lt_size e
  refine ⟨s1.heap.objs.size + 1, [s1.heap.objs.size + 1, s1.heap.objs.size], _, _, H1, rfl, I2, turn_enumK tp k a (s1.heap.objs.size + 1) s1.heap.objs.size, ⟨⟨.none, by simpa using he⟩, hit, Nat.succ_ne_self _, Nat.ne_of_lt al, Nat.ne_of_lt (Nat.lt_succ_of_lt al)⟩, fun b hb => ?_, q⟩
  have e' : b = s1.heap.objs.size + 1 ∨ b = s1.heap.objs.size := by simpa using hb
  have hle : s1.heap.objs.size ≤ b := by
    rcases e' with z | z
    · rw [z]; exact Nat.le_add_right _ _
    · rw [z]; exact Nat.le_refl _
  exact I1.fpOk hle (I1.hok.fresh hle)
theorem begins_of {X : Cx} {pins : List (Addr × Obj)} {σ : L2.St} {H1 : Hp} {s1 : Shared} {a : Addr} {xs : List V} {tp : Bool} (I1 : Inv X pins σ H1 s1) (hq : Sq X.K tp H1 a xs) :
    ∃ (o : Obj) (P : Heap → Prop), Begins (.ref a) o P ∧ P s1.heap ∧ ∀ (h : Heap) (it : Addr), h.get? it = some o → SqIt tp h it a 0 := by
  obtain ⟨its, rv, p, hz⟩ := sq_of I1 hq
  unfold SqH at p
  cases tp with
  | true => exact ⟨_, _, begins_tuple a its.toArray, p, fun h it e => ⟨_, e, rfl, rfl⟩⟩
  | false => exact ⟨_, _, begins_list a its.toArray, p, fun h it e => ⟨_, e, rfl, rfl⟩⟩
theorem pi_enumK {X : Cx} {a b : Expr} {ta : TA} {p pos tpos : Pos} {elts : List Expr} {kk : Nat} (hg : Gl X "enumerate") (hm : X.mg "enumerate" = none) (ha : PA X [a, b] ta) (h1 : isStar a = false) (h2 : isStar b = false) :
    PI X (.Tuple elts kk tpos) (.Call (.Name "enumerate" p) [a, b] [] pos) (iEnumK X.K ta) := by
  refine ⟨fun pins s σ H R I h => ?_⟩
  refine Call_ (ld_blt I hg hm boot_enumerate (PyProof.Rows.callWith_type1 (thn (ha.run pos pins s σ H _ I h) fun us s1 ⟨vs, H1, I1, r1, q1⟩ => ?_) (starEach_plain h1) (any1 h2)))
  obtain ⟨a, xs, tp, k, ex, k1, k2, hq, q⟩ := q1
  subst ex
  cases r1 with
  | cons r rr =>
    cases rr with
    | cons r' rr =>
      cases rr
      cases r
      obtain ⟨t, rfl⟩ := r'
      obtain ⟨o, P, B, hP, hS⟩ := begins_of I1 hq
      exact enum_begins B hP k1 k2 fun h' he hit hsz hk => wpAny_pyIter_enum he (enum_go I1 hq q he (hS _ _ hit) hk)
theorem pi_enum1 {X : Cx} {a : Expr} {ta : TA} {p pos tpos : Pos} {elts : List Expr} {kk : Nat} (hg : Gl X "enumerate") (hm : X.mg "enumerate" = none) (ha : PA X [a] ta) (h1 : isStar a = false) :
    PI X (.Tuple elts kk tpos) (.Call (.Name "enumerate" p) [a] [] pos) (iEnum1 X.K ta) := by
  refine ⟨fun pins s σ H R I h => ?_⟩
  refine Call_ (ld_blt I hg hm boot_enumerate (PyProof.Rows.callWith_type1 (thn (ha.run pos pins s σ H _ I h) fun us s1 ⟨vs, H1, I1, r1, q1⟩ => ?_) (starEach_plain h1) rfl))
  obtain ⟨a, xs, tp, ex, hq, q⟩ := q1
  subst ex
  cases r1 with
  | cons r rr =>
    cases rr
    cases r
    obtain ⟨o, P, B, hP, hS⟩ := begins_of I1 hq
    exact enum_begins1 B hP fun h' he hit hsz hk => wpAny_pyIter_enum he (enum_go I1 hq q he (hS _ _ hit) hk)
end Lp

namespace Lp
open PySem PySem.Spec PyProof.Rows L2

/-! ### what is walked -/
structure Mono (w w' : Wd) : Prop where
  fz : ∀ a o, w.fz a = some o → w'.fz a = some o
  al : ∀ (n : Nat) (a : Addr), w.al[n]? = some a → w'.al[n]? = some a
theorem Lat.mono {H H' : Hp} {w w' : Wd} (L : Lat H w H' w') : Mono w w' := ⟨L.fz, fun _ _ h => L.al_get h⟩
theorem Mono.refl (w : Wd) : Mono w w := ⟨fun _ _ h => h, fun _ _ h => h⟩
theorem Mono.trans {a b c : Wd} (p : Mono a b) (q : Mono b c) : Mono a c := ⟨fun x o h => q.fz x o (p.fz x o h), fun n x h => q.al n x (p.al n x h)⟩
def FzH (w : Wd) (H : Hp) : Prop := ∀ a o, w.fz a = some o → H a = some o
structure Ylds (M : Md) (J : It) (l : List D) (w1 : Wd) : Prop where
  go : ∀ (i : Nat) (d : D) (H : Hp) (w : Wd), l[i]? = some d → Mono w1 w → FzH w H → J.go i H
  yl : ∀ (i : Nat) (d : D) (H : Hp) (w : Wd) (x : V) (H' : Hp), l[i]? = some d → Mono w1 w → FzH w H → J.yld i H x H' → ∃ w', Lat H w H' w' ∧ (∀ G, StOk M H w G → StOk M H' w' G) ∧ FzH w' H' ∧ Rep M w' d x
  st : ∀ (H : Hp) (w : Wd), Mono w1 w → FzH w H → J.stop l.length H
def tI (M : Md) (cf : CF) (c : FnL) : TI := fun σ H R => ∃ ρ w G l G', SlOk M H w σ ρ ∧ StOk M H w G ∧ c cf ρ G = some (l, G') ∧ ∀ J H' w', Lat H w H' w' → StOk M H' w' G' → Ylds M J l w' → R J H'
def elems : D → Option (List D)
  | .tup l => some l
  | .lst l => some l
  | .scr l => some l
  | .str s => some (s.cps.toList.map fun c => .str ⟨#[c]⟩)
  | _ => none
def cSeqI (a : Fn) : FnL := fun cf ρ G => (a cf ρ G).bind fun p => (frz p.1).bind fun d => (elems d).map (·, p.2)
section
variable {M : Md} {w w1 : Wd} {H : Hp} {l : List D} {xs : List V} {a : Addr}
theorem RepL.mon (r : RepL M w l xs) {w' : Wd} (m : Mono w w') : RepL M w' l xs := RepL.mono m.fz m.al l xs r
theorem Rep.mon {d : D} {x : V} (r : Rep M w d x) {w' : Wd} (m : Mono w w') : Rep M w' d x := Rep.mono m.fz m.al d x r
theorem ylds_sq {J : It} (hs : ∀ H : Hp, (∀ a o, w1.fz a = some o → H a = some o) → (∀ i x, xs[i]? = some x → J.go i H ∧ ∀ y H', J.yld i H y H' → H' = H ∧ y = x) ∧ J.stop xs.length H) (r : RepL M w1 l xs) : Ylds M J l w1 := by
  refine ⟨fun i d H w e m f => ?_, fun i d H w y H' e m f q => ?_, fun H w m f => ?_⟩
  · obtain ⟨x, e1, _⟩ := r.getD e
    exact ((hs H fun a o h => f a o (m.fz a o h)).1 i x e1).1
  · obtain ⟨x, e1, rx⟩ := r.getD e
    obtain ⟨rfl, rfl⟩ := ((hs H fun a o h => f a o (m.fz a o h)).1 i x e1).2 y H' q
    exact ⟨w, Lat.refl _ _, fun _ h => h, f, rx.mon m⟩
  · rw [r.length]
    exact (hs H fun a o h => f a o (m.fz a o h)).2
theorem ylds_list (h : SqL M.K w1.fz a xs) (r : RepL M w1 l xs) : Ylds M (Itl M.K a) l w1 := ylds_sq (fun H f => by
  have q := sqL_mono f h
  exact ⟨fun i x e => ⟨⟨xs, x, q, e⟩, fun y H' ⟨e1, e2⟩ => ⟨e1, by have z := e2 xs q; rw [e] at z; exact (Option.some.inj z).symm⟩⟩, ⟨xs, q, Nat.le_refl _⟩⟩) r
theorem ylds_tup (h : SqT M.K w1.fz a xs) (r : RepL M w1 l xs) : Ylds M (Itt M.K a) l w1 := ylds_sq (fun H f => by
  have q := sqT_mono f h
  exact ⟨fun i x e => ⟨⟨xs, x, q, e⟩, fun y H' ⟨e1, e2⟩ => ⟨e1, by have z := e2 xs q; rw [e] at z; exact (Option.some.inj z).symm⟩⟩, ⟨xs, q, Nat.le_refl _⟩⟩) r
theorem RepL.signs : ∀ cs : List Nat, RepL M w (cs.map fun c => D.str ⟨#[c]⟩) (cs.map fun c => V.str ⟨#[c]⟩)
  | [] => RepL.nil
  | c :: cs => RepL.cons (by simp only [Rep]) (RepL.signs cs)
theorem ylds_str {s : Str} : Ylds M (Its s) (s.cps.toList.map fun c => .str ⟨#[c]⟩) w1 := ylds_sq (xs := s.cps.toList.map fun c => V.str ⟨#[c]⟩) (fun H f => by
  refine ⟨fun i x e => ?_, ?_⟩
  · rw [List.getElem?_map, Array.getElem?_toList] at e
    obtain ⟨c, e1, e2⟩ := mapSome e
    refine ⟨?_, fun y H' q => ?_⟩
    · exact (Array.getElem?_eq_some_iff.mp e1).1
    · obtain ⟨q1, c', q2, q3⟩ := q
      rw [e1] at q2
      cases q2
      exact ⟨q1, by rw [q3, ← e2]⟩
  · show s.cps.size ≤ _
    rw [List.length_map, Array.length_toList]
    exact Nat.le_refl _) (RepL.signs _)
def rangeI : Int → Nat → List D
  | _, 0 => []
  | lo, n + 1 => .int lo :: rangeI (lo + 1) n
theorem rangeI_len : ∀ (n : Nat) (lo : Int), (rangeI lo n).length = n
  | 0, _ => rfl
  | n + 1, lo => by show (rangeI (lo + 1) n).length + 1 = _; rw [rangeI_len n]
theorem rangeI_get : ∀ (n : Nat) (lo : Int) (i : Nat), (rangeI lo n)[i]? = if i < n then some (.int (lo + i)) else none
  | 0, lo, i => by rw [if_neg (Nat.not_lt_zero i)]; rfl
  | n + 1, lo, 0 => by rw [if_pos (Nat.zero_lt_succ n)]; show some _ = some _; simp
  | n + 1, lo, i + 1 => by
    show (rangeI (lo + 1) n)[i]? = _
    rw [rangeI_get n]
    by_cases h : i < n
    · rw [if_pos h, if_pos (by omega)]
      exact congrArg (fun z => some (D.int z)) (by omega)
    · rw [if_neg h, if_neg (by omega)]
theorem ylds_range {lo : Int} {n : Nat} : Ylds M (Itr lo n) (rangeI lo n) w1 := by
  refine ⟨fun i d H w e m f => ?_, fun i d H w y H' e m f q => ?_, fun H w m f => ?_⟩
  · rw [rangeI_get] at e
    by_cases h : i < n
    · exact h
    · rw [if_neg h] at e; cases e
  · rw [rangeI_get] at e
    obtain ⟨rfl, rfl⟩ := q
    by_cases h : i < n
    · rw [if_pos h] at e; cases e
      exact ⟨w, Lat.refl _ _, fun _ h => h, f, by simp only [Rep]⟩
    · rw [if_neg h] at e; cases e
  · show n ≤ _
    rw [rangeI_len]
    exact Nat.le_refl _
def rangeC : Int → Int → Nat → List D
  | _, _, 0 => []
  | lo, c, n + 1 => .int lo :: rangeC (lo + c) c n
theorem rangeC_len : ∀ (n : Nat) (lo c : Int), (rangeC lo c n).length = n
  | 0, _, _ => rfl
  | n + 1, lo, c => by show (rangeC (lo + c) c n).length + 1 = _; rw [rangeC_len n]
theorem rangeC_get : ∀ (n : Nat) (lo c : Int) (i : Nat), (rangeC lo c n)[i]? = if i < n then some (.int (lo + i * c)) else none
  | 0, lo, c, i => by rw [if_neg (Nat.not_lt_zero i)]; rfl
  | n + 1, lo, c, 0 => by rw [if_pos (Nat.zero_lt_succ n)]; show some _ = some _; simp
  | n + 1, lo, c, i + 1 => by
    show (rangeC (lo + c) c n)[i]? = _
    rw [rangeC_get n]
    by_cases h : i < n
    · rw [if_pos h, if_pos (by omega)]
      have e : lo + c + (i : Int) * c = lo + ((i + 1 : Nat) : Int) * c := by
        rw [Int.natCast_add, Int.add_mul]
        omega
      rw [e]
    · rw [if_neg h, if_neg (by omega)]
theorem ylds_rangeC {lo c : Int} {n : Nat} : Ylds M (Itc lo c n) (rangeC lo c n) w1 := by
  refine ⟨fun i d H w e m f => ?_, fun i d H w y H' e m f q => ?_, fun H w m f => ?_⟩
  · rw [rangeC_get] at e
    by_cases h : i < n
    · exact h
    · rw [if_neg h] at e; cases e
  · rw [rangeC_get] at e
    obtain ⟨rfl, rfl⟩ := q
    by_cases h : i < n
    · rw [if_pos h] at e; cases e
      exact ⟨w, Lat.refl _ _, fun _ h => h, f, by simp only [Rep]⟩
    · rw [if_neg h] at e; cases e
  · show n ≤ _
    rw [rangeC_len]
    exact Nat.le_refl _
def enumD : Int → List D → List D
  | _, [] => []
  | k, d :: l => .tup [.int k, d] :: enumD (k + 1) l
theorem enumD_len : ∀ (l : List D) (k : Int), (enumD k l).length = l.length
  | [], _ => rfl
  | d :: l, k => by show (enumD (k + 1) l).length + 1 = _; rw [enumD_len l]; rfl
theorem enumD_get : ∀ (l : List D) (k : Int) (i : Nat), (enumD k l)[i]? = (l[i]?).map fun d => .tup [.int (k + i), d]
  | [], k, i => by simp [enumD]
  | d :: l, k, 0 => by show some _ = some _; simp
  | d :: l, k, i + 1 => by
    show (enumD (k + 1) l)[i]? = (l[i]?).map _
    rw [enumD_get l]
    have e : k + 1 + (i : Int) = k + ((i + 1 : Nat) : Int) := by omega
    rw [e]
theorem pair_put {H : Hp} {w : Wd} {T : Addr} {x y : V} {d e : D} (hT : H T = none) (f : FzH w H) (rd : Rep M w d x) (re : Rep M w e y) :
    ∃ w', Lat H w (upd H T (.tup [x, y])) w' ∧ (∀ G, StOk M H w G → StOk M (upd H T (.tup [x, y])) w' G) ∧ FzH w' (upd H T (.tup [x, y])) ∧ Rep M w' (.tup [d, e]) (.ref T) := by
  have fn : w.fz T = none := by
    cases z : w.fz T with
    | none => rfl
    | some u => rw [f T u z] at hT; cases hT
  refine ⟨w.put T (.tup [x, y]), (Lat.new (M := M) (G := []) hT).freeze (M := M) (G := []) hT fn, fun G st => (st.new hT).freeze upd_same fn (st.aln hT), fun a o h => ?_, ?_⟩
  · have h : upd w.fz T (.tup [x, y]) a = some o := h
    by_cases z : a = T
    · subst z; rw [upd_same] at h ⊢; exact h
    · rw [upd_ne z] at h ⊢; exact f a o h
  · simp only [Rep]
    exact ⟨T, [x, y], rfl, (show upd w.fz T _ T = _ from upd_same), RepL.cons (rd.put fn) (RepL.cons (re.put fn) RepL.nil)⟩
theorem ylds_enum {tp : Bool} {k : Int} (h : Sq M.K tp w1.fz a xs) (r : RepL M w1 l xs) : Ylds M (IteK M.K tp k a) (enumD k l) w1 := by
  have up : ∀ {H : Hp} {w : Wd}, Mono w1 w → FzH w H → Sq M.K tp H a xs := fun {H w} m f => by
    unfold Sq at h ⊢
    cases tp with
    | true => exact sqT_mono (fun a o z => f a o (m.fz a o z)) h
    | false => exact sqL_mono (fun a o z => f a o (m.fz a o z)) h
  refine ⟨fun i d H w e m f => ?_, fun i d H w y H' e m f q => ?_, fun H w m f => ?_⟩
  · rw [enumD_get] at e
    obtain ⟨d', e1, e2⟩ := mapSome e
    obtain ⟨x, e3, _⟩ := r.getD e1
    exact ⟨xs, x, up m f, e3⟩
  · rw [enumD_get] at e
    obtain ⟨d', e1, e2⟩ := mapSome e
    subst e2
    obtain ⟨x, e3, rx⟩ := r.getD e1
    obtain ⟨T, x', rfl, hT, rfl, hx⟩ := q
    have z := hx xs (up m f)
    rw [e3] at z; cases z
    exact pair_put hT f (by simp only [Rep]) (rx.mon m)
  · exact ⟨xs, up m f, by rw [enumD_len, r.length]⟩
end
section
variable {X : Cx} {M : Md} {cf : CF} {e a b c tg : Expr} {es : List Expr} {ca cb cc : Fn} {cl : FnL} {pos p tpos : Pos}
theorem x_seqI (hK : X.K = M.K) (he : PE X e (tE M cf ca)) : PI X tg e (tI M cf (cSeqI ca)) := by
  refine ⟨fun pins s σ H R I h => ?_⟩
  obtain ⟨ρ, w, G, l, G', sl, st, ev, q⟩ := h
  obtain ⟨⟨ra, G1⟩, e1, e2⟩ := bindSome ev
  obtain ⟨d, e3, e4⟩ := bindSome e2
  obtain ⟨l', e5, e6⟩ := mapSome e4
  cases e6
  have go : ∀ K : V → Hp → Prop, (∀ v H1 w1, Lat H w H1 w1 → StOk M H1 w1 G1 → Rep M w1 d v → K v H1) → tE M cf ca σ H K := fun K k => by
    refine ⟨ρ, w, G, ra, G1, sl, st, e1, fun v H1 w1 L s x => ?_⟩
    obtain ⟨w', A, r, L'⟩ := ((At.start sl st).step L s).frz x e3
    exact k v H1 w' L' A.st r
  cases d <;> first | (cases e5; done) | skip
  · cases e5
    refine (pi_str he).run pins s σ H R I (go _ fun v H1 w1 L s r => ?_)
    simp only [Rep] at r
    exact ⟨_, r, q _ H1 w1 L s ylds_str⟩
  · cases e5
    refine (pi_tup he).run pins s σ H R I (go _ fun v H1 w1 L s r => ?_)
    simp only [Rep] at r
    obtain ⟨p, xs, rfl, h, r⟩ := r
    exact ⟨p, rfl, ⟨xs, by rw [hK]; exact .inl (.inl (s.fzH _ _ h))⟩, by rw [hK]; exact q _ H1 w1 L s (ylds_tup (.inl (.inl h)) r)⟩
  · cases e5
    refine (pi_list he).run pins s σ H R I (go _ fun v H1 w1 L s r => ?_)
    simp only [Rep] at r
    obtain ⟨p, xs, rfl, h, r⟩ := r
    exact ⟨p, rfl, ⟨xs, by rw [hK]; exact .inl (.inl (s.fzH _ _ h))⟩, by rw [hK]; exact q _ H1 w1 L s (ylds_list (.inl (.inl h)) r)⟩
  · cases e5
    refine (pi_list he).run pins s σ H R I (go _ fun v H1 w1 L s r => ?_)
    simp only [Rep] at r
    obtain ⟨p, xs, rfl, h, r⟩ := r
    exact ⟨p, rfl, ⟨xs, by rw [hK]; exact sqL_mono s.fzH h⟩, by rw [hK]; exact q _ H1 w1 L s (ylds_list h r)⟩
def rgOk (i : Int) : Bool := decide (i.natAbs < 4611686018427387904)
theorem rgOk_ok {i : Int} (h : rgOk i = true) : -(2 ^ 62) ≤ i ∧ i < 2 ^ 62 := by
  unfold rgOk at h
  simp only [decide_eq_true_eq] at h
  exact ⟨by omega, by omega⟩
def cRng1 (a : FnL) : FnL := fun cf ρ G => (a cf ρ G).bind fun p => match p.1 with
  | [.int j] => if rgOk j = true then some (rangeI 0 j.toNat, p.2) else none
  | _ => none
def cRng2 (a : FnL) : FnL := fun cf ρ G => (a cf ρ G).bind fun p => match p.1 with
  | [.int i, .int j] => if (rgOk i && rgOk j) = true then some (rangeI i (j - i).toNat, p.2) else none
  | _ => none
def rgLen (i j c : Int) : Nat := if 0 < c then ((j - i + c - 1) / c).toNat else ((i - j - c - 1) / (-c)).toNat
def cRng3 (a : FnL) : FnL := fun cf ρ G => (a cf ρ G).bind fun p => match p.1 with
  | [.int i, .int j, .int c] => if (rgOk i && rgOk j && decide (c = -1)) = true then some (rangeC i c (i - j).toNat, p.2) else
      if (decide (c ≠ 0) && decide (c.natAbs < 1073741824) && Builtin.Range.small i j c) = true then some (rangeC i c (Builtin.Range.rangeSize i j c).toNat, p.2) else none
  | _ => none
theorem rep_int1 {w : Wd} {i : Int} {vs : List V} (r : RepL M w [.int i] vs) : vs = [.int i] := intsOf_rep (ns := [i]) r rfl
theorem rep_int2 {w : Wd} {i j : Int} {vs : List V} (r : RepL M w [.int i, .int j] vs) : vs = [.int i, .int j] := intsOf_rep (ns := [i, j]) r rfl
theorem rep_int3 {w : Wd} {i j k : Int} {vs : List V} (r : RepL M w [.int i, .int j, .int k] vs) : vs = [.int i, .int j, .int k] := intsOf_rep (ns := [i, j, k]) r rfl
theorem x_rng1 (hg : Gl X "range") (hm : X.mg "range" = none) (ha : PA X [a] (tA M cf cl)) (hs : isStar a = false) : PI X tg (.Call (.Name "range" p) [a] [] pos) (tI M cf (cRng1 cl)) :=
  ⟨fun pins s σ H R I h => (pi_range1 hg hm ha (by rw [starEach_plain hs]; rfl)).run pins s σ H R I (by
    obtain ⟨ρ, w, G, l, G', sl, st, ev, q⟩ := h
    refine (At.start sl st).runA ev fun l1 G1 vs H1 w1 e1 L1 A1 r1 => ?_
    dsimp only at e1
    split at e1
    · obtain ⟨hj, e2⟩ := ifSome e1
      cases e2
      have hj := rgOk_ok hj
      cases rep_int1 r1
      exact ⟨_, rfl, hj.1, hj.2, q _ H1 w1 L1 A1.st ylds_range⟩
    · cases e1)⟩
theorem x_rng2 (hg : Gl X "range") (hm : X.mg "range" = none) (ha : PA X [a, b] (tA M cf cl)) (hs : isStar a = false) (hs2 : isStar b = false) : PI X tg (.Call (.Name "range" p) [a, b] [] pos) (tI M cf (cRng2 cl)) :=
  ⟨fun pins s σ H R I h => (pi_range2 hg hm ha (by rw [starEach_plain hs, starEach_plain hs2]; rfl) (by rw [starEach_plain hs2]; rfl)).run pins s σ H R I (by
    obtain ⟨ρ, w, G, l, G', sl, st, ev, q⟩ := h
    refine (At.start sl st).runA ev fun l1 G1 vs H1 w1 e1 L1 A1 r1 => ?_
    dsimp only at e1
    split at e1
    · obtain ⟨hj, e2⟩ := ifSome e1
      cases e2
      rw [Bool.and_eq_true] at hj
      have h1 := rgOk_ok hj.1
      have h2 := rgOk_ok hj.2
      cases rep_int2 r1
      exact ⟨_, _, rfl, ⟨h1.1, h1.2, h2.1, h2.2⟩, q _ H1 w1 L1 A1.st ylds_range⟩
    · cases e1)⟩
theorem any2 {env : PySem.Env} (hs : isStar a = false) (hs2 : isStar b = false) : (backTo pos (starEach [a, b] env)).any (·.1) = false := starEach_any (by rw [List.any_cons, List.any_cons, hs, hs2]; rfl)
theorem rangeSize_nn (i j c : Int) : 0 ≤ Builtin.Range.rangeSize i j c := by
  unfold Builtin.Range.rangeSize
  split
  · split
    · have := Int.ediv_nonneg (show 0 ≤ j - i - 1 by omega) (show 0 ≤ c by omega)
      omega
    · exact Int.le_refl _
  · split
    · have := Int.ediv_nonneg (show 0 ≤ i - j - 1 by omega) (show 0 ≤ -c by omega)
      omega
    · exact Int.le_refl _
theorem x_rng3 (hg : Gl X "range") (hm : X.mg "range" = none) (ha : PA X [a, b, c] (tA M cf cl)) (hs : isStar a = false) (hs2 : isStar b = false) (hs3 : isStar c = false) : PI X tg (.Call (.Name "range" p) [a, b, c] [] pos) (tI M cf (cRng3 cl)) :=
  ⟨fun pins s σ H R I h => (pi_range3 hg hm ha (starEach_plain hs) (any2 hs2 hs3)).run pins s σ H R I (by
    obtain ⟨ρ, w, G, l, G', sl, st, ev, q⟩ := h
    refine (At.start sl st).runA ev fun l1 G1 vs H1 w1 e1 L1 A1 r1 => ?_
    dsimp only at e1
    split at e1
    · rename_i i j c
      cases rep_int3 r1
      by_cases hc : (rgOk i && rgOk j && decide (c = -1)) = true
      · rw [if_pos hc] at e1
        cases e1
        simp only [Bool.and_eq_true, decide_eq_true_eq] at hc
        have h1 := rgOk_ok hc.1.1
        have h2 := rgOk_ok hc.1.2
        have e := hc.2
        subst e
        exact ⟨_, _, _, _, rfl, RgC.neg h1.1 h1.2 h2.1 h2.2, q _ H1 w1 L1 A1.st ylds_rangeC⟩
      · rw [if_neg hc] at e1
        obtain ⟨hj, e2⟩ := ifSome e1
        cases e2
        simp only [Bool.and_eq_true, decide_eq_true_eq] at hj
        exact ⟨_, _, _, _, rfl, ⟨hj.1.1, hj.1.2, hj.2, (Int.toNat_of_nonneg (rangeSize_nn i j c)).symm⟩, q _ H1 w1 L1 A1.st ylds_rangeC⟩
    · cases e1)⟩
def seqD : D → Option (List D)
  | .tup l => some l
  | .lst l => some l
  | .scr l => some l
  | _ => none
theorem seqD_ok {w : Wd} {d : D} {v : V} {l : List D} (r : Rep M w d v) (e : seqD d = some l) : ∃ a xs tp, v = .ref a ∧ Sq M.K tp w.fz a xs ∧ RepL M w l xs := by
  cases d <;> first | (cases e; done) | skip
  all_goals (cases e; simp only [Rep] at r; obtain ⟨a, xs, rfl, h, r⟩ := r)
  · exact ⟨a, xs, true, rfl, .inl (.inl h), r⟩
  · exact ⟨a, xs, false, rfl, .inl (.inl h), r⟩
  · exact ⟨a, xs, false, rfl, h, r⟩
theorem Sq.mono {K : PySem.W.Frag} {tp : Bool} {H H' : Hp} {a : Addr} {xs : List V} (f : ∀ a o, H a = some o → H' a = some o) (h : Sq K tp H a xs) : Sq K tp H' a xs := by
  unfold Sq at h ⊢
  cases tp with
  | true => exact sqT_mono f h
  | false => exact sqL_mono f h
def cEnum1 (a : FnL) : FnL := fun cf ρ G => (a cf ρ G).bind fun p => match p.1 with
  | [d] => (seqD d).map fun l => (enumD 0 l, p.2)
  | _ => none
def cEnum2 (a : FnL) : FnL := fun cf ρ G => (a cf ρ G).bind fun p => match p.1 with
  | [d, .int k] => if rgOk k = true then (seqD d).map fun l => (enumD k l, p.2) else none
  | _ => none
theorem x_enum1 {elts : List Expr} {kk : Nat} (hK : X.K = M.K) (hg : Gl X "enumerate") (hm : X.mg "enumerate" = none) (ha : PA X [a] (tA M cf cl)) (hs : isStar a = false) : PI X (.Tuple elts kk tpos) (.Call (.Name "enumerate" p) [a] [] pos) (tI M cf (cEnum1 cl)) :=
  ⟨fun pins s σ H R I h => (pi_enum1 hg hm ha hs).run pins s σ H R I (by
    obtain ⟨ρ, w, G, l, G', sl, st, ev, q⟩ := h
    refine (At.start sl st).runA ev fun l1 G1 vs H1 w1 e1 L1 A1 r1 => ?_
    dsimp only at e1
    split at e1
    · obtain ⟨l', e2, e3⟩ := mapSome e1
      cases e3
      simp only [RepL] at r1
      obtain ⟨x, r, rfl, r2, rfl⟩ := r1
      obtain ⟨a, xs, tp, rfl, h, r3⟩ := seqD_ok r2 e2
      exact ⟨a, xs, tp, rfl, by rw [hK]; exact h.mono A1.st.fzH, by rw [hK]; exact q _ H1 w1 L1 A1.st (ylds_enum h r3)⟩
    · cases e1)⟩
theorem x_enum2 {elts : List Expr} {kk : Nat} (hK : X.K = M.K) (hg : Gl X "enumerate") (hm : X.mg "enumerate" = none) (ha : PA X [a, b] (tA M cf cl)) (hs : isStar a = false) (hs2 : isStar b = false) : PI X (.Tuple elts kk tpos) (.Call (.Name "enumerate" p) [a, b] [] pos) (tI M cf (cEnum2 cl)) :=
  ⟨fun pins s σ H R I h => (pi_enumK hg hm ha hs hs2).run pins s σ H R I (by
    obtain ⟨ρ, w, G, l, G', sl, st, ev, q⟩ := h
    refine (At.start sl st).runA ev fun l1 G1 vs H1 w1 e1 L1 A1 r1 => ?_
    dsimp only at e1
    split at e1
    · rename_i d k
      by_cases hk : rgOk k = true
      · rw [if_pos hk] at e1
        obtain ⟨l', e2, e3⟩ := mapSome e1
        cases e3
        have hk := rgOk_ok hk
        simp only [RepL] at r1
        obtain ⟨x, r, rfl, r2, x2, r', rfl, r4, rfl⟩ := r1
        obtain ⟨a, xs, tp, rfl, h, r3⟩ := seqD_ok r2 e2
        simp only [Rep] at r4
        subst r4
        exact ⟨a, xs, tp, k, rfl, by omega, by omega, by rw [hK]; exact h.mono A1.st.fzH, by rw [hK]; exact q _ H1 w1 L1 A1.st (ylds_enum h r3)⟩
      · rw [if_neg hk] at e1; cases e1
    · cases e1)⟩
end
end Lp

namespace Lp
open PySem PySem.Spec PyProof.Rows L2

/-! ### targets -/
inductive Tg where
  | nm (i : Nat) | tup (l : List Nat)
def setAll : List Nat → List D → Env → Option Env
  | [], [], ρ => some ρ
  | i :: is, d :: ds, ρ => setAll is ds (ρ.set i (.v d))
  | _, _, _ => none
def bindTg : Tg → D → Env → Option Env
  | .nm i, d, ρ => some (ρ.set i (.v d))
  | .tup is, .tup ds, ρ => setAll is ds ρ
  | _, _, _ => none
def gNames : List Nat → TGs
  | [] => gNil
  | i :: is => gCons (gName i) (gNames is)
def tgG (K : PySem.W.Frag) : Tg → TG
  | .nm i => gName i
  | .tup is => gTup K is.length (gNames is)
def tgIx : Tg → List Nat
  | .nm i => [i]
  | .tup is => is
def wipeR (ρ : Env) : List Nat → Env
  | [] => ρ
  | v :: vs => (wipeR ρ vs).set v .no
section
variable {M : Md} {w : Wd} {H : Hp} {σ : L2.St} {ρ : Env} {G : Sto}
theorem SlOk.set {d : D} {v : V} (h : SlOk M H w σ ρ) (r : Rep M w d v) (i : Nat) : SlOk M H w (σ.set i (some v)) (ρ.set i (.v d)) := by
  refine ⟨by simp [h.len], fun j s e => ?_, fun a b o o' x e1 e2 e3 e4 => ?_⟩
  · by_cases z : i = j
    · subst z
      by_cases hi : i < ρ.length
      · rw [List.getElem?_set_self hi] at e; cases e
        exact ⟨v, by rw [List.getElem?_set_self (by rw [h.len]; exact hi)], r⟩
      · rw [List.getElem?_eq_none (by simpa using hi)] at e; cases e
    · rw [List.getElem?_set_ne z] at e
      rw [List.getElem?_set_ne z]
      exact h.at_ j s e
  · have na : i ≠ a := fun z => by
      subst z
      by_cases hi : i < ρ.length
      · rw [List.getElem?_set_self hi] at e1; cases e1
      · rw [List.getElem?_eq_none (by simpa using hi)] at e1; cases e1
    have nb : i ≠ b := fun z => by
      subst z
      by_cases hi : i < ρ.length
      · rw [List.getElem?_set_self hi] at e2; cases e2
      · rw [List.getElem?_eq_none (by simpa using hi)] at e2; cases e2
    rw [List.getElem?_set_ne na] at e1 e3
    rw [List.getElem?_set_ne nb] at e2 e4
    exact h.sep a b o o' x e1 e2 e3 e4
theorem SlOk.forget (h : SlOk M H w σ ρ) (i : Nat) (x : Option V) : SlOk M H w (σ.set i x) (ρ.set i .no) := by
  refine ⟨by simp [h.len], fun j s e => ?_, fun a b o o' y e1 e2 e3 e4 => ?_⟩
  · by_cases z : i = j
    · subst z
      by_cases hi : i < ρ.length
      · rw [List.getElem?_set_self hi] at e; cases e
        trivial
      · rw [List.getElem?_eq_none (by simpa using hi)] at e; cases e
    · rw [List.getElem?_set_ne z] at e
      rw [List.getElem?_set_ne z]
      exact h.at_ j s e
  · have na : i ≠ a := fun z => by
      subst z
      by_cases hi : i < ρ.length
      · rw [List.getElem?_set_self hi] at e1; cases e1
      · rw [List.getElem?_eq_none (by simpa using hi)] at e1; cases e1
    have nb : i ≠ b := fun z => by
      subst z
      by_cases hi : i < ρ.length
      · rw [List.getElem?_set_self hi] at e2; cases e2
      · rw [List.getElem?_eq_none (by simpa using hi)] at e2; cases e2
    rw [List.getElem?_set_ne na] at e1 e3
    rw [List.getElem?_set_ne nb] at e2 e4
    exact h.sep a b o o' y e1 e2 e3 e4
theorem SlOk.wipe (h : SlOk M H w σ ρ) : ∀ vs : List Nat, SlOk M H w (wipe σ vs) (wipeR ρ vs)
  | [] => h
  | v :: vs => (SlOk.wipe h vs).forget v none
theorem wipe_set {σ : L2.St} {i : Nat} {x : Option V} : ∀ {vs : List Nat}, i ∈ vs → wipe (σ.set i x) vs = wipe σ vs
  | v :: vs, h => by
    show (wipe (σ.set i x) vs).set v none = (wipe σ vs).set v none
    by_cases hm : i ∈ vs
    · rw [wipe_set hm]
    · have e : i = v := (List.mem_cons.mp h).elim id fun z => absurd z hm
      subst e
      have out : ∀ (vs : List Nat), i ∉ vs → wipe (σ.set i x) vs = (wipe σ vs).set i x := by
        intro vs
        induction vs with
        | nil => intro _; rfl
        | cons u us ih =>
          intro hn
          rw [List.mem_cons, not_or] at hn
          show (wipe (σ.set i x) us).set u none = ((wipe σ us).set u none).set i x
          rw [ih hn.2, List.set_comm _ _ hn.1]
      rw [out vs hm, List.set_set]
theorem wipe_wipe {σ : L2.St} : ∀ {vs : List Nat} (us : List Nat), (∀ i ∈ vs, i ∈ us) → wipe (wipe σ vs) us = wipe σ us
  | [], _, _ => rfl
  | v :: vs, us, h => by
    show wipe ((wipe σ vs).set v none) us = _
    rw [wipe_set (h v (by simp))]
    exact wipe_wipe us fun i hi => h i (List.mem_cons_of_mem _ hi)
/-- one's own objects are younger than H0 -/
def OwnFr (H0 : Hp) (σ : L2.St) (ρ : Env) : Prop := ∀ (i : Nat) (o : Ob) (a : Addr), ρ[i]? = some (.own o) → σ[i]? = some (some (.ref a)) → H0 a = none
theorem OwnFr.set {H0 : Hp} {σ : L2.St} {ρ : Env} (h : OwnFr H0 σ ρ) (i : Nat) (s : Sl) (x : Option V) (hs : ∀ o a, s = .own o → x = some (.ref a) → H0 a = none) : OwnFr H0 (σ.set i x) (ρ.set i s) := fun j o a e1 e2 => by
  by_cases z : i = j
  · subst z
    by_cases hi : i < ρ.length
    · rw [List.getElem?_set_self hi] at e1
      by_cases hj : i < σ.length
      · rw [List.getElem?_set_self hj] at e2
        exact hs o a (Option.some.inj e1) (Option.some.inj e2)
      · rw [List.getElem?_eq_none (by simpa using hj)] at e2; cases e2
    · rw [List.getElem?_eq_none (by simpa using hi)] at e1; cases e1
  · rw [List.getElem?_set_ne z] at e1 e2
    exact h j o a e1 e2
theorem names_run : ∀ (is : List Nat) (ds : List D) (xs : List V) (σ : L2.St) (ρ ρ1 : Env) (Q : L2.St → Hp → Prop), SlOk M H w σ ρ → RepL M w ds xs → setAll is ds ρ = some ρ1 →
    (∀ σ1, SlOk M H w σ1 ρ1 → (∀ vs, (∀ i ∈ is, i ∈ vs) → wipe σ1 vs = wipe σ vs) → (∀ H0, OwnFr H0 σ ρ → OwnFr H0 σ1 ρ1) → Q σ1 H) → xs.length = is.length ∧ gNames is xs σ H Q
  | [], [], xs, σ, ρ, ρ1, Q, s, r, e, k => by
    simp only [RepL] at r
    subst r
    cases e
    exact ⟨rfl, rfl, k σ s (fun _ _ => rfl) fun _ h => h⟩
  | [], d :: ds, _, _, _, _, _, _, _, e, _ => by cases e
  | i :: is, [], _, _, _, _, _, _, _, e, _ => by cases e
  | i :: is, d :: ds, xs, σ, ρ, ρ1, Q, s, r, e, k => by
    simp only [RepL] at r
    obtain ⟨x, t, rfl, r1, r2⟩ := r
    obtain ⟨h1, h2⟩ := names_run is ds t (σ.set i (some x)) (ρ.set i (.v d)) ρ1 Q (s.set r1 i) r2 e fun σ1 s1 w1 f1 => k σ1 s1 (fun vs hv => by
      rw [w1 vs fun j hj => hv j (List.mem_cons_of_mem _ hj)]
      exact wipe_set (hv i (by simp))) fun H0 h => f1 H0 (h.set i _ _ fun o a e => by cases e)
    exact ⟨by rw [List.length_cons, List.length_cons, h1], x, t, rfl, h2⟩
theorem tg_run {K : PySem.W.Frag} (hK : K = M.K) {tg : Tg} {d : D} {x : V} {ρ1 : Env} {Q : L2.St → Hp → Prop} (s : SlOk M H w σ ρ) (f : FzH w H) (r : Rep M w d x) (e : bindTg tg d ρ = some ρ1)
    (k : ∀ σ1, SlOk M H w σ1 ρ1 → (∀ vs, (∀ i ∈ tgIx tg, i ∈ vs) → wipe σ1 vs = wipe σ vs) → (∀ H0, OwnFr H0 σ ρ → OwnFr H0 σ1 ρ1) → Q σ1 H) : (tgG K tg) x σ H Q := by
  cases tg with
  | nm i =>
    cases e
    exact k _ (s.set r i) (fun vs hv => wipe_set (hv i (by simp [tgIx]))) fun H0 h => h.set i _ _ fun o a e => by cases e
  | tup is =>
    cases d <;> first | (cases e; done) | skip
    simp only [Rep] at r
    obtain ⟨a, xs, rfl, h, r⟩ := r
    obtain ⟨h1, h2⟩ := names_run is _ xs σ ρ ρ1 Q s r e k
    exact ⟨a, xs, rfl, by rw [hK]; exact .inl (.inl (f _ _ h)), h1, h2⟩
end

/-! ### comprehensions -/
def lcL (tg : Tg) (t : FnT) (e : Fn) (cf : CF) (ρ : Env) : List D → Sto → Option (List D × Sto)
  | [], G => some ([], G)
  | d :: l, G => (bindTg tg d ρ).bind fun ρ1 => (t cf ρ1 G).bind fun p => match p.1 with
    | true => (e cf ρ1 p.2).bind fun q => (frz q.1).bind fun y => (lcL tg t e cf ρ l q.2).map fun z => (y :: z.1, z.2)
    | false => lcL tg t e cf ρ l p.2
def cYes : FnT := fun _ _ G => some (true, G)
def cLc (vs : List Nat) (src : FnL) (tg : Tg) (t : FnT) (e : Fn) : Fn := fun cf ρ G => (src cf ρ G).bind fun p => if p.1.length ≤ 1000000 then (lcL tg t e cf (wipeR ρ vs) p.1 p.2).map fun q => (.tmp (.lst q.1), q.2) else none
section
variable {M : Md} {cf : CF}
theorem StOk.updOne {H : Hp} {w : Wd} {G : Sto} {p : Addr} {o : HO} (h : StOk M H w G) (f : w.fz p = none) (n : p ∉ w.al) : StOk M (upd H p o) w G := by
  refine ⟨fun a u e => ?_, h.len, h.nd, fun m ob a e1 e2 => ?_⟩
  · rw [upd_ne (ne_of_none e f)]; exact h.fzH a u e
  · obtain ⟨q, z⟩ := h.at_ m ob a e1 e2
    have ne : a ≠ p := fun z => n (by rw [← z]; exact List.mem_of_getElem? e2)
    refine ⟨?_, z⟩
    cases ob with
    | lst l => obtain ⟨xs, e, r⟩ := q; exact ⟨xs, (upd_ne ne).trans e, r⟩
    | dK ks vs => obtain ⟨xs, e, q, r⟩ := q; exact ⟨xs, (upd_ne ne).trans e, q, r⟩
    | dT ks vs => obtain ⟨xs, e, q, r⟩ := q; exact ⟨xs, (upd_ne ne).trans e, q, r⟩
    | ins c ns l => obtain ⟨dx, fs, e, q, r⟩ := q; exact ⟨dx, fs, (upd_ne ne).trans e, q, r⟩
theorem Lat.updOne {H H' : Hp} {w w' : Wd} {p : Addr} {o : HO} (L : Lat H w H' w') (h : H p = none) : Lat H w (upd H' p o) w' :=
  ⟨L.fz, L.al, L.nw, fun a xs e => by
    by_cases z : a = p
    · subst z; exact .inl h
    · rw [upd_ne z] at e; exact L.tb a xs e, fun a u e n => by rw [upd_ne (ne_of_none e h)]; exact L.kp a u e n, fun a e => by
    by_cases z : a = p
    · subst z; exact absurd h e
    · rw [upd_ne z]; exact L.dm a e⟩
/-- what stays so of one's own object behind a later state -/
theorem Lat.own {H H' : Hp} {w w' : Wd} {p : Addr} {o : HO} (L : Lat H w H' w') (h : H p = some o) (f : w.fz p = none) (n : p ∉ w.al) (nt : ∀ xs, o ≠ .tup xs := by intro _ z; cases z) : H' p = some o ∧ w'.fz p = none ∧ p ∉ w'.al := by
  refine ⟨L.kp p o h n, ?_, fun hm => ?_⟩
  · cases z : w'.fz p with
    | none => rfl
    | some u =>
      rcases L.nw p (by rw [z]; simp) f with this | ⟨xs, this⟩
      · rw [h] at this; cases this
      · rw [h] at this; exact absurd (Option.some.inj this) (nt xs)
  · obtain ⟨t, e, k⟩ := L.al
    rw [e] at hm
    rcases List.mem_append.mp hm with z | z
    · exact n z
    · rw [k p z] at h; cases h
theorem tLc_ok {K : PySem.W.Frag} (hK : K = M.K) {vs : List Nat} {src : FnL} {tg : Tg} {t : FnT} {ce : Fn} (hv : ∀ i ∈ tgIx tg, i ∈ vs) (σ : L2.St) (H00 : Hp) (Q : VK) (h : tE M cf (cLc vs src tg t ce) σ H00 Q) :
    tLc (tI M cf src) (tgG K tg) (tT M cf t) (tE M cf ce) vs σ H00 Q := by
  obtain ⟨ρ, w, G, r, G', sl, st, ev, q⟩ := h
  obtain ⟨⟨l, G1⟩, e1, e2⟩ := bindSome ev
  dsimp only at e2
  have hz : l.length ≤ 1000000 := by
    by_cases z : l.length ≤ 1000000
    · exact z
    · rw [if_neg z] at e2; cases e2
  rw [if_pos hz] at e2
  obtain ⟨⟨tot, G2⟩, e3, e4⟩ := mapSome e2
  cases e4
  clear e2 ev
  refine ⟨ρ, w, G, l, G1, sl, st, e1, fun J H1 w1 L1 s1 Y D hD => ?_⟩
  have sl1 := (sl.lat L1).wipe vs
  have fD := s1.fzn hD
  have nD := s1.aln hD
  refine lc_it (J := J) (n := l.length) (G := fun H => ∃ w, Mono w1 w ∧ FzH w H) (Y := J.yld) ⟨fun i H hi ⟨w, m, f⟩ => Y.go i _ H w (List.getElem?_eq_getElem hi) m f, fun H ⟨w, m, f⟩ => Y.st H w m f, fun _ _ _ _ _ _ y => y⟩
    (fun i H => ∃ w ys Gi zs, Lat H1 w1 H w ∧ StOk M H w Gi ∧ (∃ acc, H D = some (.lst acc) ∧ RepL M w ys acc) ∧ w.fz D = none ∧ D ∉ w.al ∧ ys.length ≤ i ∧ lcL tg t ce cf (wipeR ρ vs) (l.drop i) Gi = some (zs, G2) ∧ ys ++ zs = tot) ?_ ?_ ?_ ?_
  · exact ⟨w1, [], G1, tot, Lat.new (M := M) (G := G1) hD, s1.new hD, ⟨[], upd_same, RepL.nil⟩, fD, nD, Nat.le_refl _, e3, rfl⟩
  · rintro i H _ ⟨w, ys, Gi, zs, L, s, _⟩
    exact ⟨w, L.mono, s.fzH⟩
  · rintro i x H H' hi ⟨w, ys, Gi, zs, L, s, ⟨acc, hacc, racc⟩, f, n, hy, ez, et⟩ y
    have ed : l[i]? = some l[i] := List.getElem?_eq_getElem hi
    generalize l[i] = d at ed
    obtain ⟨w', L', s', f', rd⟩ := Y.yl i d H w x H' ed L.mono s.fzH y
    have edr : l.drop i = d :: l.drop (i + 1) := by
      rw [List.drop_eq_getElem_cons hi]
      rw [List.getElem?_eq_getElem hi] at ed
      rw [Option.some.inj ed]
    rw [edr] at ez
    obtain ⟨ρ1, e5, e6⟩ := bindSome ez
    obtain ⟨⟨b, G3⟩, e7, e8⟩ := bindSome e6
    clear ez e6
    refine tg_run hK (sl1.lat (L.trans L')) f' rd e5 fun σ1 sl2 hw _ => ?_
    refine ⟨by rw [hw vs hv]; exact wipe_wipe vs fun _ h => h, ?_⟩
    obtain ⟨o1, o2, o3⟩ := L'.own hacc f n
    have r1 := racc.lat L'
    refine ⟨ρ1, w', Gi, b, G3, sl2, s' _ s, e7, fun H3 w3 L3 s3 => ?_⟩
    obtain ⟨p1, p2, p3⟩ := L3.own o1 o2 o3
    have r2 := r1.lat L3
    dsimp only at e8
    cases b with
    | false =>
      rw [if_neg Bool.false_ne_true]
      exact ⟨w3, ys, G3, zs, (L.trans L').trans L3, s3, ⟨acc, p1, r2⟩, p2, p3, Nat.le_succ_of_le hy, e8, et⟩
    | true =>
      rw [if_pos rfl]
      obtain ⟨⟨re, G4⟩, e9, e10⟩ := bindSome e8
      obtain ⟨yd, e11, e12⟩ := bindSome e10
      obtain ⟨⟨zs', G5⟩, e13, e14⟩ := mapSome e12
      cases e14
      refine ⟨ρ1, w3, G3, re, G4, sl2.lat L3, s3, e9, fun yv H4 w4 L4 s4 x4 => ?_⟩
      obtain ⟨w5, A5, r5, L5⟩ := ((At.start (sl2.lat L3) s3).step L4 s4).frz x4 e11
      obtain ⟨q1, q2, q3⟩ := L5.own p1 p2 p3
      refine ⟨acc, q1, ?_, w5, ys ++ [yd], G4, zs', ((L.trans L').trans (L3.trans L5)).updOne hD, A5.st.updOne q2 q3, ⟨_, upd_same, (r2.lat L5).append (RepL.cons r5 RepL.nil)⟩, q2, q3, by rw [List.length_append]; exact Nat.succ_le_succ hy, e13, by rw [List.append_assoc]; exact et⟩
      have := racc.length
      exact sz_lineT (by show acc.length < 16777216; omega)
  · rintro H ⟨w', ys, Gi, zs, L, s, ⟨acc, hacc, racc⟩, f, n, hy, ez, et⟩
    rw [List.drop_length] at ez
    cases ez
    rw [List.append_nil] at et
    subst et
    refine q _ H w' (L1.trans L) s ⟨D, rfl, ⟨acc, hacc, racc⟩, f, n, ?_⟩
    cases z : H00 D with
    | none => rfl
    | some u => exact absurd hD (L1.dm D (by rw [z]; simp))
end
end Lp

namespace Lp
open PySem PySem.Spec PyProof.Rows L2

/-! ### statements -/
inductive Out where
  | nx (ρ : Env) (G : Sto) | ret (r : R) (G : Sto) | bk (ρ : Env) (G : Sto) | ct (ρ : Env) (G : Sto)
abbrev SFn := CF → Env → Sto → Option Out
/-- where a def's body stands that began at H0 -/
structure GS (M : Md) (H0 : Hp) (w0 : Wd) (σ : L2.St) (ρ : Env) (H : Hp) (w : Wd) (G : Sto) : Prop where
  lat : Lat H0 w0 H w
  st : StOk M H w G
  sl : SlOk M H w σ ρ
  fr : OwnFr H0 σ ρ
section
variable {M : Md} {cf : CF} {H0 H H1 : Hp} {w0 w w1 : Wd} {σ : L2.St} {ρ : Env} {G G1 : Sto}
theorem GS.at_ (g : GS M H0 w0 σ ρ H w G) : At M H w σ ρ H w G := At.start g.sl g.st
theorem GS.next (g : GS M H0 w0 σ ρ H w G) (a : At M H w σ ρ H1 w1 G1) : GS M H0 w0 σ ρ H1 w1 G1 := ⟨g.lat.trans a.lat, a.st, a.sl, g.fr⟩
/-- what is wanted behind a statement -/
def OutOk (M : Md) (H0 : Hp) (w0 ws : Wd) (D : Ends) : Out → Prop
  | .nx ρ G => ∀ σ H w, GS M H0 w0 σ ρ H w G → Mono ws w → D.nx σ H
  | .bk ρ G => ∀ σ H w, GS M H0 w0 σ ρ H w G → Mono ws w → D.bk σ H
  | .ct ρ G => ∀ σ H w, GS M H0 w0 σ ρ H w G → Mono ws w → D.ct σ H
  | .ret r G => ∀ v H w, Lat H0 w0 H w → StOk M H w G → RX M H0 [] [] H w r v → D.rt v H
theorem OutOk.mono {w2 : Wd} {D : Ends} {o : Out} (k : OutOk M H0 w0 w D o) (m : Mono w w2) : OutOk M H0 w0 w2 D o := by
  cases o with
  | nx ρ G => exact fun σ H w g n => k σ H w g (m.trans n)
  | bk ρ G => exact fun σ H w g n => k σ H w g (m.trans n)
  | ct ρ G => exact fun σ H w g n => k σ H w g (m.trans n)
  | ret r G => exact k
def tS (M : Md) (cf : CF) (H0 : Hp) (w0 : Wd) (c : SFn) : TS := fun D σ H => ∃ ρ w G o, GS M H0 w0 σ ρ H w G ∧ c cf ρ G = some o ∧ OutOk M H0 w0 w D o
end
section
variable {X : Cx} {M : Md} {cf : CF} {H0 : Hp} {w0 : Wd} {e a b tg : Expr} {es : List Expr} {st : Stmt} {ss : List Stmt} {ce ca cb : Fn} {ct : FnT} {cs c1 c2 : SFn} {cl : FnL} {pos : Pos}
def sNext : SFn := fun _ ρ G => some (.nx ρ G)
def sSeq (a b : SFn) : SFn := fun cf ρ G => (a cf ρ G).bind fun o => match o with
  | .nx ρ' G' => b cf ρ' G'
  | o => some o
theorem s_nil : PSs X [] (tS M cf H0 w0 sNext) := pssW pss_nil fun D σ H h => by
  obtain ⟨ρ, w, G, o, g, e, k⟩ := h
  cases e
  exact k σ H w g (Mono.refl w)
theorem s_pass : PS X (.Pass pos) (tS M cf H0 w0 sNext) := psW ps_pass fun D σ H h => by
  obtain ⟨ρ, w, G, o, g, e, k⟩ := h
  cases e
  exact k σ H w g (Mono.refl w)
theorem s_one (h : PS X st (tS M cf H0 w0 cs)) : PSs X [st] (tS M cf H0 w0 cs) := pss_one h
theorem s_cons (h : PS X st (tS M cf H0 w0 c1)) (h2 : PSs X ss (tS M cf H0 w0 c2)) : PSs X (st :: ss) (tS M cf H0 w0 (sSeq c1 c2)) := pssW (pss_cons h h2) fun D σ H h => by
  obtain ⟨ρ, w, G, o, g, e, k⟩ := h
  obtain ⟨o1, e1, e2⟩ := bindSome e
  refine ⟨ρ, w, G, o1, g, e1, ?_⟩
  cases o1 with
  | nx ρ1 G1 => exact fun σ1 H1 w1 g1 m1 => ⟨ρ1, w1, G1, o, g1, e2, k.mono m1⟩
  | ret r G1 => cases e2; exact k
  | bk ρ1 G1 => cases e2; exact k
  | ct ρ1 G1 => cases e2; exact k
def sBreak : SFn := fun _ ρ G => some (.bk ρ G)
def sCont : SFn := fun _ ρ G => some (.ct ρ G)
theorem s_break : PS X (.Break pos) (tS M cf H0 w0 sBreak) := psW ps_break fun D σ H h => by
  obtain ⟨ρ, w, G, o, g, e, k⟩ := h
  cases e
  exact k σ H w g (Mono.refl w)
theorem s_continue : PS X (.Continue pos) (tS M cf H0 w0 sCont) := psW ps_continue fun D σ H h => by
  obtain ⟨ρ, w, G, o, g, e, k⟩ := h
  cases e
  exact k σ H w g (Mono.refl w)
/-- a row that is never come to -/
def sNever : SFn := fun _ _ _ => none
theorem s_never : PS X st (tS M cf H0 w0 sNever) := psW ps_never fun D σ H h => by
  obtain ⟨ρ, w, G, o, g, e, k⟩ := h
  cases e
def sIf (t : FnT) (a b : SFn) : SFn := fun cf ρ G => (t cf ρ G).bind fun p => match p.1 with
  | true => a cf ρ p.2
  | false => b cf ρ p.2
theorem s_if {A B : List Stmt} (ht : PT X e (tT M cf ct)) (ha : PSs X A (tS M cf H0 w0 c1)) (hb : PSs X B (tS M cf H0 w0 c2)) : PS X (.If e A B pos) (tS M cf H0 w0 (sIf ct c1 c2)) := psW (ps_if ht ha hb) fun D σ H h => by
  obtain ⟨ρ, w, G, o, g, e, k⟩ := h
  refine g.at_.runT e fun b G1 H1 w1 e1 L1 A1 => ?_
  dsimp only at e1
  cases b with
  | true => exact iteT ⟨ρ, w1, G1, o, g.next A1, e1, k.mono L1.mono⟩
  | false => exact iteF ⟨ρ, w1, G1, o, g.next A1, e1, k.mono L1.mono⟩
/-- return -/
def retR : R → R
  | .bor _ o => .tmp o
  | r => r
def sRet (c : Fn) : SFn := fun cf ρ G => (c cf ρ G).map fun p => .ret (retR p.1) p.2
theorem rx_ret {H H1 : Hp} {w w1 : Wd} {σ : L2.St} {ρ : Env} {G G1 : Sto} {r : R} {v : V} (g : GS M H0 w0 σ ρ H w G) (a : At M H w σ ρ H1 w1 G1) (x : RX M H σ ρ H1 w1 r v) : RX M H0 [] [] H1 w1 (retR r) v := by
  cases r with
  | d y => exact x
  | tmp o => exact RX.back (M := M) (H := H0) (σ := []) (ρ := []) (r := .tmp o) x g.lat
  | bor i o =>
    obtain ⟨e1, e2⟩ := x
    obtain ⟨p, e3, ob, n1, n2⟩ := a.sl.at_ i _ e1
    rw [e2] at e3; cases e3
    exact ⟨p, rfl, ob, n1, n2, g.fr i o p e1 e2⟩
theorem s_ret (h : PE X e (tE M cf ce)) : PS X (.Return (some e) pos) (tS M cf H0 w0 (sRet ce)) := psW (ps_ret h) fun D σ H h => by
  obtain ⟨ρ, w, G, o, g, e, k⟩ := h
  obtain ⟨⟨r, G1⟩, e1, e2⟩ := mapSome e
  subst e2
  exact ⟨ρ, w, G, r, G1, g.sl, g.st, e1, fun v H1 w1 L s x => k v H1 w1 (g.lat.trans L) s (rx_ret g (g.at_.step L s) x)⟩
def sRetN : SFn := fun _ _ G => some (.ret (.d .non) G)
theorem s_retN : PS X (.Return none pos) (tS M cf H0 w0 sRetN) := psW ps_retN fun D σ H h => by
  obtain ⟨ρ, w, G, o, g, e, k⟩ := h
  cases e
  exact k .non H w g.lat g.st of_non
/-- freezing one's own objects (no row of the text) -/
def frzSl : Sl → Sl
  | .own (.lst l) => .v (.lst l)
  | .own (.ins c ns l) => .v (.ins c ns l)
  | s => s
def sFrz (i : Nat) (s : SFn) : SFn := fun cf ρ G => match ρ[i]? with
  | some x => s cf (ρ.set i (frzSl x)) G
  | none => none
theorem GS.freeze {H : Hp} {w : Wd} {σ : L2.St} {ρ : Env} {G : Sto} {i : Nat} {x : Sl} (g : GS M H0 w0 σ ρ H w G) (e : ρ[i]? = some x) : ∃ w', GS M H0 w0 σ (ρ.set i (frzSl x)) H w' G ∧ Mono w w' := by
  have same : ρ.set i x = ρ := by
    obtain ⟨hi, e1⟩ := List.getElem?_eq_some_iff.mp e
    rw [← e1]
    exact List.set_getElem_self hi
  cases x with
  | no => exact ⟨w, by rw [show frzSl .no = .no from rfl, same]; exact g, Mono.refl w⟩
  | v d => exact ⟨w, by rw [show frzSl (.v d) = .v d from rfl, same]; exact g, Mono.refl w⟩
  | own o =>
    obtain ⟨p, e3, ob, n1, n2⟩ := g.sl.at_ i _ e
    have go : ∀ (ho : HO) (d : D), H p = some ho → Rep M (w.put p ho) d (.ref p) → GS M H0 w0 σ (ρ.set i (.v d)) H (w.put p ho) G := fun ho d hh rd => by
      have n0 := g.fr i o p e e3
      have hs : σ.set i (some (.ref p)) = σ := by
        obtain ⟨hi, e1⟩ := List.getElem?_eq_some_iff.mp e3
        rw [← e1]
        exact List.set_getElem_self hi
      have keep : ∀ {j : Nat} {s : Sl}, j ≠ i → ρ[j]? = some s → SlAt M (w.put p ho) H s σ[j]? := fun {j s} hj ej => by
        have q := g.sl.at_ j s ej
        cases s with
        | no => trivial
        | v d => obtain ⟨v, e1, r⟩ := q; exact ⟨v, e1, r.put n1⟩
        | own ob2 =>
          obtain ⟨b, e1, r, m1, m2⟩ := q
          have nb : b ≠ p := fun z => hj (g.sl.sep j i ob2 o b ej e e1 (by rw [z]; exact e3))
          refine ⟨b, e1, ?_, by show upd w.fz p ho b = none; rw [upd_ne nb]; exact m1, m2⟩
          cases ob2 with
          | lst l => obtain ⟨xs, e, r⟩ := r; exact ⟨xs, e, r.put n1⟩
          | dK ks vs => obtain ⟨xs, e, q, r⟩ := r; exact ⟨xs, e, q, r.put n1⟩
          | dT ks vs => obtain ⟨xs, e, q, r⟩ := r; exact ⟨xs, e, q, r.put n1⟩
          | ins c ns l => obtain ⟨dx, fs, e, q, r⟩ := r; exact ⟨dx, fs, e, q, r.put n1⟩
      refine ⟨g.lat.freeze (M := M) (G := G) n0 n1, g.st.freeze hh n1 n2, ⟨by simp [g.sl.len], fun j s ej => ?_, fun j k o1 o2 x a1 a2 a3 a4 => ?_⟩, fun j ob b e1 e2 => ?_⟩
      · by_cases z : i = j
        · subst z
          rw [List.getElem?_set_self (List.getElem?_eq_some_iff.mp e).1] at ej
          cases ej
          exact ⟨.ref p, e3, rd⟩
        · rw [List.getElem?_set_ne z] at ej
          exact keep (Ne.symm z) ej
      · have nj : i ≠ j := fun z => by subst z; rw [List.getElem?_set_self (List.getElem?_eq_some_iff.mp e).1] at a1; cases a1
        have nk : i ≠ k := fun z => by subst z; rw [List.getElem?_set_self (List.getElem?_eq_some_iff.mp e).1] at a2; cases a2
        rw [List.getElem?_set_ne nj] at a1
        rw [List.getElem?_set_ne nk] at a2
        exact g.sl.sep j k o1 o2 x a1 a2 a3 a4
      · have nj : i ≠ j := fun z => by subst z; rw [List.getElem?_set_self (List.getElem?_eq_some_iff.mp e).1] at e1; cases e1
        rw [List.getElem?_set_ne nj] at e1
        exact g.fr j ob b e1 e2
    cases o with
    | lst l =>
      obtain ⟨xs, hx, rr⟩ := ob
      refine ⟨_, go _ (.lst l) hx ?_, ⟨(Wd.put_lat (H := H) n1).1, (Wd.put_lat (H := H) n1).2⟩⟩
      simp only [Rep]
      exact ⟨p, xs, rfl, (show upd w.fz p (.lst xs) p = _ from upd_same), rr.put n1⟩
    | ins c ns l =>
      obtain ⟨dx, fs, hx, hn, rr⟩ := ob
      refine ⟨_, go _ (.ins c ns l) hx ?_, ⟨(Wd.put_lat (H := H) n1).1, (Wd.put_lat (H := H) n1).2⟩⟩
      simp only [Rep]
      exact ⟨p, dx, fs, rfl, (show upd w.fz p (.ins (M.ca c) dx fs) p = _ from upd_same), hn, rr.put n1⟩
    | dK ks vs => exact ⟨w, by rw [show frzSl (.own (.dK ks vs)) = .own (.dK ks vs) from rfl, same]; exact g, Mono.refl w⟩
    | dT ks vs => exact ⟨w, by rw [show frzSl (.own (.dT ks vs)) = .own (.dT ks vs) from rfl, same]; exact g, Mono.refl w⟩
theorem s_frz {i : Nat} (h : PS X st (tS M cf H0 w0 cs)) : PS X st (tS M cf H0 w0 (sFrz i cs)) := psW h fun D σ H h => by
  obtain ⟨ρ, w, G, o, g, e, k⟩ := h
  unfold sFrz at e
  cases z : ρ[i]? with
  | none => rw [z] at e; cases e
  | some x =>
    rw [z] at e
    obtain ⟨w', g', m'⟩ := g.freeze z
    exact ⟨_, w', G, o, g', e, k.mono m'⟩

/-! ### storing -/
inductive Mo where
  | val | own | ref
def putN (m : Mo) (i : Nat) (r : R) (ρ : Env) (G : Sto) : Option (Env × Sto) := match m, r with
  | .val, r => (frz r).map fun d => (ρ.set i (.v d), G)
  | .own, .tmp o => some (ρ.set i (.own o), G)
  | .ref, .tmp o => some (ρ.set i (.v (.ref G.length)), G ++ [o])
  | _, _ => none
/-- what has been made and waits to be stored; Hs: where the row began; N: addresses that it is not -/
def Pend (M : Md) (Hs H : Hp) (w : Wd) (r : R) (v : V) : Prop := RX M Hs [] [] H w r v
def tmpAt : R → V → Option Addr
  | .tmp _, .ref a => some a
  | _, _ => none
theorem Pend.ne_own {Hs H : Hp} {w ws : Wd} {σ : L2.St} {ρ : Env} {o : Ob} {p : Addr} (hs : SlOk M Hs ws σ ρ) (x : Pend M Hs H w (.tmp o) (.ref p)) {i : Nat} {o' : Ob} (e : ρ[i]? = some (.own o')) : σ[i]? ≠ some (some (.ref p)) := fun e2 => by
  obtain ⟨a, e3, ob, _⟩ := hs.at_ i _ e
  rw [e2] at e3; cases e3
  obtain ⟨q, eq, _, _, _, n⟩ := x
  cases eq
  exact ob.there n
/-- one's own objects keep off some addresses -/
def OffOwn (σ : L2.St) (ρ : Env) (p : Addr) : Prop := ∀ (i : Nat) (o : Ob), ρ[i]? = some (.own o) → σ[i]? ≠ some (some (.ref p))
theorem OffOwn.set {σ : L2.St} {ρ : Env} {p : Addr} (h : OffOwn σ ρ p) (i : Nat) (s : Sl) (x : Option V) (hs : ∀ o, s = .own o → x ≠ some (.ref p)) : OffOwn (σ.set i x) (ρ.set i s) p := fun j o e1 e2 => by
  by_cases z : i = j
  · subst z
    by_cases hi : i < ρ.length
    · rw [List.getElem?_set_self hi] at e1
      by_cases hj : i < σ.length
      · rw [List.getElem?_set_self hj] at e2
        exact hs o (Option.some.inj e1) (Option.some.inj e2)
      · rw [List.getElem?_eq_none (by simpa using hj)] at e2; cases e2
    · rw [List.getElem?_eq_none (by simpa using hi)] at e1; cases e1
  · rw [List.getElem?_set_ne z] at e1 e2
    exact h j o e1 e2
theorem ObAt.mon {w w' : Wd} {H : Hp} {a : Addr} {o : Ob} (h : ObAt M w H a o) (m : Mono w w') : ObAt M w' H a o := by
  cases o with
  | lst l => obtain ⟨xs, e, r⟩ := h; exact ⟨xs, e, r.mon m⟩
  | dK ks vs => obtain ⟨xs, e, q, r⟩ := h; exact ⟨xs, e, q, r.mon m⟩
  | dT ks vs => obtain ⟨xs, e, q, r⟩ := h; exact ⟨xs, e, q, r.mon m⟩
  | ins c ns l => obtain ⟨dx, fs, e, q, r⟩ := h; exact ⟨dx, fs, e, q, r.mon m⟩
theorem SlOk.world {H : Hp} {w w' : Wd} {σ : L2.St} {ρ : Env} (h : SlOk M H w σ ρ) (m : Mono w w') (k : ∀ (i : Nat) (o : Ob) (a : Addr), ρ[i]? = some (.own o) → σ[i]? = some (some (.ref a)) → w.fz a = none → a ∉ w.al → w'.fz a = none ∧ a ∉ w'.al) : SlOk M H w' σ ρ := by
  refine ⟨h.len, fun i s e => ?_, h.sep⟩
  have q := h.at_ i s e
  cases s with
  | no => trivial
  | v d => obtain ⟨v, e1, r⟩ := q; exact ⟨v, e1, r.mon m⟩
  | own o =>
    obtain ⟨a, e1, ob, n1, n2⟩ := q
    obtain ⟨m1, m2⟩ := k i o a e e1 n1 n2
    exact ⟨a, e1, ob.mon m, m1, m2⟩
theorem SlOk.setOwn {H : Hp} {w : Wd} {σ : L2.St} {ρ : Env} {o : Ob} {p : Addr} (h : SlOk M H w σ ρ) (ob : ObAt M w H p o) (n1 : w.fz p = none) (n2 : p ∉ w.al) (off : OffOwn σ ρ p) (i : Nat) : SlOk M H w (σ.set i (some (.ref p))) (ρ.set i (.own o)) := by
  have ix : ∀ {j : Nat} {s : Sl}, (ρ.set i (.own o))[j]? = some s → (j = i ∧ i < ρ.length ∧ s = .own o) ∨ (j ≠ i ∧ ρ[j]? = some s) := fun {j s} e => by
    by_cases z : i = j
    · subst z
      by_cases hi : i < ρ.length
      · rw [List.getElem?_set_self hi] at e; cases e; exact .inl ⟨rfl, hi, rfl⟩
      · rw [List.getElem?_eq_none (by simpa using hi)] at e; cases e
    · rw [List.getElem?_set_ne z] at e; exact .inr ⟨Ne.symm z, e⟩
  refine ⟨by simp [h.len], fun j s e => ?_, fun a b o1 o2 x e1 e2 e3 e4 => ?_⟩
  · rcases ix e with ⟨rfl, hi, rfl⟩ | ⟨ne, e⟩
    · exact ⟨p, by rw [List.getElem?_set_self (by rw [h.len]; exact hi)], ob, n1, n2⟩
    · rw [List.getElem?_set_ne (Ne.symm ne)]
      exact h.at_ j s e
  · rcases ix e1 with ⟨rfl, hi, z1⟩ | ⟨ne1, e11⟩
    · rw [List.getElem?_set_self (by rw [h.len]; exact hi)] at e3
      cases e3
      rcases ix e2 with ⟨rfl, _, _⟩ | ⟨ne2, e2⟩
      · rfl
      · rw [List.getElem?_set_ne (Ne.symm ne2)] at e4
        exact absurd e4 (off b o2 e2)
    · rw [List.getElem?_set_ne (Ne.symm ne1)] at e3
      rcases ix e2 with ⟨rfl, hi, _⟩ | ⟨ne2, e22⟩
      · rw [List.getElem?_set_self (by rw [h.len]; exact hi)] at e4
        cases e4
        exact absurd e3 (off a o1 e11)
      · rw [List.getElem?_set_ne (Ne.symm ne2)] at e4
        exact h.sep a b o1 o2 x e11 e22 e3 e4
theorem put_ok {Hs H : Hp} {w : Wd} {σ : L2.St} {ρ ρ' : Env} {G G' : Sto} {m : Mo} {i : Nat} {r : R} {v : V} (g : GS M H0 w0 σ ρ H w G) (ls : ∀ a, Hs a = none → H0 a = none) (x : Pend M Hs H w r v) (off : ∀ p, tmpAt r v = some p → OffOwn σ ρ p) (e : putN m i r ρ G = some (ρ', G')) :
    ∃ w', GS M H0 w0 (σ.set i (some v)) ρ' H w' G' ∧ (∀ r2 v2, (∀ p, tmpAt r v = some p → tmpAt r2 v2 ≠ some p) → Pend M Hs H w r2 v2 → Pend M Hs H w' r2 v2) ∧
      (∀ p, (tmpAt r v ≠ some p) → OffOwn σ ρ p → OffOwn (σ.set i (some v)) ρ' p) ∧ Mono w w' := by
  have pend : ∀ {w' : Wd} {p : Addr}, Mono w w' → (∀ a, a ≠ p → w.fz a = none → w'.fz a = none) → (∀ a, a ≠ p → a ∉ w.al → a ∉ w'.al) → ∀ r2 v2, tmpAt r2 v2 ≠ some p → Pend M Hs H w r2 v2 → Pend M Hs H w' r2 v2 := fun {w' p} mo h1 h2 r2 v2 hn hx => by
    cases r2 with
    | d y => exact Rep.mon hx mo
    | tmp o =>
      obtain ⟨a, rfl, ob, n1, n2, n3⟩ := hx
      have ne : a ≠ p := fun z => hn (by rw [z]; rfl)
      exact ⟨a, rfl, ob.mon mo, h1 a ne n1, h2 a ne n2, n3⟩
    | bor _ _ => exact hx
  cases m with
  | val =>
    obtain ⟨d, e1, e2⟩ := mapSome e
    cases e2
    cases r with
    | bor _ _ => cases e1
    | d y =>
      cases e1
      exact ⟨w, ⟨g.lat, g.st, g.sl.set x i, g.fr.set i _ _ fun o a e => by cases e⟩, fun r2 v2 _ h => h, fun p _ h => h.set i _ _ fun o e => (by cases e), Mono.refl w⟩
    | tmp o =>
      obtain ⟨p, rfl, ob, n1, n2, n3⟩ := x
      have go : ∀ (ho : HO) (d : D), H p = some ho → Rep M (w.put p ho) d (.ref p) →
          ∃ w', GS M H0 w0 (σ.set i (some (.ref p))) (ρ.set i (.v d)) H w' G ∧ (∀ r2 v2, (∀ q, tmpAt (.tmp o) (.ref p) = some q → tmpAt r2 v2 ≠ some q) → Pend M Hs H w r2 v2 → Pend M Hs H w' r2 v2) ∧
            (∀ q, (tmpAt (.tmp o) (.ref p) ≠ some q) → OffOwn σ ρ q → OffOwn (σ.set i (some (.ref p))) (ρ.set i (.v d)) q) ∧ Mono w w' := fun ho d hh rd => by
        have mo : Mono w (w.put p ho) := ⟨(Wd.put_lat (H := H) n1).1, (Wd.put_lat (H := H) (o := ho) n1).2⟩
        have fne : ∀ a, a ≠ p → w.fz a = none → (w.put p ho).fz a = none := fun a na h => by show upd w.fz p ho a = none; rw [upd_ne na]; exact h
        refine ⟨w.put p ho, ⟨g.lat.freeze (M := M) (G := G) (ls p n3) n1, g.st.freeze hh n1 n2, SlOk.set (SlOk.world g.sl mo fun j o' a e1 e2 m1 m2 => ⟨fne a (fun z => off p rfl j o' e1 (by rw [← z]; exact e2)) m1, m2⟩) rd i, g.fr.set i _ _ fun o a e => by cases e⟩,
          fun r2 v2 hn => pend mo fne (fun _ _ h => h) r2 v2 (hn p rfl), fun q _ h => h.set i _ _ fun o e => (by cases e), mo⟩
      cases o with
      | lst l =>
        cases e1
        obtain ⟨xs, hx, rr⟩ := ob
        refine go (.lst xs) _ hx ?_
        simp only [Rep]
        exact ⟨p, xs, rfl, (show upd w.fz p (.lst xs) p = _ from upd_same), rr.put n1⟩
      | ins c ns l =>
        cases e1
        obtain ⟨dx, fs, hx, hn, rr⟩ := ob
        refine go (.ins (M.ca c) dx fs) _ hx ?_
        simp only [Rep]
        exact ⟨p, dx, fs, rfl, (show upd w.fz p (.ins (M.ca c) dx fs) p = _ from upd_same), hn, rr.put n1⟩
      | dK _ _ => cases e1
      | dT _ _ => cases e1
  | own =>
    cases r with
    | bor _ _ => cases e
    | d y => cases e
    | tmp o =>
      cases e
      obtain ⟨p, rfl, ob, n1, n2, n3⟩ := x
      exact ⟨w, ⟨g.lat, g.st, g.sl.setOwn ob n1 n2 (off p rfl) i, g.fr.set i _ _ fun o' a e e2 => by cases e2; exact ls p n3⟩, fun r2 v2 _ h => h,
        fun q hq h => h.set i _ _ fun o' e z => (by cases z; exact hq rfl), Mono.refl w⟩
  | ref =>
    cases r with
    | bor _ _ => cases e
    | d y => cases e
    | tmp o =>
      cases e
      obtain ⟨p, rfl, ob, n1, n2, n3⟩ := x
      have mo : Mono w ⟨w.fz, w.al ++ [p]⟩ := ⟨fun _ _ h => h, fun n a h => by
        show (w.al ++ [p])[n]? = some a
        rw [List.getElem?_append_left (List.getElem?_eq_some_iff.mp h).1]; exact h⟩
      have ane : ∀ a, a ≠ p → a ∉ w.al → a ∉ w.al ++ [p] := fun a na h hm => by
        rcases List.mem_append.mp hm with z | z
        · exact h z
        · exact na (List.mem_singleton.mp z)
      obtain ⟨t, et, nt⟩ := g.lat.al
      refine ⟨⟨w.fz, w.al ++ [p]⟩, ⟨⟨g.lat.fz, ⟨t ++ [p], by show w.al ++ [p] = _; rw [et, List.append_assoc], fun a ha => ?_⟩, g.lat.nw, g.lat.tb, g.lat.kp, g.lat.dm⟩, ⟨g.st.fzH, by show (w.al ++ [p]).length = (G ++ [o]).length; rw [List.length_append, List.length_append, g.st.len]; rfl, ?_, fun n ob2 a e1 e2 => ?_⟩,
        SlOk.set (SlOk.world g.sl mo fun j o' a e1 e2 m1 m2 => ⟨m1, ane a (fun z => off p rfl j o' e1 (by rw [← z]; exact e2)) m2⟩) ?_ i, g.fr.set i _ _ fun o' a e e2 => by cases e⟩,
        fun r2 v2 hn => pend mo (fun _ _ h => h) ane r2 v2 (hn p rfl), fun q hq h => h.set i _ _ fun o' e => (by cases e), mo⟩
      · rcases List.mem_append.mp ha with z | z
        · exact nt a z
        · rw [List.mem_singleton.mp z]; exact ls p n3
      · show (w.al ++ [p]).Nodup
        rw [List.nodup_append]
        exact ⟨g.st.nd, by simp, fun a ha b hb z => n2 (by rw [List.mem_singleton.mp hb] at z; rw [← z]; exact ha)⟩
      · have e2 : (w.al ++ [p])[n]? = some a := e2
        by_cases hn : n < G.length
        · rw [List.getElem?_append_left hn] at e1
          rw [List.getElem?_append_left (by rw [g.st.len]; exact hn)] at e2
          obtain ⟨q, z⟩ := g.st.at_ n ob2 a e1 e2
          exact ⟨q.mon mo, z⟩
        · rw [List.getElem?_append_right (by omega)] at e1
          rw [List.getElem?_append_right (by rw [g.st.len]; omega)] at e2
          rw [g.st.len] at e2
          cases hk : n - G.length with
          | zero =>
            rw [hk] at e1 e2
            cases e1; cases e2
            exact ⟨ob.mon mo, n1⟩
          | succ k => rw [hk] at e1; simp at e1
      · simp only [Rep]
        exact ⟨p, rfl, by show (w.al ++ [p])[G.length]? = some p; rw [← g.st.len]; simp⟩
/-- x = e -/
def sAsg (m : Mo) (i : Nat) (c : Fn) : SFn := fun cf ρ G => (c cf ρ G).bind fun p => (putN m i p.1 ρ p.2).map fun q => .nx q.1 q.2
theorem pend_of {H H1 : Hp} {w1 : Wd} {σ : L2.St} {ρ : Env} {G1 : Sto} {r : R} {v : V} {m : Mo} {i : Nat} {z : Env × Sto} (x : RX M H σ ρ H1 w1 r v) (e : putN m i r ρ G1 = some z) : Pend M H H1 w1 r v := by
  cases r with
  | d y => exact x
  | tmp o => exact x
  | bor i o => cases m <;> cases e
theorem off_of {H H1 : Hp} {w w1 : Wd} {σ : L2.St} {ρ : Env} {r : R} {v : V} (sl : SlOk M H w σ ρ) (x : Pend M H H1 w1 r v) : ∀ p, tmpAt r v = some p → OffOwn σ ρ p := fun p hp => by
  cases r with
  | d y => cases hp
  | bor _ _ => cases hp
  | tmp o =>
    obtain ⟨a, rfl, _⟩ := id x
    cases hp
    exact fun j o' e1 => Pend.ne_own sl x e1
theorem nn_of {H : Hp} {w : Wd} (L : Lat H0 w0 H w) : ∀ a, H a = none → H0 a = none := fun a h => by
  cases z : H0 a with
  | none => rfl
  | some u => exact absurd h (L.dm a (by rw [z]; simp))
theorem s_asg {m : Mo} {i : Nat} (h : PS X st (tAsg (tE M cf ce) (gName i))) : PS X st (tS M cf H0 w0 (sAsg m i ce)) := psW h fun D σ H h => by
  obtain ⟨ρ, w, G, o, g, e, k⟩ := h
  refine g.at_.run e fun r G1 v H1 w1 e1 L1 A1 x1 => ?_
  obtain ⟨⟨ρ', G2⟩, e2, e3⟩ := mapSome e1
  cases e3
  have pd := pend_of x1 e2
  obtain ⟨w', g', _, _, m'⟩ := put_ok (g.next A1) (nn_of g.lat) pd (off_of g.sl pd) e2
  exact k _ H1 w' g' (L1.mono.trans m')
end
end Lp

namespace Lp
open PySem PySem.Spec PyProof.Rows L2

/-! ### loops -/
def forL (tg : Tg) (body : SFn) (cf : CF) : List D → Env → Sto → Option Out
  | [], ρ, G => some (.nx ρ G)
  | d :: l, ρ, G => (bindTg tg d ρ).bind fun ρ1 => (body cf ρ1 G).bind fun o => match o with
    | .nx ρ2 G2 => forL tg body cf l ρ2 G2
    | .ct ρ2 G2 => forL tg body cf l ρ2 G2
    | .bk ρ2 G2 => some (.nx ρ2 G2)
    | .ret r G2 => some (.ret r G2)
def sFor (src : FnL) (tg : Tg) (body : SFn) : SFn := fun cf ρ G => (src cf ρ G).bind fun p => forL tg body cf p.1 ρ p.2
def whileL (c : FnT) (b : SFn) (cf : CF) : Nat → Env → Sto → Option Out
  | 0, _, _ => none
  | n + 1, ρ, G => (c cf ρ G).bind fun p => match p.1 with
    | false => some (.nx ρ p.2)
    | true => (b cf ρ p.2).bind fun o => match o with
      | .nx ρ2 G2 => whileL c b cf n ρ2 G2
      | .ct ρ2 G2 => whileL c b cf n ρ2 G2
      | .bk ρ2 G2 => some (.nx ρ2 G2)
      | .ret r G2 => some (.ret r G2)
def sWhile (n : Nat) (c : FnT) (b : SFn) : SFn := fun cf ρ G => whileL c b cf n ρ G
section
variable {X : Cx} {M : Md} {cf : CF} {H0 : Hp} {w0 : Wd} {e a b tg iter : Expr} {es : List Expr} {st : Stmt} {ss : List Stmt} {ce ca cb : Fn} {ct : FnT} {cs c1 c2 : SFn} {cl : FnL} {pos : Pos}
theorem tFor_ok {K : PySem.W.Frag} (hK : K = M.K) {src : FnL} {tg : Tg} (D : Ends) (σ : L2.St) (H : Hp) (h : tS M cf H0 w0 (sFor src tg cs) D σ H) : tFor (tI M cf src) (tgG K tg) (tS M cf H0 w0 cs) D σ H := by
  obtain ⟨ρ, w, G, o, g, e, k⟩ := h
  obtain ⟨⟨l, G1⟩, e1, e2⟩ := bindSome e
  refine ⟨ρ, w, G, l, G1, g.sl, g.st, e1, fun J H1 w1 L1 s1 Y => ?_⟩
  refine for_it (J := J) (n := l.length) (G := fun H => ∃ w, Mono w1 w ∧ FzH w H) (Y := J.yld) ⟨fun i H hi ⟨w, m, f⟩ => Y.go i _ H w (List.getElem?_eq_getElem hi) m f, fun H ⟨w, m, f⟩ => Y.st H w m f, fun _ _ _ _ _ _ y => y⟩
    (fun i σ H => ∃ ρ w G, GS M H0 w0 σ ρ H w G ∧ Mono w1 w ∧ forL tg cs cf (l.drop i) ρ G = some o) ?_ ?_ ?_ ?_
  · exact ⟨ρ, w1, G1, g.next (g.at_.step L1 s1), Mono.refl _, e2⟩
  · rintro i σ H _ ⟨ρ, w, G, g, m, _⟩
    exact ⟨w, m, g.st.fzH⟩
  · rintro i x σ H H' hi ⟨ρ, w, G, g, m, ef⟩ y
    have ed : l[i]? = some l[i] := List.getElem?_eq_getElem hi
    generalize l[i] = d at ed
    obtain ⟨w', L', s', f', rd⟩ := Y.yl i d H w x H' ed m g.st.fzH y
    have edr : l.drop i = d :: l.drop (i + 1) := by
      rw [List.drop_eq_getElem_cons hi]
      rw [List.getElem?_eq_getElem hi] at ed
      rw [Option.some.inj ed]
    rw [edr] at ef
    obtain ⟨ρ1, e5, e6⟩ := bindSome ef
    obtain ⟨o2, e7, e8⟩ := bindSome e6
    refine tg_run hK (g.sl.lat L') f' rd e5 fun σ1 sl2 _ fr => ?_
    refine ⟨ρ1, w', G, o2, ⟨g.lat.trans L', s' _ g.st, sl2, fr H0 g.fr⟩, e7, ?_⟩
    have mm := m.trans L'.mono
    cases o2 with
    | nx ρ2 G2 => exact fun σ3 H3 w3 g3 m3 => ⟨ρ2, w3, G2, g3, mm.trans m3, e8⟩
    | ct ρ2 G2 => exact fun σ3 H3 w3 g3 m3 => ⟨ρ2, w3, G2, g3, mm.trans m3, e8⟩
    | bk ρ2 G2 => cases e8; exact OutOk.mono (o := .nx ρ2 G2) k (L1.mono.trans mm)
    | ret r G2 => cases e8; exact k
  · rintro σ H ⟨ρ, w, G, g, m, ef⟩
    rw [List.drop_length] at ef
    cases ef
    exact k σ H w g (L1.mono.trans m)
theorem s_for {src : FnL} {T : Tg} (hK : X.K = M.K) (hp : PassesOwn (model X.prog X.w) X.A X.env X.xe) (hc : X.calm = true) (hi : PI X tg iter (tI M cf src)) (hg : PG X tg (tgG M.K T)) (hb : PSs X ss (tS M cf H0 w0 cs)) (hs : ∀ x, foldedSetIterable iter X.env x = pure x) :
    PS X (.For tg iter ss [] pos) (tS M cf H0 w0 (sFor src T cs)) := psW (ps_for hp hc hi hg hb hs) (tFor_ok rfl)
theorem s_while {n : Nat} (hp : PassesOwn (model X.prog X.w) X.A X.env X.xe) (ht : PT X e (tT M cf ct)) (hb : PSs X ss (tS M cf H0 w0 cs)) : PS X (.While e ss [] pos) (tS M cf H0 w0 (sWhile n ct cs)) := psW (ps_while hp ht hb) fun D σ H h => by
  obtain ⟨ρ, w, G, o, g, e, k⟩ := h
  refine ⟨fun m σ H => ∃ ρ w1 G, GS M H0 w0 σ ρ H w1 G ∧ Mono w w1 ∧ whileL ct cs cf m ρ G = some o, ⟨n, ρ, w, G, g, Mono.refl w, e⟩, ?_⟩
  rintro m σ H ⟨ρ, w1, G, g, mo, e⟩
  cases m with
  | zero => cases e
  | succ m =>
    refine g.at_.runT e fun b G1 H1 w2 e1 L1 A1 => ?_
    dsimp only at e1
    cases b with
    | false =>
      cases e1
      exact iteF (k σ H1 w2 (g.next A1) (mo.trans L1.mono))
    | true =>
      refine iteT ?_
      obtain ⟨o2, e2, e3⟩ := bindSome e1
      have m2 := mo.trans L1.mono
      refine ⟨fun σ H => ∃ ρ w1 G, GS M H0 w0 σ ρ H w1 G ∧ Mono w w1 ∧ whileL ct cs cf m ρ G = some o, fun σ' H' q => ⟨m, Nat.lt_succ_self m, q⟩, ρ, w2, G1, o2, g.next A1, e2, ?_⟩
      cases o2 with
      | nx ρ2 G2 => exact fun σ3 H3 w3 g3 m3 => ⟨ρ2, w3, G2, g3, m2.trans m3, e3⟩
      | ct ρ2 G2 => exact fun σ3 H3 w3 g3 m3 => ⟨ρ2, w3, G2, g3, m2.trans m3, e3⟩
      | bk ρ2 G2 => cases e3; exact OutOk.mono (o := .nx ρ2 G2) k m2
      | ret r G2 => cases e3; exact k

/-! ### several values at once -/
abbrev FnRs := CF → Env → Sto → Option (List R × Sto)
def rNil : FnRs := fun _ _ G => some ([], G)
def rCons (a : Fn) (r : FnRs) : FnRs := fun cf ρ G => (a cf ρ G).bind fun p => (r cf ρ p.2).map fun q => (p.1 :: q.1, q.2)
def RXs (M : Md) (H : Hp) (σ : L2.St) (ρ : Env) (H' : Hp) (w' : Wd) : List R → List V → Prop
  | [], [] => True
  | r :: l, v :: vs => RX M H σ ρ H' w' r v ∧ RXs M H σ ρ H' w' l vs
  | _, _ => False
def NotAt (p : Addr) : List R → List V → Prop
  | r :: l, v :: vs => tmpAt r v ≠ some p ∧ NotAt p l vs
  | _, _ => True
def Sep : List R → List V → Prop
  | r :: l, v :: vs => (∀ p, tmpAt r v = some p → NotAt p l vs) ∧ Sep l vs
  | _, _ => True
theorem RXs.lat {H H1 H2 : Hp} {w1 w2 : Wd} {σ : L2.St} {ρ : Env} (L : Lat H1 w1 H2 w2) : ∀ {l : List R} {vs : List V}, RXs M H σ ρ H1 w1 l vs → RXs M H σ ρ H2 w2 l vs
  | [], [], _ => True.intro
  | [], _ :: _, h => h
  | _ :: _, [], h => h
  | r :: l, v :: vs, h => ⟨RX.lat h.1 L, RXs.lat L h.2⟩
theorem RXs.back {H H1 H2 : Hp} {w w1 w2 : Wd} {σ : L2.St} {ρ : Env} (L : Lat H w H1 w1) : ∀ {l : List R} {vs : List V}, RXs M H1 σ ρ H2 w2 l vs → RXs M H σ ρ H2 w2 l vs
  | [], [], _ => True.intro
  | [], _ :: _, h => h
  | _ :: _, [], h => h
  | r :: l, v :: vs, h => ⟨RX.back h.1 L, RXs.back L h.2⟩
theorem RXs.notAt {H1 H2 : Hp} {w2 : Wd} {σ : L2.St} {ρ : Env} {p : Addr} (hp : H1 p ≠ none) : ∀ {l : List R} {vs : List V}, RXs M H1 σ ρ H2 w2 l vs → NotAt p l vs
  | [], [], _ => True.intro
  | [], _ :: _, h => h.elim
  | _ :: _, [], h => h.elim
  | r :: l, v :: vs, h => ⟨fun e => by
      cases r with
      | d _ => cases e
      | bor _ _ => cases e
      | tmp o =>
        obtain ⟨a, rfl, _, _, _, n⟩ := h.1
        cases e
        exact hp n, RXs.notAt hp h.2⟩
def tR (M : Md) (cf : CF) (c : FnRs) : TA := fun σ H Q => ∃ ρ w G l G', SlOk M H w σ ρ ∧ StOk M H w G ∧ c cf ρ G = some (l, G') ∧ ∀ vs H' w', Lat H w H' w' → StOk M H' w' G' → RXs M H σ ρ H' w' l vs → Sep l vs → Q vs H'
theorem r_nil : PA X [] (tR M cf rNil) := paW pa_nil fun σ H Q h => by
  obtain ⟨ρ, w, G, l, G', sl, st, e, q⟩ := h
  cases e
  exact q [] H w (Lat.refl H w) st True.intro True.intro
theorem r_cons {cr : FnRs} (ha : PE X a (tE M cf ca)) (hr : PA X es (tR M cf cr)) (hs : isStar a = false) : PA X (a :: es) (tR M cf (rCons ca cr)) := paW (pa_cons ha hr (starEach_plain hs)) fun σ H Q h => by
  obtain ⟨ρ, w, G, l, G', sl, st, e, q⟩ := h
  refine (At.start sl st).run e fun ra G1 x H1 w1 e1 L1 A1 x1 => ?_
  obtain ⟨⟨l2, G2⟩, e2, e3⟩ := mapSome e1
  cases e3
  refine ⟨ρ, w1, G1, l2, G2, A1.sl, A1.st, e2, fun vs H2 w2 L2 s2 xs sp => q _ H2 w2 (L1.trans L2) s2 ⟨x1.lat L2, xs.back L1⟩ ⟨fun p hp => ?_, sp⟩⟩
  cases ra with
  | d _ => cases hp
  | bor _ _ => cases hp
  | tmp o =>
    obtain ⟨a, rfl, ob, _⟩ := x1
    cases hp
    exact xs.notAt ob.there
def putAll : List (Mo × Nat) → List R → Env → Sto → Option (Env × Sto)
  | [], [], ρ, G => some (ρ, G)
  | m :: ms, r :: rs, ρ, G => (putN m.1 m.2 r ρ G).bind fun p => putAll ms rs p.1 p.2
  | _, _, _, _ => none
def setV : List Nat → List V → L2.St → L2.St
  | i :: is, v :: vs, σ => setV is vs (σ.set i (some v))
  | _, _, σ => σ
def Pends (M : Md) (Hs H : Hp) (w : Wd) : List R → List V → Prop
  | [], [] => True
  | r :: l, v :: vs => Pend M Hs H w r v ∧ Pends M Hs H w l vs
  | _, _ => False
def OffAll (σ : L2.St) (ρ : Env) : List R → List V → Prop
  | r :: l, v :: vs => (∀ p, tmpAt r v = some p → OffOwn σ ρ p) ∧ OffAll σ ρ l vs
  | _, _ => True
theorem Pends.map {Hs H : Hp} {w w' : Wd} {r : R} {v : V} (k : ∀ r2 v2, (∀ p, tmpAt r v = some p → tmpAt r2 v2 ≠ some p) → Pend M Hs H w r2 v2 → Pend M Hs H w' r2 v2) : ∀ {l : List R} {vs : List V}, (∀ p, tmpAt r v = some p → NotAt p l vs) → Pends M Hs H w l vs → Pends M Hs H w' l vs
  | [], [], _, _ => True.intro
  | [], _ :: _, _, h => h.elim
  | _ :: _, [], _, h => h.elim
  | r2 :: l, v2 :: vs, n, h => ⟨k r2 v2 (fun p hp => (n p hp).1) h.1, Pends.map k (fun p hp => (n p hp).2) h.2⟩
theorem OffAll.map {σ σ' : L2.St} {ρ ρ' : Env} {r : R} {v : V} (k : ∀ p, tmpAt r v ≠ some p → OffOwn σ ρ p → OffOwn σ' ρ' p) : ∀ {l : List R} {vs : List V}, (∀ p, tmpAt r v = some p → NotAt p l vs) → OffAll σ ρ l vs → OffAll σ' ρ' l vs
  | [], _, _, _ => True.intro
  | _ :: _, [], _, _ => True.intro
  | r2 :: l, v2 :: vs, n, h => ⟨fun p hp => k p (fun e => (n p e).1 hp) (h.1 p hp), OffAll.map k (fun p hp => (n p hp).2) h.2⟩
theorem putAll_ok {Hs : Hp} (ls : ∀ a, Hs a = none → H0 a = none) {H : Hp} : ∀ (ms : List (Mo × Nat)) (rs : List R) (vs : List V) (w : Wd) (σ : L2.St) (ρ ρ' : Env) (G G' : Sto), GS M H0 w0 σ ρ H w G → Pends M Hs H w rs vs → OffAll σ ρ rs vs → Sep rs vs → putAll ms rs ρ G = some (ρ', G') →
    vs.length = ms.length ∧ ∃ w', GS M H0 w0 (setV (ms.map (·.2)) vs σ) ρ' H w' G' ∧ Mono w w'
  | [], [], [], w, σ, ρ, ρ', G, G', g, _, _, _, e => by cases e; exact ⟨rfl, w, g, Mono.refl w⟩
  | [], [], _ :: _, _, _, _, _, _, _, _, h, _, _, _ => h.elim
  | [], _ :: _, _, _, _, _, _, _, _, _, _, _, _, e => by cases e
  | _ :: _, [], _, _, _, _, _, _, _, _, _, _, _, e => by cases e
  | _ :: _, _ :: _, [], _, _, _, _, _, _, _, h, _, _, _ => h.elim
  | m :: ms, r :: rs, v :: vs, w, σ, ρ, ρ', G, G', g, hp, ho, hs, e => by
    obtain ⟨⟨ρ1, G1⟩, e1, e2⟩ := bindSome e
    obtain ⟨w1, g1, k1, k2, m1⟩ := put_ok (v := v) g ls hp.1 ho.1 e1
    obtain ⟨h1, w2, g2, m2⟩ := putAll_ok ls ms rs vs w1 _ ρ1 ρ' G1 G' g1 (hp.2.map k1 hs.1) (ho.2.map k2 hs.1) hs.2 e2
    exact ⟨by rw [List.length_cons, List.length_cons, h1], w2, g2, m1.trans m2⟩
theorem pends_of {H H1 : Hp} {w1 : Wd} {σ : L2.St} {ρ : Env} : ∀ {ms : List (Mo × Nat)} {rs : List R} {vs : List V} {ρ2 : Env} {G1 : Sto} {z : Env × Sto}, RXs M H σ ρ H1 w1 rs vs → putAll ms rs ρ2 G1 = some z → Pends M H H1 w1 rs vs
  | _, [], [], _, _, _, _, _ => True.intro
  | _, [], _ :: _, _, _, _, x, _ => x.elim
  | _, _ :: _, [], _, _, _, x, _ => x.elim
  | [], _ :: _, _ :: _, _, _, _, _, e => by cases e
  | m :: ms, r :: rs, v :: vs, ρ2, G1, z, x, e => by
    obtain ⟨⟨ρ1, G2⟩, e1, e2⟩ := bindSome e
    refine ⟨?_, pends_of x.2 e2⟩
    have x1 := x.1
    cases r with
    | d y => exact x1
    | tmp o => exact x1
    | bor i o => obtain ⟨m, i⟩ := m; cases m <;> cases e1
theorem offAll_of {H H1 : Hp} {w w1 : Wd} {σ : L2.St} {ρ : Env} (sl : SlOk M H w σ ρ) : ∀ {rs : List R} {vs : List V}, Pends M H H1 w1 rs vs → OffAll σ ρ rs vs
  | [], _, _ => True.intro
  | _ :: _, [], _ => True.intro
  | _ :: _, _ :: _, h => ⟨off_of sl h.1, offAll_of sl h.2⟩
/-- a, b, .. = e1, e2, .. -/
def sPar (ms : List (Mo × Nat)) (c : FnRs) : SFn := fun cf ρ G => (c cf ρ G).bind fun p => (putAll ms p.1 ρ p.2).map fun q => .nx q.1 q.2
theorem sPar_ok {ms : List (Mo × Nat)} {c : FnRs} {D : Ends} {σ : L2.St} {H : Hp} {K : List V → Hp → Prop} (h : tS M cf H0 w0 (sPar ms c) D σ H)
    (k : ∀ vs H1, vs.length = ms.length → (∀ H2, (∀ a o, H1 a = some o → H2 a = some o) → (∀ p ho, H1 p = none → H2 = upd H1 p ho → D.nx (setV (ms.map (·.2)) vs σ) H2)) → D.nx (setV (ms.map (·.2)) vs σ) H1 → K vs H1) : tR M cf c σ H K := by
  obtain ⟨ρ, w, G, o, g, e, kk⟩ := h
  obtain ⟨⟨l, G1⟩, e1, e2⟩ := bindSome e
  obtain ⟨⟨ρ', G2⟩, e3, e4⟩ := mapSome e2
  subst e4
  refine ⟨ρ, w, G, l, G1, g.sl, g.st, e1, fun vs H1 w1 L1 s1 xs sp => ?_⟩
  have A1 := g.at_.step L1 s1
  have pd := pends_of xs e3
  obtain ⟨h1, w', g', m'⟩ := putAll_ok (nn_of g.lat) ms l vs w1 σ ρ ρ' G1 G2 (g.next A1) pd (offAll_of g.sl pd) sp e3
  refine k vs H1 h1 (fun H2 _ p ho hp e => ?_) (kk _ H1 w' g' (L1.mono.trans m'))
  subst e
  have Ln : Lat H1 w1 (upd H1 p ho) w1 := Lat.new (M := M) (G := G1) hp
  have A2 := A1.step Ln (s1.new hp)
  have pd2 := pends_of (xs.lat Ln) e3
  obtain ⟨_, w2, g2, m2⟩ := putAll_ok (nn_of g.lat) ms l vs w1 σ ρ ρ' G1 G2 (g.next A2) pd2 (offAll_of g.sl pd2) sp e3
  exact kk _ _ w2 g2 (L1.mono.trans m2)
theorem gNames_run {H : Hp} {Q : L2.St → Hp → Prop} : ∀ (is : List Nat) (vs : List V) (σ : L2.St), vs.length = is.length → Q (setV is vs σ) H → gNames is vs σ H Q
  | [], [], σ, _, h => ⟨rfl, h⟩
  | [], _ :: _, _, h, _ => by cases h
  | _ :: _, [], _, h, _ => by cases h
  | i :: is, v :: vs, σ, h, q => ⟨v, vs, rfl, gNames_run is vs _ (by simpa using h) q⟩
theorem s_par2 {m1 m2 : Mo} {i j : Nat} {c : FnRs} (h : PS X st (tPar i j (tR M cf c))) : PS X st (tS M cf H0 w0 (sPar [(m1, i), (m2, j)] c)) := psW h fun D σ H h => sPar_ok h fun vs H1 hl _ q => by
  match vs, hl with
  | [v, u], _ => exact ⟨v, u, rfl, q⟩
theorem s_par3 {m1 m2 m3 : Mo} {i j l : Nat} {c : FnRs} (h : PS X st (tPar3 i j l (tR M cf c))) : PS X st (tS M cf H0 w0 (sPar [(m1, i), (m2, j), (m3, l)] c)) := psW h fun D σ H h => sPar_ok h fun vs H1 hl _ q => by
  match vs, hl with
  | [v, u, z], _ => exact ⟨v, u, z, rfl, q⟩
theorem s_parT {K : PySem.W.Frag} {ms : List (Mo × Nat)} {c : FnRs} (hm : ms.length ≤ 100) (h : PS X st (tAsg (tTup (tR M cf c)) (gTup K ms.length (gNames (ms.map (·.2)))))) : PS X st (tS M cf H0 w0 (sPar ms c)) := psW h fun D σ H h => by
  show tR M cf c σ H _
  exact sPar_ok h fun vs H1 hl q _ => by
    refine ⟨?_, fun p hp => ⟨p, vs, rfl, .inl (.inl upd_same), hl, gNames_run _ vs σ (by rw [List.length_map]; exact hl) (q _ ?_ p _ hp rfl)⟩⟩
    · rw [sizeLine_eq]; omega
    · exact fun a o e => by rw [upd_ne (ne_of_none e hp)]; exact e
end
end Lp

namespace Lp
open PySem PySem.Spec PyProof.Rows L2

/-! ### dicts -/
section
variable {κ : Type} [DecidableEq κ]
def getD : List κ → List D → κ → Option D
  | k' :: ks, v :: vs, k => if k' = k then some v else getD ks vs k
  | _, _, _ => none
def putV : List κ → List D → κ → D → List D
  | k' :: ks, v :: vs, k, d => (if k' = k then d else v) :: putV ks vs k d
  | _, _, _, _ => []
def putD (ks : List κ) (vs : List D) (k : κ) (d : D) : List κ × List D := match getD ks vs k with
  | some _ => (ks, putV ks vs k d)
  | none => (ks ++ [k], vs ++ [d])
theorem getD_rep {M : Md} {w : Wd} {k : κ} : ∀ {kvs : List (κ × V)} {vs : List D}, RepL M w vs (kvs.map (·.2)) → (∀ d, getD (kvs.map (·.1)) vs k = some d → ∃ x, valV kvs k = some x ∧ Rep M w d x) ∧ (getD (kvs.map (·.1)) vs k = none → valV kvs k = none)
  | [], [], r => ⟨fun d e => (by cases e), fun _ => rfl⟩
  | [], _ :: _, r => ⟨fun d e => (by cases e), fun _ => rfl⟩
  | p :: kvs, [], r => by simp only [RepL, List.map_cons] at r; cases r
  | p :: kvs, v :: vs, r => by
      simp only [RepL, List.map_cons] at r
      obtain ⟨x, t, e, r1, r2⟩ := r
      cases e
      have ih := getD_rep (k := k) (kvs := kvs) r2
      show (∀ d, (if p.1 = k then some v else getD (kvs.map (·.1)) vs k) = some d → _) ∧ ((if p.1 = k then some v else getD (kvs.map (·.1)) vs k) = none → _)
      by_cases h : p.1 = k
      · rw [if_pos h, valV_pos h]
        exact ⟨fun d e => by cases e; exact ⟨_, rfl, r1⟩, fun e => by cases e⟩
      · rw [if_neg h, valV_neg h]
        exact ih
theorem putV_rep {M : Md} {w : Wd} {k : κ} {d : D} {x : V} (rd : Rep M w d x) : ∀ {kvs : List (κ × V)} {vs : List D}, RepL M w vs (kvs.map (·.2)) → RepL M w (putV (kvs.map (·.1)) vs k d) ((kvs.map fun kv => if kv.1 = k then (kv.1, x) else kv).map (·.2))
  | [], [], r => RepL.nil
  | [], _ :: _, r => RepL.nil
  | p :: kvs, [], r => by simp only [RepL, List.map_cons] at r; cases r
  | p :: kvs, v :: vs, r => by
      simp only [RepL, List.map_cons] at r
      obtain ⟨y, t, e, r1, r2⟩ := r
      cases e
      have ih := putV_rep (k := k) rd (kvs := kvs) r2
      show RepL M w ((if p.1 = k then d else v) :: putV (kvs.map (·.1)) vs k d) ((if p.1 = k then (p.1, x) else p).2 :: _)
      refine RepL.cons ?_ ih
      by_cases h : p.1 = k
      · rw [if_pos h, if_pos h]; exact rd
      · rw [if_neg h, if_neg h]; exact r1
theorem keys_map {k : κ} {x : V} : ∀ kvs : List (κ × V), (kvs.map fun kv => if kv.1 = k then (kv.1, x) else kv).map (·.1) = kvs.map (·.1)
  | [] => rfl
  | p :: kvs => by
    rw [List.map_cons, List.map_cons, List.map_cons, keys_map kvs]
    congr 1
    by_cases h : p.1 = k
    · rw [if_pos h]
    · rw [if_neg h]
theorem putD_rep {M : Md} {w : Wd} {k : κ} {d : D} {x : V} {kvs : List (κ × V)} {vs : List D} (rd : Rep M w d x) (r : RepL M w vs (kvs.map (·.2))) :
    (putK kvs k x).map (·.1) = (putD (kvs.map (·.1)) vs k d).1 ∧ RepL M w (putD (kvs.map (·.1)) vs k d).2 ((putK kvs k x).map (·.2)) := by
  unfold putK putD
  have g := getD_rep (k := k) r
  rw [valV_any]
  cases z : getD (kvs.map (·.1)) vs k with
  | some y =>
    obtain ⟨y2, e, _⟩ := g.1 y z
    rw [e]
    rw [if_pos (show (some y2).isSome = true from rfl)]
    exact ⟨keys_map kvs, putV_rep rd r⟩
  | none =>
    rw [g.2 z, if_neg (by simp)]
    refine ⟨by simp, ?_⟩
    rw [List.map_append]
    exact r.append (RepL.cons rd RepL.nil)
end
def keyOf : D → Option Key
  | .int i => some (.inl i)
  | .str s => some (.inr s)
  | _ => none
def keysOf : List D → Option (List Key)
  | [] => some []
  | d :: l => (keyOf d).bind fun k => (keysOf l).map (k :: ·)
theorem keyOf_rep {M : Md} {w : Wd} {d : D} {v : V} {k : Key} (e : keyOf d = some k) (r : Rep M w d v) : v = kV k := by
  cases d <;> first | (cases e; done) | skip
  · cases e; simp only [Rep] at r; exact r
  · cases e; simp only [Rep] at r; exact r
theorem keysOf_rep {M : Md} {w : Wd} : ∀ {l : List D} {xs : List V} {ks : List Key}, keysOf l = some ks → RepL M w l xs → xs = ks.map kV
  | [], xs, ks, e, r => by cases e; simp only [RepL] at r; exact r
  | d :: l, xs, ks, e, r => by
    obtain ⟨k, e1, e2⟩ := bindSome e
    obtain ⟨ks', e3, e4⟩ := mapSome e2
    subst e4
    simp only [RepL] at r
    obtain ⟨x, t, rfl, r1, r2⟩ := r
    rw [keyOf_rep e1 r1, keysOf_rep e3 r2]
    rfl
def kD : Key → D
  | .inl i => .int i
  | .inr s => .str s
/-- the dict that is read -/
def dicG (r : R) (G : Sto) : Option Ob := match r with
  | .d (.dK ks vs) => some (.dK ks vs)
  | .d (.dT ks vs) => some (.dT ks vs)
  | .d (.ref n) => match G[n]? with
    | some (.dK ks vs) => some (.dK ks vs)
    | some (.dT ks vs) => some (.dT ks vs)
    | _ => none
  | .bor _ (.dK ks vs) => some (.dK ks vs)
  | .bor _ (.dT ks vs) => some (.dT ks vs)
  | .tmp (.dK ks vs) => some (.dK ks vs)
  | .tmp (.dT ks vs) => some (.dT ks vs)
  | _ => none
def DicAt (M : Md) (w : Wd) (H : Hp) (a : Addr) : Ob → Prop
  | .dK ks vs => ∃ kvs, Rd H a (.dK kvs) ∧ kvs.map (·.1) = ks ∧ RepL M w vs (kvs.map (·.2))
  | .dT ks vs => ∃ kvs, Rd H a (.dT kvs) ∧ kvs.map (·.1) = ks ∧ RepL M w vs (kvs.map (·.2))
  | _ => False
theorem ObAt.dic {M : Md} {w : Wd} {H : Hp} {a : Addr} {o : Ob} (h : ObAt M w H a o) (d : (∃ ks vs, o = .dK ks vs) ∨ ∃ ks vs, o = .dT ks vs) : DicAt M w H a o := by
  rcases d with ⟨ks, vs, rfl⟩ | ⟨ks, vs, rfl⟩
  · obtain ⟨kvs, e, q, r⟩ := h; exact ⟨kvs, .inl e, q, r⟩
  · obtain ⟨kvs, e, q, r⟩ := h; exact ⟨kvs, .inl e, q, r⟩
section
variable {M : Md} {cf : CF} {H0 H : Hp} {w0 w : Wd} {σ : L2.St} {ρ : Env} {G : Sto}
theorem At.dic {r : R} {v : V} {o : Ob} (A : At M H0 w0 σ ρ H w G) (x : RX M H0 σ ρ H w r v) (e : dicG r G = some o) : ∃ a, v = .ref a ∧ DicAt M w H a o := by
  unfold dicG at e
  split at e <;> first | (cases e; done) | skip
  · cases e
    have x : Rep M w (.dK _ _) v := x
    simp only [Rep] at x
    obtain ⟨a, od, kvs, rfl, h, q, r⟩ := x
    exact ⟨a, rfl, kvs, .inr ⟨od, A.st.fzH _ _ h⟩, q, r⟩
  · cases e
    have x : Rep M w (.dT _ _) v := x
    simp only [Rep] at x
    obtain ⟨a, od, kvs, rfl, h, q, r⟩ := x
    exact ⟨a, rfl, kvs, .inr ⟨od, A.st.fzH _ _ h⟩, q, r⟩
  · split at e <;> first | (cases e; done) | skip
    · rename_i z
      cases e
      obtain ⟨a, rfl, _, q, _⟩ := A.ref x z
      exact ⟨a, rfl, q.dic (.inl ⟨_, _, rfl⟩)⟩
    · rename_i z
      cases e
      obtain ⟨a, rfl, _, q, _⟩ := A.ref x z
      exact ⟨a, rfl, q.dic (.inr ⟨_, _, rfl⟩)⟩
  · cases e
    obtain ⟨e1, e2⟩ := x
    obtain ⟨p, e3, q, _⟩ := A.sl.at_ _ _ e1
    rw [e2] at e3; cases e3
    exact ⟨p, rfl, q.dic (.inl ⟨_, _, rfl⟩)⟩
  · cases e
    obtain ⟨e1, e2⟩ := x
    obtain ⟨p, e3, q, _⟩ := A.sl.at_ _ _ e1
    rw [e2] at e3; cases e3
    exact ⟨p, rfl, q.dic (.inr ⟨_, _, rfl⟩)⟩
  · cases e
    obtain ⟨p, rfl, q, _⟩ := x
    exact ⟨p, rfl, q.dic (.inl ⟨_, _, rfl⟩)⟩
  · cases e
    obtain ⟨p, rfl, q, _⟩ := x
    exact ⟨p, rfl, q.dic (.inr ⟨_, _, rfl⟩)⟩
/-- none: no such key can be asked; some none: not there -/
def obGet (o : Ob) (y : D) : Option (Option D) := match o with
  | .dK ks vs => (keyOf y).map fun k => getD ks vs k
  | .dT ks vs => match y with
    | .tup l => (keysOf l).map fun k => getD ks vs k
    | _ => none
  | _ => none
theorem At.dget {a : Addr} {o : Ob} {y : D} {v : V} {z : Option D} (A : At M H0 w0 σ ρ H w G) (x : DicAt M w H a o) (ry : Rep M w y v) (e : obGet o y = some z) :
    ∃ u, DGet H a v u ∧ (∀ d, z = some d → ∃ x, u = some x ∧ Rep M w d x) ∧ (z = none → u = none) := by
  cases o <;> first | (cases e; done) | skip
  · rename_i ks vs
    obtain ⟨k, e1, rfl⟩ := mapSome e
    obtain ⟨kvs, h, rfl, r⟩ := x
    have g := getD_rep (k := k) r
    refine ⟨valV kvs k, .inl ⟨kvs, k, h, keyOf_rep e1 ry, rfl⟩, g.1, g.2⟩
  · rename_i ks vs
    unfold obGet at e
    cases y <;> first | (cases e; done) | skip
    obtain ⟨k, e1, rfl⟩ := mapSome e
    obtain ⟨kvs, h, rfl, r⟩ := x
    have g := getD_rep (k := k) r
    simp only [Rep] at ry
    obtain ⟨b, xs, rfl, hb, ry⟩ := ry
    exact ⟨valV kvs k, .inr ⟨kvs, k, b, h, rfl, by rw [← keysOf_rep e1 ry]; exact A.st.fzH _ _ hb, rfl⟩, g.1, g.2⟩
end
section
variable {X : Cx} {M : Md} {cf : CF} {H0 : Hp} {w0 : Wd} {e a b tg oe ie : Expr} {es : List Expr} {st : Stmt} {ss : List Stmt} {ce ca cb co ci cd : Fn} {ct : FnT} {cs c1 c2 : SFn} {cl : FnL} {pos pos' apos : Pos}
def rIxD : R2 := fun x y H Q => ∃ a v, x = .ref a ∧ DGet H a y (some v) ∧ Q v H
theorem ix_dict (hu : X.A.units + 1 < cLine) : IxR X rIxD := by
  intro value slice pins s σ H x y v u Q I rx ry h hs
  obtain ⟨a, z, rfl, g, q⟩ := h
  cases (show v = Value.ref a from rx)
  have hT := dict_typeIs I g
  unfold subscriptTail
  refine wpAny_bind ?_
  rw [getitemInPython_of_ne hT.not_modules]
  refine wpAny_bind (wpAny_specialOf hT PySem.F.slot_dict_getitem.lookup ?_)
  have fin : wpAny (model X.prog X.w) X.A (subscripted slice false (.ref a) u) (fun r s₃ => wpAny (model X.prog X.w) X.A (letTemporaryGo value (.ref a) r >>= fun _ => pure r) (EP X pins σ Q) X.xe s₃) X.xe s := by
    rw [hs]
    exact wpAny_operating (wpAny_mono (d_getItem (Q := EP X pins σ Q) hu I g ry fun w' s3 I3 rw' => ⟨z, H, I3, rw', q⟩) (fun r s₃ h₃ => wpAny_bind (wpAny_letTemporaryGo (wpAny_pure h₃))) fun _ _ x => x)
  first
    | exact wpAny_pure (wpAny_bind fin)
    | exact fin
def dOf : R → Option D
  | .d y => some y
  | _ => none
/-- o[i], also of dicts -/
def ixG (x y : R) (G : Sto) : Option R := match dicG x G with
  | some o => (dOf y).bind fun k => (obGet o k).bind fun z => z.map .d
  | none => ixR x y G
theorem o_ixG (hK : X.K = M.K) (hu : X.A.units + 64 < cLine) : IxR X (rG M ixG) := by
  intro va sc pins s σ' H x y v u Q I rx ry h hs
  obtain ⟨H0, w0, σ, ρ, w, G, ra, rb, r, A, xa, xb, e, q⟩ := h
  unfold ixG at e
  split at e
  · rename_i o e0
    obtain ⟨k, e1, e2⟩ := bindSome e
    obtain ⟨z, e3, e4⟩ := bindSome e2
    obtain ⟨d, e5, rfl⟩ := mapSome e4
    cases rb <;> first | (cases e1; done) | skip
    cases e1
    obtain ⟨p, rfl, dd⟩ := A.dic xa e0
    obtain ⟨u', g, g1, _⟩ := A.dget dd xb e3
    obtain ⟨x', e6, rx'⟩ := g1 d e5
    subst e6
    exact ix_dict (by omega) va sc pins s σ' H _ _ v u Q I rx ry ⟨p, x', rfl, g, A.fin q rx'⟩ hs
  · exact o_ix hK va sc pins s σ' H _ _ v u Q I rx ry ⟨H0, w0, σ, ρ, w, G, ra, rb, r, A, xa, xb, e, q⟩ hs
theorem x_ixG (hK : X.K = M.K) (hu : X.A.units + 64 < cLine) (ha : PE X a (tE M cf ca)) (hb : PE X b (tE M cf cb)) (hs : isSlice b = false) : PE X (.Subscript a b pos) (tE M cf (cBinG ixG ca cb)) :=
  peW (pe_ix (o_ixG hK hu) ha hb (plainIx hs)) tE_binG
/-- d.get(k, x) -/
def cGet2 (a b c : Fn) : Fn := fun cf ρ G => (a cf ρ G).bind fun p => match dicG p.1 p.2 with
  | none => none
  | some _ => (b cf ρ p.2).bind fun q => (c cf ρ q.2).bind fun z => (dicG p.1 z.2).bind fun o => (dOf q.1).bind fun k => (dOf z.1).bind fun x => (obGet o k).map fun u => (.d (u.getD x), z.2)
theorem DicAt.isD {M : Md} {w : Wd} {H : Hp} {a : Addr} {o : Ob} (h : DicAt M w H a o) : IsD H a := by
  cases o with
  | dK ks vs => obtain ⟨kvs, h, _⟩ := h; exact .inl ⟨kvs, h⟩
  | dT ks vs => obtain ⟨kvs, h, _⟩ := h; exact .inr ⟨kvs, h⟩
  | lst _ => exact h.elim
  | ins _ _ _ => exact h.elim
theorem x_get2 (hu : X.A.units + 64 < cLine) (ha : PE X oe (tE M cf co)) (hb : PE X ie (tE M cf ci)) (hc : PE X e (tE M cf ce)) (m : M2 X oe "get" apos ie e pos) : PE X (.Call (.Attribute oe "get" apos) [ie, e] [] pos) (tE M cf (cGet2 co ci ce)) :=
  peW (pe_dget2 (by omega) ha hb hc m) fun σ H Q h => by
    obtain ⟨ρ, w, G, r, G', sl, st, ev, q⟩ := h
    refine (At.start sl st).run ev fun ra G1 x H1 w1 e1 L1 A1 x1 => ?_
    dsimp only at e1
    split at e1
    · cases e1
    · rename_i o0 e0
      obtain ⟨p, rfl, dd⟩ := A1.dic x1 e0
      refine ⟨p, rfl, dd.isD, ?_⟩
      refine A1.run e1 fun rb G2 y H2 w2 e2 L2 A2 x2 => ?_
      refine A2.run e2 fun rc G3 z H3 w3 e3 L3 A3 x3 => ?_
      obtain ⟨o, e4, e5⟩ := bindSome e3
      obtain ⟨k, e6, e7⟩ := bindSome e5
      obtain ⟨d, e8, e9⟩ := bindSome e7
      obtain ⟨u, e10, e11⟩ := mapSome e9
      cases e11
      cases rb <;> first | (cases e6; done) | skip
      cases e6
      cases rc <;> first | (cases e8; done) | skip
      cases e8
      obtain ⟨p', ep, dd3⟩ := A3.dic ((x1.lat L2).lat L3) e4
      cases ep
      obtain ⟨u', g, g1, g2⟩ := A3.dget dd3 (x2.lat L3) e10
      refine ⟨u', g, ?_⟩
      cases u with
      | none => rw [g2 rfl]; exact A3.fin q x3
      | some d' =>
        obtain ⟨x', e12, rx'⟩ := g1 d' rfl
        subst e12
        exact A3.fin q rx'
/-- k in d, k not in d, of dicts -/
def cInD (neg : Bool) (a b : Fn) : FnT := fun cf ρ G => (a cf ρ G).bind fun p => (b cf ρ p.2).bind fun q => (dicG q.1 q.2).bind fun o => (dOf p.1).bind fun k => (obGet o k).map fun u => (u.isSome != neg, q.2)
theorem new_dK {w : Wd} {H : Hp} {p : Addr} : ObAt M w (upd H p (.dK [])) p (.dK [] []) := ⟨[], upd_same, rfl, RepL.nil⟩
theorem new_dT {w : Wd} {H : Hp} {p : Addr} : ObAt M w (upd H p (.dT [])) p (.dT [] []) := ⟨[], upd_same, rfl, RepL.nil⟩
def cNewK : Fn := fun _ _ G => some (.tmp (.dK [] []), G)
def cNewT : Fn := fun _ _ G => some (.tmp (.dT [] []), G)
theorem x_newK : PE X (.Dict [] [] pos) (tE M cf cNewK) := peW pe_dnewK fun σ H Q h => by
  obtain ⟨ρ, w, G, r, G', sl, st, e, q⟩ := h
  cases e
  exact fun p hp => (At.start sl st).newTmp q hp new_dK
theorem x_newT : PE X (.Dict [] [] pos) (tE M cf cNewT) := peW pe_dnewT fun σ H Q h => by
  obtain ⟨ρ, w, G, r, G', sl, st, e, q⟩ := h
  cases e
  exact fun p hp => (At.start sl st).newTmp q hp new_dT

/-! ### objects that change -/
/-- the object that is changed -/
def objG (r : R) (G : Sto) : Option Ob := match r with
  | .d (.ref n) => G[n]?
  | .bor _ o => some o
  | _ => none
def setG (r : R) (o : Ob) (ρ : Env) (G : Sto) : Env × Sto := match r with
  | .d (.ref n) => (ρ, G.set n o)
  | .bor i _ => (ρ.set i (.own o), G)
  | _ => (ρ, G)
theorem GS.mut {H0 H : Hp} {w0 w : Wd} {σ : L2.St} {ρ : Env} {G : Sto} {r : R} {v : V} {o : Ob} {Hs : Hp} (g : GS M H0 w0 σ ρ H w G) (x : RX M Hs σ ρ H w r v) (e : objG r G = some o) : ∃ a, v = .ref a ∧ ObAt M w H a o ∧
    ∀ (ho : HO) (o' : Ob), (∀ xs, ho ≠ .tup xs) → ObAt M w (upd H a ho) a o' → GS M H0 w0 σ (setG r o' ρ G).1 (upd H a ho) w (setG r o' ρ G).2 := by
  have main : ∀ (a : Addr) (ho : HO), H a ≠ none → w.fz a = none → (a ∈ w0.al ∨ H0 a = none) → (∀ xs, ho ≠ .tup xs) → Lat H0 w0 (upd H a ho) w ∧ (∀ b u, w.fz b = some u → upd H a ho b = some u) := fun a ho ha fa hd nt => by
    refine ⟨⟨g.lat.fz, g.lat.al, g.lat.nw, fun b xs h => ?_, fun b u h n => ?_, fun b h => ?_⟩, fun b u h => ?_⟩
    · by_cases z : b = a
      · subst z; rw [upd_same] at h; exact absurd (Option.some.inj h) (nt xs)
      · rw [upd_ne z] at h; exact g.lat.tb b xs h
    · by_cases z : b = a
      · subst z
        rcases hd with hd | hd
        · exact absurd hd n
        · rw [hd] at h; cases h
      · rw [upd_ne z]; exact g.lat.kp b u h n
    · by_cases z : b = a
      · subst z; rw [upd_same]; simp
      · rw [upd_ne z]; exact g.lat.dm b h
    · by_cases z : b = a
      · subst z; rw [fa] at h; cases h
      · rw [upd_ne z]; exact g.st.fzH b u h
  have obne : ∀ {b a : Addr} {ho : HO} {ob : Ob}, b ≠ a → ObAt M w H b ob → ObAt M w (upd H a ho) b ob := fun {b a ho ob} ne q => by
    cases ob with
    | lst l => obtain ⟨xs, e, r⟩ := q; exact ⟨xs, (upd_ne ne).trans e, r⟩
    | dK ks vs => obtain ⟨xs, e, q, r⟩ := q; exact ⟨xs, (upd_ne ne).trans e, q, r⟩
    | dT ks vs => obtain ⟨xs, e, q, r⟩ := q; exact ⟨xs, (upd_ne ne).trans e, q, r⟩
    | ins c ns l => obtain ⟨dx, fs, e, q, r⟩ := q; exact ⟨dx, fs, (upd_ne ne).trans e, q, r⟩
  unfold objG at e
  split at e
  · rename_i n
    have x : Rep M w (.ref n) v := x
    simp only [Rep] at x
    obtain ⟨a, rfl, ha⟩ := x
    obtain ⟨q, z⟩ := g.st.at_ n o a e ha
    refine ⟨a, rfl, q, fun ho o' nt ob => ?_⟩
    obtain ⟨t, et, nt'⟩ := g.lat.al
    have am : a ∈ w.al := List.mem_of_getElem? ha
    obtain ⟨L, F⟩ := main a ho q.there z (by
      rw [et] at am
      exact (List.mem_append.mp am).imp id fun h => nt' a h) nt
    refine ⟨L, ⟨F, by show w.al.length = (G.set n o').length; rw [List.length_set]; exact g.st.len, g.st.nd, fun m ob' b e1 e2 => ?_⟩, ⟨g.sl.len, fun i s e1 => ?_, g.sl.sep⟩, g.fr⟩
    · by_cases hm : n = m
      · subst hm
        rw [ha] at e2; cases e2
        have e1 : (G.set n o')[n]? = some ob' := e1
        rw [List.getElem?_set_self (List.getElem?_eq_some_iff.mp e).1] at e1
        cases e1
        exact ⟨ob, z⟩
      · have e1 : (G.set n o')[m]? = some ob' := e1
        rw [List.getElem?_set_ne hm] at e1
        obtain ⟨q2, z2⟩ := g.st.at_ m ob' b e1 e2
        refine ⟨obne (fun eb => hm ?_) q2, z2⟩
        subst eb
        exact (List.getElem?_inj (List.getElem?_eq_some_iff.mp ha).1 g.st.nd).mp (ha.trans e2.symm)
    · have k := g.sl.at_ i s e1
      cases s with
      | no => trivial
      | v d => exact k
      | own ob2 =>
        obtain ⟨b, e2, q2, n1, n2⟩ := k
        exact ⟨b, e2, obne (fun eb => n2 (by rw [eb]; exact am)) q2, n1, n2⟩
  · rename_i i ob0
    cases e
    obtain ⟨e1, e2⟩ := x
    obtain ⟨a, e3, q, n1, n2⟩ := g.sl.at_ _ _ e1
    rw [e2] at e3; cases e3
    refine ⟨a, rfl, q, fun ho o' nt ob => ?_⟩
    obtain ⟨L, F⟩ := main a ho q.there n1 (.inr (g.fr i _ a e1 e2)) nt
    have ix : ∀ {j : Nat} {s : Sl}, (ρ.set i (.own o'))[j]? = some s → (j = i ∧ s = .own o') ∨ (j ≠ i ∧ ρ[j]? = some s) := fun {j s} e => by
      by_cases z : i = j
      · subst z
        rw [List.getElem?_set_self (List.getElem?_eq_some_iff.mp e1).1] at e; cases e; exact .inl ⟨rfl, rfl⟩
      · rw [List.getElem?_set_ne z] at e; exact .inr ⟨Ne.symm z, e⟩
    refine ⟨L, ⟨F, g.st.len, g.st.nd, fun m ob' b e1 e2 => ?_⟩, ⟨by show σ.length = (ρ.set i (.own o')).length; rw [List.length_set]; exact g.sl.len, fun j s ej => ?_, fun j k o1 o2 x a1 a2 a3 a4 => ?_⟩, fun j ob' b ej ek => ?_⟩
    · obtain ⟨q2, z2⟩ := g.st.at_ m ob' b e1 e2
      exact ⟨obne (fun eb => n2 (by rw [← eb]; exact List.mem_of_getElem? e2)) q2, z2⟩
    · rcases ix ej with ⟨rfl, rfl⟩ | ⟨ne, ej⟩
      · exact ⟨a, e2, ob, n1, n2⟩
      · have k := g.sl.at_ j s ej
        cases s with
        | no => trivial
        | v d => exact k
        | own ob2 =>
          obtain ⟨b, e4, q2, m1, m2⟩ := k
          exact ⟨b, e4, obne (fun eb => ne (g.sl.sep j i ob2 _ b ej e1 e4 (by rw [eb]; exact e2))) q2, m1, m2⟩
    · have old : ∀ {j : Nat} {o1 : Ob}, (ρ.set i (.own o'))[j]? = some (.own o1) → ∃ o3, ρ[j]? = some (.own o3) := fun {j o1} h => by
        rcases ix h with ⟨rfl, _⟩ | ⟨_, h⟩
        · exact ⟨_, e1⟩
        · exact ⟨_, h⟩
      obtain ⟨o3, b1⟩ := old a1
      obtain ⟨o4, b2⟩ := old a2
      exact g.sl.sep j k o3 o4 x b1 b2 a3 a4
    · rcases ix ej with ⟨rfl, _⟩ | ⟨_, ej⟩
      · exact g.fr _ _ b e1 ek
      · exact g.fr j ob' b ej ek
  · cases e
end
end Lp

namespace Lp
open PySem PySem.Spec PyProof.Rows L2

/-! ### storing into names and things -/
abbrev GFn := CF → D → Env → Sto → Option (Env × Sto)
abbrev GFns := CF → List D → Env → Sto → Option (Env × Sto)
def tG (M : Md) (cf : CF) (H0 : Hp) (w0 : Wd) (g : GFn) : TG := fun v σ H Q => ∃ ρ w G d ρ' G', GS M H0 w0 σ ρ H w G ∧ Rep M w d v ∧ g cf d ρ G = some (ρ', G') ∧ ∀ σ' H' w', GS M H0 w0 σ' ρ' H' w' G' → Mono w w' → Q σ' H'
def tGs (M : Md) (cf : CF) (H0 : Hp) (w0 : Wd) (g : GFns) : TGs := fun vs σ H Q => ∃ ρ w G d ρ' G', GS M H0 w0 σ ρ H w G ∧ RepL M w d vs ∧ g cf d ρ G = some (ρ', G') ∧ ∀ σ' H' w', GS M H0 w0 σ' ρ' H' w' G' → Mono w w' → Q σ' H'
theorem pgW {X : Cx} {e : Expr} {t t' : TG} (h : PG X e t) (k : ∀ v σ H Q, t' v σ H Q → t v σ H Q) : PG X e t' := ⟨fun pins s σ H v u Q I r q => h.run pins s σ H v u Q I r (k v σ H Q q)⟩
theorem pgsW {X : Cx} {e : List Expr} {t t' : TGs} (h : PGs X e t) (k : ∀ v σ H Q, t' v σ H Q → t v σ H Q) : PGs X e t' := ⟨fun pins s σ H v u Q I r q => h.run pins s σ H v u Q I r (k v σ H Q q)⟩
def gNm (i : Nat) : GFn := fun _ d ρ G => some (ρ.set i (.v d), G)
def gN0 : GFns := fun _ l ρ G => match l with
  | [] => some (ρ, G)
  | _ => none
def gC1 (g : GFn) (gs : GFns) : GFns := fun cf l ρ G => match l with
  | d :: l => (g cf d ρ G).bind fun p => gs cf l p.1 p.2
  | _ => none
def gTp (gs : GFns) (n : Nat) : GFn := fun cf d ρ G => match d with
  | .tup l => if l.length = n then gs cf l ρ G else none
  | _ => none
def obPut (o : Ob) (y d : D) : Option Ob := match o with
  | .lst l => match y with
    | .int k => (ixN l.length k).map fun j => .lst (l.set j d)
    | _ => none
  | .dK ks vs => if ks.length < sz then (keyOf y).map fun k => .dK (putD ks vs k d).1 (putD ks vs k d).2 else none
  | .dT ks vs => if ks.length < sz then match y with
    | .tup l => (keysOf l).map fun k => .dT (putD ks vs k d).1 (putD ks vs k d).2
    | _ => none else none
  | _ => none
/-- o[i] = .. -/
def gSb (co ci : Fn) : GFn := fun cf d ρ G => (co cf ρ G).bind fun p => (ci cf ρ p.2).bind fun q => (dOf q.1).bind fun k => (objG p.1 q.2).bind fun o => (obPut o k d).map fun o' => setG p.1 o' ρ q.2
section
variable {X : Cx} {M : Md} {cf : CF} {H0 : Hp} {w0 : Wd} {e a b tg oe ie : Expr} {es : List Expr} {st : Stmt} {ss : List Stmt} {ce ca cb co ci cd : Fn} {ct : FnT} {cs c1 c2 : SFn} {cl : FnL} {pos pos' apos : Pos} {g : GFn} {gs : GFns}
theorem GS.setV {H : Hp} {w : Wd} {σ : L2.St} {ρ : Env} {G : Sto} {d : D} {v : V} (g : GS M H0 w0 σ ρ H w G) (r : Rep M w d v) (i : Nat) : GS M H0 w0 (σ.set i (some v)) (ρ.set i (.v d)) H w G :=
  ⟨g.lat, g.st, g.sl.set r i, g.fr.set i _ _ fun o a e => by cases e⟩
theorem g_nm {i : Nat} (h : PG X tg (gName i)) : PG X tg (tG M cf H0 w0 (gNm i)) := pgW h fun v σ H Q h => by
  obtain ⟨ρ, w, G, d, ρ', G', g, r, e, k⟩ := h
  cases e
  exact k _ H w (g.setV r i) (Mono.refl w)
theorem g_nil (h : PGs X [] gNil) : PGs X [] (tGs M cf H0 w0 gN0) := pgsW h fun v σ H Q h => by
  obtain ⟨ρ, w, G, d, ρ', G', g, r, e, k⟩ := h
  cases d with
  | nil =>
    cases e
    simp only [RepL] at r
    exact ⟨r, k σ H w g (Mono.refl w)⟩
  | cons _ _ => cases e
theorem g_cons (h1 : PG X tg (tG M cf H0 w0 g)) (h2 : PGs X es (tGs M cf H0 w0 gs)) (hs : (assignEach (tg :: es) X.env).map (·.2) = assign tg X.env :: (assignEach es X.env).map (·.2)) : PGs X (tg :: es) (tGs M cf H0 w0 (gC1 g gs)) := pgsW (pgs_cons h1 h2 hs) fun v σ H Q h => by
  obtain ⟨ρ, w, G, d, ρ', G', gg, r, e, k⟩ := h
  cases d with
  | nil => cases e
  | cons d l =>
    simp only [RepL] at r
    obtain ⟨x, t, rfl, r1, r2⟩ := r
    obtain ⟨⟨ρ1, G1⟩, e1, e2⟩ := bindSome e
    exact ⟨x, t, rfl, ρ, w, G, d, ρ1, G1, gg, r1, e1, fun σ1 H1 w1 g1 m1 => ⟨ρ1, w1, G1, l, ρ', G', g1, r2.mon m1, e2, fun σ2 H2 w2 g2 m2 => k σ2 H2 w2 g2 (m1.trans m2)⟩⟩
theorem g_tup {kk n : Nat} (hK : X.K = M.K) (hc : X.calm = true) (h : PGs X es (tGs M cf H0 w0 gs)) (hn : (assignEach es X.env).length = n) (hst : (assignEach es X.env).findIdx? (·.1) = none) : PG X (.Tuple es kk pos) (tG M cf H0 w0 (gTp gs n)) := pgW (pg_tup hc h hn hst) fun v σ H Q h => by
  obtain ⟨ρ, w, G, d, ρ', G', g, r, e, k⟩ := h
  cases d <;> first | (cases e; done) | skip
  rename_i l
  simp only [gTp] at e
  by_cases hl : l.length = n
  · rw [if_pos hl] at e
    simp only [Rep] at r
    obtain ⟨a, xs, rfl, h1, r⟩ := r
    exact ⟨a, xs, rfl, by rw [hK]; exact .inl (.inl (g.st.fzH _ _ h1)), by rw [← r.length]; exact hl, ρ, w, G, l, ρ', G', g, r, e, k⟩
  · rw [if_neg hl] at e; cases e
theorem At.frzM {H00 H : Hp} {w00 w : Wd} {σ : L2.St} {ρ : Env} {G : Sto} {r : R} {d : D} {v : V} (a : At M H00 w00 σ ρ H w G) (x : RX M H00 σ ρ H w r v) (e : Lp.frz r = some d) : ∃ w', At M H00 w00 σ ρ H w' G ∧ Rep M w' d v ∧ Lat H00 w00 H w' ∧ Mono w w' := by
  cases r with
  | d y => cases e; exact ⟨w, a, x, a.lat, Mono.refl w⟩
  | bor i o => cases e
  | tmp o =>
    obtain ⟨p, rfl, ob, n1, n2, n3⟩ := x
    have go : ∀ ho, H p = some ho → At M H00 w00 σ ρ H (w.put p ho) G := fun ho hh => by
      have s := a.st.freeze hh n1 n2
      exact ⟨a.lat.freeze (M := M) (G := G) n3 n1, s, a.sl0⟩
    have mo : ∀ ho, Mono w (w.put p ho) := fun ho => ⟨(Wd.put_lat (H := H) n1).1, (Wd.put_lat (H := H) (o := ho) n1).2⟩
    cases o with
    | lst l =>
      cases e
      obtain ⟨xs, hx, rr⟩ := ob
      refine ⟨_, go _ hx, ?_, (go _ hx).lat, mo _⟩
      simp only [Rep]
      exact ⟨p, xs, rfl, (show upd w.fz p (.lst xs) p = _ from upd_same), rr.put n1⟩
    | ins c ns l =>
      cases e
      obtain ⟨dx, fs, hx, hn, rr⟩ := ob
      refine ⟨_, go _ hx, ?_, (go _ hx).lat, mo _⟩
      simp only [Rep]
      exact ⟨p, dx, fs, rfl, (show upd w.fz p (.ins (M.ca c) dx fs) p = _ from upd_same), hn, rr.put n1⟩
    | dK _ _ => cases e
    | dT _ _ => cases e
def rSetA : TSet := fun o i v H Q => rSetL o i v H Q ∨ rSetD o i v H Q
theorem set_any (hu : X.A.units + 64 < cLine) : PSet X rSetA := by
  intro pins s σ H o i v ov iv u Q I ro ri rv h
  rcases h with h | h
  · exact set_list pins s σ H o i v ov iv u Q I ro ri rv h
  · exact set_dict (by omega) pins s σ H o i v ov iv u Q I ro ri rv h
theorem obPut_ok {H : Hp} {w : Wd} {a : Addr} {o o' : Ob} {y d : D} {v x : V} {Q : Hp → Prop} (ob : ObAt M w H a o) (f : ∀ a o, w.fz a = some o → H a = some o) (ry : Rep M w y v) (rd : Rep M w d x) (e : obPut o y d = some o') (k : ∀ ho, (∀ xs, ho ≠ .tup xs) → ObAt M w (upd H a ho) a o' → Q (upd H a ho)) : rSetA (.ref a) v x H Q := by
  cases o with
  | lst l =>
    cases y <;> first | (cases e; done) | skip
    obtain ⟨j, e1, rfl⟩ := mapSome e
    simp only [Rep] at ry
    obtain ⟨xs, h, r⟩ := ob
    rw [r.length] at e1
    exact .inl ⟨a, xs, _, j, rfl, ry, h, e1, k _ (by intro _ z; cases z) ⟨_, upd_same, r.set j rd⟩⟩
  | dK ks vs =>
    dsimp only [obPut] at e
    by_cases hz : ks.length < sz
    · rw [if_pos hz] at e
      obtain ⟨kk, e1, rfl⟩ := mapSome e
      obtain ⟨kvs, h, rfl, r⟩ := ob
      have p := putD_rep (k := kk) rd r
      refine .inr ⟨a, _, rfl, .inl ⟨kvs, kk, h, keyOf_rep e1 ry, ?_, rfl⟩, k _ (by intro _ z; cases z) ⟨_, upd_same, p.1, p.2⟩⟩
      rw [List.length_map] at hz
      exact sz_lineT hz
    · rw [if_neg hz] at e; cases e
  | dT ks vs =>
    dsimp only [obPut] at e
    by_cases hz : ks.length < sz
    · rw [if_pos hz] at e
      cases y <;> first | (cases e; done) | skip
      obtain ⟨kk, e1, rfl⟩ := mapSome e
      obtain ⟨kvs, h, rfl, r⟩ := ob
      have p := putD_rep (k := kk) rd r
      simp only [Rep] at ry
      obtain ⟨b, xs, rfl, hb, ry⟩ := ry
      refine .inr ⟨a, _, rfl, .inr ⟨kvs, kk, b, h, rfl, by rw [← keysOf_rep e1 ry]; exact f _ _ hb, ?_, rfl⟩, k _ (by intro _ z; cases z) ⟨_, upd_same, p.1, p.2⟩⟩
      rw [List.length_map] at hz
      exact sz_lineT hz
    · rw [if_neg hz] at e; cases e
  | ins c ns l => cases e
theorem g_sub (hu : X.A.units + 64 < cLine) (ho : PE X oe (tE M cf co)) (hi : PE X ie (tE M cf ci)) (ha : ∀ v, assign (.Subscript oe ie pos) X.env v = (do
      let ov ← holding [v] (eval oe X.env)
      let iv ← holding [v, ov] (eval ie X.env)
      standAt pos
      holding [v, ov, iv] (setItem ov iv v)
      release [v, ov, iv] [])) : PG X (.Subscript oe ie pos) (tG M cf H0 w0 (gSb co ci)) := pgW (pg_sub ho hi (set_any hu) ha) fun v σ H Q h => by
  obtain ⟨ρ, w, G, d, ρ', G', g, r, e, k⟩ := h
  refine g.at_.run e fun ra G1 x H1 w1 e1 L1 A1 x1 => ?_
  refine A1.run e1 fun rb G2 y H2 w2 e2 L2 A2 x2 => ?_
  obtain ⟨kk, e3, e4⟩ := bindSome e2
  obtain ⟨o, e5, e6⟩ := bindSome e4
  obtain ⟨o', e7, e8⟩ := mapSome e6
  cases rb <;> first | (cases e3; done) | skip
  cases e3
  have g2 := g.next A2
  obtain ⟨a, rfl, ob, mk⟩ := g2.mut (x1.lat L2) e5
  refine obPut_ok ob g2.st.fzH x2 (r.lat (L1.trans L2)) e7 fun ho nt ob' => ?_
  have g3 := mk ho o' nt ob'
  rw [e8] at g3
  exact k σ _ w2 g3 (L1.trans L2).mono
/-- target = value -/
def sAsgG (g : GFn) (c : Fn) : SFn := fun cf ρ G => (c cf ρ G).bind fun p => (frz p.1).bind fun d => (g cf d ρ p.2).map fun q => .nx q.1 q.2
theorem s_asgG (h : PS X st (tAsg (tE M cf ce) (tG M cf H0 w0 g))) : PS X st (tS M cf H0 w0 (sAsgG g ce)) := psW h fun D σ H h => by
  obtain ⟨ρ, w, G, o, gg, e, k⟩ := h
  refine gg.at_.run e fun r G1 v H1 w1 e1 L1 A1 x1 => ?_
  obtain ⟨d, e2, e3⟩ := bindSome e1
  obtain ⟨⟨ρ', G2⟩, e4, e5⟩ := mapSome e3
  subst e5
  obtain ⟨w', A', rd, L'⟩ := A1.frz x1 e2
  exact ⟨ρ, w', G1, d, ρ', G2, gg.next A', rd, e4, fun σ' H' w2 g2 m2 => k σ' H' w2 g2 (L'.mono.trans m2)⟩
/-- an expression as a row -/
def sDrop (c : Fn) : SFn := fun cf ρ G => (c cf ρ G).map fun p => .nx ρ p.2
theorem s_drop (h : PS X st (tDrop (tE M cf ce))) : PS X st (tS M cf H0 w0 (sDrop ce)) := psW h fun D σ H h => by
  obtain ⟨ρ, w, G, o, g, e, k⟩ := h
  obtain ⟨⟨r, G1⟩, e1, e2⟩ := mapSome e
  subst e2
  exact ⟨ρ, w, G, r, G1, g.sl, g.st, e1, fun v H1 w1 L s x => k σ H1 w1 (g.next (g.at_.step L s)) L.mono⟩
/-- xs.append(e) -/
def sApp (co : Fn) (ce : Fn) : SFn := fun cf ρ G => (co cf ρ G).bind fun p => (objG p.1 p.2).bind fun o1 => match o1 with
  | .lst _ => (ce cf ρ p.2).bind fun q => (frz q.1).bind fun d => (objG p.1 q.2).bind fun o => match o with
    | .lst l => if l.length < sz then some (.nx (setG p.1 (.lst (l ++ [d])) ρ q.2).1 (setG p.1 (.lst (l ++ [d])) ρ q.2).2) else none
    | _ => none
  | _ => none
theorem s_app (h : PS X st (tDrop (tBM X.K "list" rAppend (tE M cf co) (tCons (tE M cf ce) tNil)))) : PS X st (tS M cf H0 w0 (sApp co ce)) := psW h fun D σ H h => by
  obtain ⟨ρ, w, G, o, g, e, k⟩ := h
  refine g.at_.run e fun ra G1 x H1 w1 e1 L1 A1 x1 => ?_
  obtain ⟨o1, e2, e3⟩ := bindSome e1
  cases o1 <;> first | (cases e3; done) | skip
  dsimp only at e3
  have g1 := g.next A1
  obtain ⟨a, rfl, ⟨xs, hx, _⟩, _⟩ := g1.mut x1 e2
  refine ⟨.inl ⟨rfl, xs, .inl (.inl hx)⟩, ?_⟩
  refine A1.run e3 fun rb G2 y H2 w2 e4 L2 A2 x2 => ?_
  obtain ⟨d, e5, e6⟩ := bindSome e4
  obtain ⟨o2, e7, e8⟩ := bindSome e6
  cases o2 <;> first | (cases e8; done) | skip
  rename_i l
  dsimp only at e8
  by_cases hz : l.length < sz
  · rw [if_pos hz] at e8
    cases e8
    obtain ⟨w', A', rd, L', m'⟩ := A2.frzM x2 e5
    have g2 := g.next A'
    have x1' : RX M H σ ρ H2 w' ra (.ref a) := by
      cases ra with
      | d z =>
        have x1 : Rep M w1 z (.ref a) := x1
        exact Rep.mon x1 (L2.mono.trans m')
      | tmp _ => cases e7
      | bor _ _ => exact x1
    obtain ⟨a', ea, ⟨ys, hy, ry⟩, mk⟩ := g2.mut x1' e7
    cases ea
    refine ⟨a, ys, y, rfl, rfl, hy, by rw [← ry.length]; exact sz_lineT hz, ?_⟩
    exact k σ _ w' (mk (.lst (ys ++ [y])) _ (by intro _ z; cases z) ⟨_, upd_same, ry.append (RepL.cons rd RepL.nil)⟩) L'.mono
  · rw [if_neg hz] at e8; cases e8
end
end Lp

namespace Lp
open PySem PySem.Spec PyProof.Rows L2

/-! ### own defs called -/
def spD (M : Md) (cf : CF) (fi np : Nat) : Sp := fun vs H Q _ => ∃ w G l r G', StOk M H w G ∧ RepL M w l vs ∧ l.length = np ∧ cf fi l G = some (r, G') ∧ ∀ v H' w', Lat H w H' w' → StOk M H' w' G' → RX M H [] [] H' w' r v → Q v H'
theorem spD_len {M : Md} {cf : CF} {fi np : Nat} (vs : List V) (H : Hp) (Q : VK) (E : XK) (h : spD M cf fi np vs H Q E) : vs.length = np := by
  obtain ⟨w, G, l, r, G', _, rl, e, _⟩ := h
  rw [← rl.length]; exact e
def cCall (fi : Nat) (a : FnL) (ds : List D) : Fn := fun cf ρ G => (a cf ρ G).bind fun p => cf fi (p.1 ++ ds) p.2
/-- a def that may be called by its name -/
structure CalD (P : Program) (w : World) (K : PySem.W.Frag) (mg : Str → Option Value) (base : Heap) (k : Nat) (M : Md) (cf : CF) (x : Str) (fi np : Nat) (ds : List D) : Prop where
  ex : ∃ (f : Addr) (fd : FuncData) (ps : List Str) (us : List Value) (dvs : List V), FnOk P w K mg base CX0 k f fd ps (spD M cf fi np) ∧ mg x = some (.ref f) ∧ PySem.W.keepIn K (.ref f) = true ∧ Binds K fd ps us ∧ Vals dvs us ∧ ∀ w, RepL M w ds dvs
section
variable {X : Cx} {M : Md} {cf : CF} {H0 : Hp} {w0 : Wd} {e a b tg oe ie : Expr} {es : List Expr} {st : Stmt} {ss : List Stmt} {ce ca cb co ci cd : Fn} {ct : FnT} {cs c1 c2 : SFn} {cl : FnL} {pos pos' apos p : Pos} {k j fi np : Nat} {ds : List D} {x : Str}
theorem RX.called {H H1 H2 : Hp} {w w1 w2 : Wd} {σ : L2.St} {ρ : Env} {r : R} {v : V} (h : RX M H1 [] [] H2 w2 r v) (L : Lat H w H1 w1) : RX M H σ ρ H2 w2 r v := by
  cases r with
  | d y => exact h
  | tmp o => exact RX.back (M := M) (H := H) (σ := σ) (ρ := ρ) (r := .tmp o) h L
  | bor i o => obtain ⟨e, _⟩ := h; cases e
theorem call_ok {dvs : List V} (hd : ∀ w, RepL M w ds dvs) {E : XK} (σ : L2.St) (H : Hp) (Q : VK) (h : tE M cf (cCall fi cl ds) σ H Q) (hn : ∀ l ρ G, ∀ z, cl cf ρ G = some (l, z) → (l ++ ds).length = np) : tCall (spD M cf fi np) dvs E (tA M cf cl) σ H Q := by
  obtain ⟨ρ, w, G, r, G', sl, st, e, q⟩ := h
  obtain ⟨⟨l, G1⟩, e1, e2⟩ := bindSome e
  refine ⟨ρ, w, G, l, G1, sl, st, e1, fun vs H1 w1 L1 s1 rl => ?_⟩
  exact ⟨w1, G1, l ++ ds, r, G', s1, rl.append (hd w1), hn _ _ _ _ e1, e2, fun v H2 w2 L2 s2 x => q v H2 w2 (L1.trans L2) s2 (x.called L1)⟩
/-- lists of a known length -/
def Len (c : FnL) (n : Nat) : Prop := ∀ cf l ρ G z, c cf ρ G = some (l, z) → l.length = n
theorem len_nil : Len cNil 0 := fun cf l ρ G z e => by cases e; rfl
theorem len_cons {n : Nat} (h : Len cl n) : Len (cCons ca cl) (n + 1) := fun cf l ρ G z e => by
  obtain ⟨p, _, e⟩ := bindSome e
  obtain ⟨d, _, e⟩ := bindSome e
  obtain ⟨⟨q, G2⟩, e1, e2⟩ := bindSome e
  cases e2
  rw [List.length_cons, h _ _ _ _ _ e1]
theorem x_call {n : Nat} (c : CalD X.prog X.w X.K X.mg X.base k M cf x fi np ds) (hr : Room j X.A) (hk : k ≤ j) (hg : Gl X x) (ha : PA X (a :: es) (tA M cf cl)) (hs : isStar a = false) (hs2 : es.any isStar = false) (hl : Len cl n) (hn : n + ds.length = np)
    (hdb : (x == ("__debug__" : Str)) = false := by decide) : PE X (.Call (.Name x p) (a :: es) [] pos) (tE M cf (cCall fi cl ds)) := by
  obtain ⟨f, fd, ps, us, dvs, F, hm, kp, b, d, hd⟩ := c.ex
  exact peW (pe_call F (hr.mono hk) hg hm kp b d pass0 ha hdb (starEach_plain hs) (starEach_any hs2)) fun σ H Q h => call_ok hd σ H Q h fun l ρ G z e => by
    rw [List.length_append, hl _ _ _ _ _ e]; exact hn
theorem x_call0 (c : CalD X.prog X.w X.K X.mg X.base k M cf x fi np ds) (hr : Room j X.A) (hk : k ≤ j) (hg : Gl X x) (hn : ds.length = np)
    (hdb : (x == ("__debug__" : Str)) = false := by decide) : PE X (.Call (.Name x p) [] [] pos) (tE M cf (cCall fi cNil ds)) := by
  obtain ⟨f, fd, ps, us, dvs, F, hm, kp, b, d, hd⟩ := c.ex
  refine peW (pe_call0 F (hr.mono hk) hg hm kp b d pass0 hdb) fun σ H Q h => ?_
  have := call_ok (E := E0) hd σ H Q h fun l ρ G z e => by cases e; exact hn
  obtain ⟨ρ, w, G, l, G1, sl, st, e1, q⟩ := this
  cases e1
  exact q [] H w (Lat.refl H w) st RepL.nil
end

/-! ### a def by its body -/
def startE (n : Nat) (l : List D) : Env := l.map .v ++ List.replicate (n - l.length) .no
def outR : Out → Option (R × Sto)
  | .ret r G => some (r, G)
  | .nx _ G => some (.d .non, G)
  | _ => none
def runB (n : Nat) (c : SFn) (cf : CF) (l : List D) (G : Sto) : Option (R × Sto) := (c cf (startE n l) G).bind outR
theorem start_ok {M : Md} {H : Hp} {w : Wd} {l : List D} {vs : List V} (r : RepL M w l vs) (N : List Str) : SlOk M H w (L2.start N vs) (startE N.length l) := by
  have hl := r.length
  refine ⟨by unfold L2.start startE; simp [hl], fun i s e => ?_, fun i j o o' a e1 _ _ _ => ?_⟩
  · unfold startE at e
    by_cases hi : i < l.length
    · rw [List.getElem?_append_left (by simpa using hi), List.getElem?_map] at e
      obtain ⟨d, e1, rfl⟩ := mapSome e
      obtain ⟨v, e2, rv⟩ := r.getD e1
      refine ⟨v, ?_, rv⟩
      unfold L2.start
      rw [List.getElem?_append_left (by rw [List.length_map, ← hl]; exact hi), List.getElem?_map, e2]
      rfl
    · rw [List.getElem?_append_right (by simp; omega)] at e
      have := List.mem_of_getElem? e
      rw [List.mem_replicate] at this
      rw [this.2]; trivial
  · exfalso
    unfold startE at e1
    by_cases hi : i < l.length
    · rw [List.getElem?_append_left (by simpa using hi), List.getElem?_map] at e1
      obtain ⟨d, _, z⟩ := mapSome e1
      cases z
    · rw [List.getElem?_append_right (by simp; omega)] at e1
      have := List.mem_of_getElem? e1
      rw [List.mem_replicate] at this
      cases this.2
theorem start_fr {H0 : Hp} {l : List D} {vs : List V} {n : Nat} {N : List Str} : OwnFr H0 (L2.start N vs) (startE n l) := fun i o a e1 _ => by
  exfalso
  unfold startE at e1
  by_cases hi : i < l.length
  · rw [List.getElem?_append_left (by simpa using hi), List.getElem?_map] at e1
    obtain ⟨d, _, z⟩ := mapSome e1
    cases z
  · rw [List.getElem?_append_right (by simp; omega)] at e1
    have := List.mem_of_getElem? e1
    rw [List.mem_replicate] at this
    cases this.2
section
variable {P : Program} {w : World} {K : PySem.W.Frag} {mg : Str → Option Value} {base : Heap} {x qual : Str} {params : Arguments} {body : List Stmt} {scope : Scope} {dvs : List V} {kws : List (Str × V)} {f : Addr} {fd : FuncData}
theorem fn_ok {N ps : List Str} {k fi : Nat} {M : Md} {cf cf' : CF} {c : SFn} (F : FunD K x qual params body scope dvs kws f fd) (S : FnScope N ps scope)
    (hb : ∀ (cdv : Value) (A : Around) (outer : List PySem.Env) (s : Shared) (H : Hp) (w0 : Wd) (E : XK), Room k (A.deeper (envOfC qual scope s.heap.objs.size f cdv)) → PSs (cxOf CX0 P w K mg base N qual scope f cdv A outer s H E).nox body (tS M cf H w0 c))
    (hk : ∀ l G z, l.length = ps.length → cf' fi l G = some z → runB N.length c cf l G = some z) : FnOk P w K mg base CX0 (k + 1) f fd ps (spD M cf' fi ps.length) := by
  refine F.ok S spD_len fun cdv A outer s H vs Q E hr h => ?_
  obtain ⟨w0, G, l, r, G', st, rl, hlen, e, q⟩ := h
  refine ⟨_, (hb cdv A outer s H w0 E hr).nox, ?_⟩
  obtain ⟨o, e1, e2⟩ := bindSome (hk l G _ hlen e)
  refine ⟨startE N.length l, w0, G, o, ⟨Lat.refl H w0, st, start_ok rl N, start_fr⟩, e1, ?_⟩
  cases o with
  | nx ρ G1 =>
    cases e2
    exact fun σ H1 w1 g _ => q .non H1 w1 g.lat g.st of_non
  | ret r1 G1 =>
    cases e2
    exact fun v H1 w1 L s1 x => q v H1 w1 L s1 x
  | bk _ _ => cases e2
  | ct _ _ => cases e2
end
end Lp

namespace Lp
open PySem PySem.Spec PyProof.Rows L2

/-! ### the rules, as the printed proofs use them -/
section
variable {X : Cx} {M : Md} {cf : CF} {H0 : Hp} {w0 : Wd} {e a b c tg oe ie lo hi iter elt : Expr} {es rest ifs : List Expr} {st : Stmt} {ss A B : List Stmt} {ce ca cb cc co ci cd : Fn} {ct ta tb : FnT} {cs c1 c2 : SFn} {cl src : FnL} {pos pos' apos p p2 kp : Pos} {k j fi np : Nat} {ds : List D} {x : Str}
theorem n_var {i : Nat} (hN : X.N[i]? = some x := by rfl) (hv : Vis X.env.scope x := by first | exact Or.inl rfl | exact Or.inr (Or.inl rfl) | exact Or.inr (Or.inr rfl)) (hd : (x == ("__debug__" : Str)) = false := by decide) (hcd : (x == ("__classdict__" : Str)) = false := by decide) : PE X (.Name x pos) (tE M cf (cVar i)) := x_var hN hv hd hcd
theorem n_gi {i : Int} (h : ∃ t, X.mg x = some (.int i t)) (hg : Gl X x := by rfl) (hd : (x == ("__debug__" : Str)) = false := by decide) : PE X (.Name x pos) (tE M cf (cC (.int i))) := by
  obtain ⟨t, h⟩ := h
  exact x_glob (v := .int i) hg h ⟨t, rfl⟩ hd fun w => by simp only [Rep]
theorem n_gs {i : Str} (h : ∃ t, X.mg x = some (.str i t)) (hg : Gl X x := by rfl) (hd : (x == ("__debug__" : Str)) = false := by decide) : PE X (.Name x pos) (tE M cf (cC (.str i))) := by
  obtain ⟨t, h⟩ := h
  exact x_glob (v := .str i) hg h ⟨t, rfl⟩ hd fun w => by simp only [Rep]
theorem n_ty {t : Ty} (hm : X.mg x = none) (hv : bootBuiltins x = some (.type t.nm)) (hg : Gl X x := by rfl) (hn : x ≠ "__name__" := by decide) (hd : (x == ("__debug__" : Str)) = false := by decide) : PE X (.Name x pos) (tE M cf (cC (.ty t))) :=
  x_cst (pe_bltn (v := .ty t.nm) hg hm hv rfl hn hd) fun w => by simp only [Rep]
theorem n_bin {op : Operator} {f : R → R → Option R} (hM : X.K = M.K) (ha : PE X a (tE M cf ca)) (hb : PE X b (tE M cf cb)) (hf : opF op = some f := by rfl) : PE X (.BinOp a op b pos) (tE M cf (cBin f ca cb)) := x_bin (opF_ok hM hf) ha hb
theorem n_cmp {op : CmpOp} {f : R → R → Option Bool} (hM : X.K = M.K) (hu : X.A.units + 64 < cLine) (ha : PE X a (tE M cf ca)) (hb : PE X b (tE M cf cb)) (hf : cmpF op = some f := by rfl) : PE X (.Compare a [op] [b] pos) (tE M cf (cBin (vb f) ca cb)) := x_cmp (cmpF_ok hM hu hf) ha hb (cmpF_mark hf b)
theorem n_tcmp {op : CmpOp} {f : R → R → Option Bool} (hM : X.K = M.K) (hu : X.A.units + 64 < cLine) (ha : PE X a (tE M cf ca)) (hb : PE X b (tE M cf cb)) (hf : cmpF op = some f := by rfl) : PT X (.Compare a [op] [b] pos) (tT M cf (cTv (cBin (vb f) ca cb))) := t_cmp (cmpF_ok hM hu hf) ha hb (cmpF_mark hf b)
theorem n_chain {op op' : CmpOp} {p p' : Int → Int → Bool} (ha : PE X a (tE M cf ca)) (hb : PE X b (tE M cf cb)) (hc : PE X c (tE M cf cc)) (h1 : ordF op = some p := by rfl) (h2 : ordF op' = some p' := by rfl) : PE X (.Compare a [op, op'] [b, c] pos) (tE M cf (cVt (cChain (cmpI p) (cmpI p') ca cb cc))) := x_chain (ordF_ok h1) (ordF_ok h2) ha hb hc (ordF_mark h1 h2 b c)
theorem n_tchain {op op' : CmpOp} {p p' : Int → Int → Bool} (ha : PE X a (tE M cf ca)) (hb : PE X b (tE M cf cb)) (hc : PE X c (tE M cf cc)) (h1 : ordF op = some p := by rfl) (h2 : ordF op' = some p' := by rfl) : PT X (.Compare a [op, op'] [b, c] pos) (tT M cf (cChain (cmpI p) (cmpI p') ca cb cc)) := t_chain (ordF_ok h1) (ordF_ok h2) ha hb hc (ordF_mark h1 h2 b c)
theorem n_tval (ha : PE X a (tE M cf ca)) (he : ∀ whole, isTrue a X.env whole = (do let v ← whole; standAt a.pos; holding [v] (truthy v)) := by intro _; rfl) : PT X a (tT M cf (cTv ca)) := t_val ha he
theorem n_tand1 (ha : PT X a (tT M cf ta)) : PW X (.BoolOp .And [a] pos) (tT M cf ta) := pw_and1 ha
theorem n_tor1 (ha : PT X a (tT M cf ta)) : PW X (.BoolOp .Or [a] pos) (tT M cf ta) := pw_or1 ha
theorem n_tand (ha : PT X a (tT M cf ta)) (hb : PW X (.BoolOp .And (b :: rest) pos) (tT M cf tb)) : PW X (.BoolOp .And (a :: b :: rest) pos) (tT M cf (cAnd ta tb)) := pwW (pw_and ha hb) t_and
theorem n_tor (ha : PT X a (tT M cf ta)) (hb : PW X (.BoolOp .Or (b :: rest) pos) (tT M cf tb)) : PW X (.BoolOp .Or (a :: b :: rest) pos) (tT M cf (cOr ta tb)) := pwW (pw_or ha hb) t_or
theorem n_tnot (ha : PT X a (tT M cf ta)) : PT X (.UnaryOp .Not a pos) (tT M cf (cNot ta)) := ptW (pt_not ha) t_not
theorem n_ix (hM : X.K = M.K) (hu : X.A.units + 64 < cLine) (ha : PE X a (tE M cf ca)) (hb : PE X b (tE M cf cb)) (hs : isSlice b = false := by rfl) : PE X (.Subscript a b pos) (tE M cf (cBinG ixG ca cb)) := x_ixG hM hu ha hb hs
theorem n_sl {lo hi : Option Expr} {cl ch : FnO} (hM : X.K = M.K) (ha : PE X a (tE M cf ca)) (hl : PO X lo (tO M cf cl)) (hh : PO X hi (tO M cf ch)) : PE X (.Subscript a (.Slice lo hi none p2) pos) (tE M cf (cSl ca cl ch)) := x_sl hM ha hl hh
theorem n_cons (ha : PE X a (tE M cf ca)) (hr : PA X es (tA M cf cl)) (hs : isStar a = false := by rfl) : PA X (a :: es) (tA M cf (cCons ca cl)) := x_cons ha hr hs
theorem n_rcons {cr : FnRs} (ha : PE X a (tE M cf ca)) (hr : PA X es (tR M cf cr)) (hs : isStar a = false := by rfl) : PA X (a :: es) (tR M cf (rCons ca cr)) := r_cons ha hr hs
/-! built-in functions: the names must be the built-in's (hm) -/
theorem n_len (hM : X.K = M.K) (hm : X.mg "len" = none) (ha : PE X a (tE M cf ca)) (hg : Gl X "len" := by rfl) (hs : isStar a = false := by rfl) : PE X (.Call (.Name "len" p) [a] [] pos) (tE M cf (cUnG lenR ca)) := x_b1 (c_len hM) hg hm boot_len ha hs (by decide) (by decide)
theorem n_sum (hM : X.K = M.K) (hc : X.calm = true) (hm : X.mg "sum" = none) (ha : PE X a (tE M cf ca)) (hg : Gl X "sum" := by rfl) (hs : isStar a = false := by rfl) : PE X (.Call (.Name "sum" p) [a] [] pos) (tE M cf (cUnG sumR ca)) := x_b1 (c_sum hM hc) hg hm PyProof.Rows.boot_sum ha hs (by decide) (by decide)
theorem n_all (hM : X.K = M.K) (hc : X.calm = true) (hm : X.mg "all" = none) (ha : PE X a (tE M cf ca)) (hg : Gl X "all" := by rfl) (hs : isStar a = false := by rfl) : PE X (.Call (.Name "all" p) [a] [] pos) (tE M cf (cUnG allR ca)) := x_b1 (c_all hM hc) hg hm PyProof.Rows.boot_all ha hs (by decide) (by decide)
theorem n_any (hM : X.K = M.K) (hc : X.calm = true) (hm : X.mg "any" = none) (ha : PE X a (tE M cf ca)) (hg : Gl X "any" := by rfl) (hs : isStar a = false := by rfl) : PE X (.Call (.Name "any" p) [a] [] pos) (tE M cf (cUnG anyR ca)) := x_b1 (c_any hM hc) hg hm PyProof.Rows.boot_any ha hs (by decide) (by decide)
theorem n_list (hM : X.K = M.K) (hm : X.mg "list" = none) (ha : PE X a (tE M cf ca)) (hg : Gl X "list" := by rfl) (hs : isStar a = false := by rfl) : PE X (.Call (.Name "list" p) [a] [] pos) (tE M cf (cUnG listR ca)) := x_t1 (c_list hM) hg hm PyProof.Rows.boot_list ha hs (by decide) (by decide)
theorem n_tuple (hM : X.K = M.K) (hm : X.mg "tuple" = none) (ha : PE X a (tE M cf ca)) (hg : Gl X "tuple" := by rfl) (hs : isStar a = false := by rfl) : PE X (.Call (.Name "tuple" p) [a] [] pos) (tE M cf (cUnG tupleR ca)) := x_t1 (c_tuple hM) hg hm PyProof.Rows.boot_tuple ha hs (by decide) (by decide)
theorem n_abs (hm : X.mg "abs" = none) (ha : PE X a (tE M cf ca)) (hg : Gl X "abs" := by rfl) (hs : isStar a = false := by rfl) : PE X (.Call (.Name "abs" p) [a] [] pos) (tE M cf (cUnG absR ca)) := x_b1 c_abs hg hm PyProof.Rows.boot_abs ha hs (by decide) (by decide)
theorem n_int (hm : X.mg "int" = none) (ha : PE X a (tE M cf ca)) (hg : Gl X "int" := by rfl) (hs : isStar a = false := by rfl) : PE X (.Call (.Name "int" p) [a] [] pos) (tE M cf (cUnG intR ca)) := x_t1 c_int hg hm PyProof.Rows.boot_int ha hs (by decide) (by decide)
theorem n_max (hM : X.K = M.K) (hc : X.calm = true) (hm : X.mg "max" = none) (ha : PE X a (tE M cf ca)) (hg : Gl X "max" := by rfl) (hs : isStar a = false := by rfl) : PE X (.Call (.Name "max" p) [a] [] pos) (tE M cf (cUnG maxR ca)) := x_b1 (c_max hM hc) hg hm PyProof.Rows.boot_max ha hs (by decide) (by decide)
theorem n_min (hM : X.K = M.K) (hc : X.calm = true) (hm : X.mg "min" = none) (ha : PE X a (tE M cf ca)) (hg : Gl X "min" := by rfl) (hs : isStar a = false := by rfl) : PE X (.Call (.Name "min" p) [a] [] pos) (tE M cf (cUnG minR ca)) := x_b1 (c_min hM hc) hg hm PyProof.Rows.boot_min ha hs (by decide) (by decide)
theorem n_sorted (hM : X.K = M.K) (hm : X.mg "sorted" = none) (ha : PE X a (tE M cf ca)) (hg : Gl X "sorted" := by rfl) (hs : isStar a = false := by rfl) : PE X (.Call (.Name "sorted" p) [a] [] pos) (tE M cf (cUnG sortedOnly ca)) := x_b1 (c_sorted hM) hg hm PyProof.Rows.boot_sorted ha hs (by decide) (by decide)
theorem n_sortedRev (hM : X.K = M.K) (hm : X.mg "sorted" = none) (ha : PE X a (tE M cf ca)) (hg : Gl X "sorted" := by rfl) (hs : isStar a = false := by rfl) : PE X (.Call (.Name "sorted" p) [a] [⟨some "reverse", .Constant (.bool true) k p2, kp⟩] pos) (tE M cf (cUnG sortedRev ca)) := x_sortedRev hM hg hm ha hs
theorem n_max2 (hc : X.calm = true) (hm : X.mg "max" = none) (ha : PE X a (tE M cf ca)) (hb : PE X b (tE M cf cb)) (hg : Gl X "max" := by rfl) (hs : isStar a = false := by rfl) (hs2 : isStar b = false := by rfl) : PE X (.Call (.Name "max" p) [a, b] [] pos) (tE M cf (cBinG max2R ca cb)) := x_b2 (c_max2 hc) hg hm PyProof.Rows.boot_max ha hb hs hs2 (by decide) (by decide)
theorem n_min2 (hc : X.calm = true) (hm : X.mg "min" = none) (ha : PE X a (tE M cf ca)) (hb : PE X b (tE M cf cb)) (hg : Gl X "min" := by rfl) (hs : isStar a = false := by rfl) (hs2 : isStar b = false := by rfl) : PE X (.Call (.Name "min" p) [a, b] [] pos) (tE M cf (cBinG min2R ca cb)) := x_b2 (c_min2 hc) hg hm PyProof.Rows.boot_min ha hb hs hs2 (by decide) (by decide)
theorem n_divmod (hm : X.mg "divmod" = none) (ha : PE X a (tE M cf ca)) (hb : PE X b (tE M cf cb)) (hg : Gl X "divmod" := by rfl) (hs : isStar a = false := by rfl) (hs2 : isStar b = false := by rfl) : PE X (.Call (.Name "divmod" p) [a, b] [] pos) (tE M cf (cBinG divmodR ca cb)) := x_b2 c_divmod hg hm PyProof.Rows.boot_divmod ha hb hs hs2 (by decide) (by decide)
/-! what is walked -/
theorem n_rng1 (hm : X.mg "range" = none) (ha : PE X a (tE M cf ca)) (hg : Gl X "range" := by rfl) (hs : isStar a = false := by rfl) : PI X tg (.Call (.Name "range" p) [a] [] pos) (tI M cf (cRng1 (cCons ca cNil))) := x_rng1 hg hm (n_cons ha x_nil hs) hs
theorem n_rng2 (hm : X.mg "range" = none) (ha : PE X a (tE M cf ca)) (hb : PE X b (tE M cf cb)) (hg : Gl X "range" := by rfl) (hs : isStar a = false := by rfl) (hs2 : isStar b = false := by rfl) : PI X tg (.Call (.Name "range" p) [a, b] [] pos) (tI M cf (cRng2 (cCons ca (cCons cb cNil)))) := x_rng2 hg hm (n_cons ha (n_cons hb x_nil hs2) hs) hs hs2
theorem n_rng3 (hm : X.mg "range" = none) (ha : PE X a (tE M cf ca)) (hb : PE X b (tE M cf cb)) (hc : PE X c (tE M cf cc)) (hg : Gl X "range" := by rfl) (hs : isStar a = false := by rfl) (hs2 : isStar b = false := by rfl) (hs3 : isStar c = false := by rfl) : PI X tg (.Call (.Name "range" p) [a, b, c] [] pos) (tI M cf (cRng3 (cCons ca (cCons cb (cCons cc cNil))))) := x_rng3 hg hm (n_cons ha (n_cons hb (n_cons hc x_nil hs3) hs2) hs) hs hs2 hs3
theorem n_enum1 {elts : List Expr} {kk : Nat} {tpos : Pos} (hM : X.K = M.K) (hm : X.mg "enumerate" = none) (ha : PE X a (tE M cf ca)) (hg : Gl X "enumerate" := by rfl) (hs : isStar a = false := by rfl) : PI X (.Tuple elts kk tpos) (.Call (.Name "enumerate" p) [a] [] pos) (tI M cf (cEnum1 (cCons ca cNil))) := x_enum1 hM hg hm (n_cons ha x_nil hs) hs
theorem n_enum2 {elts : List Expr} {kk : Nat} {tpos : Pos} (hM : X.K = M.K) (hm : X.mg "enumerate" = none) (ha : PE X a (tE M cf ca)) (hb : PE X b (tE M cf cb)) (hg : Gl X "enumerate" := by rfl) (hs : isStar a = false := by rfl) (hs2 : isStar b = false := by rfl) : PI X (.Tuple elts kk tpos) (.Call (.Name "enumerate" p) [a, b] [] pos) (tI M cf (cEnum2 (cCons ca (cCons cb cNil)))) := x_enum2 hM hg hm (n_cons ha (n_cons hb x_nil hs2) hs) hs hs2
/-! keys of a dict that stands for good -/
def cKeysI (a : Fn) : FnL := fun cf ρ G => (a cf ρ G).bind fun p => match p.1 with
  | .d (.dK ks _) => some (ks.map kD, p.2)
  | .d (.dT ks _) => some (ks.map fun k => .tup (k.map kD), p.2)
  | _ => none
theorem kD_rep {w : Wd} : ∀ k : Key, Rep M w (kD k) (kV k)
  | .inl i => by simp only [kD, kV, Rep]
  | .inr s => by simp only [kD, kV, Rep]
theorem kDs_rep {w : Wd} : ∀ k : List Key, RepL M w (k.map kD) (k.map kV)
  | [] => RepL.nil
  | k :: l => RepL.cons (kD_rep k) (kDs_rep l)
theorem ylds_keys {w1 : Wd} {a : Addr} {od : Obj} {kvs : List (Key × V)} (h : w1.fz a = some (.frz od (.dK kvs))) : Ylds M (Itk a od kvs) ((kvs.map (·.1)).map kD) w1 := by
  have hH : ∀ {H : Hp} {w : Wd}, Mono w1 w → FzH w H → H a = some (.frz od (.dK kvs)) := fun m f => f _ _ (m.fz _ _ h)
  refine ⟨fun i d H w e m f => ⟨hH m f, ?_⟩, fun i d H w y H' e m f q => ?_, fun H w m f => ⟨hH m f, ?_⟩⟩
  · have := (List.getElem?_eq_some_iff.mp e).1
    simpa using this
  · obtain ⟨rfl, k, v, e1, rfl⟩ := q
    rw [List.map_map, List.getElem?_map, e1] at e
    cases e
    exact ⟨w, Lat.refl _ _, fun _ h => h, f, kD_rep k⟩
  · simp
theorem ylds_keysT {w1 : Wd} {a : Addr} {od : Obj} {kvs : List (List Key × V)} (h : w1.fz a = some (.frz od (.dT kvs))) : Ylds M (Itkt a od kvs) ((kvs.map (·.1)).map fun k => .tup (k.map kD)) w1 := by
  have hH : ∀ {H : Hp} {w : Wd}, Mono w1 w → FzH w H → H a = some (.frz od (.dT kvs)) := fun m f => f _ _ (m.fz _ _ h)
  refine ⟨fun i d H w e m f => ⟨hH m f, ?_⟩, fun i d H w y H' e m f q => ?_, fun H w m f => ⟨hH m f, ?_⟩⟩
  · have := (List.getElem?_eq_some_iff.mp e).1
    simpa using this
  · obtain ⟨rfl, k, v, p, e1, rfl, e2⟩ := q
    rw [List.map_map, List.getElem?_map, e1] at e
    cases e
    cases z : w.fz p with
    | some o =>
      have e3 := f p o z
      rw [e2] at e3
      cases e3
      exact ⟨w, Lat.refl _ _, fun _ h => h, f, by
        simp only [Function.comp, Rep]
        exact ⟨p, _, rfl, z, kDs_rep k⟩⟩
    | none =>
      refine ⟨w.put p (.tup (k.map kV)), ⟨(Wd.put_lat (H := H') z).1, ⟨[], by simp [Wd.put], fun _ h => absurd h (by simp)⟩, fun b h1 h2 => ?_, fun _ _ h => .inr h, fun _ _ h _ => h, fun _ h => h⟩, fun G s => s.freeze e2 z fun hm => ?_, fun b o h => ?_, ?_⟩
      · by_cases hb : b = p
        · subst hb; exact .inr ⟨_, e2⟩
        · have h1 : upd w.fz p (.tup (k.map kV)) b ≠ none := h1
          rw [upd_ne hb] at h1; exact absurd h2 h1
      · obtain ⟨n, hn, e⟩ := List.getElem_of_mem hm
        have hn' : n < G.length := by rw [← s.len]; exact hn
        obtain ⟨q, _⟩ := s.at_ n G[n] p (List.getElem?_eq_getElem hn') (by rw [List.getElem?_eq_getElem hn, e])
        exact q.nt (.inr ⟨_, e2⟩)
      · have h : upd w.fz p (.tup (k.map kV)) b = some o := h
        by_cases hb : b = p
        · subst hb; rw [upd_same] at h; cases h; exact e2
        · rw [upd_ne hb] at h; exact f b o h
      · simp only [Function.comp, Rep]
        exact ⟨p, _, rfl, (show upd w.fz p _ p = _ from upd_same), kDs_rep k⟩
  · simp
theorem n_keys (he : PE X e (tE M cf ce)) : PI X tg e (tI M cf (cKeysI ce)) := ⟨fun pins s σ H R I h => (pi_keys he).run pins s σ H R I (by
  obtain ⟨ρ, w, G, l, G', sl, st, ev, q⟩ := h
  refine (At.start sl st).run ev fun ra G1 v H1 w1 e1 L1 A1 x1 => ?_
  dsimp only at e1
  split at e1
  · cases e1
    have x1 : Rep M w1 (.dK _ _) v := x1
    simp only [Rep] at x1
    obtain ⟨a, od, kvs, rfl, hh, rfl, _⟩ := x1
    exact ⟨a, od, rfl, .inl ⟨kvs, A1.st.fzH _ _ hh, q _ H1 w1 L1 A1.st (ylds_keys hh)⟩⟩
  · cases e1
    have x1 : Rep M w1 (.dT _ _) v := x1
    simp only [Rep] at x1
    obtain ⟨a, od, kvs, rfl, hh, rfl, _⟩ := x1
    exact ⟨a, od, rfl, .inr ⟨kvs, A1.st.fzH _ _ hh, q _ H1 w1 L1 A1.st (ylds_keysT hh)⟩⟩
  · cases e1)⟩
end
end Lp

namespace Lp
open PySem PySem.Spec PyProof.Rows L2

/-! ### isinstance -/
def tyD : D → Sto → Option Ty
  | .non, _ => some .non | .bl _, _ => some .bool | .int _, _ => some .int | .str _, _ => some .str
  | .tup _, _ => some .tuple | .lst _, _ => some .list | .scr _, _ => some .list | .dK _ _, _ => some .dict
  | .ref n, G => match G[n]? with
    | some (.lst _) => some .list
    | some (.dK _ _) => some .dict
    | some (.dT _ _) => some .dict
    | _ => none
  | _, _ => none
def isiT (a b : Ty) : Bool := decide (a = b) || (decide (a = .bool) && decide (b = .int))
theorem kit_ok (a b : Ty) : kitB a.nm b.nm = some (isiT a b) := by
  cases a <;> cases b <;> decide +kernel
def cIsi (a : Fn) (t : Ty) : Fn := fun cf ρ G => (a cf ρ G).bind fun p => (dOf p.1).bind fun d => (tyD d p.2).map fun s => (.d (.bl (isiT s t)), p.2)
section
variable {X : Cx} {M : Md} {cf : CF} {H0 : Hp} {w0 : Wd} {e a b c tg oe ie lo hi iter elt : Expr} {es rest ifs : List Expr} {st : Stmt} {ss A B : List Stmt} {ce ca cb cc co ci cd : Fn} {ct ta tb : FnT} {cs c1 c2 : SFn} {cl src : FnL} {pos pos' apos p p2 kp : Pos} {k j fi np : Nat} {ds : List D} {x : Str}
theorem tyD_ok {K : PySem.W.Frag} (hM : K = M.K) {H00 H : Hp} {w00 w : Wd} {σ : L2.St} {ρ : Env} {G : Sto} {d : D} {v : V} {t : Ty} (A : At M H00 w00 σ ρ H w G) (x : Rep M w d v) (e : tyD d G = some t) : TyX K H v (.type t.nm) := by
  cases d with
  | non => cases e; simp only [Rep] at x; subst x; exact .base .non
  | bl b => cases e; simp only [Rep] at x; subst x; exact .base (.bl b)
  | int i => cases e; simp only [Rep] at x; subst x; exact .base (.int i)
  | str i => cases e; simp only [Rep] at x; subst x; exact .base (.str i)
  | tup l => cases e; simp only [Rep] at x; obtain ⟨p, xs, rfl, h, _⟩ := x; exact .base (.tup (A.st.fzH _ _ h))
  | lst l => cases e; simp only [Rep] at x; obtain ⟨p, xs, rfl, h, _⟩ := x; exact .base (.lst (A.st.fzH _ _ h))
  | scr l =>
    cases e
    simp only [Rep] at x
    obtain ⟨p, xs, rfl, h, _⟩ := x
    rcases sqL_mono A.st.fzH h with (h | ⟨o, h⟩) | ⟨o, its, n, h, c, _⟩
    · exact .base (.lst h)
    · exact .base (.frz h)
    · exact .kList (by rw [hM]; exact h) c
  | dK ks vs => cases e; simp only [Rep] at x; obtain ⟨p, od, kvs, rfl, h, _⟩ := x; exact .fDict (A.st.fzH _ _ h)
  | ref n =>
    have x : RX M H00 σ ρ H w (.d (.ref n)) v := x
    simp only [tyD] at e
    split at e <;> first | (cases e; done) | skip
    · rename_i z; cases e; obtain ⟨p, rfl, _, ⟨xs, h, _⟩, _⟩ := A.ref x z; exact .base (.lst h)
    · rename_i z; cases e; obtain ⟨p, rfl, _, ⟨xs, h, _⟩, _⟩ := A.ref x z; exact .base (.dK h)
    · rename_i z; cases e; obtain ⟨p, rfl, _, ⟨xs, h, _⟩, _⟩ := A.ref x z; exact .base (.dT h)
  | _ => cases e
theorem n_isi {t : Ty} (hM : X.K = M.K) (hm : X.mg "isinstance" = none) (ha : PE X a (tE M cf ca)) (hb : PE X b (tE M cf (cC (.ty t)))) (hg : Gl X "isinstance" := by rfl) (hs : isStar a = false := by rfl) (hs2 : isStar b = false := by rfl) : PE X (.Call (.Name "isinstance" p) [a, b] [] pos) (tE M cf (cIsi ca t)) :=
  peW (pe_callB call_isi hg hm PyProof.Rows.boot_isinstance (pa_cons ha (pa_cons hb pa_nil (starEach_plain hs2)) (starEach_plain hs)) (by decide) (by decide) (starEach_plain hs) (any1 hs2)) fun σ H Q h => by
    obtain ⟨ρ, w, G, r, G', sl, st, e, q⟩ := h
    refine (At.start sl st).run e fun ra G1 x H1 w1 e1 L1 A1 x1 => ?_
    obtain ⟨d, e2, e3⟩ := bindSome e1
    obtain ⟨s, e4, e5⟩ := mapSome e3
    cases e5
    cases ra <;> first | (cases e2; done) | skip
    cases e2
    refine ⟨ρ, w1, G1, _, G1, A1.sl, A1.st, rfl, fun v H2 w2 L2 s2 x2 => ?_⟩
    have A2 := A1.step L2 s2
    have x2 : Rep M w2 (.ty t) v := x2
    simp only [Rep] at x2
    subst x2
    exact ⟨x, .ty t.nm, _, _, isiT s t, rfl, .ty _, tyD_ok hM A2 (Rep.lat x1 L2) e4, kit_ty (kit_ok s t), A2.fin q of_bl⟩

/-! ### comprehensions -/
theorem pts1 (ht : PT X c (tT M cf ta)) : PTs X [c] (tT M cf ta) := pts_one ht
theorem pts0 : PTs X [] (tT M cf cYes) := ⟨fun pins s σ H Q I h => pts_nil.run pins s σ H Q I (by
  obtain ⟨ρ, w, G, b, G', sl, st, e, q⟩ := h
  cases e
  exact q H w (Lat.refl H w) st)⟩
theorem gnm {i : Nat} (hN : X.N.Nodup) (hi : X.N[i]? = some x := by rfl) (hx : Loc X.env.scope x := by first | exact Or.inl rfl | exact Or.inr rfl) (hf : X.fn x = true ∨ X.env.scope.names.lookup x = some .local := by first | exact .inl rfl | exact .inr rfl) : PG X (.Name x pos) (tgG M.K (.nm i)) := pg_name hN hi hx hf
theorem pgs0 : PGs X [] (gNames []) := pgs_nil
theorem pgs1 {i : Nat} {is : List Nat} {px : Pos} (hN : X.N.Nodup) (h : PGs X es (gNames is)) (hi : X.N[i]? = some x := by rfl) (hx : Loc X.env.scope x := by first | exact Or.inl rfl | exact Or.inr rfl) (hf : X.fn x = true ∨ X.env.scope.names.lookup x = some .local := by first | exact .inl rfl | exact .inr rfl)
    (hs : (assignEach (.Name x px :: es) X.env).map (·.2) = assign (.Name x px) X.env :: (assignEach es X.env).map (·.2) := by rfl) : PGs X (.Name x px :: es) (gNames (i :: is)) := pgs_cons (pg_name hN hi hx hf) h hs
theorem gtp {is : List Nat} {kk : Nat} (hM : X.K = M.K) (hc : X.calm = true) (h : PGs X es (gNames is)) (hn : (assignEach es X.env).length = is.length := by rfl) (hst : (assignEach es X.env).findIdx? (·.1) = none := by rfl) : PG X (.Tuple es kk pos) (tgG M.K (.tup is)) := by
  have := pg_tup (X := X) (pos := pos) (k := kk) hc h hn hst
  rw [hM] at this
  exact this
theorem n_lc {scope : Scope} {own : List (Str × Nat)} {T : Tg} {vs : List Nat} (hM : X.K = M.K) (hc : X.calm = true) (hN : X.N.Nodup) (hi : PI X tg iter (tI M cf src)) (ok : blkC X.N X.env.scope scope own = true) (hvs : vs = own.map (·.2))
    (hv : ∀ i ∈ tgIx T, i ∈ vs)
    (hg : ∀ (s : Shared) (H : Hp) (C : Addr) (cl : List (Str × Addr)) (fp : List Addr), PG (X.blk s H scope (compEnvC scope cl C X.env) fp) tg (tgG M.K T)) (ht : ∀ (s : Shared) (H : Hp) (C : Addr) (cl : List (Str × Addr)) (fp : List Addr), PTs (X.blk s H scope (compEnvC scope cl C X.env) fp) ifs (tT M cf ct))
    (he : ∀ (s : Shared) (H : Hp) (C : Addr) (cl : List (Str × Addr)) (fp : List Addr), PE (X.blk s H scope (compEnvC scope cl C X.env) fp) elt (tE M cf ce)) (hs : ∀ x, foldedSetIterable iter X.env x = pure x := by intro _; rfl) :
    PE X (.ListComp elt [⟨tg, iter, ifs, 0⟩] scope pos) (tE M cf (cLc vs src T ct ce)) := by
  subst hvs
  exact peW (pe_lc hc hN hi (blkOk_by ok) hg ht he hs) (tLc_ok rfl hv)
/-- x = [..] on one line -/
theorem n_setLc {m : Mo} {i : Nat} {y : Str} {py spos : Pos} {scope : Scope} {own : List (Str × Nat)} {T : Tg} {vs : List Nat} (hM : X.K = M.K) (hc : X.calm = true) (hN : X.N.Nodup) (hi : PI X tg iter (tI M cf src)) (ok : blkC X.N X.env.scope scope own = true) (hvs : vs = own.map (·.2))
    (hv : ∀ i ∈ tgIx T, i ∈ vs)
    (hg : ∀ (s : Shared) (H : Hp) (C : Addr) (cl : List (Str × Addr)) (fp : List Addr), PG (X.blk s H scope (compEnvC scope cl C X.env) fp) tg (tgG M.K T)) (ht : ∀ (s : Shared) (H : Hp) (C : Addr) (cl : List (Str × Addr)) (fp : List Addr), PTs (X.blk s H scope (compEnvC scope cl C X.env) fp) ifs (tT M cf ct))
    (he : ∀ (s : Shared) (H : Hp) (C : Addr) (cl : List (Str × Addr)) (fp : List Addr), PE (X.blk s H scope (compEnvC scope cl C X.env) fp) elt (tE M cf ce)) (hs : ∀ x, foldedSetIterable iter X.env x = pure x := by intro _; rfl)
    (hy : X.N[i]? = some y := by rfl) (hyl : X.env.scope.names.lookup y = some .local := by rfl) (hk : X.env.scope.kind = .function := by rfl) (hl : (py.line == pos.line) = true := by rfl) (hsn : (scope.names.any fun (n, k) => n == y && (k == .local || k == .cell)) = false := by rfl) :
    PS X (.Assign [.Name y py] (.ListComp elt [⟨tg, iter, ifs, 0⟩] scope pos) spos) (tS M cf H0 w0 (sAsg m i (cLc vs src T ct ce))) := by
  subst hvs
  exact s_asg (psW (ps_setLc hc hN hy hyl (sw_true hk hyl hl hsn) hi (blkOk_by ok) hg ht he hs) fun D σ H h => tLc_ok rfl hv σ H _ h)

/-! ### statements -/
theorem n_asg {m : Mo} {i : Nat} {px : Pos} (hN : X.N.Nodup) (he : PE X e (tE M cf ce)) (hi : X.N[i]? = some x := by rfl) (hx : Loc X.env.scope x := by first | exact Or.inl rfl | exact Or.inr rfl) (hf : X.fn x = true ∨ X.env.scope.names.lookup x = some .local := by first | exact .inl rfl | exact .inr rfl)
    (hs : swapsWithSole [.Name x px] e pos.line X.env = pure false := by rfl) (hw : swappedStores [.Name x px] e X.env = pure none := by rfl) (h1 : (assignEach [.Name x px] X.env).map (·.2) = [assign (.Name x px) X.env] := by rfl) : PS X (.Assign [.Name x px] e pos) (tS M cf H0 w0 (sAsg m i ce)) :=
  s_asg (ps_asg he (pg_name hN hi hx hf) hs hw h1)
theorem n_asgG {g : GFn} (he : PE X e (tE M cf ce)) (hg : PG X tg (tG M cf H0 w0 g)) (hs : swapsWithSole [tg] e pos.line X.env = pure false := by rfl) (hw : swappedStores [tg] e X.env = pure none := by rfl) (h1 : (assignEach [tg] X.env).map (·.2) = [assign tg X.env] := by rfl) : PS X (.Assign [tg] e pos) (tS M cf H0 w0 (sAsgG g ce)) :=
  s_asgG (ps_asg he hg hs hw h1)
theorem n_gnm {i : Nat} (hN : X.N.Nodup) (hi : X.N[i]? = some x := by rfl) (hx : Loc X.env.scope x := by first | exact Or.inl rfl | exact Or.inr rfl) (hf : X.fn x = true ∨ X.env.scope.names.lookup x = some .local := by first | exact .inl rfl | exact .inr rfl) : PG X (.Name x pos) (tG M cf H0 w0 (gNm i)) := g_nm (pg_name hN hi hx hf)
theorem n_gn0 : PGs X [] (tGs M cf H0 w0 gN0) := g_nil pgs_nil
theorem n_gc {g : GFn} {gs : GFns} (h1 : PG X tg (tG M cf H0 w0 g)) (h2 : PGs X es (tGs M cf H0 w0 gs)) (hs : (assignEach (tg :: es) X.env).map (·.2) = assign tg X.env :: (assignEach es X.env).map (·.2) := by rfl) : PGs X (tg :: es) (tGs M cf H0 w0 (gC1 g gs)) := g_cons h1 h2 hs
theorem n_gtp {gs : GFns} {kk n : Nat} (hM : X.K = M.K) (hc : X.calm = true) (h : PGs X es (tGs M cf H0 w0 gs)) (hn : (assignEach es X.env).length = n := by rfl) (hst : (assignEach es X.env).findIdx? (·.1) = none := by rfl) : PG X (.Tuple es kk pos) (tG M cf H0 w0 (gTp gs n)) := g_tup hM hc h hn hst
theorem n_gsb (hu : X.A.units + 64 < cLine) (ho : PE X oe (tE M cf co)) (hi : PE X ie (tE M cf ci)) (ha : ∀ v, assign (.Subscript oe ie pos) X.env v = (do
      let ov ← holding [v] (eval oe X.env)
      let iv ← holding [v, ov] (eval ie X.env)
      standAt pos
      holding [v, ov, iv] (setItem ov iv v)
      release [v, ov, iv] []) := by intro _; rfl) : PG X (.Subscript oe ie pos) (tG M cf H0 w0 (gSb co ci)) := g_sub hu ho hi ha
theorem n_drop (he : PE X e (tE M cf ce)) (hs : swapsWith e none pos.line X.env = pure false := by rfl) : PS X (.Expr e pos) (tS M cf H0 w0 (sDrop ce)) := s_drop (ps_expr he hs)
theorem n_app {cpos : Pos} (ho : PE X oe (tE M cf co)) (he : PE X e (tE M cf ce)) (hs1 : isStar e = false := by rfl) (hbase : attributeBase oe "append" X.env (eval oe X.env) = eval oe X.env := by rfl)
    (hfew : ((backTo cpos (starEach [e] X.env)).all (fun x => !x.1) && (backToKw cpos (keywordEach [] X.env)).all (fun x => x.1.isSome) && decide ([e].length + ([] : List Keyword).length + (if ([] : List Keyword).isEmpty then 0 else 1) < 30)) = true := by rfl)
    (hline : (apos.endLine == cpos.line) = true := by rfl)
    (hs : swapsWith (.Call (.Attribute oe "append" apos) [e] [] cpos) none pos.line X.env = pure false := by rfl) : PS X (.Expr (.Call (.Attribute oe "append" apos) [e] [] cpos) pos) (tS M cf H0 w0 (sApp co ce)) :=
  s_app (ps_expr (pe_bm PySem.F.plainAttrs_list PySem.F.slot_list_append PySem.F.type_list_append mt_append ho (pa_cons he pa_nil (starEach_plain hs1)) hbase hfew hline (starEach_plain hs1) rfl) hs)
theorem n_par2 {m1 m2 : Mo} {i j : Nat} {y : Str} {c : FnRs} {px py pt pt2 : Pos} {kt k2 : Nat} (hc : X.calm = true) (hN : X.N.Nodup) (ha : PA X [a, b] (tR M cf c)) (hi : X.N[i]? = some x := by rfl) (hj : X.N[j]? = some y := by rfl) (hij : i ≠ j := by decide)
    (hx : X.env.scope.names.lookup x = some .local := by rfl) (hy : X.env.scope.names.lookup y = some .local := by rfl)
    (hw : swappedStores [.Tuple [.Name x px, .Name y py] kt pt] (.Tuple [a, b] k2 pt2) X.env = pure (some [x, y]) := by rfl)
    (hs : swapsWithSole [.Tuple [.Name x px, .Name y py] kt pt] (.Tuple [a, b] k2 pt2) pos.line X.env = pure false := by rfl) :
    PS X (.Assign [.Tuple [.Name x px, .Name y py] kt pt] (.Tuple [a, b] k2 pt2) pos) (tS M cf H0 w0 (sPar [(m1, i), (m2, j)] c)) := s_par2 (ps_par hc hN hi hj hij hx hy ha hw hs)
theorem n_parT {ms : List (Mo × Nat)} {c : FnRs} {kk k2 : Nat} {pt2 : Pos} {es2 : List Expr} (hM : X.K = M.K) (hc : X.calm = true) (ha : PA X es2 (tR M cf c)) (hg : PGs X es (gNames (ms.map (·.2)))) (hm : ms.length ≤ 100 := by decide) (hn : (assignEach es X.env).length = ms.length := by rfl) (hst : (assignEach es X.env).findIdx? (·.1) = none := by rfl)
    (hs : swapsWithSole [.Tuple es kk pos'] (.Tuple es2 k2 pt2) pos.line X.env = pure false := by rfl) (hw : swappedStores [.Tuple es kk pos'] (.Tuple es2 k2 pt2) X.env = pure none := by rfl) (h1 : (assignEach [.Tuple es kk pos'] X.env).map (·.2) = [assign (.Tuple es kk pos') X.env] := by rfl) :
    PS X (.Assign [.Tuple es kk pos'] (.Tuple es2 k2 pt2) pos) (tS M cf H0 w0 (sPar ms c)) := s_parT hm (ps_asg (pe_tup ha) (pg_tup hc hg hn hst) hs hw h1)
theorem n_if (ht : PT X e (tT M cf ct)) (ha : PSs X A (tS M cf H0 w0 c1)) (hb : PSs X B (tS M cf H0 w0 c2)) : PS X (.If e A B pos) (tS M cf H0 w0 (sIf ct c1 c2)) := s_if ht ha hb
theorem n_for {T : Tg} (hM : X.K = M.K) (hc : X.calm = true) (hi : PI X tg iter (tI M cf src)) (hg : PG X tg (tgG M.K T)) (hb : PSs X ss (tS M cf H0 w0 cs)) (hp : PassesOwn (model X.prog X.w) X.A X.env X.xe := by exact PySem.PassesOwn.never) (hs : ∀ x, foldedSetIterable iter X.env x = pure x := by intro _; rfl) :
    PS X (.For tg iter ss [] pos) (tS M cf H0 w0 (sFor src T cs)) := s_for hM hp hc hi hg hb hs
theorem n_while {n : Nat} (ht : PT X e (tT M cf ct)) (hb : PSs X ss (tS M cf H0 w0 cs)) (hp : PassesOwn (model X.prog X.w) X.A X.env X.xe := by exact PySem.PassesOwn.never) : PS X (.While e ss [] pos) (tS M cf H0 w0 (sWhile n ct cs)) := s_while hp ht hb

/-! ### one's own dict stands for good -/
def frzDSl : Sl → Sl
  | .own (.dK ks vs) => .v (.dK ks vs)
  | .own (.dT ks vs) => .v (.dT ks vs)
  | s => s
def sFrzD (i : Nat) (s : SFn) : SFn := fun cf ρ G => match ρ[i]? with
  | some x => s cf (ρ.set i (frzDSl x)) G
  | none => none
theorem GS.lockD {H : Hp} {w : Wd} {σ : L2.St} {ρ : Env} {G : Sto} {i : Nat} {o : Ob} {p : Addr} {d : D} {ho : HO} (g : GS M H0 w0 σ ρ H w G) (e : ρ[i]? = some (.own o)) (e3 : σ[i]? = some (some (.ref p))) (n1 : w.fz p = none) (n2 : p ∉ w.al) (hp : H p ≠ none) (nt : ∀ xs, ho ≠ .tup xs)
    (rd : Rep M (w.put p ho) d (.ref p)) : GS M H0 w0 σ (ρ.set i (.v d)) (upd H p ho) (w.put p ho) G ∧ Mono w (w.put p ho) := by
  have n0 := g.fr i o p e e3
  have hs : σ.set i (some (.ref p)) = σ := by
    obtain ⟨hi, e1⟩ := List.getElem?_eq_some_iff.mp e3
    rw [← e1]
    exact List.set_getElem_self hi
  have mo : Mono w (w.put p ho) := ⟨(Wd.put_lat (H := H) n1).1, (Wd.put_lat (H := H) (o := ho) n1).2⟩
  have obne : ∀ {b : Addr} {ob : Ob}, b ≠ p → ObAt M w H b ob → ObAt M (w.put p ho) (upd H p ho) b ob := fun {b ob} ne q => by
    have q := q.mon mo
    cases ob with
    | lst l => obtain ⟨xs, e, r⟩ := q; exact ⟨xs, (upd_ne ne).trans e, r⟩
    | dK ks vs => obtain ⟨xs, e, q, r⟩ := q; exact ⟨xs, (upd_ne ne).trans e, q, r⟩
    | dT ks vs => obtain ⟨xs, e, q, r⟩ := q; exact ⟨xs, (upd_ne ne).trans e, q, r⟩
    | ins c ns l => obtain ⟨dx, fs, e, q, r⟩ := q; exact ⟨dx, fs, (upd_ne ne).trans e, q, r⟩
  refine ⟨⟨⟨fun b u h => mo.fz b u (g.lat.fz b u h), g.lat.al, fun b h1 h2 => ?_, fun b xs h => ?_, fun b u h n => ?_, fun b h => ?_⟩, ⟨fun b u h => ?_, g.st.len, g.st.nd, fun m ob b e1 e2 => ?_⟩, ⟨by rw [List.length_set]; exact g.sl.len, fun j s ej => ?_, fun j k o1 o2 x a1 a2 a3 a4 => ?_⟩, fun j ob b ej ek => ?_⟩, mo⟩
  · by_cases hb : b = p
    · subst hb; exact .inl n0
    · have h1 : upd w.fz p ho b ≠ none := h1
      rw [upd_ne hb] at h1; exact g.lat.nw b h1 h2
  · by_cases hb : b = p
    · subst hb; exact .inl n0
    · rw [upd_ne hb] at h; exact g.lat.tb b xs h
  · rw [upd_ne (ne_of_none h n0)]; exact g.lat.kp b u h n
  · by_cases hb : b = p
    · subst hb; rw [upd_same]; simp
    · rw [upd_ne hb]; exact g.lat.dm b h
  · have h : upd w.fz p ho b = some u := h
    by_cases hb : b = p
    · subst hb; rw [upd_same] at h ⊢; exact h
    · rw [upd_ne hb] at h ⊢; exact g.st.fzH b u h
  · obtain ⟨q, z⟩ := g.st.at_ m ob b e1 e2
    have ne : b ≠ p := fun z => n2 (by rw [← z]; exact List.mem_of_getElem? e2)
    exact ⟨obne ne q, by show upd w.fz p ho b = none; rw [upd_ne ne]; exact z⟩
  · by_cases z : i = j
    · subst z
      rw [List.getElem?_set_self (List.getElem?_eq_some_iff.mp e).1] at ej
      cases ej
      exact ⟨.ref p, e3, rd⟩
    · rw [List.getElem?_set_ne z] at ej
      have q := g.sl.at_ j s ej
      cases s with
      | no => trivial
      | v d => obtain ⟨v, e1, r⟩ := q; exact ⟨v, e1, r.mon mo⟩
      | own ob2 =>
        obtain ⟨b, e1, r, m1, m2⟩ := q
        have nb : b ≠ p := fun zz => z (g.sl.sep j i ob2 o b ej e e1 (by rw [zz]; exact e3)).symm
        exact ⟨b, e1, obne nb r, by show upd w.fz p ho b = none; rw [upd_ne nb]; exact m1, m2⟩
  · have nj : i ≠ j := fun z => by subst z; rw [List.getElem?_set_self (List.getElem?_eq_some_iff.mp e).1] at a1; cases a1
    have nk : i ≠ k := fun z => by subst z; rw [List.getElem?_set_self (List.getElem?_eq_some_iff.mp e).1] at a2; cases a2
    rw [List.getElem?_set_ne nj] at a1
    rw [List.getElem?_set_ne nk] at a2
    exact g.sl.sep j k o1 o2 x a1 a2 a3 a4
  · have nj : i ≠ j := fun z => by subst z; rw [List.getElem?_set_self (List.getElem?_eq_some_iff.mp e).1] at ej; cases ej
    rw [List.getElem?_set_ne nj] at ej
    exact g.fr j ob b ej ek
theorem n_frzD {i : Nat} (h : PS X st (tS M cf H0 w0 cs)) : PS X st (tS M cf H0 w0 (sFrzD i cs)) := ⟨fun pins s σ H D I hh => by
  obtain ⟨ρ, w, G, o, g, e, k⟩ := hh
  unfold sFrzD at e
  cases z : ρ[i]? with
  | none => rw [z] at e; cases e
  | some x =>
    rw [z] at e
    have same : ρ.set i x = ρ := by
      obtain ⟨hi, e1⟩ := List.getElem?_eq_some_iff.mp z
      rw [← e1]
      exact List.set_getElem_self hi
    have stay : frzDSl x = x → wpAny (model X.prog X.w) X.A (exec st X.env) (SP X pins D) X.xe s := fun hx => h.run pins s σ H D I ⟨ρ, w, G, o, g, by dsimp only at e; rwa [hx, same] at e, k⟩
    cases x with
    | no => exact stay rfl
    | v d => exact stay rfl
    | own ob =>
      obtain ⟨p, e3, q, n1, n2⟩ := g.sl.at_ i _ z
      cases ob with
      | lst l => exact stay rfl
      | ins c ns l => exact stay rfl
      | dK ks vs =>
        obtain ⟨kvs, hp, hk, r⟩ := q
        obtain ⟨od, I2⟩ := I.lock hp trivial
        obtain ⟨g2, m2⟩ := g.lockD (d := .dK ks vs) (ho := .frz od (.dK kvs)) z e3 n1 n2 (by rw [hp]; simp) (by intro _ z; cases z) (by
          simp only [Rep]
          exact ⟨p, od, kvs, rfl, (show upd w.fz p _ p = _ from upd_same), hk, r.put n1⟩)
        exact h.run pins s σ _ D I2 ⟨_, _, G, o, g2, e, k.mono m2⟩
      | dT ks vs =>
        obtain ⟨kvs, hp, hk, r⟩ := q
        obtain ⟨od, I2⟩ := I.lock hp trivial
        obtain ⟨g2, m2⟩ := g.lockD (d := .dT ks vs) (ho := .frz od (.dT kvs)) z e3 n1 n2 (by rw [hp]; simp) (by intro _ z; cases z) (by
          simp only [Rep]
          exact ⟨p, od, kvs, rfl, (show upd w.fz p _ p = _ from upd_same), hk, r.put n1⟩)
        exact h.run pins s σ _ D I2 ⟨_, _, G, o, g2, e, k.mono m2⟩⟩
end
end Lp

namespace Lp
open PySem PySem.Spec PyProof.Rows L2

def ltP (i j : Int) : Bool := decide (i < j)
def leP (i j : Int) : Bool := decide (i ≤ j)
def gtP (i j : Int) : Bool := decide (j < i)
def geP (i j : Int) : Bool := decide (j ≤ i)
def ltI : R → R → Option Bool := cmpI ltP
def leI : R → R → Option Bool := cmpI leP
def gtI : R → R → Option Bool := cmpI gtP
def geI : R → R → Option Bool := cmpI geP
/-! ### an argument that is shared from now on -/
def shr (r : R) (G : Sto) : Option (D × Sto) := match r with
  | .d x => some (x, G)
  | .tmp o => some (.ref G.length, G ++ [o])
  | .bor _ _ => none
section
variable {X : Cx} {M : Md} {cf : CF} {a : Expr} {es : List Expr} {ca : Fn} {cl : FnL}
theorem At.shr {H0 H : Hp} {w0 w : Wd} {σ : L2.St} {ρ : Env} {G G' : Sto} {r : R} {d : D} {v : V} (A : At M H0 w0 σ ρ H w G) (x : RX M H0 σ ρ H w r v) (e : Lp.shr r G = some (d, G')) : ∃ w', At M H0 w0 σ ρ H w' G' ∧ Rep M w' d v := by
  cases r with
  | d y => cases e; exact ⟨w, A, x⟩
  | bor i o => cases e
  | tmp o =>
    cases e
    obtain ⟨p, rfl, ob, n1, n2, n3⟩ := x
    have mo : Mono w ⟨w.fz, w.al ++ [p]⟩ := ⟨fun _ _ h => h, fun n a h => by
      show (w.al ++ [p])[n]? = some a
      rw [List.getElem?_append_left (List.getElem?_eq_some_iff.mp h).1]; exact h⟩
    obtain ⟨t, et, nt⟩ := A.lat.al
    refine ⟨⟨w.fz, w.al ++ [p]⟩, ⟨⟨A.lat.fz, ⟨t ++ [p], by show w.al ++ [p] = _; rw [et, List.append_assoc], fun a ha => ?_⟩, A.lat.nw, A.lat.tb, A.lat.kp, A.lat.dm⟩, ⟨A.st.fzH, by show (w.al ++ [p]).length = (G ++ [o]).length; rw [List.length_append, List.length_append, A.st.len]; rfl, ?_, fun n ob2 a e1 e2 => ?_⟩, A.sl0⟩, ?_⟩
    · rcases List.mem_append.mp ha with z | z
      · exact nt a z
      · rw [List.mem_singleton.mp z]; exact n3
    · show (w.al ++ [p]).Nodup
      rw [List.nodup_append]
      exact ⟨A.st.nd, by simp, fun a ha b hb z => n2 (by rw [List.mem_singleton.mp hb] at z; rw [← z]; exact ha)⟩
    · have e2 : (w.al ++ [p])[n]? = some a := e2
      by_cases hn : n < G.length
      · rw [List.getElem?_append_left hn] at e1
        rw [List.getElem?_append_left (by rw [A.st.len]; exact hn)] at e2
        obtain ⟨q, z⟩ := A.st.at_ n ob2 a e1 e2
        exact ⟨q.mon mo, z⟩
      · rw [List.getElem?_append_right (by omega)] at e1
        rw [List.getElem?_append_right (by rw [A.st.len]; omega)] at e2
        rw [A.st.len] at e2
        cases hk : n - G.length with
        | zero =>
          rw [hk] at e1 e2
          cases e1; cases e2
          exact ⟨ob.mon mo, n1⟩
        | succ k => rw [hk] at e1; simp at e1
    · simp only [Rep]
      exact ⟨p, rfl, by show (w.al ++ [p])[G.length]? = some p; rw [← A.st.len]; simp⟩
def cConsR (a : Fn) (r : FnL) : FnL := fun cf ρ G => (a cf ρ G).bind fun p => (shr p.1 p.2).bind fun z => (r cf ρ z.2).bind fun q => some (z.1 :: q.1, q.2)
theorem n_consR (ha : PE X a (tE M cf ca)) (hr : PA X es (tA M cf cl)) (hs : isStar a = false := by rfl) : PA X (a :: es) (tA M cf (cConsR ca cl)) := paW (pa_cons ha hr (starEach_plain hs)) fun σ H Q h => by
  obtain ⟨ρ, w, G, l, G', sl, st, e, q⟩ := h
  refine (At.start sl st).run e fun ra G1 x H1 w1 e1 L1 A1 x1 => ?_
  obtain ⟨⟨d, G2⟩, e2, e3⟩ := bindSome e1
  obtain ⟨w1', A1', r1⟩ := A1.shr x1 e2
  refine A1'.runA e3 fun l2 G3 vs H2 w2 e4 L2 A2 r2 => ?_
  cases e4
  exact q _ H2 w2 A2.lat A2.st (RepL.cons (r1.lat L2) r2)
theorem len_consR {n : Nat} (h : Len cl n) : Len (cConsR ca cl) (n + 1) := fun cf l ρ G z e => by
  obtain ⟨p, _, e⟩ := bindSome e
  obtain ⟨d, _, e⟩ := bindSome e
  obtain ⟨⟨q, G2⟩, e1, e2⟩ := bindSome e
  cases e2
  rw [List.length_cons, h _ _ _ _ _ e1]
end
end Lp
namespace Lp
/-- the defs by number: how many names, what the body does -/
abbrev Tb := Nat → Option (Nat × SFn)
def runT (T : Tb) : Nat → CF
  | 0 => fun _ _ _ => none
  | k + 1 => fun fi l G => match T fi with
    | some p => runB p.1 p.2 (runT T k) l G
    | none => none
theorem runT_succ (T : Tb) (k fi n : Nat) (d : SFn) (l : List D) (G : Sto) (h : T fi = some (n, d)) : runT T (k + 1) fi l G = (d (runT T k) (startE n l) G).bind outR := by
  show (match T fi with
    | some p => runB p.1 p.2 (runT T k) l G
    | none => none) = _
  rw [h]
  rfl
end Lp

namespace Lp
open PySem PySem.Spec PyProof.Rows L2

/-! ### reckoning with denotations: lazily, from the left -/
theorem bind_lazy {α β : Type} {a a' : Option α} {f : α → Option β} (h : a = a') : a.bind f = a'.bind f := by rw [h]
theorem map_lazy {α β : Type} {a a' : Option α} {f : α → β} (h : a = a') : a.map f = a'.map f := by rw [h]
section
variable (cf : CF) (ρ : Env) (G : Sto)
@[simp] theorem ap_cVar (i : Nat) : cVar i cf ρ G = (match ρ[i]? with | some (.v d) => some (.d d, G) | some (.own o) => some (.bor i o, G) | _ => none) := Eq.trans rfl rfl
@[simp] theorem ap_cC (d : D) : cC d cf ρ G = some (.d d, G) := Eq.trans rfl rfl
@[simp] theorem ap_cBin (f a b) : cBin f a b cf ρ G = (a cf ρ G).bind fun p => (b cf ρ p.2).bind fun q => (f p.1 q.1).map (·, q.2) := Eq.trans rfl rfl
@[simp] theorem ap_cBinG (f a b) : cBinG f a b cf ρ G = (a cf ρ G).bind fun p => (b cf ρ p.2).bind fun q => (f p.1 q.1 q.2).map (·, q.2) := Eq.trans rfl rfl
@[simp] theorem ap_cUn (f a) : cUn f a cf ρ G = (a cf ρ G).bind fun p => (f p.1).map (·, p.2) := Eq.trans rfl rfl
@[simp] theorem ap_cUnG (f a) : cUnG f a cf ρ G = (a cf ρ G).bind fun p => (f p.1 p.2).map (·, p.2) := Eq.trans rfl rfl
@[simp] theorem ap_cTv (c) : cTv c cf ρ G = (c cf ρ G).bind fun p => match p.1 with | .d (.bl b) => some (b, p.2) | _ => none := Eq.trans rfl rfl
@[simp] theorem ap_cVt (c) : cVt c cf ρ G = (c cf ρ G).map fun p => (.d (.bl p.1), p.2) := Eq.trans rfl rfl
@[simp] theorem ap_cAnd (a b) : cAnd a b cf ρ G = (a cf ρ G).bind fun p => if p.1 = true then b cf ρ p.2 else some (false, p.2) := Eq.trans rfl rfl
@[simp] theorem ap_cOr (a b) : cOr a b cf ρ G = (a cf ρ G).bind fun p => if p.1 = true then some (true, p.2) else b cf ρ p.2 := Eq.trans rfl rfl
@[simp] theorem ap_cNot (a) : cNot a cf ρ G = (a cf ρ G).map fun p => (!p.1, p.2) := Eq.trans rfl rfl
@[simp] theorem ap_cIf (t a b) : cIf t a b cf ρ G = (t cf ρ G).bind fun p => if p.1 = true then a cf ρ p.2 else b cf ρ p.2 := Eq.trans rfl rfl
@[simp] theorem ap_cChain (f g a b c) : cChain f g a b c cf ρ G = (a cf ρ G).bind fun p => (b cf ρ p.2).bind fun q => (f p.1 q.1).bind fun k => if k = true then (c cf ρ q.2).bind fun r => (g q.1 r.1).map (·, r.2) else some (false, q.2) := Eq.trans rfl rfl
@[simp] theorem ap_cNil : cNil cf ρ G = some ([], G) := Eq.trans rfl rfl
@[simp] theorem ap_cCons (a r) : cCons a r cf ρ G = (a cf ρ G).bind fun p => (frz p.1).bind fun d => (r cf ρ p.2).bind fun q => some (d :: q.1, q.2) := Eq.trans rfl rfl
@[simp] theorem ap_cConsR (a r) : cConsR a r cf ρ G = (a cf ρ G).bind fun p => (shr p.1 p.2).bind fun z => (r cf ρ z.2).bind fun q => some (z.1 :: q.1, q.2) := Eq.trans rfl rfl
@[simp] theorem ap_cStar (a r) : cStar a r cf ρ G = (a cf ρ G).bind fun p => (itemsOf p.1).bind fun l => (r cf ρ p.2).bind fun q => some (l ++ q.1, q.2) := Eq.trans rfl rfl
@[simp] theorem ap_cTup (c) : cTup c cf ρ G = (c cf ρ G).bind fun p => if p.1.length ≤ sz then some (.d (.tup p.1), p.2) else none := Eq.trans rfl rfl
@[simp] theorem ap_cLst (c) : cLst c cf ρ G = (c cf ρ G).bind fun p => if p.1.length ≤ sz then some (.tmp (.lst p.1), p.2) else none := Eq.trans rfl rfl
@[simp] theorem ap_cNo : cNo cf ρ G = some (none, G) := Eq.trans rfl rfl
@[simp] theorem ap_cPart (a) : cPart a cf ρ G = (a cf ρ G).bind fun p => match p.1 with | .d (.int i) => some (some i, p.2) | _ => none := Eq.trans rfl rfl
@[simp] theorem ap_cSl (a lo hi) : cSl a lo hi cf ρ G = (a cf ρ G).bind fun p => (lo cf ρ p.2).bind fun l => (hi cf ρ l.2).bind fun h => (slR p.1 l.1 h.1).map (·, h.2) := Eq.trans rfl rfl
@[simp] theorem ap_cSeqI (a) : cSeqI a cf ρ G = (a cf ρ G).bind fun p => (frz p.1).bind fun d => (elems d).map (·, p.2) := Eq.trans rfl rfl
@[simp] theorem ap_cRng1 (a) : cRng1 a cf ρ G = (a cf ρ G).bind fun p => match p.1 with | [.int j] => if rgOk j = true then some (rangeI 0 j.toNat, p.2) else none | _ => none := Eq.trans rfl rfl
@[simp] theorem ap_cRng2 (a) : cRng2 a cf ρ G = (a cf ρ G).bind fun p => match p.1 with | [.int i, .int j] => if (rgOk i && rgOk j) = true then some (rangeI i (j - i).toNat, p.2) else none | _ => none := Eq.trans rfl rfl
@[simp] theorem ap_cRng3 (a) : cRng3 a cf ρ G = (a cf ρ G).bind fun p => match p.1 with
  | [.int i, .int j, .int c] => if (rgOk i && rgOk j && decide (c = -1)) = true then some (rangeC i c (i - j).toNat, p.2) else
      if (decide (c ≠ 0) && decide (c.natAbs < 1073741824) && Builtin.Range.small i j c) = true then some (rangeC i c (Builtin.Range.rangeSize i j c).toNat, p.2) else none
  | _ => none := Eq.trans rfl rfl
@[simp] theorem ap_cEnum1 (a) : cEnum1 a cf ρ G = (a cf ρ G).bind fun p => match p.1 with | [d] => (seqD d).map fun l => (enumD 0 l, p.2) | _ => none := Eq.trans rfl rfl
@[simp] theorem ap_cEnum2 (a) : cEnum2 a cf ρ G = (a cf ρ G).bind fun p => match p.1 with | [d, .int k] => if rgOk k = true then (seqD d).map fun l => (enumD k l, p.2) else none | _ => none := Eq.trans rfl rfl
@[simp] theorem ap_cKeysI (a) : cKeysI a cf ρ G = (a cf ρ G).bind fun p => match p.1 with | .d (.dK ks _) => some (ks.map kD, p.2) | .d (.dT ks _) => some (ks.map fun k => .tup (k.map kD), p.2) | _ => none := Eq.trans rfl rfl
@[simp] theorem ap_cYes : cYes cf ρ G = some (true, G) := Eq.trans rfl rfl
@[simp] theorem ap_cLc (vs src tg t e) : cLc vs src tg t e cf ρ G = (src cf ρ G).bind fun p => if p.1.length ≤ 1000000 then (lcL tg t e cf (wipeR ρ vs) p.1 p.2).map fun q => (.tmp (.lst q.1), q.2) else none := Eq.trans rfl rfl
@[simp] theorem ap_cCall (fi a ds) : cCall fi a ds cf ρ G = (a cf ρ G).bind fun p => cf fi (p.1 ++ ds) p.2 := Eq.trans rfl rfl
@[simp] theorem ap_cIsi (a t) : cIsi a t cf ρ G = (a cf ρ G).bind fun p => (dOf p.1).bind fun d => (tyD d p.2).map fun s => (.d (.bl (isiT s t)), p.2) := Eq.trans rfl rfl
@[simp] theorem ap_cGet2 (a b c) : cGet2 a b c cf ρ G = (a cf ρ G).bind fun p => match dicG p.1 p.2 with
  | none => none
  | some _ => (b cf ρ p.2).bind fun q => (c cf ρ q.2).bind fun z => (dicG p.1 z.2).bind fun o => (dOf q.1).bind fun k => (dOf z.1).bind fun x => (obGet o k).map fun u => (.d (u.getD x), z.2) := Eq.trans rfl rfl
@[simp] theorem ap_cNewT : cNewT cf ρ G = some (.tmp (.dT [] []), G) := Eq.trans rfl rfl
@[simp] theorem ap_cNewK : cNewK cf ρ G = some (.tmp (.dK [] []), G) := Eq.trans rfl rfl
@[simp] theorem ap_rNil : rNil cf ρ G = some ([], G) := Eq.trans rfl rfl
@[simp] theorem ap_rCons (a r) : rCons a r cf ρ G = (a cf ρ G).bind fun p => (r cf ρ p.2).map fun q => (p.1 :: q.1, q.2) := Eq.trans rfl rfl
@[simp] theorem ap_sNext : sNext cf ρ G = some (.nx ρ G) := Eq.trans rfl rfl
@[simp] theorem ap_sSeq (a b) : sSeq a b cf ρ G = (a cf ρ G).bind fun o => match o with | .nx ρ' G' => b cf ρ' G' | o => some o := Eq.trans rfl rfl
@[simp] theorem ap_sBreak : sBreak cf ρ G = some (.bk ρ G) := Eq.trans rfl rfl
@[simp] theorem ap_sCont : sCont cf ρ G = some (.ct ρ G) := Eq.trans rfl rfl
@[simp] theorem ap_sNever : sNever cf ρ G = none := Eq.trans rfl rfl
@[simp] theorem ap_sIf (t a b) : sIf t a b cf ρ G = (t cf ρ G).bind fun p => match p.1 with | true => a cf ρ p.2 | false => b cf ρ p.2 := Eq.trans rfl rfl
@[simp] theorem ap_sRet (c) : sRet c cf ρ G = (c cf ρ G).map fun p => .ret (retR p.1) p.2 := Eq.trans rfl rfl
@[simp] theorem ap_sRetN : sRetN cf ρ G = some (.ret (.d .non) G) := Eq.trans rfl rfl
@[simp] theorem ap_sFrz (i s) : sFrz i s cf ρ G = (match ρ[i]? with | some x => s cf (ρ.set i (frzSl x)) G | none => none) := Eq.trans rfl rfl
@[simp] theorem ap_sFrzD (i s) : sFrzD i s cf ρ G = (match ρ[i]? with | some x => s cf (ρ.set i (frzDSl x)) G | none => none) := Eq.trans rfl rfl
@[simp] theorem ap_sAsg (m i c) : sAsg m i c cf ρ G = (c cf ρ G).bind fun p => (putN m i p.1 ρ p.2).map fun q => .nx q.1 q.2 := Eq.trans rfl rfl
@[simp] theorem ap_sFor (src tg body) : sFor src tg body cf ρ G = (src cf ρ G).bind fun p => forL tg body cf p.1 ρ p.2 := Eq.trans rfl rfl
@[simp] theorem ap_sWhile (n c b) : sWhile n c b cf ρ G = whileL c b cf n ρ G := Eq.trans rfl rfl
@[simp] theorem ap_sPar (ms c) : sPar ms c cf ρ G = (c cf ρ G).bind fun p => (putAll ms p.1 ρ p.2).map fun q => .nx q.1 q.2 := Eq.trans rfl rfl
@[simp] theorem ap_sAsgG (g c) : sAsgG g c cf ρ G = (c cf ρ G).bind fun p => (frz p.1).bind fun d => (g cf d ρ p.2).map fun q => .nx q.1 q.2 := Eq.trans rfl rfl
@[simp] theorem ap_sDrop (c) : sDrop c cf ρ G = (c cf ρ G).map fun p => .nx ρ p.2 := Eq.trans rfl rfl
@[simp] theorem ap_sApp (co ce) : sApp co ce cf ρ G = (co cf ρ G).bind fun p => (objG p.1 p.2).bind fun o1 => match o1 with
  | .lst _ => (ce cf ρ p.2).bind fun q => (frz q.1).bind fun d => (objG p.1 q.2).bind fun o => match o with
    | .lst l => if l.length < sz then some (.nx (setG p.1 (.lst (l ++ [d])) ρ q.2).1 (setG p.1 (.lst (l ++ [d])) ρ q.2).2) else none
    | _ => none
  | _ => none := Eq.trans rfl rfl
variable (d : D) (l : List D)
@[simp] theorem ap_gNm (i) : gNm i cf d ρ G = some (ρ.set i (.v d), G) := Eq.trans rfl rfl
@[simp] theorem ap_gN0 : gN0 cf [] ρ G = some (ρ, G) := Eq.trans rfl rfl
@[simp] theorem ap_gC1 (g gs) : gC1 g gs cf (d :: l) ρ G = (g cf d ρ G).bind fun p => gs cf l p.1 p.2 := Eq.trans rfl rfl
@[simp] theorem ap_gTp (gs n) : gTp gs n cf (.tup l) ρ G = if l.length = n then gs cf l ρ G else none := Eq.trans rfl rfl
@[simp] theorem ap_gSb (co ci) : gSb co ci cf d ρ G = (co cf ρ G).bind fun p => (ci cf ρ p.2).bind fun q => (dOf q.1).bind fun k => (objG p.1 q.2).bind fun o => (obPut o k d).map fun o' => setG p.1 o' ρ q.2 := Eq.trans rfl rfl
end
@[simp] theorem outR_ret (r : R) (G : Sto) : outR (.ret r G) = some (r, G) := Eq.trans rfl rfl
@[simp] theorem outR_nx (ρ : Env) (G : Sto) : outR (.nx ρ G) = some (.d .non, G) := Eq.trans rfl rfl
@[simp] theorem retR_d (x : D) : retR (.d x) = .d x := Eq.trans rfl rfl
@[simp] theorem retR_tmp (o : Ob) : retR (.tmp o) = .tmp o := Eq.trans rfl rfl
@[simp] theorem retR_bor (i : Nat) (o : Ob) : retR (.bor i o) = .tmp o := Eq.trans rfl rfl
@[simp] theorem frz_d (x : D) : frz (.d x) = some x := Eq.trans rfl rfl
@[simp] theorem frz_lst (l : List D) : frz (.tmp (.lst l)) = some (.lst l) := Eq.trans rfl rfl
@[simp] theorem dOf_d (x : D) : dOf (.d x) = some x := Eq.trans rfl rfl
@[simp] theorem shr_d (x : D) (G : Sto) : shr (.d x) G = some (x, G) := Eq.trans rfl rfl
@[simp] theorem shr_tmp (o : Ob) (G : Sto) : shr (.tmp o) G = some (.ref G.length, G ++ [o]) := Eq.trans rfl rfl
@[simp] theorem vb_ap (f : R → R → Option Bool) (a b : R) : vb f a b = (f a b).map fun k => .d (.bl k) := Eq.trans rfl rfl
@[simp] theorem nb_ap (f : R → R → Option Bool) (a b : R) : nb f a b = (f a b).map (! ·) := Eq.trans rfl rfl
@[simp] theorem eqR_i (i j : Int) : eqR (.d (.int i)) (.d (.int j)) = some (decide (i = j)) := Eq.trans rfl rfl
@[simp] theorem cmpI_i (p : Int → Int → Bool) (i j : Int) : cmpI p (.d (.int i)) (.d (.int j)) = some (p i j) := Eq.trans rfl rfl
@[simp] theorem ltI_i (i j : Int) : ltI (.d (.int i)) (.d (.int j)) = some (decide (i < j)) := Eq.trans rfl rfl
@[simp] theorem leI_i (i j : Int) : leI (.d (.int i)) (.d (.int j)) = some (decide (i ≤ j)) := Eq.trans rfl rfl
@[simp] theorem gtI_i (i j : Int) : gtI (.d (.int i)) (.d (.int j)) = some (decide (j < i)) := Eq.trans rfl rfl
@[simp] theorem geI_i (i j : Int) : geI (.d (.int i)) (.d (.int j)) = some (decide (j ≤ i)) := Eq.trans rfl rfl
@[simp] theorem ltP_i (i j : Int) : ltP i j = decide (i < j) := Eq.trans rfl rfl
@[simp] theorem leP_i (i j : Int) : leP i j = decide (i ≤ j) := Eq.trans rfl rfl
@[simp] theorem gtP_i (i j : Int) : gtP i j = decide (j < i) := Eq.trans rfl rfl
@[simp] theorem geP_i (i j : Int) : geP i j = decide (j ≤ i) := Eq.trans rfl rfl
@[simp] theorem addR_i (i j : Int) : addR (.d (.int i)) (.d (.int j)) = some (.d (.int (i + j))) := Eq.trans rfl rfl
@[simp] theorem subR_i (i j : Int) : subR (.d (.int i)) (.d (.int j)) = some (.d (.int (i - j))) := Eq.trans rfl rfl
@[simp] theorem mulR_i (i j : Int) : mulR (.d (.int i)) (.d (.int j)) = if mulOkI i j = true then some (.d (.int (i * j))) else none := Eq.trans rfl rfl
@[simp] theorem fdivR_i (i j : Int) : fdivR (.d (.int i)) (.d (.int j)) = if divOk j = true then some (.d (.int (i / j))) else none := Eq.trans rfl rfl
@[simp] theorem modR_i (i j : Int) : modR (.d (.int i)) (.d (.int j)) = if 0 < j then some (.d (.int (i % j))) else none := Eq.trans rfl rfl
@[simp] theorem intR_i (i : Int) (G : Sto) : intR (.d (.int i)) G = some (.d (.int i)) := Eq.trans rfl rfl
@[simp] theorem putN_val (i : Nat) (r : R) (ρ : Env) (G : Sto) : putN .val i r ρ G = (frz r).map fun d => (ρ.set i (.v d), G) := Eq.trans rfl rfl
@[simp] theorem putN_own (i : Nat) (o : Ob) (ρ : Env) (G : Sto) : putN .own i (.tmp o) ρ G = some (ρ.set i (.own o), G) := Eq.trans rfl rfl
@[simp] theorem putAll_nil (ρ : Env) (G : Sto) : putAll [] [] ρ G = some (ρ, G) := Eq.trans rfl rfl
@[simp] theorem putAll_cons (m : Mo × Nat) (ms : List (Mo × Nat)) (r : R) (rs : List R) (ρ : Env) (G : Sto) : putAll (m :: ms) (r :: rs) ρ G = (putN m.1 m.2 r ρ G).bind fun p => putAll ms rs p.1 p.2 := Eq.trans rfl rfl
@[simp] theorem sz_eq : sz = 16777216 := Eq.trans rfl rfl
/-- whole numbers as data -/
def iD (l : List Int) : List D := l.map .int
@[simp] theorem intsOf_iD : ∀ l : List Int, intsOf (iD l) = some l
  | [] => rfl
  | i :: l => by show (intsOf (iD l)).map (i :: ·) = _; rw [intsOf_iD l]; rfl
@[simp] theorem iD_len (l : List Int) : (iD l).length = l.length := List.length_map _
@[simp] theorem bsOf_map {α : Type} (p : α → Bool) : ∀ l : List α, bsOf (l.map fun x => D.bl (p x)) = some (l.map p)
  | [] => rfl
  | i :: l => by show (bsOf (l.map fun x => D.bl (p x))).map (p i :: ·) = _; rw [bsOf_map p l]; rfl
theorem iD_app (l m : List Int) : iD l ++ iD m = iD (l ++ m) := by simp [iD]
theorem iD_rep (i : Int) (n : Nat) : (List.replicate n [D.int i]).flatten = iD (List.replicate n i) := by
  induction n with
  | zero => rfl
  | succ n ih => rw [List.replicate_succ, List.flatten_cons, ih]; rfl
theorem rangeI_map : ∀ (n : Nat) (lo : Int), rangeI lo n = (List.range n).map fun k => D.int (lo + (k : Nat))
  | 0, _ => rfl
  | n + 1, lo => by
    show D.int lo :: rangeI (lo + 1) n = _
    rw [rangeI_map n, List.range_succ_eq_map, List.map_cons, List.map_map]
    congr 1
    · simp
    · apply List.map_congr_left
      intro k _
      simp only [Function.comp, D.int.injEq]
      omega
section
variable (l : List D) (i : Nat) (o : Ob) (ρ : Env) (G : Sto) (d : D) (n : Nat) (zs : List Int)
@[simp] theorem elems_lst : elems (.lst l) = some l := Eq.trans rfl rfl
@[simp] theorem elems_tup : elems (.tup l) = some l := Eq.trans rfl rfl
@[simp] theorem elems_scr : elems (.scr l) = some l := Eq.trans rfl rfl
@[simp] theorem itemsOf_tup : itemsOf (.d (.tup l)) = some l := Eq.trans rfl rfl
@[simp] theorem itemsOf_lst : itemsOf (.d (.lst l)) = some l := Eq.trans rfl rfl
@[simp] theorem itemsOf_tmp : itemsOf (.tmp (.lst l)) = some l := Eq.trans rfl rfl
@[simp] theorem itemsOf_bor : itemsOf (.bor i (.lst l)) = some l := Eq.trans rfl rfl
@[simp] theorem itemsOf_scr : itemsOf (.d (.scr l)) = some l := Eq.trans rfl rfl
@[simp] theorem objG_bor : objG (.bor i o) G = some o := Eq.trans rfl rfl
@[simp] theorem objG_ref : objG (.d (.ref n)) G = G[n]? := Eq.trans rfl rfl
@[simp] theorem setG_bor (o' : Ob) : setG (.bor i o) o' ρ G = (ρ.set i (.own o'), G) := Eq.trans rfl rfl
@[simp] theorem setG_ref : setG (.d (.ref n)) o ρ G = (ρ, G.set n o) := Eq.trans rfl rfl
@[simp] theorem lenR_tup : lenR (.d (.tup l)) G = some (.d (.int l.length)) := Eq.trans rfl rfl
@[simp] theorem lenR_lst : lenR (.d (.lst l)) G = some (.d (.int l.length)) := Eq.trans rfl rfl
@[simp] theorem lenR_scr : lenR (.d (.scr l)) G = some (.d (.int l.length)) := Eq.trans rfl rfl
@[simp] theorem lenR_tmp : lenR (.tmp (.lst l)) G = some (.d (.int l.length)) := Eq.trans rfl rfl
@[simp] theorem lenR_bor : lenR (.bor i (.lst l)) G = some (.d (.int l.length)) := Eq.trans rfl rfl
@[simp] theorem sumR_lst : sumR (.d (.lst l)) G = (intsOf l).map fun ns => .d (.int ns.sum) := Eq.trans rfl rfl
@[simp] theorem sumR_scr : sumR (.d (.scr l)) G = (intsOf l).map fun ns => .d (.int ns.sum) := Eq.trans rfl rfl
@[simp] theorem sumR_tmp : sumR (.tmp (.lst l)) G = (intsOf l).map fun ns => .d (.int ns.sum) := Eq.trans rfl rfl
@[simp] theorem sumR_bor : sumR (.bor i (.lst l)) G = (intsOf l).map fun ns => .d (.int ns.sum) := Eq.trans rfl rfl
@[simp] theorem allR_tmp : allR (.tmp (.lst l)) G = (bsOf l).map fun ns => .d (.bl (ns.all id)) := Eq.trans rfl rfl
@[simp] theorem anyR_tmp : anyR (.tmp (.lst l)) G = (bsOf l).map fun ns => .d (.bl (ns.any id)) := Eq.trans rfl rfl
@[simp] theorem listR_tup : listR (.d (.tup l)) G = some (.tmp (.lst l)) := Eq.trans rfl rfl
@[simp] theorem listR_lst : listR (.d (.lst l)) G = some (.tmp (.lst l)) := Eq.trans rfl rfl
@[simp] theorem listR_tmp : listR (.tmp (.lst l)) G = some (.tmp (.lst l)) := Eq.trans rfl rfl
@[simp] theorem listR_scr : listR (.d (.scr l)) G = some (.tmp (.lst l)) := Eq.trans rfl rfl
@[simp] theorem tupleR_tmp : tupleR (.tmp (.lst l)) G = some (.d (.tup l)) := Eq.trans rfl rfl
@[simp] theorem tupleR_lst : tupleR (.d (.lst l)) G = some (.d (.tup l)) := Eq.trans rfl rfl
@[simp] theorem revR_lst : revR (.d (.lst l)) = some (.tmp (.lst l.reverse)) := Eq.trans rfl rfl
@[simp] theorem revR_tmp : revR (.tmp (.lst l)) = some (.tmp (.lst l.reverse)) := Eq.trans rfl rfl
@[simp] theorem slR_scr (a b : Option Int) : slR (.d (.scr l)) a b = some (.tmp (.lst (cutD l a b))) := Eq.trans rfl rfl
@[simp] theorem slR_lst (a b : Option Int) : slR (.d (.lst l)) a b = some (.tmp (.lst (cutD l a b))) := Eq.trans rfl rfl
@[simp] theorem slR_tup (a b : Option Int) : slR (.d (.tup l)) a b = some (.d (.tup (cutD l a b))) := Eq.trans rfl rfl
@[simp] theorem sorted_tmp : sortedOnly (.tmp (.lst l)) G = (intsOf l).map fun ns => .tmp (.lst (iD (isort ns))) := Eq.trans rfl rfl
@[simp] theorem sorted_lst : sortedOnly (.d (.lst l)) G = (intsOf l).map fun ns => .tmp (.lst (iD (isort ns))) := Eq.trans rfl rfl
@[simp] theorem sortedRev_tmp : sortedRev (.tmp (.lst l)) G = (intsOf l).map fun ns => .tmp (.lst (iD (dsort ns))) := Eq.trans rfl rfl
@[simp] theorem sortedRev_lst : sortedRev (.d (.lst l)) G = (intsOf l).map fun ns => .tmp (.lst (iD (dsort ns))) := Eq.trans rfl rfl
@[simp] theorem seqD_lst : seqD (.lst l) = some l := Eq.trans rfl rfl
@[simp] theorem seqD_tup : seqD (.tup l) = some l := Eq.trans rfl rfl
@[simp] theorem bindTg_nm : bindTg (.nm i) d ρ = some (ρ.set i (.v d)) := Eq.trans rfl rfl
@[simp] theorem bindTg_t2 (j : Nat) (a b : D) : bindTg (.tup [i, j]) (.tup [a, b]) ρ = some ((ρ.set i (.v a)).set j (.v b)) := Eq.trans rfl rfl
@[simp] theorem addR_tmp (m : List D) : addR (.tmp (.lst l)) (.tmp (.lst m)) = if l.length + m.length ≤ sz then some (.tmp (.lst (l ++ m))) else none := Eq.trans rfl rfl
@[simp] theorem addR_lst (m : List D) : addR (.d (.lst l)) (.tmp (.lst m)) = if l.length + m.length ≤ sz then some (.tmp (.lst (l ++ m))) else none := Eq.trans rfl rfl
@[simp] theorem mulR_tmp (k : Int) : mulR (.tmp (.lst l)) (.d (.int k)) = if repOk l.length k = true then some (.tmp (.lst (List.replicate k.toNat l).flatten)) else none := Eq.trans rfl rfl
@[simp] theorem obPut_lst (k : Int) : obPut (.lst l) (.int k) d = (ixN l.length k).map fun j => .lst (l.set j d) := Eq.trans rfl rfl
@[simp] theorem min2R_i (i j : Int) : min2R (.d (.int i)) (.d (.int j)) G = some (.d (.int (if j < i then j else i))) := Eq.trans rfl rfl
@[simp] theorem max2R_i (i j : Int) : max2R (.d (.int i)) (.d (.int j)) G = some (.d (.int (if i < j then j else i))) := Eq.trans rfl rfl
@[simp] theorem divmodR_i (i j : Int) : divmodR (.d (.int i)) (.d (.int j)) G = if divOk j = true then some (.d (.tup [.int (i / j), .int (i % j)])) else none := Eq.trans rfl rfl
@[simp] theorem absR_i (i : Int) : absR (.d (.int i)) G = some (.d (.int (if i < 0 then -i else i))) := Eq.trans rfl rfl
end
/-! ### loops -/
section
variable {α : Type} {cf : CF} {tg : Tg}
theorem lcL_map {e : Fn} {ρ : Env} {G : Sto} {f g : α → D} : ∀ xs : List α, (∀ x ∈ xs, ∃ ρ1 r, bindTg tg (f x) ρ = some ρ1 ∧ e cf ρ1 G = some (r, G) ∧ frz r = some (g x)) → lcL tg cYes e cf ρ (xs.map f) G = some (xs.map g, G)
  | [], _ => rfl
  | x :: xs, h => by
    obtain ⟨ρ1, r, h1, h2, h3⟩ := h x (by simp)
    rw [List.map_cons]
    unfold lcL
    rw [h1]
    simp only [Option.bind_some, ap_cYes]
    rw [h2]
    simp only [Option.bind_some]
    rw [h3]
    simp only [Option.bind_some]
    rw [lcL_map xs fun y hy => h y (List.mem_cons_of_mem _ hy)]
    rfl
theorem lcL_filter {t : FnT} {e : Fn} {ρ : Env} {G : Sto} {f g : α → D} {p : α → Bool} : ∀ xs : List α, (∀ x ∈ xs, ∃ ρ1, bindTg tg (f x) ρ = some ρ1 ∧ t cf ρ1 G = some (p x, G) ∧ (p x = true → ∃ r, e cf ρ1 G = some (r, G) ∧ frz r = some (g x))) → lcL tg t e cf ρ (xs.map f) G = some ((xs.filter p).map g, G)
  | [], _ => rfl
  | x :: xs, h => by
    obtain ⟨ρ1, h1, h2, h3⟩ := h x (by simp)
    rw [List.map_cons]
    unfold lcL
    rw [h1]
    simp only [Option.bind_some]
    rw [h2]
    simp only [Option.bind_some]
    have ih := lcL_filter xs fun y hy => h y (List.mem_cons_of_mem _ hy)
    cases hp : p x with
    | false =>
      rw [List.filter_cons_of_neg (by rw [hp]; simp)]
      exact ih
    | true =>
      obtain ⟨r, h4, h5⟩ := h3 hp
      rw [List.filter_cons_of_pos hp]
      dsimp only
      rw [h4]
      simp only [Option.bind_some]
      rw [h5]
      simp only [Option.bind_some]
      rw [ih]
      rfl
/-- a loop that always goes on -/
theorem forL_inv {body : SFn} {f : α → D} (I : Nat → Env → Sto → Prop) : ∀ (xs : List α) (n : Nat) (ρ : Env) (G : Sto), I n ρ G →
    (∀ (j : Nat) (x : α) (ρ : Env) (G : Sto), xs[j]? = some x → I (n + j) ρ G → ∃ ρ1 ρ2 G2, bindTg tg (f x) ρ = some ρ1 ∧ (body cf ρ1 G = some (.nx ρ2 G2) ∨ body cf ρ1 G = some (.ct ρ2 G2)) ∧ I (n + j + 1) ρ2 G2) →
    ∃ ρ' G', forL tg body cf (xs.map f) ρ G = some (.nx ρ' G') ∧ I (n + xs.length) ρ' G'
  | [], n, ρ, G, h, _ => ⟨ρ, G, rfl, h⟩
  | x :: xs, n, ρ, G, h, hs => by
    obtain ⟨ρ1, ρ2, G2, h1, h2, h3⟩ := hs 0 x ρ G rfl h
    obtain ⟨ρ', G', h4, h5⟩ := forL_inv I xs (n + 1) ρ2 G2 h3 fun j y ρ G hj hI => by
      have := hs (j + 1) y ρ G (by simpa using hj) (by rw [show n + (j + 1) = n + 1 + j by omega]; exact hI)
      rw [show n + (j + 1) + 1 = n + 1 + j + 1 by omega] at this
      exact this
    refine ⟨ρ', G', ?_, by rw [List.length_cons, show n + (xs.length + 1) = n + 1 + xs.length by omega]; exact h5⟩
    rw [List.map_cons]
    unfold forL
    rw [h1]
    simp only [Option.bind_some]
    rcases h2 with h2 | h2
    · rw [h2]; exact h4
    · rw [h2]; exact h4
/-- a while loop that goes on m times, then ends -/
theorem whileL_inv {c : FnT} {b : SFn} (I : Nat → Env → Sto → Prop) (m : Nat) (hs : ∀ j ρ G, j < m → I j ρ G → ∃ G1 ρ2 G2, c cf ρ G = some (true, G1) ∧ (b cf ρ G1 = some (.nx ρ2 G2) ∨ b cf ρ G1 = some (.ct ρ2 G2)) ∧ I (j + 1) ρ2 G2)
    (he : ∀ ρ G, I m ρ G → c cf ρ G = some (false, G)) : ∀ (k n : Nat) (ρ : Env) (G : Sto), k ≤ m → m - k < n → I k ρ G → ∃ ρ' G', whileL c b cf n ρ G = some (.nx ρ' G') ∧ I m ρ' G' := by
  intro k n
  induction n generalizing k with
  | zero => intro ρ G _ h; omega
  | succ n ih =>
    intro ρ G hk hn hI
    by_cases e : k = m
    · subst e
      refine ⟨ρ, G, ?_, hI⟩
      unfold whileL
      rw [he ρ G hI]
      rfl
    · obtain ⟨G1, ρ2, G2, h1, h2, h3⟩ := hs k ρ G (by omega) hI
      obtain ⟨ρ', G', h4, h5⟩ := ih (k + 1) ρ2 G2 (by omega) (by omega) h3
      refine ⟨ρ', G', ?_, h5⟩
      unfold whileL
      rw [h1]
      simp only [Option.bind_some]
      rcases h2 with h2 | h2
      · rw [h2]; exact h4
      · rw [h2]; exact h4
end
/-! ### subscripts -/
theorem ixN_nat {n k : Nat} (h : k < n) : ixN n (k : Int) = some k := by
  unfold ixN
  rw [if_pos (Int.natCast_nonneg k), if_pos (by omega)]
  simp
theorem atI_nat {α : Type} {l : List α} {k : Nat} {i : Int} (hi : i = k) (h : k < l.length) : atI l i = l[k]? := by
  subst hi
  unfold atI
  rw [ixN_nat h]
  rfl
theorem atI_iD (l : List Int) (k : Nat) {i : Int} (hi : i = k) (h : k < l.length) : atI (iD l) i = some (.int (l.getD k 0)) := by
  rw [atI_nat hi (by rw [iD_len]; exact h)]
  unfold iD
  rw [List.getElem?_map, List.getElem?_eq_getElem h]
  simp [List.getD, List.getElem?_eq_getElem h]
theorem ixG_lst {r : R} {l : List Int} {G : Sto} {i : Int} (k : Nat) (hl : r = .d (.lst (iD l)) ∨ (∃ j, r = .bor j (.lst (iD l))) ∨ r = .tmp (.lst (iD l))) (hi : i = k) (h : k < l.length) : ixG r (.d (.int i)) G = some (.d (.int (l.getD k 0))) := by
  have e := atI_iD l k hi h
  rcases hl with rfl | ⟨j, rfl⟩ | rfl
  all_goals
    show (some (iD l)).bind (fun l => (atI l i).map R.d) = _
    rw [Option.bind_some, e]
    rfl
end Lp
namespace Lp
theorem callT {T : Tb} {k fi n : Nat} {d : SFn} {l : List D} {G : Sto} {z : Option (R × Sto)} (hk : 1 ≤ k) (h : T fi = some (n, d)) (hb : ∀ j, k = j + 1 → (d (runT T j) (startE n l) G).bind outR = z) : runT T k fi l G = z := by
  obtain ⟨j, rfl⟩ : ∃ j, k = j + 1 := ⟨k - 1, by omega⟩
  rw [runT_succ T j fi n d l G h]
  exact hb j rfl
end Lp
namespace Lp
@[simp] theorem ite_and (p : Prop) [Decidable p] (b : Bool) (G : Sto) : (if p then some (b, G) else some (false, G)) = some (decide p && b, G) := by
  by_cases h : p <;> simp [h]
@[simp] theorem ite_or (p : Prop) [Decidable p] (b : Bool) (G : Sto) : (if p then some (true, G) else some (b, G)) = some (decide p || b, G) := by
  by_cases h : p <;> simp [h]
/-- one step of reckoning: all of it -/
def lz := And.intro @ap_cVar ( And.intro @ap_cC ( And.intro @ap_cBin ( And.intro @ap_cBinG ( And.intro @ap_cUn ( And.intro @ap_cUnG ( And.intro @ap_cTv ( And.intro @ap_cVt ( And.intro @ap_cAnd ( And.intro @ap_cOr ( And.intro @ap_cNot ( And.intro @ap_cIf ( And.intro @ap_cChain ( And.intro @ap_cNil ( And.intro @ap_cCons ( And.intro @ap_cConsR ( And.intro @ap_cStar ( And.intro @ap_cTup ( And.intro @ap_cLst ( And.intro @ap_cNo ( And.intro @ap_cPart ( And.intro @ap_cSl ( And.intro @ap_cSeqI ( And.intro @ap_cRng1 ( And.intro @ap_cRng2 ( And.intro @ap_cRng3 ( And.intro @ap_cEnum1 ( And.intro @ap_cEnum2 ( And.intro @ap_cKeysI ( And.intro @ap_cYes ( And.intro @ap_cLc ( And.intro @ap_cCall ( And.intro @ap_cIsi ( And.intro @ap_cGet2 ( And.intro @ap_cNewT ( And.intro @ap_cNewK ( And.intro @ap_rNil ( And.intro @ap_rCons ( And.intro @ap_sNext ( And.intro @ap_sSeq ( And.intro @ap_sBreak ( And.intro @ap_sCont ( And.intro @ap_sNever ( And.intro @ap_sIf ( And.intro @ap_sRet ( And.intro @ap_sRetN ( And.intro @ap_sFrz ( And.intro @ap_sFrzD ( And.intro @ap_sAsg ( And.intro @ap_sFor ( And.intro @ap_sWhile ( And.intro @ap_sPar ( And.intro @ap_sAsgG ( And.intro @ap_sDrop ( And.intro @ap_sApp ( And.intro @ap_gNm ( And.intro @ap_gN0 ( And.intro @ap_gC1 ( And.intro @ap_gTp ( And.intro @ap_gSb ( And.intro @outR_ret ( And.intro @outR_nx ( And.intro @retR_d ( And.intro @retR_tmp ( And.intro @retR_bor ( And.intro @frz_d ( And.intro @frz_lst ( And.intro @dOf_d ( And.intro @shr_d ( And.intro @shr_tmp ( And.intro @vb_ap ( And.intro @nb_ap ( And.intro @eqR_i ( And.intro @cmpI_i ( And.intro @ltI_i ( And.intro @leI_i ( And.intro @gtI_i ( And.intro @geI_i ( And.intro @ltP_i ( And.intro @leP_i ( And.intro @gtP_i ( And.intro @geP_i ( And.intro @addR_i ( And.intro @subR_i ( And.intro @mulR_i ( And.intro @fdivR_i ( And.intro @modR_i ( And.intro @intR_i ( And.intro @putN_val ( And.intro @putN_own ( And.intro @putAll_nil ( And.intro @putAll_cons ( And.intro @intsOf_iD ( And.intro @iD_len ( And.intro @elems_lst ( And.intro @elems_tup ( And.intro @elems_scr ( And.intro @itemsOf_tup ( And.intro @itemsOf_lst ( And.intro @itemsOf_tmp ( And.intro @itemsOf_bor ( And.intro @itemsOf_scr ( And.intro @objG_bor ( And.intro @objG_ref ( And.intro @setG_bor ( And.intro @setG_ref ( And.intro @lenR_tup ( And.intro @lenR_lst ( And.intro @lenR_scr ( And.intro @lenR_tmp ( And.intro @lenR_bor ( And.intro @sumR_lst ( And.intro @sumR_scr ( And.intro @sumR_tmp ( And.intro @sumR_bor ( And.intro @allR_tmp ( And.intro @anyR_tmp ( And.intro @listR_tup ( And.intro @listR_lst ( And.intro @listR_tmp ( And.intro @listR_scr ( And.intro @tupleR_tmp ( And.intro @tupleR_lst ( And.intro @revR_lst ( And.intro @revR_tmp ( And.intro @slR_scr ( And.intro @slR_lst ( And.intro @slR_tup ( And.intro @sorted_tmp ( And.intro @sorted_lst ( And.intro @sortedRev_tmp ( And.intro @sortedRev_lst ( And.intro @seqD_lst ( And.intro @seqD_tup ( And.intro @bindTg_nm ( And.intro @bindTg_t2 ( And.intro @addR_tmp ( And.intro @addR_lst ( And.intro @mulR_tmp ( And.intro @obPut_lst ( And.intro @min2R_i ( And.intro @max2R_i ( And.intro @divmodR_i (@absR_i)))))))))))))))))))))))))))))))))))))))))))))))))))))))))))))))))))))))))))))))))))))))))))))))))))))))))))))))))))))))))))))))))))))))))))))))
theorem take_next {α : Type} {l : List α} {j : Nat} {x : α} (h : l[j]? = some x) : l.take (j + 1) = l.take j ++ [x] := by
  obtain ⟨hj, e⟩ := List.getElem?_eq_some_iff.mp h
  rw [List.take_succ, h]
  rfl
theorem rgOk_of {i : Int} (h : -1000000000 ≤ i ∧ i ≤ 1000000000) : rgOk i = true := by
  unfold rgOk
  simp only [decide_eq_true_eq]
  omega
theorem divOk_of {i : Int} (h : 0 < i ∧ i ≤ 1000000000) : divOk i = true := by
  unfold divOk
  simp only [Bool.and_eq_true, decide_eq_true_eq]
  omega
theorem mulOk_of {i j : Int} (h : -1000000000 ≤ i ∧ i ≤ 1000000000) : mulOkI i j = true := by
  unfold mulOkI smallI
  simp only [Bool.or_eq_true, decide_eq_true_eq]
  exact .inl (by omega)
theorem mulOk_of' {i j : Int} (h : -1000000000 ≤ j ∧ j ≤ 1000000000) : mulOkI i j = true := by
  unfold mulOkI smallI
  simp only [Bool.or_eq_true, decide_eq_true_eq]
  exact .inr (by omega)
def tups (l : List (List Int)) : List D := l.map fun r => .tup (iD r)
end Lp
namespace Lp
section
variable {α β : Type}
theorem z_g0 (a : α) (l : List α) : (a :: l)[0]? = some a := by simp
theorem z_gs (a : α) (l : List α) (i : Nat) : (a :: l)[i + 1]? = l[i]? := by simp
theorem z_s0 (a b : α) (l : List α) : (a :: l).set 0 b = b :: l := by simp
theorem z_ss (a b : α) (l : List α) (i : Nat) : (a :: l).set (i + 1) b = a :: l.set i b := by simp
theorem z_lc (a : α) (l : List α) : (a :: l).length = l.length + 1 := by simp
theorem z_ln : ([] : List α).length = 0 := by simp
theorem z_an (l : List α) : l ++ [] = l := by simp
theorem z_na (l : List α) : [] ++ l = l := by simp
theorem z_ca (a : α) (l m : List α) : (a :: l) ++ m = a :: (l ++ m) := by simp
theorem z_bs (a : α) (f : α → Option β) : (some a).bind f = f a := by simp
theorem z_ms (a : α) (f : α → β) : (some a).map f = some (f a) := by simp
theorem z_bn (f : α → Option β) : none.bind f = none := by simp
theorem z_mn (f : α → β) : none.map f = none := by simp
theorem z_gn (i : Nat) : ([] : List α)[i]? = none := by simp
end
theorem z_n0 : (0 ≤ sz) = True := by simp
theorem z_n1 : (0 + 1 ≤ sz) = True := by simp
theorem z_n2 : (0 + 1 + 1 ≤ sz) = True := by simp
theorem z_n3 : (0 + 1 + 1 + 1 ≤ sz) = True := by simp
theorem z_iT {γ : Type} (i : Decidable True) (a b : γ) : (@ite γ True i a b) = a := if_pos trivial
theorem z_iF {γ : Type} (i : Decidable False) (a b : γ) : (@ite γ False i a b) = b := if_neg id
theorem z_tt : (true = true) = True := by simp
theorem z_ft : (false = true) = False := by simp
theorem z_dT (i : Decidable True) : @decide True i = true := decide_eq_true trivial
theorem z_dF (i : Decidable False) : @decide False i = false := decide_eq_false id
theorem z_dd (p : Prop) [Decidable p] : (decide p = true) = p := by simp
theorem z_w0 (ρ : Env) : wipeR ρ [] = ρ := Eq.trans rfl rfl
theorem z_ws (ρ : Env) (v : Nat) (vs : List Nat) : wipeR ρ (v :: vs) = (wipeR ρ vs).set v .no := Eq.trans rfl rfl
theorem z_e0 : startE 0 [] = [] := Eq.trans rfl rfl
theorem z_e1 (n : Nat) : startE (n + 1) [] = .no :: startE n [] := by unfold startE; simp [List.replicate_succ]
theorem z_e2 (n : Nat) (d : D) (l : List D) : startE (n + 1) (d :: l) = .v d :: startE n l := by unfold startE; simp
theorem z_nt : (!true) = false := rfl
theorem z_nf : (!false) = true := rfl
theorem z_at (b : Bool) : (true && b) = b := by simp
theorem z_af (b : Bool) : (false && b) = false := by simp
theorem z_ta (b : Bool) : (b && true) = b := by simp
def cz := And.intro @z_n0 (And.intro @z_n1 (And.intro @z_n2 (And.intro @z_n3 (And.intro @enumD_len (And.intro @z_g0 ( And.intro @z_gs ( And.intro @z_s0 ( And.intro @z_ss ( And.intro @z_lc ( And.intro @z_ln ( And.intro @z_an ( And.intro @z_na ( And.intro @z_ca ( And.intro @z_bs ( And.intro @z_ms ( And.intro @z_bn ( And.intro @z_mn ( And.intro @z_gn ( And.intro @z_iT ( And.intro @z_iF ( And.intro @z_tt ( And.intro @z_ft ( And.intro @z_dT ( And.intro @z_dF ( And.intro @z_dd ( And.intro @z_w0 ( And.intro @z_ws ( And.intro @z_e0 ( And.intro @z_e1 ( And.intro @z_e2 ( And.intro @z_nt ( And.intro @z_nf ( And.intro @z_at ( And.intro @z_af (@z_ta)))))))))))))))))))))))))))))))))))
end Lp
namespace Lp
section
variable {α : Type} {cf : CF} {tg : Tg}
theorem map_iD (f : α → Int) (l : List α) : (l.map fun p => D.int (f p)) = iD (l.map f) := by simp [iD]
theorem lcL_mapI {e : Fn} {ρ : Env} {G : Sto} {f : α → D} {g : α → Int} (xs : List α) (h : ∀ x ∈ xs, ∃ ρ1, bindTg tg (f x) ρ = some ρ1 ∧ e cf ρ1 G = some (.d (.int (g x)), G)) : lcL tg cYes e cf ρ (xs.map f) G = some (iD (xs.map g), G) := by
  rw [← map_iD]
  exact lcL_map xs fun x hx => by
    obtain ⟨ρ1, h1, h2⟩ := h x hx
    exact ⟨ρ1, _, h1, h2, rfl⟩
theorem lcL_filterI {t : FnT} {e : Fn} {ρ : Env} {G : Sto} {f : α → D} {g : α → Int} {p : α → Bool} (xs : List α) (h : ∀ x ∈ xs, ∃ ρ1, bindTg tg (f x) ρ = some ρ1 ∧ t cf ρ1 G = some (p x, G) ∧ (p x = true → e cf ρ1 G = some (.d (.int (g x)), G))) : lcL tg t e cf ρ (xs.map f) G = some (iD ((xs.filter p).map g), G) := by
  rw [← map_iD]
  exact lcL_filter xs fun x hx => by
    obtain ⟨ρ1, h1, h2, h3⟩ := h x hx
    exact ⟨ρ1, h1, h2, fun hp => ⟨_, h3 hp, rfl⟩⟩
/-- enumerate -/
theorem enumD_iD : ∀ (l : List Int) (k : Int), enumD k (iD l) = (l.zipIdx.map fun p => D.tup [.int (k + (p.2 : Nat)), .int p.1]) := by
  intro l
  have : ∀ (l : List Int) (k : Int) (n : Nat), enumD (k + (n : Nat)) (iD l) = ((l.zipIdx n).map fun p => D.tup [.int (k + (p.2 : Nat)), .int p.1]) := by
    intro l
    induction l with
    | nil => intro k n; rfl
    | cons x l ih =>
      intro k n
      show D.tup [.int (k + n), .int x] :: enumD (k + n + 1) (iD l) = _
      rw [show k + (n : Int) + 1 = k + ((n + 1 : Nat) : Int) by omega, ih]
      rfl
  intro k
  have := this l k 0
  simpa using this
end
end Lp
namespace Lp
theorem lcL_mapB {α : Type} {cf : CF} {tg : Tg} {e : Fn} {ρ : Env} {G : Sto} {f : α → D} {g : α → Bool} (xs : List α) (h : ∀ x ∈ xs, ∃ ρ1, bindTg tg (f x) ρ = some ρ1 ∧ e cf ρ1 G = some (.d (.bl (g x)), G)) : lcL tg cYes e cf ρ (xs.map f) G = some (xs.map fun x => .bl (g x), G) :=
  lcL_map xs fun x hx => by
    obtain ⟨ρ1, h1, h2⟩ := h x hx
    exact ⟨ρ1, _, h1, h2, rfl⟩
/-- one's own comprehension of values for good -/
theorem lcL_mapD {α : Type} {cf : CF} {tg : Tg} {e : Fn} {ρ : Env} {G : Sto} {f g : α → D} (xs : List α) (h : ∀ x ∈ xs, ∃ ρ1, bindTg tg (f x) ρ = some ρ1 ∧ e cf ρ1 G = some (.d (g x), G)) : lcL tg cYes e cf ρ (xs.map f) G = some (xs.map g, G) :=
  lcL_map xs fun x hx => by
    obtain ⟨ρ1, h1, h2⟩ := h x hx
    exact ⟨ρ1, _, h1, h2, rfl⟩
end Lp
namespace Lp
/-- a loop over a name, by the state behind each turn; s: what stands in the name's slot -/
theorem forL_st {α : Type} {cf : CF} {body : SFn} {i : Nat} {f : α → D} (env : Nat → Sl → Env) (st : Nat → Sto) (xs : List α) (s0 : Sl)
    (h : ∀ (j : Nat) (x : α) (s : Sl), xs[j]? = some x → body cf ((env j s).set i (.v (f x))) (st j) = some (.nx (env (j + 1) (.v (f x))) (st (j + 1)))) : ∃ s, forL (.nm i) body cf (xs.map f) (env 0 s0) (st 0) = some (.nx (env xs.length s) (st xs.length)) := by
  obtain ⟨ρ', G', e1, ⟨s, rfl⟩, rfl⟩ := forL_inv (cf := cf) (tg := .nm i) (f := f) (body := body) (I := fun j ρ G => (∃ s, ρ = env j s) ∧ G = st j) xs 0 (env 0 s0) (st 0) ⟨⟨s0, rfl⟩, rfl⟩ (fun j x ρ G hj hI => by
    obtain ⟨⟨s, rfl⟩, rfl⟩ := hI
    rw [Nat.zero_add]
    exact ⟨_, _, _, rfl, .inl (h j x s hj), ⟨_, rfl⟩, rfl⟩)
  rw [Nat.zero_add] at e1
  exact ⟨s, e1⟩
end Lp

namespace Lp
open PySem PySem.Spec PyProof.Rows L2

/-! ### the tower of calls -/
section
variable {P : Program} {w : World} {K : PySem.W.Frag} {mg : Str → Option Value} {base : Heap} {M : Md} {k fi : Nat} {T : Tb} {x : Str} {N ps : List Str} {c : SFn} {params : Arguments} {body : List Stmt} {scope : Scope} {kws : List (Str × V)} {f : Addr} {fd : FuncData}
theorem calD_zero (F : FunD K x x params body scope [] kws f fd) (hm : mg x = some (.ref f)) (hb : Binds K fd ps []) : CalD P w K mg base 0 M (runT T 0) x fi ps.length [] :=
  ⟨f, fd, ps, [], [], ⟨spD_len, fun A outer s H args us vs Q E hr he hbd hv hs => by
    obtain ⟨w0, G, l, r, G', _, _, _, e, _⟩ := hs
    cases e⟩, hm, F.kp, hb, .nil, fun _ => RepL.nil⟩
theorem fnT_succ {dvs : List V} (F : FunD K x x params body scope dvs kws f fd) (S : FnScope N ps scope) (hT : T fi = some (N.length, c))
    (h : ∀ (cdv : Value) (A : Around) (outer : List PySem.Env) (s : Shared) (H : Hp) (w0 : Wd) (E : XK), Room k (A.deeper (envOfC x scope s.heap.objs.size f cdv)) → PSs (cxOf CX0 P w K mg base N x scope f cdv A outer s H E).nox body (tS M (runT T k) H w0 c)) : FnOk P w K mg base CX0 (k + 1) f fd ps (spD M (runT T (k + 1)) fi ps.length) :=
  fn_ok F S h fun l G z _ e => by
    rw [runT_succ T k fi _ _ _ _ hT] at e
    exact e
theorem calD_succ (F : FunD K x x params body scope [] kws f fd) (hm : mg x = some (.ref f)) (hb : Binds K fd ps []) (S : FnScope N ps scope) (hT : T fi = some (N.length, c))
    (h : ∀ (cdv : Value) (A : Around) (outer : List PySem.Env) (s : Shared) (H : Hp) (w0 : Wd) (E : XK), Room k (A.deeper (envOfC x scope s.heap.objs.size f cdv)) → PSs (cxOf CX0 P w K mg base N x scope f cdv A outer s H E).nox body (tS M (runT T k) H w0 c)) : CalD P w K mg base (k + 1) M (runT T (k + 1)) x fi ps.length [] :=
  ⟨f, fd, ps, [], [], fnT_succ F S hT h, hm, F.kp, hb, .nil, fun _ => RepL.nil⟩
/-- the law's promise, of a list of whole numbers -/
theorem spD_law {cf : CF} {fi : Nat} {K : PySem.W.Frag} (hM : K = M.K) {H : Hp} {a : Addr} {ns : List Int} (h : SqL K H a (ns.map V.int)) {E : XK} {G' : Sto} (e : cf fi [.scr (iD ns)] [] = some (.d (.bl true), G')) : spD M cf fi 1 [.ref a] H (fun v _ => v = .bl true) E := by
  refine ⟨⟨H, []⟩, [], [.scr (iD ns)], .d (.bl true), G', ⟨fun _ _ h => h, rfl, List.nodup_nil, fun n o b e1 _ => by simp at e1⟩, ?_, rfl, e, fun v H1 w1 L s x => ?_⟩
  · refine RepL.cons ?_ RepL.nil
    simp only [Rep]
    exact ⟨a, ns.map V.int, rfl, by rw [← hM]; exact h, RepL.ints ns⟩
  · exact rx_bl x
end
end Lp

namespace K85
open PySem PySem.Spec PyProof.Rows L2 Lp
def top (i : Nat) : Stmt := PySem.Challenge.pw_letparts_k85_whole_all_rows_by_cores_and.main.body.getD i (.Pass ⟨0, 0, 0, 0⟩)
def d_is_integer : SFn := sRet (cVt (cAnd (cTv (cIsi (cVar 0) .int)) (cNot (cTv (cIsi (cVar 0) .bool)))))
def d_is_within_bounds : SFn := sRet (cVt (cAnd (cTv (cCall 0 (cCons (cVar 0) (cNil)) [])) (cChain (cmpI leP) (cmpI leP) (cVar 1) (cVar 0) (cVar 2))))
def d_check_within : SFn := sIf (cNot (cTv (cCall 1 (cCons (cVar 0) (cCons (cVar 1) (cCons (cVar 2) (cNil)))) []))) (sNever) (sNext)
def d_check_number : SFn := sDrop (cCall 2 (cCons (cVar 0) (cCons (cC (.int 0)) (cCons (cC (.int 400)) (cNil)))) [])
def d_is_falling : SFn := sRet (cUnG allR (cLc [2, 3] (cRng1 (cCons (cBin subR (cUnG lenR (cVar 0)) (cC (.int 1))) (cNil))) (.nm 3) (cYes) (cBin (vb geI) (cBinG ixG (cVar 0) (cVar 3)) (cBin addR (cBinG ixG (cVar 0) (cBin addR (cVar 3) (cC (.int 1)))) (cVar 1)))))
def d_is_row : SFn := sSeq (sIf (cOr (cNot (cTv (cIsi (cVar 0) .tuple))) (cNot (cTv (cUnG allR (cLc [1, 2] (cSeqI (cVar 0)) (.nm 2) (cYes) (cCall 1 (cCons (cVar 2) (cCons (cC (.int 1)) (cCons (cC (.int 600)) (cNil)))) [])))))) (sRet (cC (.bl false))) (sNext)) (sRet (cVt (cAnd (cTv (cCall 4 (cCons (cVar 0) (cCons (cC (.int 0)) (cNil))) [])) (cTv (cBin (vb leI) (cUnG sumR (cUnG listR (cVar 0))) (cC (.int 600)))))))
def d_check_row : SFn := sIf (cNot (cTv (cCall 5 (cCons (cVar 0) (cNil)) []))) (sNever) (sNext)
def d_rows_within : SFn := sSeq (sIf (cTv (cBin (vb eqR) (cVar 0) (cC (.int 0)))) (sRet (cLst (cCons (cTup (cNil)) (cNil)))) (sNext)) (sSeq (sAsg .own 2 (cLst (cNil))) (sSeq (sFor (cRng2 (cCons (cC (.int 1)) (cCons (cBin addR (cBinG min2R (cVar 0) (cVar 1)) (cC (.int 1))) (cNil)))) (.nm 3) (sFor (cSeqI (cCall 7 (cCons (cBin subR (cVar 0) (cVar 3)) (cCons (cVar 3) (cNil))) [])) (.nm 4) (sApp (cVar 2) (cTup (cCons (cVar 3) (cStar (cVar 4) (cNil))))))) (sRet (cVar 2))))
def d_all_rows : SFn := sSeq (sDrop (cCall 2 (cCons (cVar 0) (cCons (cC (.int 0)) (cCons (cC (.int 24)) (cNil)))) [])) (sRet (cUnG tupleR (cCall 7 (cCons (cVar 0) (cCons (cVar 0) (cNil))) [])))
def d_all_counts : SFn := sSeq (sAsg .own 1 (cLst (cCons (cC (.int 1)) (cNil)))) (sSeq (sFor (cRng2 (cCons (cC (.int 1)) (cCons (cBin addR (cVar 0) (cC (.int 1))) (cNil)))) (.nm 2) (sSeq (sPar [(.val, 3), (.val, 4)] (rCons (cC (.int 0)) (rCons (cC (.int 1)) (rNil)))) (sSeq (sWhile 1000000 (cTv (cBin (vb leI) (cBin fdivR (cBin mulR (cVar 4) (cBin subR (cBin mulR (cC (.int 3)) (cVar 4)) (cC (.int 1)))) (cC (.int 2))) (cVar 2))) (sSeq (sAsg .val 5 (cIf (cTv (cBin (vb eqR) (cBin modR (cUnG intR (cVar 4)) (cC (.int 2))) (cC (.int 1)))) (cC (.int 1)) (cUn negR (cC (.int 1))))) (sSeq (sAsg .val 3 (cBin addR (cVar 3) (cBin mulR (cVar 5) (cBinG ixG (cVar 1) (cBin subR (cVar 2) (cBin fdivR (cBin mulR (cVar 4) (cBin subR (cBin mulR (cC (.int 3)) (cVar 4)) (cC (.int 1)))) (cC (.int 2)))))))) (sSeq (sIf (cTv (cBin (vb leI) (cBin fdivR (cBin mulR (cVar 4) (cBin addR (cBin mulR (cC (.int 3)) (cVar 4)) (cC (.int 1)))) (cC (.int 2))) (cVar 2))) (sAsg .val 3 (cBin addR (cVar 3) (cBin mulR (cVar 5) (cBinG ixG (cVar 1) (cBin subR (cVar 2) (cBin fdivR (cBin mulR (cVar 4) (cBin addR (cBin mulR (cC (.int 3)) (cVar 4)) (cC (.int 1)))) (cC (.int 2)))))))) (sNext)) (sAsg .val 4 (cBin addR (cVar 4) (cC (.int 1)))))))) (sApp (cVar 1) (cVar 3))))) (sRet (cVar 1)))
def d_sums_by_divisors : SFn := sSeq (sAsg .own 1 (cBin mulR (cLst (cCons (cC (.int 0)) (cNil))) (cUnG lenR (cVar 0)))) (sSeq (sFor (cEnum2 (cCons (cVar 0) (cCons (cC (.int 1)) (cNil)))) (.tup [2, 3]) (sFor (cRng3 (cCons (cVar 2) (cCons (cBin addR (cUnG lenR (cVar 0)) (cC (.int 1))) (cCons (cVar 2) (cNil))))) (.nm 4) (sAsgG (gSb (cVar 1) (cBin subR (cVar 4) (cC (.int 1)))) (cBin addR (cBinG ixG (cVar 1) (cBin subR (cVar 4) (cC (.int 1)))) (cBin mulR (cVar 2) (cVar 3)))))) (sRet (cVar 1)))
def d_counts_by_excesses : SFn := sSeq (sPar [(.val, 1), (.own, 2)] (rCons (cCall 10 (cCons (cVar 0) (cNil)) []) (rCons (cLst (cCons (cC (.int 1)) (cNil))) (rNil)))) (sSeq (sFor (cRng2 (cCons (cC (.int 1)) (cCons (cBin addR (cUnG lenR (cVar 0)) (cC (.int 1))) (cNil)))) (.nm 3) (sApp (cVar 2) (cBin fdivR (cUnG sumR (cLc [4, 5] (cRng2 (cCons (cC (.int 1)) (cCons (cBin addR (cVar 3) (cC (.int 1))) (cNil)))) (.nm 5) (cYes) (cBin mulR (cBinG ixG (cVar 1) (cBin subR (cVar 5) (cC (.int 1)))) (cBinG ixG (cVar 2) (cBin subR (cVar 3) (cVar 5)))))) (cVar 3)))) (sRet (cVar 2)))
def d_count_all : SFn := sSeq (sDrop (cCall 3 (cCons (cVar 0) (cNil)) [])) (sRet (cBinG ixG (cCall 9 (cCons (cVar 0) (cNil)) []) (cVar 0)))
def d_check_rods : SFn := sDrop (cCall 2 (cCons (cVar 0) (cCons (cC (.int 2)) (cCons (cC (.int 9)) (cNil)))) [])
def d_places_in : SFn := sSeq (sAsg .val 2 (cBin mulR (cBin fdivR (cBin subR (cBin addR (cUnG lenR (cVar 0)) (cVar 1)) (cC (.int 1))) (cVar 1)) (cVar 1))) (sSeq (sAsg .val 3 (cLst (cStar (cVar 0) (cStar (cBin mulR (cLst (cCons (cC (.int 0)) (cNil))) (cBin subR (cVar 2) (cUnG lenR (cVar 0)))) (cNil))))) (sRet (cLc [4, 5, 6] (cEnum1 (cCons (cVar 3) (cNil))) (.tup [5, 6]) (cYes) (cBin subR (cBin subR (cBin addR (cVar 6) (cVar 2)) (cC (.int 1))) (cVar 5)))))
def d_row_at : SFn := sSeq (sAsg .val 1 (cUnG sortedRev (cVar 0))) (sSeq (sAsg .val 2 (cLc [3, 4, 5] (cEnum1 (cCons (cVar 1) (cNil))) (.tup [4, 5]) (cYes) (cBin subR (cVar 5) (cBin subR (cBin subR (cUnG lenR (cVar 1)) (cC (.int 1))) (cVar 4))))) (sRet (cUnG tupleR (cLc [3, 6] (cSeqI (cVar 2)) (.nm 6) (cTv (cBin (vb gtI) (cVar 6) (cC (.int 0)))) (cVar 6)))))
def d_heights_on : SFn := sRet (cUnG sortedOnly (cLc [3, 4] (cSeqI (cVar 0)) (.nm 4) (cTv (cBin (vb eqR) (cBin modR (cUnG intR (cVar 4)) (cVar 1)) (cVar 2))) (cBin fdivR (cVar 4) (cVar 1))))
def d_core_row : SFn := sSeq (sPar [(.val, 2), (.val, 3)] (rCons (cCall 14 (cCons (cVar 0) (cCons (cVar 1) (cNil))) []) (rCons (cLst (cNil)) (rNil)))) (sSeq (sFor (cRng1 (cCons (cVar 1) (cNil))) (.nm 4) (sAsg .val 3 (cBin addR (cVar 3) (cLc [5, 6] (cRng1 (cCons (cUnG lenR (cCall 16 (cCons (cVar 2) (cCons (cVar 1) (cCons (cVar 4) (cNil)))) [])) (cNil))) (.nm 6) (cYes) (cBin addR (cVar 4) (cBin mulR (cVar 1) (cVar 6))))))) (sRet (cCall 15 (cCons (cVar 3) (cNil)) [])))
def d_core : SFn := sSeq (sDrop (cCall 6 (cCons (cVar 0) (cNil)) [])) (sSeq (sDrop (cCall 13 (cCons (cVar 1) (cNil)) [])) (sRet (cCall 17 (cCons (cVar 0) (cCons (cVar 1) (cNil))) [])))
def d_thread_on : SFn := sSeq (sAsg .val 1 (cLc [2, 3, 4] (cEnum1 (cCons (cVar 0) (cNil))) (.tup [3, 4]) (cYes) (cBin subR (cVar 4) (cVar 3)))) (sRet (cUnG tupleR (cLc [2, 5] (cSeqI (cUn revR (cVar 1))) (.nm 5) (cTv (cBin (vb gtI) (cVar 5) (cC (.int 0)))) (cVar 5))))
def d_thread_list : SFn := sSeq (sAsg .val 2 (cCall 14 (cCons (cVar 0) (cCons (cVar 1) (cNil))) [])) (sRet (cUnG tupleR (cLc [3, 4] (cRng1 (cCons (cVar 1) (cNil))) (.nm 4) (cYes) (cCall 19 (cCons (cCall 16 (cCons (cVar 2) (cCons (cVar 1) (cCons (cVar 4) (cNil)))) []) (cNil)) []))))
def d_threads : SFn := sSeq (sDrop (cCall 6 (cCons (cVar 0) (cNil)) [])) (sSeq (sDrop (cCall 13 (cCons (cVar 1) (cNil)) [])) (sRet (cCall 20 (cCons (cVar 0) (cCons (cVar 1) (cNil))) [])))
def d_count_cores : SFn := sSeq (sDrop (cCall 3 (cCons (cVar 0) (cNil)) [])) (sSeq (sDrop (cCall 13 (cCons (cVar 1) (cNil)) [])) (sSeq (sAsg .val 2 (cLc [3, 4] (cRng2 (cCons (cC (.int 1)) (cCons (cBin addR (cVar 0) (cC (.int 1))) (cNil)))) (.nm 4) (cYes) (cIf (cTv (cBin (vb eqR) (cBin modR (cUnG intR (cVar 4)) (cVar 1)) (cC (.int 0)))) (cBin subR (cC (.int 1)) (cVar 1)) (cC (.int 1))))) (sRet (cBinG ixG (cCall 11 (cCons (cVar 2) (cNil)) []) (cVar 0)))))
def d__law_pot : SFn := sSeq (sAsg .val 2 (cIf (cTv (cBin (vb ltI) (cVar 1) (cUnG lenR (cVar 0)))) (cUnG intR (cBinG ixG (cVar 0) (cVar 1))) (cBin addR (cBin mulR (cC (.int 6007)) (cVar 1)) (cBin modR (cUnG intR (cUnG sumR (cSl (cVar 0) (cNo) (cPart (cC (.int 1)))))) (cC (.int 1000003)))))) (sSeq (sAsg .val 3 (cBin addR (cC (.int 52361)) (cBin mulR (cC (.int 811)) (cVar 1)))) (sSeq (sFor (cSeqI (cBin addR (cSl (cVar 0) (cNo) (cPart (cC (.int 6)))) (cLst (cCons (cVar 2) (cNil))))) (.nm 4) (sAsg .val 3 (cBin modR (cUnG intR (cBin addR (cBin addR (cBin mulR (cVar 3) (cC (.int 40961))) (cBin modR (cUnG intR (cVar 4)) (cC (.int 2147483549)))) (cC (.int 31)))) (cC (.int 2147483549))))) (sRet (cLst (cCons (cIf (cOr (cTv (cBin (vb ltI) (cVar 2) (cC (.int 0)))) (cTv (cBin (vb geI) (cVar 2) (cBin powR (cC (.int 10)) (cC (.int 18)))))) (cUnG absR (cVar 2)) (cC (.int 0))) (cCons (cVar 3) (cCons (cC (.int 0)) (cNil))))))))
def d__law_draw : SFn := sSeq (sAsgG (gSb (cVar 0) (cC (.int 2))) (cBin addR (cBinG ixG (cVar 0) (cC (.int 2))) (cC (.int 1)))) (sSeq (sIf (cTv (cBin (vb gtI) (cBinG ixG (cVar 0) (cC (.int 0))) (cC (.int 0)))) (sSeq (sAsgG (gTp (gC1 (gSb (cVar 0) (cC (.int 0))) (gC1 (gNm 2) (gN0))) 2) (cBinG divmodR (cBinG ixG (cVar 0) (cC (.int 0))) (cVar 1))) (sRet (cVar 2))) (sNext)) (sSeq (sAsg .val 3 (cBin addR (cBin modR (cUnG intR (cBinG ixG (cVar 0) (cC (.int 1)))) (cC (.int 30011))) (cC (.int 40013)))) (sSeq (sAsgG (gSb (cVar 0) (cC (.int 1))) (cBin modR (cUnG intR (cBin addR (cBin addR (cBin mulR (cBinG ixG (cVar 0) (cC (.int 1))) (cVar 3)) (cBin mulR (cC (.int 60013)) (cBinG ixG (cVar 0) (cC (.int 2))))) (cC (.int 11)))) (cC (.int 2147483549)))) (sRet (cBin modR (cUnG intR (cBin fdivR (cBinG ixG (cVar 0) (cC (.int 1))) (cC (.int 97)))) (cVar 1))))))
def d__law_every : SFn := sSeq (sAsg .own 1 (cBin addR (cLst (cCons (cC (.int 1)) (cNil))) (cBin mulR (cLst (cCons (cC (.int 0)) (cNil))) (cVar 0)))) (sSeq (sFor (cRng2 (cCons (cC (.int 1)) (cCons (cBin addR (cVar 0) (cC (.int 1))) (cNil)))) (.nm 2) (sFor (cRng2 (cCons (cVar 2) (cCons (cBin addR (cVar 0) (cC (.int 1))) (cNil)))) (.nm 3) (sAsgG (gSb (cVar 1) (cVar 3)) (cBin addR (cBinG ixG (cVar 1) (cVar 3)) (cBinG ixG (cVar 1) (cBin subR (cVar 3) (cVar 2))))))) (sRet (cVar 1)))
def d__law_lots : SFn := sSeq (sPar [(.val, 2), (.val, 3)] (rCons (cCall 25 (cCons (cVar 1) (cNil)) []) (rCons (cBin addR (cLst (cCons (cC (.int 1)) (cNil))) (cBin mulR (cLst (cCons (cC (.int 0)) (cNil))) (cVar 1))) (rNil)))) (sSeq (sFor (cRng1 (cCons (cVar 0) (cNil))) (.nm 4) (sAsg .val 3 (cLc [5, 6] (cRng1 (cCons (cBin addR (cVar 1) (cC (.int 1))) (cNil))) (.nm 6) (cYes) (cUnG sumR (cLc [5, 7] (cRng1 (cCons (cBin addR (cVar 6) (cC (.int 1))) (cNil))) (.nm 7) (cYes) (cBin mulR (cBinG ixG (cVar 3) (cVar 7)) (cBinG ixG (cVar 2) (cBin subR (cVar 6) (cVar 7))))))))) (sRet (cVar 3)))
def d__law_shared_right : SFn := sSeq (sPar [(.val, 2), (.own, 3)] (rCons (cCall 26 (cCons (cVar 0) (cCons (cBin fdivR (cVar 1) (cVar 0)) (cNil))) []) (rCons (cNewT) (rNil)))) (sSeq (sFor (cSeqI (cCall 8 (cCons (cVar 1) (cNil)) [])) (.nm 4) (sSeq (sAsg .val 5 (cCall 18 (cCons (cVar 4) (cCons (cVar 0) (cNil))) [])) (sSeq (sIf (cTv (cBin (vb (nb eqR)) (cBin addR (cUnG sumR (cUnG listR (cVar 5))) (cBin mulR (cVar 0) (cUnG sumR (cLc [6, 7] (cSeqI (cCall 21 (cCons (cVar 4) (cCons (cVar 0) (cNil))) [])) (.nm 7) (cYes) (cUnG sumR (cUnG listR (cVar 7))))))) (cVar 1))) (sRet (cC (.bl false))) (sNext)) (sAsgG (gSb (cVar 3) (cVar 5)) (cBin addR (cGet2 (cVar 3) (cVar 5) (cC (.int 0))) (cC (.int 1))))))) (sFrzD 3 (sRet (cBin (vb eqR) (cLc [6, 5] (cKeysI (cVar 3)) (.nm 5) (cTv (cBin (vb (nb eqR)) (cBinG ixG (cVar 3) (cVar 5)) (cBinG ixG (cVar 2) (cBin fdivR (cBin subR (cVar 1) (cUnG sumR (cUnG listR (cVar 5)))) (cVar 0))))) (cVar 5)) (cLst (cNil))))))
def d__law_right : SFn := sSeq (sPar [(.val, 1), (.val, 2)] (rCons (cBin addR (cC (.int 2)) (cCall 24 (cConsR (cVar 0) (cCons (cC (.int 8)) (cNil))) [])) (rCons (cCall 24 (cConsR (cVar 0) (cCons (cC (.int 91)) (cNil))) []) (rNil)))) (sSeq (sAsg .val 3 (cCall 26 (cCons (cVar 1) (cCons (cBin fdivR (cVar 2) (cVar 1)) (cNil))) [])) (sSeq (sAsg .val 4 (cUnG sumR (cLc [5, 6] (cRng1 (cCons (cBin addR (cBin fdivR (cVar 2) (cVar 1)) (cC (.int 1))) (cNil))) (.nm 6) (cYes) (cBin mulR (cCall 22 (cCons (cBin subR (cVar 2) (cBin mulR (cVar 1) (cVar 6))) (cCons (cVar 1) (cNil))) []) (cBinG ixG (cVar 3) (cVar 6)))))) (sSeq (sIf (cOr (cTv (cBin (vb (nb eqR)) (cVar 4) (cCall 12 (cCons (cVar 2) (cNil)) []))) (cTv (cBin (vb (nb eqR)) (cVar 4) (cBinG ixG (cCall 25 (cCons (cVar 2) (cNil)) []) (cVar 2))))) (sRet (cC (.bl false))) (sNext)) (sRet (cCall 27 (cCons (cVar 1) (cCons (cCall 24 (cConsR (cVar 0) (cCons (cC (.int 13)) (cNil))) []) (cNil))) [])))))
def d_law : SFn := sRet (cUnG allR (cLc [1, 2] (cRng1 (cCons (cC (.int 2)) (cNil))) (.nm 2) (cYes) (cCall 28 (cConsR (cCall 23 (cCons (cVar 0) (cCons (cVar 2) (cNil))) []) (cNil)) [])))
structure Hy (P : Program) (w : World) (K : PySem.W.Frag) (mg : Str → Option Value) (base : Heap) (M : Md) (k : Nat) (cf : CF) : Prop where
  hM : K = M.K
  b_abs : mg "abs" = none
  b_all : mg "all" = none
  b_bool : mg "bool" = none
  b_divmod : mg "divmod" = none
  b_enumerate : mg "enumerate" = none
  b_int : mg "int" = none
  b_isinstance : mg "isinstance" = none
  b_len : mg "len" = none
  b_list : mg "list" = none
  b_min : mg "min" = none
  b_range : mg "range" = none
  b_sorted : mg "sorted" = none
  b_sum : mg "sum" = none
  b_tuple : mg "tuple" = none
  g_LEAST_RODS : ∃ t, mg "LEAST_RODS" = some (.int 2 t)
  g_MOST_LISTED : ∃ t, mg "MOST_LISTED" = some (.int 24 t)
  g_MOST_NUMBER : ∃ t, mg "MOST_NUMBER" = some (.int 400 t)
  g_MOST_RODS : ∃ t, mg "MOST_RODS" = some (.int 9 t)
  g_MOST_SUM : ∃ t, mg "MOST_SUM" = some (.int 600 t)
  c_is_integer : CalD P w K mg base k M cf "is_integer" 0 1 []
  c_is_within_bounds : CalD P w K mg base k M cf "is_within_bounds" 1 3 []
  c_check_within : CalD P w K mg base k M cf "check_within" 2 3 []
  c_check_number : CalD P w K mg base k M cf "check_number" 3 1 []
  c_is_falling : CalD P w K mg base k M cf "is_falling" 4 2 []
  c_is_row : CalD P w K mg base k M cf "is_row" 5 1 []
  c_check_row : CalD P w K mg base k M cf "check_row" 6 1 []
  c_rows_within : CalD P w K mg base k M cf "rows_within" 7 2 []
  c_all_rows : CalD P w K mg base k M cf "all_rows" 8 1 []
  c_all_counts : CalD P w K mg base k M cf "all_counts" 9 1 []
  c_sums_by_divisors : CalD P w K mg base k M cf "sums_by_divisors" 10 1 []
  c_counts_by_excesses : CalD P w K mg base k M cf "counts_by_excesses" 11 1 []
  c_count_all : CalD P w K mg base k M cf "count_all" 12 1 []
  c_check_rods : CalD P w K mg base k M cf "check_rods" 13 1 []
  c_places_in : CalD P w K mg base k M cf "places_in" 14 2 []
  c_row_at : CalD P w K mg base k M cf "row_at" 15 1 []
  c_heights_on : CalD P w K mg base k M cf "heights_on" 16 3 []
  c_core_row : CalD P w K mg base k M cf "core_row" 17 2 []
  c_core : CalD P w K mg base k M cf "core" 18 2 []
  c_thread_on : CalD P w K mg base k M cf "thread_on" 19 1 []
  c_thread_list : CalD P w K mg base k M cf "thread_list" 20 2 []
  c_threads : CalD P w K mg base k M cf "threads" 21 2 []
  c_count_cores : CalD P w K mg base k M cf "count_cores" 22 2 []
  c__law_pot : CalD P w K mg base k M cf "_law_pot" 23 2 []
  c__law_draw : CalD P w K mg base k M cf "_law_draw" 24 2 []
  c__law_every : CalD P w K mg base k M cf "_law_every" 25 1 []
  c__law_lots : CalD P w K mg base k M cf "_law_lots" 26 2 []
  c__law_shared_right : CalD P w K mg base k M cf "_law_shared_right" 27 2 []
  c__law_right : CalD P w K mg base k M cf "_law_right" 28 1 []
section
variable {P : Program} {w : World} {K : PySem.W.Frag} {mg : Str → Option Value} {base : Heap} {M : Md} {k : Nat} {cf : CF} {f : Addr}
def N_is_integer : List Str := ["value"]
theorem b_is_integer (Y : Hy P w K mg base M k cf) (cdv : Value) (A : Around) (outer : List PySem.Env) (s : Shared) (H : Hp) (w0 : Wd) (E : XK) (hr : Room k (A.deeper (envOfC "is_integer" (defScope (top 9)) s.heap.objs.size f cdv))) :
    PSs (cxOf CX0 P w K mg base N_is_integer "is_integer" (defScope (top 9)) f cdv A outer s H E).nox (defBody (top 9)) (tS M cf H w0 d_is_integer) := by
  have hM : K = M.K := Y.hM
  have hu := hr.units
  have hN : N_is_integer.Nodup := by decide
  exact s_one (s_ret (x_and (x_tv (n_isi hM Y.b_isinstance (n_var) (n_ty Y.b_int (by decide +kernel)))) (x_and1 (x_not (x_tv (n_isi hM Y.b_isinstance (n_var) (n_ty Y.b_bool (by decide +kernel))))))))
def N_is_within_bounds : List Str := ["value", "least", "most"]
theorem b_is_within_bounds (Y : Hy P w K mg base M k cf) (cdv : Value) (A : Around) (outer : List PySem.Env) (s : Shared) (H : Hp) (w0 : Wd) (E : XK) (hr : Room k (A.deeper (envOfC "is_within_bounds" (defScope (top 10)) s.heap.objs.size f cdv))) :
    PSs (cxOf CX0 P w K mg base N_is_within_bounds "is_within_bounds" (defScope (top 10)) f cdv A outer s H E).nox (defBody (top 10)) (tS M cf H w0 d_is_within_bounds) := by
  have hM : K = M.K := Y.hM
  have hu := hr.units
  have hN : N_is_within_bounds.Nodup := by decide
  exact s_one (s_ret (x_and (x_tv (x_call Y.c_is_integer hr (Nat.le_refl _) rfl (n_cons (n_var) (x_nil)) rfl rfl (len_cons (len_nil)) rfl)) (x_and1 (n_chain (n_var) (n_var) (n_var)))))
def N_check_within : List Str := ["value", "least", "most"]
theorem b_check_within (Y : Hy P w K mg base M k cf) (cdv : Value) (A : Around) (outer : List PySem.Env) (s : Shared) (H : Hp) (w0 : Wd) (E : XK) (hr : Room k (A.deeper (envOfC "check_within" (defScope (top 11)) s.heap.objs.size f cdv))) :
    PSs (cxOf CX0 P w K mg base N_check_within "check_within" (defScope (top 11)) f cdv A outer s H E).nox (defBody (top 11)) (tS M cf H w0 d_check_within) := by
  have hM : K = M.K := Y.hM
  have hu := hr.units
  have hN : N_check_within.Nodup := by decide
  exact s_one (n_if (n_tnot (n_tval (x_call Y.c_is_within_bounds hr (Nat.le_refl _) rfl (n_cons (n_var) (n_cons (n_var) (n_cons (n_var) (x_nil)))) rfl rfl (len_cons (len_cons (len_cons (len_nil)))) rfl))) (s_one (s_never)) (s_nil))
def N_check_number : List Str := ["value"]
theorem b_check_number (Y : Hy P w K mg base M k cf) (cdv : Value) (A : Around) (outer : List PySem.Env) (s : Shared) (H : Hp) (w0 : Wd) (E : XK) (hr : Room k (A.deeper (envOfC "check_number" (defScope (top 12)) s.heap.objs.size f cdv))) :
    PSs (cxOf CX0 P w K mg base N_check_number "check_number" (defScope (top 12)) f cdv A outer s H E).nox (defBody (top 12)) (tS M cf H w0 d_check_number) := by
  have hM : K = M.K := Y.hM
  have hu := hr.units
  have hN : N_check_number.Nodup := by decide
  exact s_one (n_drop (x_call Y.c_check_within hr (Nat.le_refl _) rfl (n_cons (n_var) (n_cons (x_int) (n_cons (n_gi Y.g_MOST_NUMBER) (x_nil)))) rfl rfl (len_cons (len_cons (len_cons (len_nil)))) rfl))
def N_is_falling : List Str := ["parts", "step", ".0", "at"]
theorem b_is_falling (Y : Hy P w K mg base M k cf) (cdv : Value) (A : Around) (outer : List PySem.Env) (s : Shared) (H : Hp) (w0 : Wd) (E : XK) (hr : Room k (A.deeper (envOfC "is_falling" (defScope (top 14)) s.heap.objs.size f cdv))) :
    PSs (cxOf CX0 P w K mg base N_is_falling "is_falling" (defScope (top 14)) f cdv A outer s H E).nox (defBody (top 14)) (tS M cf H w0 d_is_falling) := by
  have hM : K = M.K := Y.hM
  have hu := hr.units
  have hN : N_is_falling.Nodup := by decide
  exact s_one (s_ret (n_all hM rfl Y.b_all (n_lc (own := [(".0", 2), ("at", 3)]) hM rfl hN (n_rng1 Y.b_range (n_bin hM (n_len hM Y.b_len (n_var)) (x_int))) rfl rfl (by decide) (fun _ _ _ _ _ => gnm hN) (fun _ _ _ _ _ => pts0) (fun _ _ _ _ _ => n_cmp hM hu (n_ix hM hu (n_var) (n_var)) (n_bin hM (n_ix hM hu (n_var) (n_bin hM (n_var) (x_int))) (n_var))))))
def N_is_row : List Str := ["value", ".0", "part"]
theorem b_is_row (Y : Hy P w K mg base M k cf) (cdv : Value) (A : Around) (outer : List PySem.Env) (s : Shared) (H : Hp) (w0 : Wd) (E : XK) (hr : Room k (A.deeper (envOfC "is_row" (defScope (top 15)) s.heap.objs.size f cdv))) :
    PSs (cxOf CX0 P w K mg base N_is_row "is_row" (defScope (top 15)) f cdv A outer s H E).nox (defBody (top 15)) (tS M cf H w0 d_is_row) := by
  have hM : K = M.K := Y.hM
  have hu := hr.units
  have hN : N_is_row.Nodup := by decide
  exact s_cons (n_if (PW.pt (n_tor (n_tnot (n_tval (n_isi hM Y.b_isinstance (n_var) (n_ty Y.b_tuple (by decide +kernel))))) (n_tor1 (n_tnot (n_tval (n_all hM rfl Y.b_all (n_lc (own := [(".0", 1), ("part", 2)]) hM rfl hN (x_seqI hM (n_var)) rfl rfl (by decide) (fun _ _ _ _ _ => gnm hN) (fun _ _ _ _ _ => pts0) (fun _ _ _ _ _ => x_call Y.c_is_within_bounds hr (Nat.le_refl _) rfl (n_cons (n_var) (n_cons (x_int) (n_cons (n_gi Y.g_MOST_SUM) (x_nil)))) rfl rfl (len_cons (len_cons (len_cons (len_nil)))) rfl)))))))) (s_one (s_ret (x_bl))) (s_nil)) (s_one (s_ret (x_and (x_tv (x_call Y.c_is_falling hr (Nat.le_refl _) rfl (n_cons (n_var) (n_cons (x_int) (x_nil))) rfl rfl (len_cons (len_cons (len_nil))) rfl)) (x_and1 (x_tv (n_cmp hM hu (n_sum hM rfl Y.b_sum (n_list hM Y.b_list (n_var))) (n_gi Y.g_MOST_SUM)))))))
def N_check_row : List Str := ["value"]
theorem b_check_row (Y : Hy P w K mg base M k cf) (cdv : Value) (A : Around) (outer : List PySem.Env) (s : Shared) (H : Hp) (w0 : Wd) (E : XK) (hr : Room k (A.deeper (envOfC "check_row" (defScope (top 16)) s.heap.objs.size f cdv))) :
    PSs (cxOf CX0 P w K mg base N_check_row "check_row" (defScope (top 16)) f cdv A outer s H E).nox (defBody (top 16)) (tS M cf H w0 d_check_row) := by
  have hM : K = M.K := Y.hM
  have hu := hr.units
  have hN : N_check_row.Nodup := by decide
  exact s_one (n_if (n_tnot (n_tval (x_call Y.c_is_row hr (Nat.le_refl _) rfl (n_cons (n_var) (x_nil)) rfl rfl (len_cons (len_nil)) rfl))) (s_one (s_never)) (s_nil))
def N_rows_within : List Str := ["number", "most", "found", "part", "rest"]
theorem b_rows_within (Y : Hy P w K mg base M k cf) (cdv : Value) (A : Around) (outer : List PySem.Env) (s : Shared) (H : Hp) (w0 : Wd) (E : XK) (hr : Room k (A.deeper (envOfC "rows_within" (defScope (top 17)) s.heap.objs.size f cdv))) :
    PSs (cxOf CX0 P w K mg base N_rows_within "rows_within" (defScope (top 17)) f cdv A outer s H E).nox (defBody (top 17)) (tS M cf H w0 d_rows_within) := by
  have hM : K = M.K := Y.hM
  have hu := hr.units
  have hN : N_rows_within.Nodup := by decide
  exact s_cons (n_if (n_tcmp hM hu (n_var) (x_int)) (s_one (s_ret (x_lst (n_cons (x_tup (x_nil)) (x_nil))))) (s_nil)) (s_cons (n_asg hN (x_lst (x_nil))) (s_cons (n_for hM rfl (n_rng2 Y.b_range (x_int) (n_bin hM (n_min2 rfl Y.b_min (n_var) (n_var)) (x_int))) (gnm hN) (s_one (n_for hM rfl (x_seqI hM (x_call Y.c_rows_within hr (Nat.le_refl _) rfl (n_cons (n_bin hM (n_var) (n_var)) (n_cons (n_var) (x_nil))) rfl rfl (len_cons (len_cons (len_nil))) rfl)) (gnm hN) (s_one (n_app (n_var) (x_tup (n_cons (n_var) (x_star hM (n_var) (x_nil))))))))) (s_one (s_ret (n_var)))))
def N_all_rows : List Str := ["number"]
theorem b_all_rows (Y : Hy P w K mg base M k cf) (cdv : Value) (A : Around) (outer : List PySem.Env) (s : Shared) (H : Hp) (w0 : Wd) (E : XK) (hr : Room k (A.deeper (envOfC "all_rows" (defScope (top 18)) s.heap.objs.size f cdv))) :
    PSs (cxOf CX0 P w K mg base N_all_rows "all_rows" (defScope (top 18)) f cdv A outer s H E).nox (defBody (top 18)) (tS M cf H w0 d_all_rows) := by
  have hM : K = M.K := Y.hM
  have hu := hr.units
  have hN : N_all_rows.Nodup := by decide
  exact s_cons (n_drop (x_call Y.c_check_within hr (Nat.le_refl _) rfl (n_cons (n_var) (n_cons (x_int) (n_cons (n_gi Y.g_MOST_LISTED) (x_nil)))) rfl rfl (len_cons (len_cons (len_cons (len_nil)))) rfl)) (s_one (s_ret (n_tuple hM Y.b_tuple (x_call Y.c_rows_within hr (Nat.le_refl _) rfl (n_cons (n_var) (n_cons (n_var) (x_nil))) rfl rfl (len_cons (len_cons (len_nil))) rfl))))
def N_all_counts : List Str := ["number", "found", "total", "ways", "k", "sign"]
theorem b_all_counts (Y : Hy P w K mg base M k cf) (cdv : Value) (A : Around) (outer : List PySem.Env) (s : Shared) (H : Hp) (w0 : Wd) (E : XK) (hr : Room k (A.deeper (envOfC "all_counts" (defScope (top 20)) s.heap.objs.size f cdv))) :
    PSs (cxOf CX0 P w K mg base N_all_counts "all_counts" (defScope (top 20)) f cdv A outer s H E).nox (defBody (top 20)) (tS M cf H w0 d_all_counts) := by
  have hM : K = M.K := Y.hM
  have hu := hr.units
  have hN : N_all_counts.Nodup := by decide
  exact s_cons (n_asg hN (x_lst (n_cons (x_int) (x_nil)))) (s_cons (n_for hM rfl (n_rng2 Y.b_range (x_int) (n_bin hM (n_var) (x_int))) (gnm hN) (s_cons (n_parT hM rfl (n_rcons (x_int) (n_rcons (x_int) (r_nil))) (pgs1 hN (pgs1 hN (pgs0)))) (s_cons (n_while (n_tcmp hM hu (n_bin hM (n_bin hM (n_var) (n_bin hM (n_bin hM (x_int) (n_var)) (x_int))) (x_int)) (n_var)) (s_cons (n_asg hN (x_if (n_tcmp hM hu (n_bin hM (n_int Y.b_int (n_var)) (x_int)) (x_int)) (x_int) (x_neg (x_int)))) (s_cons (n_asg hN (n_bin hM (n_var) (n_bin hM (n_var) (n_ix hM hu (n_var) (n_bin hM (n_var) (n_bin hM (n_bin hM (n_var) (n_bin hM (n_bin hM (x_int) (n_var)) (x_int))) (x_int))))))) (s_cons (n_if (n_tcmp hM hu (n_bin hM (n_bin hM (n_var) (n_bin hM (n_bin hM (x_int) (n_var)) (x_int))) (x_int)) (n_var)) (s_one (n_asg hN (n_bin hM (n_var) (n_bin hM (n_var) (n_ix hM hu (n_var) (n_bin hM (n_var) (n_bin hM (n_bin hM (n_var) (n_bin hM (n_bin hM (x_int) (n_var)) (x_int))) (x_int)))))))) (s_nil)) (s_one (n_asg hN (n_bin hM (n_var) (x_int)))))))) (s_one (n_app (n_var) (n_var)))))) (s_one (s_ret (n_var))))
def N_sums_by_divisors : List Str := ["amounts", "found", "divisor", "amount", "total"]
theorem b_sums_by_divisors (Y : Hy P w K mg base M k cf) (cdv : Value) (A : Around) (outer : List PySem.Env) (s : Shared) (H : Hp) (w0 : Wd) (E : XK) (hr : Room k (A.deeper (envOfC "sums_by_divisors" (defScope (top 21)) s.heap.objs.size f cdv))) :
    PSs (cxOf CX0 P w K mg base N_sums_by_divisors "sums_by_divisors" (defScope (top 21)) f cdv A outer s H E).nox (defBody (top 21)) (tS M cf H w0 d_sums_by_divisors) := by
  have hM : K = M.K := Y.hM
  have hu := hr.units
  have hN : N_sums_by_divisors.Nodup := by decide
  exact s_cons (n_asg hN (n_bin hM (x_lst (n_cons (x_int) (x_nil))) (n_len hM Y.b_len (n_var)))) (s_cons (n_for hM rfl (n_enum2 hM Y.b_enumerate (n_var) (x_int)) (gtp hM rfl (pgs1 hN (pgs1 hN (pgs0)))) (s_one (n_for hM rfl (n_rng3 Y.b_range (n_var) (n_bin hM (n_len hM Y.b_len (n_var)) (x_int)) (n_var)) (gnm hN) (s_one (n_asgG (n_bin hM (n_ix hM hu (n_var) (n_bin hM (n_var) (x_int))) (n_bin hM (n_var) (n_var))) (n_gsb hu (n_var) (n_bin hM (n_var) (x_int)))))))) (s_one (s_ret (n_var))))
def N_counts_by_excesses : List Str := ["amounts", "known", "found", "total", ".0", "k"]
theorem b_counts_by_excesses (Y : Hy P w K mg base M k cf) (cdv : Value) (A : Around) (outer : List PySem.Env) (s : Shared) (H : Hp) (w0 : Wd) (E : XK) (hr : Room k (A.deeper (envOfC "counts_by_excesses" (defScope (top 22)) s.heap.objs.size f cdv))) :
    PSs (cxOf CX0 P w K mg base N_counts_by_excesses "counts_by_excesses" (defScope (top 22)) f cdv A outer s H E).nox (defBody (top 22)) (tS M cf H w0 d_counts_by_excesses) := by
  have hM : K = M.K := Y.hM
  have hu := hr.units
  have hN : N_counts_by_excesses.Nodup := by decide
  exact s_cons (n_parT hM rfl (n_rcons (x_call Y.c_sums_by_divisors hr (Nat.le_refl _) rfl (n_cons (n_var) (x_nil)) rfl rfl (len_cons (len_nil)) rfl) (n_rcons (x_lst (n_cons (x_int) (x_nil))) (r_nil))) (pgs1 hN (pgs1 hN (pgs0)))) (s_cons (n_for hM rfl (n_rng2 Y.b_range (x_int) (n_bin hM (n_len hM Y.b_len (n_var)) (x_int))) (gnm hN) (s_one (n_app (n_var) (n_bin hM (n_sum hM rfl Y.b_sum (n_lc (own := [(".0", 4), ("k", 5)]) hM rfl hN (n_rng2 Y.b_range (x_int) (n_bin hM (n_var) (x_int))) rfl rfl (by decide) (fun _ _ _ _ _ => gnm hN) (fun _ _ _ _ _ => pts0) (fun _ _ _ _ _ => n_bin hM (n_ix hM hu (n_var) (n_bin hM (n_var) (x_int))) (n_ix hM hu (n_var) (n_bin hM (n_var) (n_var)))))) (n_var))))) (s_one (s_ret (n_var))))
def N_count_all : List Str := ["number"]
theorem b_count_all (Y : Hy P w K mg base M k cf) (cdv : Value) (A : Around) (outer : List PySem.Env) (s : Shared) (H : Hp) (w0 : Wd) (E : XK) (hr : Room k (A.deeper (envOfC "count_all" (defScope (top 23)) s.heap.objs.size f cdv))) :
    PSs (cxOf CX0 P w K mg base N_count_all "count_all" (defScope (top 23)) f cdv A outer s H E).nox (defBody (top 23)) (tS M cf H w0 d_count_all) := by
  have hM : K = M.K := Y.hM
  have hu := hr.units
  have hN : N_count_all.Nodup := by decide
  exact s_cons (n_drop (x_call Y.c_check_number hr (Nat.le_refl _) rfl (n_cons (n_var) (x_nil)) rfl rfl (len_cons (len_nil)) rfl)) (s_one (s_ret (n_ix hM hu (x_call Y.c_all_counts hr (Nat.le_refl _) rfl (n_cons (n_var) (x_nil)) rfl rfl (len_cons (len_nil)) rfl) (n_var))))
def N_check_rods : List Str := ["value"]
theorem b_check_rods (Y : Hy P w K mg base M k cf) (cdv : Value) (A : Around) (outer : List PySem.Env) (s : Shared) (H : Hp) (w0 : Wd) (E : XK) (hr : Room k (A.deeper (envOfC "check_rods" (defScope (top 26)) s.heap.objs.size f cdv))) :
    PSs (cxOf CX0 P w K mg base N_check_rods "check_rods" (defScope (top 26)) f cdv A outer s H E).nox (defBody (top 26)) (tS M cf H w0 d_check_rods) := by
  have hM : K = M.K := Y.hM
  have hu := hr.units
  have hN : N_check_rods.Nodup := by decide
  exact s_one (n_drop (x_call Y.c_check_within hr (Nat.le_refl _) rfl (n_cons (n_var) (n_cons (n_gi Y.g_LEAST_RODS) (n_cons (n_gi Y.g_MOST_RODS) (x_nil)))) rfl rfl (len_cons (len_cons (len_cons (len_nil)))) rfl))
def N_places_in : List Str := ["row", "rods", "many", "parts", ".0", "at", "part"]
theorem b_places_in (Y : Hy P w K mg base M k cf) (cdv : Value) (A : Around) (outer : List PySem.Env) (s : Shared) (H : Hp) (w0 : Wd) (E : XK) (hr : Room k (A.deeper (envOfC "places_in" (defScope (top 27)) s.heap.objs.size f cdv))) :
    PSs (cxOf CX0 P w K mg base N_places_in "places_in" (defScope (top 27)) f cdv A outer s H E).nox (defBody (top 27)) (tS M cf H w0 d_places_in) := by
  have hM : K = M.K := Y.hM
  have hu := hr.units
  have hN : N_places_in.Nodup := by decide
  exact s_cons (n_asg hN (n_bin hM (n_bin hM (n_bin hM (n_bin hM (n_len hM Y.b_len (n_var)) (n_var)) (x_int)) (n_var)) (n_var))) (s_cons (n_asg hN (x_lst (x_star hM (n_var) (x_star hM (n_bin hM (x_lst (n_cons (x_int) (x_nil))) (n_bin hM (n_var) (n_len hM Y.b_len (n_var)))) (x_nil))))) (s_one (s_ret (n_lc (own := [(".0", 4), ("at", 5), ("part", 6)]) hM rfl hN (n_enum1 hM Y.b_enumerate (n_var)) rfl rfl (by decide) (fun _ _ _ _ _ => gtp hM rfl (pgs1 hN (pgs1 hN (pgs0)))) (fun _ _ _ _ _ => pts0) (fun _ _ _ _ _ => n_bin hM (n_bin hM (n_bin hM (n_var) (n_var)) (x_int)) (n_var))))))
def N_row_at : List Str := ["places", "falling", "parts", ".0", "at", "place", "part"]
theorem b_row_at (Y : Hy P w K mg base M k cf) (cdv : Value) (A : Around) (outer : List PySem.Env) (s : Shared) (H : Hp) (w0 : Wd) (E : XK) (hr : Room k (A.deeper (envOfC "row_at" (defScope (top 28)) s.heap.objs.size f cdv))) :
    PSs (cxOf CX0 P w K mg base N_row_at "row_at" (defScope (top 28)) f cdv A outer s H E).nox (defBody (top 28)) (tS M cf H w0 d_row_at) := by
  have hM : K = M.K := Y.hM
  have hu := hr.units
  have hN : N_row_at.Nodup := by decide
  exact s_cons (n_asg hN (n_sortedRev hM Y.b_sorted (n_var))) (s_cons (n_setLc (own := [(".0", 3), ("at", 4), ("place", 5)]) hM rfl hN (n_enum1 hM Y.b_enumerate (n_var)) rfl rfl (by decide) (fun _ _ _ _ _ => gtp hM rfl (pgs1 hN (pgs1 hN (pgs0)))) (fun _ _ _ _ _ => pts0) (fun _ _ _ _ _ => n_bin hM (n_var) (n_bin hM (n_bin hM (n_len hM Y.b_len (n_var)) (x_int)) (n_var)))) (s_one (s_ret (n_tuple hM Y.b_tuple (n_lc (own := [(".0", 3), ("part", 6)]) hM rfl hN (x_seqI hM (n_var)) rfl rfl (by decide) (fun _ _ _ _ _ => gnm hN) (fun _ _ _ _ _ => pts1 (n_tcmp hM hu (n_var) (x_int))) (fun _ _ _ _ _ => n_var))))))
def N_heights_on : List Str := ["places", "rods", "rod", ".0", "place"]
theorem b_heights_on (Y : Hy P w K mg base M k cf) (cdv : Value) (A : Around) (outer : List PySem.Env) (s : Shared) (H : Hp) (w0 : Wd) (E : XK) (hr : Room k (A.deeper (envOfC "heights_on" (defScope (top 29)) s.heap.objs.size f cdv))) :
    PSs (cxOf CX0 P w K mg base N_heights_on "heights_on" (defScope (top 29)) f cdv A outer s H E).nox (defBody (top 29)) (tS M cf H w0 d_heights_on) := by
  have hM : K = M.K := Y.hM
  have hu := hr.units
  have hN : N_heights_on.Nodup := by decide
  exact s_one (s_ret (n_sorted hM Y.b_sorted (n_lc (own := [(".0", 3), ("place", 4)]) hM rfl hN (x_seqI hM (n_var)) rfl rfl (by decide) (fun _ _ _ _ _ => gnm hN) (fun _ _ _ _ _ => pts1 (n_tcmp hM hu (n_bin hM (n_int Y.b_int (n_var)) (n_var)) (n_var))) (fun _ _ _ _ _ => n_bin hM (n_var) (n_var)))))
def N_core_row : List Str := ["row", "rods", "places", "found", "rod", ".0", "level"]
theorem b_core_row (Y : Hy P w K mg base M k cf) (cdv : Value) (A : Around) (outer : List PySem.Env) (s : Shared) (H : Hp) (w0 : Wd) (E : XK) (hr : Room k (A.deeper (envOfC "core_row" (defScope (top 30)) s.heap.objs.size f cdv))) :
    PSs (cxOf CX0 P w K mg base N_core_row "core_row" (defScope (top 30)) f cdv A outer s H E).nox (defBody (top 30)) (tS M cf H w0 d_core_row) := by
  have hM : K = M.K := Y.hM
  have hu := hr.units
  have hN : N_core_row.Nodup := by decide
  exact s_cons (n_par2 rfl hN (n_rcons (x_call Y.c_places_in hr (Nat.le_refl _) rfl (n_cons (n_var) (n_cons (n_var) (x_nil))) rfl rfl (len_cons (len_cons (len_nil))) rfl) (n_rcons (x_lst (x_nil)) (r_nil)))) (s_cons (n_for hM rfl (n_rng1 Y.b_range (n_var)) (gnm hN) (s_one (n_asg hN (n_bin hM (n_var) (n_lc (own := [(".0", 5), ("level", 6)]) hM rfl hN (n_rng1 Y.b_range (n_len hM Y.b_len (x_call Y.c_heights_on hr (Nat.le_refl _) rfl (n_cons (n_var) (n_cons (n_var) (n_cons (n_var) (x_nil)))) rfl rfl (len_cons (len_cons (len_cons (len_nil)))) rfl))) rfl rfl (by decide) (fun _ _ _ _ _ => gnm hN) (fun _ _ _ _ _ => pts0) (fun _ _ _ _ _ => n_bin hM (n_var) (n_bin hM (n_var) (n_var)))))))) (s_one (s_ret (x_call Y.c_row_at hr (Nat.le_refl _) rfl (n_cons (n_var) (x_nil)) rfl rfl (len_cons (len_nil)) rfl))))
def N_core : List Str := ["row", "rods"]
theorem b_core (Y : Hy P w K mg base M k cf) (cdv : Value) (A : Around) (outer : List PySem.Env) (s : Shared) (H : Hp) (w0 : Wd) (E : XK) (hr : Room k (A.deeper (envOfC "core" (defScope (top 31)) s.heap.objs.size f cdv))) :
    PSs (cxOf CX0 P w K mg base N_core "core" (defScope (top 31)) f cdv A outer s H E).nox (defBody (top 31)) (tS M cf H w0 d_core) := by
  have hM : K = M.K := Y.hM
  have hu := hr.units
  have hN : N_core.Nodup := by decide
  exact s_cons (n_drop (x_call Y.c_check_row hr (Nat.le_refl _) rfl (n_cons (n_var) (x_nil)) rfl rfl (len_cons (len_nil)) rfl)) (s_cons (n_drop (x_call Y.c_check_rods hr (Nat.le_refl _) rfl (n_cons (n_var) (x_nil)) rfl rfl (len_cons (len_nil)) rfl)) (s_one (s_ret (x_call Y.c_core_row hr (Nat.le_refl _) rfl (n_cons (n_var) (n_cons (n_var) (x_nil))) rfl rfl (len_cons (len_cons (len_nil))) rfl))))
def N_thread_on : List Str := ["heights", "raised", ".0", "below", "height", "part"]
theorem b_thread_on (Y : Hy P w K mg base M k cf) (cdv : Value) (A : Around) (outer : List PySem.Env) (s : Shared) (H : Hp) (w0 : Wd) (E : XK) (hr : Room k (A.deeper (envOfC "thread_on" (defScope (top 32)) s.heap.objs.size f cdv))) :
    PSs (cxOf CX0 P w K mg base N_thread_on "thread_on" (defScope (top 32)) f cdv A outer s H E).nox (defBody (top 32)) (tS M cf H w0 d_thread_on) := by
  have hM : K = M.K := Y.hM
  have hu := hr.units
  have hN : N_thread_on.Nodup := by decide
  exact s_cons (n_setLc (own := [(".0", 2), ("below", 3), ("height", 4)]) hM rfl hN (n_enum1 hM Y.b_enumerate (n_var)) rfl rfl (by decide) (fun _ _ _ _ _ => gtp hM rfl (pgs1 hN (pgs1 hN (pgs0)))) (fun _ _ _ _ _ => pts0) (fun _ _ _ _ _ => n_bin hM (n_var) (n_var))) (s_one (s_ret (n_tuple hM Y.b_tuple (n_lc (own := [(".0", 2), ("part", 5)]) hM rfl hN (x_seqI hM (x_rev hM (n_var))) rfl rfl (by decide) (fun _ _ _ _ _ => gnm hN) (fun _ _ _ _ _ => pts1 (n_tcmp hM hu (n_var) (x_int))) (fun _ _ _ _ _ => n_var)))))
def N_thread_list : List Str := ["row", "rods", "places", ".0", "rod"]
theorem b_thread_list (Y : Hy P w K mg base M k cf) (cdv : Value) (A : Around) (outer : List PySem.Env) (s : Shared) (H : Hp) (w0 : Wd) (E : XK) (hr : Room k (A.deeper (envOfC "thread_list" (defScope (top 33)) s.heap.objs.size f cdv))) :
    PSs (cxOf CX0 P w K mg base N_thread_list "thread_list" (defScope (top 33)) f cdv A outer s H E).nox (defBody (top 33)) (tS M cf H w0 d_thread_list) := by
  have hM : K = M.K := Y.hM
  have hu := hr.units
  have hN : N_thread_list.Nodup := by decide
  exact s_cons (n_asg hN (x_call Y.c_places_in hr (Nat.le_refl _) rfl (n_cons (n_var) (n_cons (n_var) (x_nil))) rfl rfl (len_cons (len_cons (len_nil))) rfl)) (s_one (s_ret (n_tuple hM Y.b_tuple (n_lc (own := [(".0", 3), ("rod", 4)]) hM rfl hN (n_rng1 Y.b_range (n_var)) rfl rfl (by decide) (fun _ _ _ _ _ => gnm hN) (fun _ _ _ _ _ => pts0) (fun _ _ _ _ _ => x_call Y.c_thread_on hr (Nat.le_refl _) rfl (n_cons (x_call Y.c_heights_on hr (Nat.le_refl _) rfl (n_cons (n_var) (n_cons (n_var) (n_cons (n_var) (x_nil)))) rfl rfl (len_cons (len_cons (len_cons (len_nil)))) rfl) (x_nil)) rfl rfl (len_cons (len_nil)) rfl)))))
def N_threads : List Str := ["row", "rods"]
theorem b_threads (Y : Hy P w K mg base M k cf) (cdv : Value) (A : Around) (outer : List PySem.Env) (s : Shared) (H : Hp) (w0 : Wd) (E : XK) (hr : Room k (A.deeper (envOfC "threads" (defScope (top 34)) s.heap.objs.size f cdv))) :
    PSs (cxOf CX0 P w K mg base N_threads "threads" (defScope (top 34)) f cdv A outer s H E).nox (defBody (top 34)) (tS M cf H w0 d_threads) := by
  have hM : K = M.K := Y.hM
  have hu := hr.units
  have hN : N_threads.Nodup := by decide
  exact s_cons (n_drop (x_call Y.c_check_row hr (Nat.le_refl _) rfl (n_cons (n_var) (x_nil)) rfl rfl (len_cons (len_nil)) rfl)) (s_cons (n_drop (x_call Y.c_check_rods hr (Nat.le_refl _) rfl (n_cons (n_var) (x_nil)) rfl rfl (len_cons (len_nil)) rfl)) (s_one (s_ret (x_call Y.c_thread_list hr (Nat.le_refl _) rfl (n_cons (n_var) (n_cons (n_var) (x_nil))) rfl rfl (len_cons (len_cons (len_nil))) rfl))))
def N_count_cores : List Str := ["number", "rods", "amounts", ".0", "total"]
theorem b_count_cores (Y : Hy P w K mg base M k cf) (cdv : Value) (A : Around) (outer : List PySem.Env) (s : Shared) (H : Hp) (w0 : Wd) (E : XK) (hr : Room k (A.deeper (envOfC "count_cores" (defScope (top 35)) s.heap.objs.size f cdv))) :
    PSs (cxOf CX0 P w K mg base N_count_cores "count_cores" (defScope (top 35)) f cdv A outer s H E).nox (defBody (top 35)) (tS M cf H w0 d_count_cores) := by
  have hM : K = M.K := Y.hM
  have hu := hr.units
  have hN : N_count_cores.Nodup := by decide
  exact s_cons (n_drop (x_call Y.c_check_number hr (Nat.le_refl _) rfl (n_cons (n_var) (x_nil)) rfl rfl (len_cons (len_nil)) rfl)) (s_cons (n_drop (x_call Y.c_check_rods hr (Nat.le_refl _) rfl (n_cons (n_var) (x_nil)) rfl rfl (len_cons (len_nil)) rfl)) (s_cons (n_setLc (own := [(".0", 3), ("total", 4)]) hM rfl hN (n_rng2 Y.b_range (x_int) (n_bin hM (n_var) (x_int))) rfl rfl (by decide) (fun _ _ _ _ _ => gnm hN) (fun _ _ _ _ _ => pts0) (fun _ _ _ _ _ => x_if (n_tcmp hM hu (n_bin hM (n_int Y.b_int (n_var)) (n_var)) (x_int)) (n_bin hM (x_int) (n_var)) (x_int))) (s_one (s_ret (n_ix hM hu (x_call Y.c_counts_by_excesses hr (Nat.le_refl _) rfl (n_cons (n_var) (x_nil)) rfl rfl (len_cons (len_nil)) rfl) (n_var))))))
def N__law_pot : List Str := ["script", "turn", "cell", "mixed", "each"]
theorem b__law_pot (Y : Hy P w K mg base M k cf) (cdv : Value) (A : Around) (outer : List PySem.Env) (s : Shared) (H : Hp) (w0 : Wd) (E : XK) (hr : Room k (A.deeper (envOfC "_law_pot" (defScope (top 37)) s.heap.objs.size f cdv))) :
    PSs (cxOf CX0 P w K mg base N__law_pot "_law_pot" (defScope (top 37)) f cdv A outer s H E).nox (defBody (top 37)) (tS M cf H w0 d__law_pot) := by
  have hM : K = M.K := Y.hM
  have hu := hr.units
  have hN : N__law_pot.Nodup := by decide
  exact s_cons (n_asg hN (x_if (n_tcmp hM hu (n_var) (n_len hM Y.b_len (n_var))) (n_int Y.b_int (n_ix hM hu (n_var) (n_var))) (n_bin hM (n_bin hM (x_int) (n_var)) (n_bin hM (n_int Y.b_int (n_sum hM rfl Y.b_sum (n_sl hM (n_var) (x_no) (x_part (x_int))))) (x_int))))) (s_cons (n_asg hN (n_bin hM (x_int) (n_bin hM (x_int) (n_var)))) (s_cons (n_for hM rfl (x_seqI hM (n_bin hM (n_sl hM (n_var) (x_no) (x_part (x_int))) (x_lst (n_cons (n_var) (x_nil))))) (gnm hN) (s_one (n_asg hN (n_bin hM (n_int Y.b_int (n_bin hM (n_bin hM (n_bin hM (n_var) (x_int)) (n_bin hM (n_int Y.b_int (n_var)) (x_int))) (x_int))) (x_int))))) (s_one (s_ret (x_lst (n_cons (x_if (PW.pt (n_tor (n_tcmp hM hu (n_var) (x_int)) (n_tor1 (n_tcmp hM hu (n_var) (n_bin hM (x_int) (x_int)))))) (n_abs Y.b_abs (n_var)) (x_int)) (n_cons (n_var) (n_cons (x_int) (x_nil)))))))))
def N__law_draw : List Str := ["pot", "size", "digit", "by"]
theorem b__law_draw (Y : Hy P w K mg base M k cf) (cdv : Value) (A : Around) (outer : List PySem.Env) (s : Shared) (H : Hp) (w0 : Wd) (E : XK) (hr : Room k (A.deeper (envOfC "_law_draw" (defScope (top 38)) s.heap.objs.size f cdv))) :
    PSs (cxOf CX0 P w K mg base N__law_draw "_law_draw" (defScope (top 38)) f cdv A outer s H E).nox (defBody (top 38)) (tS M cf H w0 d__law_draw) := by
  have hM : K = M.K := Y.hM
  have hu := hr.units
  have hN : N__law_draw.Nodup := by decide
  exact s_cons (n_asgG (n_bin hM (n_ix hM hu (n_var) (x_int)) (x_int)) (n_gsb hu (n_var) (x_int))) (s_cons (n_if (n_tcmp hM hu (n_ix hM hu (n_var) (x_int)) (x_int)) (s_cons (n_asgG (n_divmod Y.b_divmod (n_ix hM hu (n_var) (x_int)) (n_var)) (n_gtp hM rfl (n_gc (n_gsb hu (n_var) (x_int)) (n_gc (n_gnm hN) (n_gn0))))) (s_one (s_ret (n_var)))) (s_nil)) (s_cons (n_asg hN (n_bin hM (n_bin hM (n_int Y.b_int (n_ix hM hu (n_var) (x_int))) (x_int)) (x_int))) (s_cons (n_asgG (n_bin hM (n_int Y.b_int (n_bin hM (n_bin hM (n_bin hM (n_ix hM hu (n_var) (x_int)) (n_var)) (n_bin hM (x_int) (n_ix hM hu (n_var) (x_int)))) (x_int))) (x_int)) (n_gsb hu (n_var) (x_int))) (s_one (s_ret (n_bin hM (n_int Y.b_int (n_bin hM (n_ix hM hu (n_var) (x_int)) (x_int))) (n_var)))))))
def N__law_every : List Str := ["most", "found", "size", "total"]
theorem b__law_every (Y : Hy P w K mg base M k cf) (cdv : Value) (A : Around) (outer : List PySem.Env) (s : Shared) (H : Hp) (w0 : Wd) (E : XK) (hr : Room k (A.deeper (envOfC "_law_every" (defScope (top 39)) s.heap.objs.size f cdv))) :
    PSs (cxOf CX0 P w K mg base N__law_every "_law_every" (defScope (top 39)) f cdv A outer s H E).nox (defBody (top 39)) (tS M cf H w0 d__law_every) := by
  have hM : K = M.K := Y.hM
  have hu := hr.units
  have hN : N__law_every.Nodup := by decide
  exact s_cons (n_asg hN (n_bin hM (x_lst (n_cons (x_int) (x_nil))) (n_bin hM (x_lst (n_cons (x_int) (x_nil))) (n_var)))) (s_cons (n_for hM rfl (n_rng2 Y.b_range (x_int) (n_bin hM (n_var) (x_int))) (gnm hN) (s_one (n_for hM rfl (n_rng2 Y.b_range (n_var) (n_bin hM (n_var) (x_int))) (gnm hN) (s_one (n_asgG (n_bin hM (n_ix hM hu (n_var) (n_var)) (n_ix hM hu (n_var) (n_bin hM (n_var) (n_var)))) (n_gsb hu (n_var) (n_var))))))) (s_one (s_ret (n_var))))
def N__law_lots : List Str := ["rods", "most", "every", "found", "rod", ".0", "total", "k"]
theorem b__law_lots (Y : Hy P w K mg base M k cf) (cdv : Value) (A : Around) (outer : List PySem.Env) (s : Shared) (H : Hp) (w0 : Wd) (E : XK) (hr : Room k (A.deeper (envOfC "_law_lots" (defScope (top 40)) s.heap.objs.size f cdv))) :
    PSs (cxOf CX0 P w K mg base N__law_lots "_law_lots" (defScope (top 40)) f cdv A outer s H E).nox (defBody (top 40)) (tS M cf H w0 d__law_lots) := by
  have hM : K = M.K := Y.hM
  have hu := hr.units
  have hN : N__law_lots.Nodup := by decide
  exact s_cons (n_parT hM rfl (n_rcons (x_call Y.c__law_every hr (Nat.le_refl _) rfl (n_cons (n_var) (x_nil)) rfl rfl (len_cons (len_nil)) rfl) (n_rcons (n_bin hM (x_lst (n_cons (x_int) (x_nil))) (n_bin hM (x_lst (n_cons (x_int) (x_nil))) (n_var))) (r_nil))) (pgs1 hN (pgs1 hN (pgs0)))) (s_cons (n_for hM rfl (n_rng1 Y.b_range (n_var)) (gnm hN) (s_one (n_asg hN (n_lc (own := [(".0", 5), ("total", 6)]) hM rfl hN (n_rng1 Y.b_range (n_bin hM (n_var) (x_int))) rfl rfl (by decide) (fun _ _ _ _ _ => gnm hN) (fun _ _ _ _ _ => pts0) (fun _ _ _ _ _ => n_sum hM rfl Y.b_sum (n_lc (own := [(".0", 5), ("k", 7)]) hM rfl hN (n_rng1 Y.b_range (n_bin hM (n_var) (x_int))) rfl rfl (by decide) (fun _ _ _ _ _ => gnm hN) (fun _ _ _ _ _ => pts0) (fun _ _ _ _ _ => n_bin hM (n_ix hM hu (n_var) (n_var)) (n_ix hM hu (n_var) (n_bin hM (n_var) (n_var)))))))))) (s_one (s_ret (n_var))))
def N__law_shared_right : List Str := ["rods", "number", "lots", "seen", "row", "mark", ".0", "thread"]
theorem b__law_shared_right (Y : Hy P w K mg base M k cf) (cdv : Value) (A : Around) (outer : List PySem.Env) (s : Shared) (H : Hp) (w0 : Wd) (E : XK) (hr : Room k (A.deeper (envOfC "_law_shared_right" (defScope (top 41)) s.heap.objs.size f cdv))) :
    PSs (cxOf CX0 P w K mg base N__law_shared_right "_law_shared_right" (defScope (top 41)) f cdv A outer s H E).nox (defBody (top 41)) (tS M cf H w0 d__law_shared_right) := by
  have hM : K = M.K := Y.hM
  have hu := hr.units
  have hN : N__law_shared_right.Nodup := by decide
  exact s_cons (n_parT hM rfl (n_rcons (x_call Y.c__law_lots hr (Nat.le_refl _) rfl (n_cons (n_var) (n_cons (n_bin hM (n_var) (n_var)) (x_nil))) rfl rfl (len_cons (len_cons (len_nil))) rfl) (n_rcons (x_newT) (r_nil))) (pgs1 hN (pgs1 hN (pgs0)))) (s_cons (n_for hM rfl (x_seqI hM (x_call Y.c_all_rows hr (Nat.le_refl _) rfl (n_cons (n_var) (x_nil)) rfl rfl (len_cons (len_nil)) rfl)) (gnm hN) (s_cons (n_asg hN (x_call Y.c_core hr (Nat.le_refl _) rfl (n_cons (n_var) (n_cons (n_var) (x_nil))) rfl rfl (len_cons (len_cons (len_nil))) rfl)) (s_cons (n_if (n_tcmp hM hu (n_bin hM (n_sum hM rfl Y.b_sum (n_list hM Y.b_list (n_var))) (n_bin hM (n_var) (n_sum hM rfl Y.b_sum (n_lc (own := [(".0", 6), ("thread", 7)]) hM rfl hN (x_seqI hM (x_call Y.c_threads hr (Nat.le_refl _) rfl (n_cons (n_var) (n_cons (n_var) (x_nil))) rfl rfl (len_cons (len_cons (len_nil))) rfl)) rfl rfl (by decide) (fun _ _ _ _ _ => gnm hN) (fun _ _ _ _ _ => pts0) (fun _ _ _ _ _ => n_sum hM rfl Y.b_sum (n_list hM Y.b_list (n_var))))))) (n_var)) (s_one (s_ret (x_bl))) (s_nil)) (s_one (n_asgG (n_bin hM (x_get2 hu (n_var) (n_var) (x_int) ⟨rfl, rfl, rfl, rfl⟩) (x_int)) (n_gsb hu (n_var) (n_var))))))) (s_one (n_frzD (s_ret (n_cmp hM hu (n_lc (own := [(".0", 6), ("mark", 5)]) hM rfl hN (n_keys (n_var)) rfl rfl (by decide) (fun _ _ _ _ _ => gnm hN) (fun _ _ _ _ _ => pts1 (n_tcmp hM hu (n_ix hM hu (n_var) (n_var)) (n_ix hM hu (n_var) (n_bin hM (n_bin hM (n_var) (n_sum hM rfl Y.b_sum (n_list hM Y.b_list (n_var)))) (n_var))))) (fun _ _ _ _ _ => n_var)) (x_lst (x_nil)))))))
def N__law_right : List Str := ["pot", "rods", "number", "lots", "total", ".0", "k"]
theorem b__law_right (Y : Hy P w K mg base M k cf) (cdv : Value) (A : Around) (outer : List PySem.Env) (s : Shared) (H : Hp) (w0 : Wd) (E : XK) (hr : Room k (A.deeper (envOfC "_law_right" (defScope (top 42)) s.heap.objs.size f cdv))) :
    PSs (cxOf CX0 P w K mg base N__law_right "_law_right" (defScope (top 42)) f cdv A outer s H E).nox (defBody (top 42)) (tS M cf H w0 d__law_right) := by
  have hM : K = M.K := Y.hM
  have hu := hr.units
  have hN : N__law_right.Nodup := by decide
  exact s_cons (n_parT hM rfl (n_rcons (n_bin hM (x_int) (x_call Y.c__law_draw hr (Nat.le_refl _) rfl (n_consR (n_var) (n_cons (x_int) (x_nil))) rfl rfl (len_consR (len_cons (len_nil))) rfl)) (n_rcons (x_call Y.c__law_draw hr (Nat.le_refl _) rfl (n_consR (n_var) (n_cons (x_int) (x_nil))) rfl rfl (len_consR (len_cons (len_nil))) rfl) (r_nil))) (pgs1 hN (pgs1 hN (pgs0)))) (s_cons (n_asg hN (x_call Y.c__law_lots hr (Nat.le_refl _) rfl (n_cons (n_var) (n_cons (n_bin hM (n_var) (n_var)) (x_nil))) rfl rfl (len_cons (len_cons (len_nil))) rfl)) (s_cons (n_asg hN (n_sum hM rfl Y.b_sum (n_lc (own := [(".0", 5), ("k", 6)]) hM rfl hN (n_rng1 Y.b_range (n_bin hM (n_bin hM (n_var) (n_var)) (x_int))) rfl rfl (by decide) (fun _ _ _ _ _ => gnm hN) (fun _ _ _ _ _ => pts0) (fun _ _ _ _ _ => n_bin hM (x_call Y.c_count_cores hr (Nat.le_refl _) rfl (n_cons (n_bin hM (n_var) (n_bin hM (n_var) (n_var))) (n_cons (n_var) (x_nil))) rfl rfl (len_cons (len_cons (len_nil))) rfl) (n_ix hM hu (n_var) (n_var)))))) (s_cons (n_if (PW.pt (n_tor (n_tcmp hM hu (n_var) (x_call Y.c_count_all hr (Nat.le_refl _) rfl (n_cons (n_var) (x_nil)) rfl rfl (len_cons (len_nil)) rfl)) (n_tor1 (n_tcmp hM hu (n_var) (n_ix hM hu (x_call Y.c__law_every hr (Nat.le_refl _) rfl (n_cons (n_var) (x_nil)) rfl rfl (len_cons (len_nil)) rfl) (n_var)))))) (s_one (s_ret (x_bl))) (s_nil)) (s_one (s_ret (x_call Y.c__law_shared_right hr (Nat.le_refl _) rfl (n_cons (n_var) (n_cons (x_call Y.c__law_draw hr (Nat.le_refl _) rfl (n_consR (n_var) (n_cons (x_int) (x_nil))) rfl rfl (len_consR (len_cons (len_nil))) rfl) (x_nil))) rfl rfl (len_cons (len_cons (len_nil))) rfl))))))
def N_law : List Str := ["script", ".0", "turn"]
theorem b_law (Y : Hy P w K mg base M k cf) (cdv : Value) (A : Around) (outer : List PySem.Env) (s : Shared) (H : Hp) (w0 : Wd) (E : XK) (hr : Room k (A.deeper (envOfC "law" (defScope (top 43)) s.heap.objs.size f cdv))) :
    PSs (cxOf CX0 P w K mg base N_law "law" (defScope (top 43)) f cdv A outer s H E).nox (defBody (top 43)) (tS M cf H w0 d_law) := by
  have hM : K = M.K := Y.hM
  have hu := hr.units
  have hN : N_law.Nodup := by decide
  exact s_one (s_ret (n_all hM rfl Y.b_all (n_lc (own := [(".0", 1), ("turn", 2)]) hM rfl hN (n_rng1 Y.b_range (x_int)) rfl rfl (by decide) (fun _ _ _ _ _ => gnm hN) (fun _ _ _ _ _ => pts0) (fun _ _ _ _ _ => x_call Y.c__law_right hr (Nat.le_refl _) rfl (n_consR (x_call Y.c__law_pot hr (Nat.le_refl _) rfl (n_cons (n_var) (n_cons (n_var) (x_nil))) rfl rfl (len_cons (len_cons (len_nil))) rfl) (x_nil)) rfl rfl (len_consR (len_nil)) rfl))))
end
def T : Tb
  | 0 => some (1, d_is_integer)
  | 1 => some (3, d_is_within_bounds)
  | 2 => some (3, d_check_within)
  | 3 => some (1, d_check_number)
  | 4 => some (4, d_is_falling)
  | 5 => some (3, d_is_row)
  | 6 => some (1, d_check_row)
  | 7 => some (5, d_rows_within)
  | 8 => some (1, d_all_rows)
  | 9 => some (6, d_all_counts)
  | 10 => some (5, d_sums_by_divisors)
  | 11 => some (6, d_counts_by_excesses)
  | 12 => some (1, d_count_all)
  | 13 => some (1, d_check_rods)
  | 14 => some (7, d_places_in)
  | 15 => some (7, d_row_at)
  | 16 => some (5, d_heights_on)
  | 17 => some (7, d_core_row)
  | 18 => some (2, d_core)
  | 19 => some (6, d_thread_on)
  | 20 => some (5, d_thread_list)
  | 21 => some (2, d_threads)
  | 22 => some (5, d_count_cores)
  | 23 => some (5, d__law_pot)
  | 24 => some (4, d__law_draw)
  | 25 => some (4, d__law_every)
  | 26 => some (8, d__law_lots)
  | 27 => some (8, d__law_shared_right)
  | 28 => some (7, d__law_right)
  | 29 => some (3, d_law)
  | _ => none
end K85

namespace K85
open PySem PySem.Spec PyProof.Rows L2 Lp
theorem f_is_integer {k : Nat} (hk : 1 ≤ k) (i : Int) (G : Sto) : runT T k 0 [.int i] G = some (.d (.bl true), G) := callT hk rfl fun j e => rfl
theorem f_is_within_bounds {k : Nat} (hk : 2 ≤ k) (i a b : Int) (G : Sto) : runT T k 1 [.int i, .int a, .int b] G = some (.d (.bl (decide (a ≤ i) && decide (i ≤ b))), G) := callT (by omega) rfl fun j e => by
  have c1 := @f_is_integer j (by omega)
  simp [d_is_within_bounds, startE, c1]
theorem f_check_within {k : Nat} (hk : 3 ≤ k) (i a b : Int) (G : Sto) (h : a ≤ i ∧ i ≤ b) : runT T k 2 [.int i, .int a, .int b] G = some (.d .non, G) := callT (by omega) rfl fun j e => by
  have c1 := @f_is_within_bounds j (by omega)
  simp [d_check_within, startE, c1, h]
theorem f_check_number {k : Nat} (hk : 4 ≤ k) (i : Int) (G : Sto) (h : 0 ≤ i ∧ i ≤ 400) : runT T k 3 [.int i] G = some (.d .non, G) := callT (by omega) rfl fun j e => by
  have c1 := @f_check_within j (by omega)
  simp [d_check_number, startE, c1, h]
theorem f_check_rods {k : Nat} (hk : 4 ≤ k) (i : Int) (G : Sto) (h : 2 ≤ i ∧ i ≤ 9) : runT T k 13 [.int i] G = some (.d .non, G) := callT (by omega) rfl fun j e => by
  have c1 := @f_check_within j (by omega)
  simp [d_check_rods, startE, c1, h]
/-- the rows of n with no part above m -/
def rowsF : Nat → Nat → Nat → List (List Int)
  | 0, _, _ => []
  | f + 1, n, m => if n = 0 then [[]] else (List.range (min n m)).flatMap fun p => (rowsF f (n - (p + 1)) (p + 1)).map (((p + 1 : Nat) : Int) :: ·)
theorem sum_pows (f n m : Nat) (F : Nat → List (List Int)) (h : ∀ p, (F p).length ≤ 2 ^ (n - (p + 1))) : ∀ k, k ≤ n → ((List.range k).flatMap F).length + 2 ^ (n - k) ≤ 2 ^ n
  | 0, _ => by simp
  | k + 1, hk => by
    have ih := sum_pows f n m F h k (by omega)
    rw [List.range_succ, List.flatMap_append, List.length_append]
    have h1 := h k
    have e : n - k = (n - (k + 1)) + 1 := by omega
    rw [e, Nat.pow_succ] at ih
    simp only [List.flatMap_cons, List.flatMap_nil, List.append_nil]
    omega
theorem rowsF_bound : ∀ f n m, (rowsF f n m).length ≤ 2 ^ n
  | 0, n, m => by simp [rowsF]
  | f + 1, n, m => by
    unfold rowsF
    by_cases h : n = 0
    · subst h; simp
    · rw [if_neg h]
      have := sum_pows f n m (fun p => (rowsF f (n - (p + 1)) (p + 1)).map (((p + 1 : Nat) : Int) :: ·)) (fun p => by rw [List.length_map]; exact rowsF_bound f _ _) (min n m) (by omega)
      exact Nat.le_trans (Nat.le_add_right _ _) this
theorem rowsF_len : ∀ f n m r, r ∈ rowsF f n m → r.length ≤ f
  | 0, n, m, r, h => by simp [rowsF] at h
  | f + 1, n, m, r, h => by
    unfold rowsF at h
    by_cases h0 : n = 0
    · subst h0; simp at h; subst h; simp
    · rw [if_neg h0, List.mem_flatMap] at h
      obtain ⟨p, _, h⟩ := h
      rw [List.mem_map] at h
      obtain ⟨r', h, rfl⟩ := h
      have := rowsF_len f _ _ r' h
      simp; omega
theorem f_rows_within (G : Sto) : ∀ (f n m k : Nat), n < f → f ≤ k → f ≤ 13 → n ≤ 12 → runT T k 7 [.int n, .int m] G = some (.tmp (.lst (tups (rowsF f n m))), G)
  | 0, n, m, k, h, _, _, _ => absurd h (Nat.not_lt_zero n)
  | f + 1, n, m, k, h, hk, hf, hn => callT (by omega) rfl fun j e => by
    have ih := fun n m (h : n < f) (hn : n ≤ 12) => f_rows_within G f n m j h (by omega) (by omega) hn
    by_cases h0 : n = 0
    · subst h0
      simp [d_rows_within, startE, rowsF, tups, iD]
    · have e0 : ¬ ((n : Int) = 0) := by omega
      have em : min2R (.d (.int n)) (.d (.int m)) G = some (.d (.int (min n m : Nat))) := by
        show some (R.d (.int (if (m : Int) < n then m else n))) = _
        congr 3
        split <;> omega
      have r1 : rgOk 1 = true := by decide
      have r2 : rgOk ((min n m : Nat) + 1 : Int) = true := rgOk_of (by omega)
      have bd : (rowsF (f + 1) n m).length ≤ 100000 := Nat.le_trans (rowsF_bound _ _ _) (Nat.le_trans (Nat.pow_le_pow_right (by decide) hn) (by decide))
      obtain ⟨ρ', G', e1, G2, x3, x4, e2⟩ := forL_inv (cf := runT T j) (tg := .nm 3) (f := fun p : Nat => D.int (1 + (p : Nat)))
        (body := sFor (cSeqI (cCall 7 (cCons (cBin subR (cVar 0) (cVar 3)) (cCons (cVar 3) cNil)) [])) (.nm 4) (sApp (cVar 2) (cTup (cCons (cVar 3) (cStar (cVar 4) cNil)))))
        (I := fun i ρ G' => G' = G ∧ ∃ x3 x4, ρ = [.v (.int n), .v (.int m), .own (.lst (tups (((List.range (min n m)).take i).flatMap fun p => (rowsF f (n - (p + 1)) (p + 1)).map (((p + 1 : Nat) : Int) :: ·)))), x3, x4])
        (List.range (min n m)) 0 [.v (.int n), .v (.int m), .own (.lst []), .no, .no] G ⟨rfl, _, _, rfl⟩ (fun i p ρ G' hi hI => by
          obtain ⟨rfl, x3, x4, rfl⟩ := hI
          have hp := (List.getElem?_eq_some_iff.mp hi)
          obtain ⟨hp1, hp2⟩ := hp
          rw [List.getElem_range] at hp2
          subst hp2
          rw [List.length_range] at hp1
          rw [Nat.zero_add] at *
          generalize hacc : ((List.range (min n m)).take i).flatMap (fun p => (rowsF f (n - (p + 1)) (p + 1)).map (((p + 1 : Nat) : Int) :: ·)) = acc
          have hb2 : (acc ++ (rowsF f (n - (i + 1)) (i + 1)).map (((i + 1 : Nat) : Int) :: ·)).length ≤ 100000 := by
            have := bd
            rw [show rowsF (f + 1) n m = if n = 0 then [[]] else (List.range (min n m)).flatMap fun p => (rowsF f (n - (p + 1)) (p + 1)).map (((p + 1 : Nat) : Int) :: ·) from rfl, if_neg h0] at this
            refine Nat.le_trans ?_ this
            rw [← List.take_append_drop (i + 1) (List.range (min n m)), List.flatMap_append, List.length_append, take_next hi, List.flatMap_append, ← hacc]
            simp
          have cl := ih (n - (i + 1)) (i + 1) (by omega) (by omega)
          obtain ⟨ρ', G', e1, rfl, x4, e2⟩ := forL_inv (cf := runT T j) (tg := .nm 4) (f := fun r : List Int => D.tup (iD r)) (body := sApp (cVar 2) (cTup (cCons (cVar 3) (cStar (cVar 4) cNil))))
            (I := fun q ρ G2 => G2 = G' ∧ ∃ x4, ρ = [.v (.int n), .v (.int m), .own (.lst (tups (acc ++ ((rowsF f (n - (i + 1)) (i + 1)).take q).map (((i + 1 : Nat) : Int) :: ·)))), .v (.int (1 + i)), x4])
            (rowsF f (n - (i + 1)) (i + 1)) 0 [.v (.int n), .v (.int m), .own (.lst (tups acc)), .v (.int (1 + i)), x4] G' ⟨rfl, x4, by simp⟩ (fun q r ρ G2 hq hI => by
              obtain ⟨rfl, x4, rfl⟩ := hI
              rw [Nat.zero_add] at *
              refine ⟨_, [.v (.int n), .v (.int m), .own (.lst (tups (acc ++ ((rowsF f (n - (i + 1)) (i + 1)).take (q + 1)).map (((i + 1 : Nat) : Int) :: ·)))), .v (.int (1 + i)), .v (.tup (iD r))], _, rfl, .inl ?_, rfl, _, rfl⟩
              have l1 : r.length + 1 ≤ sz := by
                have := rowsF_len f _ _ r (List.mem_of_getElem? hq)
                rw [sz_eq]
                omega
              have l2 : (tups (acc ++ ((rowsF f (n - (i + 1)) (i + 1)).take q).map (((i + 1 : Nat) : Int) :: ·))).length < sz := by
                rw [sz_eq]
                unfold tups
                rw [List.length_map, List.length_append, List.length_map, List.length_take]
                rw [List.length_append, List.length_map] at hb2
                omega
              simp only [lz, cz]
              rw [if_pos l1]
              simp only [lz, cz]
              rw [if_pos l2]
              have e5 : tups (acc ++ ((rowsF f (n - (i + 1)) (i + 1)).take q).map (((i + 1 : Nat) : Int) :: ·)) ++ [D.tup (D.int (1 + (i : Int)) :: iD r)] = tups (acc ++ ((rowsF f (n - (i + 1)) (i + 1)).take (q + 1)).map (((i + 1 : Nat) : Int) :: ·)) := by
                rw [take_next hq]
                simp [tups, iD, Int.add_comm]
              rw [e5])
          refine ⟨_, ρ', _, rfl, .inl ?_, rfl, .v (.int (1 + i)), x4, ?_⟩
          · have ea : (n : Int) - (1 + i) = ((n - (i + 1) : Nat) : Int) := by omega
            have eb : (1 : Int) + i = ((i + 1 : Nat) : Int) := by omega
            simp only [lz, cz]
            rw [ea, show runT T j 7 [D.int ((n - (i + 1) : Nat) : Int), D.int (1 + (i : Int))] G' = some (.tmp (.lst (tups (rowsF f (n - (i + 1)) (i + 1)))), G') from by rw [eb]; exact cl]
            simp only [lz, cz]
            exact e1
          · rw [e2, take_next hi, List.flatMap_append, ← hacc]
            simp [tups])
      simp [d_rows_within, startE, h0, em, r1, r2]
      rw [rangeI_map, e1]
      subst e2
      simp
      rw [show rowsF (f + 1) n m = if n = 0 then [[]] else (List.range (min n m)).flatMap fun p => (rowsF f (n - (p + 1)) (p + 1)).map (((p + 1 : Nat) : Int) :: ·) from rfl, if_neg h0]
      simp [G2]
theorem f_all_rows {k : Nat} (hk : 14 ≤ k) (n : Nat) (hn : n ≤ 12) (G : Sto) : runT T k 8 [.int n] G = some (.d (.tup (tups (rowsF 13 n n))), G) := callT (by omega) rfl fun j e => by
  have c1 := @f_check_within j (by omega) n 0 24
  have c2 := f_rows_within G 13 n n j (by omega) (by omega) (by omega) hn
  simp only [lz, cz, d_all_rows, startE]
  simp [c1 G (by omega), c2]
/-- sums with no bound on parts -/
def heights (ps : List Int) (r x : Int) : List Int := isort ((ps.filter fun p => decide (p % r = x)).map fun p => p / r)
theorem f_heights_on {k : Nat} (hk : 1 ≤ k) (ps : List Int) (r x : Int) (hr : 2 ≤ r ∧ r ≤ 9) (hl : ps.length ≤ 1000000) (G : Sto) : runT T k 16 [.lst (iD ps), .int r, .int x] G = some (.tmp (.lst (iD (heights ps r x))), G) := callT (by omega) rfl fun j e => by
  have e1 : lcL (.nm 4) (cTv (cBin (vb eqR) (cBin modR (cUnG intR (cVar 4)) (cVar 1)) (cVar 2))) (cBin fdivR (cVar 4) (cVar 1)) (runT T j) [.v (.lst (iD ps)), .v (.int r), .v (.int x), .no, .no] (iD ps) G = some (iD ((ps.filter fun p => decide (p % r = x)).map fun p => p / r), G) :=
    lcL_filterI ps (fun p _ => by
      refine ⟨_, rfl, ?_, fun _ => ?_⟩
      · simp [show (0 : Int) < r by omega]
      · simp [divOk_of (i := r) (by omega)])
  simp only [lz, cz, d_heights_on, startE, List.map_cons, List.map_nil, wipeR]
  simp [wipeR, hl, e1, heights]
/-- the beads of a row on so many rods -/
def places (row : List Int) (r : Int) : List Int :=
  let many := ((row.length : Int) + r - 1) / r * r
  (row ++ List.replicate (many - row.length).toNat 0).zipIdx.map fun p : Int × Nat => p.1 + many - 1 - (p.2 : Nat)
theorem f_places_in {k : Nat} (hk : 1 ≤ k) (row : List Int) (r : Int) (hr : 2 ≤ r ∧ r ≤ 9) (hl : row.length ≤ 1000) (G : Sto) : runT T k 14 [.tup (iD row), .int r] G = some (.tmp (.lst (iD (places row r))), G) := callT (by omega) rfl fun j e => by
  have hb : ((row.length : Int) + r - 1) / r * r ≤ row.length + r - 1 := Int.ediv_mul_le _ (by omega)
  have hb2 : 0 ≤ ((row.length : Int) + r - 1) / r := Int.ediv_nonneg (by omega) (by omega)
  have hb3 : 0 ≤ ((row.length : Int) + r - 1) / r * r := Int.mul_nonneg hb2 (by omega)
  have hlt : (row.length : Int) + r - 1 - r < ((row.length : Int) + r - 1) / r * r := by
    have := Int.emod_lt_of_pos ((row.length : Int) + r - 1) (show 0 < r by omega)
    have h2 := Int.ediv_mul_add_emod ((row.length : Int) + r - 1) r
    omega
  generalize hm : ((row.length : Int) + r - 1) / r * r = many at *
  have o1 : divOk r = true := divOk_of (by omega)
  have o2 : mulOkI (((row.length : Int) + r - 1) / r) r = true := mulOk_of' (by omega)
  have o3 : repOk 1 (many - row.length) = true := by
    unfold repOk
    simp only [Bool.and_eq_true, decide_eq_true_eq, sz_eq]
    omega
  have e0 : iD row ++ ((List.replicate (many - row.length).toNat [D.int 0]).flatten) = iD (row ++ List.replicate (many - row.length).toNat 0) := by rw [iD_rep, iD_app]
  have e1 : lcL (.tup [5, 6]) cYes (cBin subR (cBin subR (cBin addR (cVar 6) (cVar 2)) (cC (.int 1))) (cVar 5)) (runT T j) [.v (.tup (iD row)), .v (.int r), .v (.int many), .v (.lst (iD (row ++ List.replicate (many - row.length).toNat 0))), .no, .no, .no] (enumD 0 (iD (row ++ List.replicate (many - row.length).toNat 0))) G = some (iD (places row r), G) := by
    rw [enumD_iD]
    have : places row r = (row ++ List.replicate (many - row.length).toNat 0).zipIdx.map fun p : Int × Nat => p.1 + many - 1 - (p.2 : Nat) := by unfold places; rw [hm]
    rw [this]
    refine lcL_mapI _ fun p _ => ⟨_, rfl, ?_⟩
    simp
  have h1 : (iD row).length + (List.replicate (many - row.length).toNat [D.int 0]).flatten.length ≤ sz := by
    rw [iD_rep, iD_len, iD_len, List.length_replicate, sz_eq]
    omega
  have h2 : (row ++ List.replicate (many - row.length).toNat 0).length ≤ 1000000 := by
    rw [List.length_append, List.length_replicate]
    omega
  have h3 : (row ++ List.replicate (many - row.length).toNat 0).length ≤ sz := Nat.le_trans h2 (by decide)
  have h4 : 0 + 1 = 1 := rfl
  simp only [lz, cz, d_places_in, o1, o2, hm, o3, e0, h4, h3, h2, e1]
theorem isort_len (l : List Int) : (isort l).length = l.length := (isort_perm l).length_eq
theorem places_len (row : List Int) (r : Int) (hr : 2 ≤ r ∧ r ≤ 9) (hl : row.length ≤ 1000) : (places row r).length ≤ 2000 := by
  have hb : ((row.length : Int) + r - 1) / r * r ≤ row.length + r - 1 := Int.ediv_mul_le _ (by omega)
  unfold places
  rw [List.length_map, List.length_zipIdx, List.length_append, List.length_replicate]
  omega
theorem heights_len (ps : List Int) (r x : Int) : (heights ps r x).length ≤ ps.length := by
  unfold heights
  rw [isort_len, List.length_map]
  exact List.length_filter_le _ _
/-- the row whose beads stand there -/
def rowAt (ps : List Int) : List Int :=
  let f := dsort ps
  (f.zipIdx.map fun p : Int × Nat => p.1 - ((f.length : Int) - 1 - (p.2 : Nat))).filter fun p => decide (0 < p)
theorem dsort_len (l : List Int) : (dsort l).length = l.length := by unfold dsort; rw [List.length_reverse, isort_len]
theorem f_row_at {k : Nat} (hk : 1 ≤ k) (ps : List Int) (hl : ps.length ≤ 100000) (G : Sto) : runT T k 15 [.lst (iD ps)] G = some (.d (.tup (iD (rowAt ps))), G) := callT (by omega) rfl fun j e => by
  have hd := dsort_len ps
  generalize hf : dsort ps = f at hd
  have e1 : lcL (.tup [4, 5]) cYes (cBin subR (cVar 5) (cBin subR (cBin subR (cUnG lenR (cVar 1)) (cC (.int 1))) (cVar 4))) (runT T j) [.v (.lst (iD ps)), .v (.lst (iD f)), .no, .no, .no, .no, .no] (enumD 0 (iD f)) G = some (iD (f.zipIdx.map fun p : Int × Nat => p.1 - ((f.length : Int) - 1 - (p.2 : Nat))), G) := by
    rw [enumD_iD]
    refine lcL_mapI _ fun p _ => ⟨_, rfl, ?_⟩
    simp
  have e2 : ∀ l : List Int, lcL (.nm 6) (cTv (cBin (vb gtI) (cVar 6) (cC (.int 0)))) (cVar 6) (runT T j) [.v (.lst (iD ps)), .v (.lst (iD f)), .v (.lst (iD l)), .no, .no, .no, .no] (iD l) G = some (iD ((l.filter fun p => decide (0 < p)).map id), G) := fun l =>
    lcL_filterI l fun p _ => ⟨_, rfl, by simp, fun _ => by simp⟩
  have h1 : f.length ≤ 1000000 := by omega
  have h2 : (f.zipIdx.map fun p : Int × Nat => p.1 - ((f.length : Int) - 1 - (p.2 : Nat))).length ≤ 1000000 := by
    rw [List.length_map, List.length_zipIdx]; exact h1
  have er : rowAt ps = (f.zipIdx.map fun p : Int × Nat => p.1 - ((f.length : Int) - 1 - (p.2 : Nat))).filter fun p => decide (0 < p) := by unfold rowAt; rw [hf]
  simp only [lz, cz, d_row_at, hf, h1, e1, h2, e2, List.map_id, er]
/-! rows that are told to be rows -/
def okRow (row : List Int) : Bool := (row.all fun p => decide (1 ≤ p) && decide (p ≤ 600)) && ((List.range (row.length - 1)).all fun a => decide (row.getD (a + 1) 0 + 0 ≤ row.getD a 0)) && decide (row.sum ≤ 600)
theorem f_is_falling {k : Nat} (hk : 1 ≤ k) (row : List Int) (hl : row.length ≤ 1000) (G : Sto) : runT T k 4 [.tup (iD row), .int 0] G = some (.d (.bl ((List.range (row.length - 1)).all fun a => decide (row.getD (a + 1) 0 + 0 ≤ row.getD a 0))), G) := callT (by omega) rfl fun j e => by
  have e1 : lcL (.nm 3) cYes (cBin (vb geI) (cBinG ixG (cVar 0) (cVar 3)) (cBin addR (cBinG ixG (cVar 0) (cBin addR (cVar 3) (cC (.int 1)))) (cVar 1))) (runT T j) [.v (.tup (iD row)), .v (.int 0), .no, .no] (rangeI 0 (row.length - 1)) G = some ((List.range (row.length - 1)).map fun a => .bl (decide (row.getD (a + 1) 0 + 0 ≤ row.getD a 0)), G) := by
    rw [rangeI_map]
    refine lcL_mapB _ fun a ha => ⟨_, rfl, ?_⟩
    rw [List.mem_range] at ha
    have i1 : ixG (.d (.tup (iD row))) (.d (.int (0 + (a : Int)))) G = some (.d (.int (row.getD a 0))) := by
      show (atI (iD row) (0 + (a : Int))).map R.d = _
      rw [atI_iD row a (by omega) (by omega)]; rfl
    have i2 : ixG (.d (.tup (iD row))) (.d (.int (0 + (a : Int) + 1))) G = some (.d (.int (row.getD (a + 1) 0))) := by
      show (atI (iD row) (0 + (a : Int) + 1)).map R.d = _
      rw [atI_iD row (a + 1) (by omega) (by omega)]; rfl
    simp only [lz, cz, i1, i2]
  have h1 : rgOk ((row.length : Int) - 1) = true := rgOk_of (by omega)
  have h2 : ((row.length : Int) - 1).toNat = row.length - 1 := by omega
  have h3 : (rangeI 0 (row.length - 1)).length ≤ 1000000 := by rw [rangeI_len]; omega
  simp only [lz, cz, d_is_falling, h1, h2, h3, e1, bsOf_map, List.all_map]
  rfl
theorem f_check_row {k : Nat} (hk : 5 ≤ k) (row : List Int) (h : okRow row = true) (hl : row.length ≤ 1000) (G : Sto) : runT T k 6 [.tup (iD row)] G = some (.d .non, G) := by
  have hr : ∀ {k : Nat}, 4 ≤ k → runT T k 5 [.tup (iD row)] G = some (.d (.bl true), G) := fun {k} hk => callT (by omega) rfl fun j e => by
    have c1 := @f_is_within_bounds j (by omega)
    have c2 := @f_is_falling j (by omega) row hl G
    unfold okRow at h
    simp only [Bool.and_eq_true] at h
    have e1 : lcL (.nm 2) cYes (cCall 1 (cCons (cVar 2) (cCons (cC (.int 1)) (cCons (cC (.int 600)) cNil))) []) (runT T j) [.v (.tup (iD row)), .no, .no] (iD row) G = some (row.map fun p => .bl (decide (1 ≤ p) && decide (p ≤ 600)), G) :=
      lcL_mapB _ fun a ha => ⟨_, rfl, by simp only [lz, cz, c1]⟩
    have h3 : row.length ≤ 1000000 := by omega
    have t1 : tyD (.tup (iD row)) G = some .tuple := rfl
    have t2 : isiT .tuple .tuple = true := rfl
    have h4 : ((row.map fun p => decide (1 ≤ p) && decide (p ≤ 600)).all id) = true := by rw [List.all_map]; exact h.1.1
    rw [h.1.2] at c2
    have h5 : (row.sum ≤ 600) = True := eq_true (of_decide_eq_true h.2)
    simp only [lz, cz, d_is_row, t1, t2, h3, e1, bsOf_map, h4, c2, h5]
  exact callT (by omega) rfl fun j e => by
    have c := hr (k := j) (by omega)
    simp only [lz, cz, d_check_row, c]
/-- the core of a row -/
def beads (ps : List Int) (r : Nat) (x : Nat) : List Int := (List.range (heights ps r x).length).map fun l => (x : Int) + r * (l : Nat)
def coreRow (row : List Int) (r : Nat) : List Int := rowAt ((List.range r).flatMap (beads (places row r) r))
theorem flat_len {α β : Type} (F : α → List β) (b : Nat) : ∀ l : List α, (∀ x ∈ l, (F x).length ≤ b) → (l.flatMap F).length ≤ l.length * b
  | [], _ => by simp
  | x :: l, h => by
    have ih := flat_len F b l fun y hy => h y (List.mem_cons_of_mem _ hy)
    have := h x (by simp)
    rw [List.flatMap_cons, List.length_append, List.length_cons, Nat.add_mul]
    omega
theorem take_flat {α β : Type} (F : α → List β) {l : List α} {i : Nat} {x : α} (h : l[i]? = some x) : (l.take (i + 1)).flatMap F = (l.take i).flatMap F ++ F x := by
  rw [take_next h, List.flatMap_append]
  simp
theorem f_core_row {k : Nat} (hk : 2 ≤ k) (row : List Int) (r : Nat) (hr : 2 ≤ r ∧ r ≤ 9) (hl : row.length ≤ 1000) (G : Sto) : runT T k 17 [.tup (iD row), .int r] G = some (.d (.tup (iD (coreRow row r))), G) := callT (by omega) rfl fun j e => by
  have c1 := @f_places_in j (by omega) row r (by omega) hl G
  have hp := places_len row r (by omega) hl
  generalize hps : places row r = ps at *
  have c2 := fun x => @f_heights_on j (by omega) ps r x (by omega) (by omega) G
  have hh := fun x => heights_len ps r x
  have c3 := fun (l : List Int) (hl : l.length ≤ 100000) => @f_row_at j (by omega) l hl G
  have bF : ∀ x : Nat, (beads ps r x).length ≤ 2000 := fun x => by
    unfold beads
    rw [List.length_map, List.length_range]; exact Nat.le_trans (hh x) hp
  obtain ⟨ρ', G', e1, rfl, x4, e2⟩ := forL_inv (cf := runT T j) (tg := .nm 4) (f := fun x : Nat => D.int (0 + (x : Nat)))
    (body := sAsg .val 3 (cBin addR (cVar 3) (cLc [5, 6] (cRng1 (cCons (cUnG lenR (cCall 16 (cCons (cVar 2) (cCons (cVar 1) (cCons (cVar 4) (cNil)))) [])) (cNil))) (.nm 6) (cYes) (cBin addR (cVar 4) (cBin mulR (cVar 1) (cVar 6))))))
    (I := fun i ρ G' => G' = G ∧ ∃ x4, ρ = [.v (.tup (iD row)), .v (.int r), .v (.lst (iD ps)), .v (.lst (iD (((List.range r).take i).flatMap (beads ps r)))), x4, .no, .no])
    (List.range r) 0 [.v (.tup (iD row)), .v (.int r), .v (.lst (iD ps)), .v (.lst []), .no, .no, .no] G ⟨rfl, _, rfl⟩ (fun i x ρ G' hi hI => by
      obtain ⟨rfl, x4, rfl⟩ := hI
      rw [Nat.zero_add] at *
      rw [take_flat _ hi]
      have hacc := flat_len (beads ps r) 2000 ((List.range r).take i) (fun x _ => bF x)
      have hi9 : ((List.range r).take i).length ≤ 9 := by rw [List.length_take, List.length_range]; omega
      generalize ((List.range r).take i).flatMap (beads ps r) = acc at *
      have hb := bF x
      have h0 : (0 : Int) + (x : Nat) = x := by omega
      have e1 : lcL (.nm 6) cYes (cBin addR (cVar 4) (cBin mulR (cVar 1) (cVar 6))) (runT T j) [.v (.tup (iD row)), .v (.int r), .v (.lst (iD ps)), .v (.lst (iD acc)), .v (.int x), .no, .no] (rangeI 0 (heights ps r x).length) G' = some (iD (beads ps r x), G') := by
        rw [rangeI_map]
        refine lcL_mapI _ fun l _ => ⟨_, rfl, ?_⟩
        have o : mulOkI (r : Int) (0 + (l : Int)) = true := mulOk_of (by omega)
        simp only [lz, cz, o]
        rw [Int.zero_add]
      have h1 : rgOk (((heights ps r x).length : Nat) : Int) = true := rgOk_of (by have := hh x; omega)
      have h2 : (rangeI 0 (heights ps r x).length).length ≤ 1000000 := by rw [rangeI_len]; have := hh x; omega
      have h3 : (((heights ps r x).length : Nat) : Int).toNat = (heights ps r x).length := Int.toNat_natCast _
      have h4 : acc.length + (beads ps r x).length ≤ sz := by
        rw [sz_eq]
        have : ((List.range r).take i).length * 2000 ≤ 9 * 2000 := Nat.mul_le_mul_right _ hi9
        omega
      refine ⟨_, _, _, rfl, .inl ?_, rfl, .v (.int x), rfl⟩
      simp only [lz, cz, h0, c2, h1, h3, h2, e1, h4, iD_app])
  have h1 : rgOk (r : Int) = true := rgOk_of (by omega)
  have h2 : (r : Int).toNat = r := Int.toNat_natCast _
  have h3 := flat_len (beads ps r) 2000 (List.range r) (fun x _ => bF x)
  rw [List.length_range] at h3
  have c3' := c3 ((List.range r).flatMap (beads ps r)) (by
    have : r * 2000 ≤ 9 * 2000 := Nat.mul_le_mul_right _ hr.2
    omega)
  rw [Nat.zero_add, List.length_range, List.take_of_length_le (by rw [List.length_range]; exact Nat.le_refl _)] at e2
  simp only [lz, cz, d_core_row, c1, h1, h2]
  rw [rangeI_map, e1]
  subst e2
  simp only [lz, cz, c3']
  unfold coreRow
  rw [hps]
theorem f_core {k : Nat} (hk : 6 ≤ k) (row : List Int) (r : Nat) (hr : 2 ≤ r ∧ r ≤ 9) (h : okRow row = true) (hl : row.length ≤ 1000) (G : Sto) : runT T k 18 [.tup (iD row), .int r] G = some (.d (.tup (iD (coreRow row r))), G) := callT (by omega) rfl fun j e => by
  have c1 := @f_check_row j (by omega) row h hl G
  have c2 := @f_check_rods j (by omega) r G (by omega)
  have c3 := @f_core_row j (by omega) row r hr hl G
  simp only [lz, cz, d_core, c1, c2, c3]
def threadOn (hs : List Int) : List Int := ((hs.zipIdx.map fun p : Int × Nat => p.1 - (p.2 : Nat)).reverse).filter fun p => decide (0 < p)
theorem f_thread_on {k : Nat} (hk : 1 ≤ k) (hs : List Int) (hl : hs.length ≤ 100000) (G : Sto) : runT T k 19 [.lst (iD hs)] G = some (.d (.tup (iD (threadOn hs))), G) := callT (by omega) rfl fun j e => by
  have e1 : lcL (.tup [3, 4]) cYes (cBin subR (cVar 4) (cVar 3)) (runT T j) [.v (.lst (iD hs)), .no, .no, .no, .no, .no] (enumD 0 (iD hs)) G = some (iD (hs.zipIdx.map fun p : Int × Nat => p.1 - (p.2 : Nat)), G) := by
    rw [enumD_iD]
    refine lcL_mapI _ fun p _ => ⟨_, rfl, ?_⟩
    simp only [lz, cz]
    rw [Int.zero_add]
  generalize hr : hs.zipIdx.map (fun p : Int × Nat => p.1 - (p.2 : Nat)) = raised at e1
  have hrl : raised.length = hs.length := by rw [← hr, List.length_map, List.length_zipIdx]
  have h0 : (iD raised).reverse = iD raised.reverse := by simp [iD]
  have e2 : lcL (.nm 5) (cTv (cBin (vb gtI) (cVar 5) (cC (.int 0)))) (cVar 5) (runT T j) [.v (.lst (iD hs)), .v (.lst (iD raised)), .no, .no, .no, .no] (iD raised.reverse) G = some (iD ((raised.reverse.filter fun p => decide (0 < p)).map id), G) :=
    lcL_filterI _ fun p _ => ⟨_, rfl, by simp only [lz, cz], fun _ => by simp only [lz, cz, id]⟩
  have h1 : hs.length ≤ 1000000 := by omega
  have h2 : raised.reverse.length ≤ 1000000 := by rw [List.length_reverse]; omega
  have er : threadOn hs = raised.reverse.filter fun p => decide (0 < p) := by unfold threadOn; rw [hr]
  simp only [lz, cz, d_thread_on, h1, e1, h0, h2, e2, List.map_id, er]
def threadList (row : List Int) (r : Nat) : List (List Int) := (List.range r).map fun x : Nat => threadOn (heights (places row r) r x)
theorem f_threads {k : Nat} (hk : 6 ≤ k) (row : List Int) (r : Nat) (hr : 2 ≤ r ∧ r ≤ 9) (h : okRow row = true) (hl : row.length ≤ 1000) (G : Sto) : runT T k 21 [.tup (iD row), .int r] G = some (.d (.tup (tups (threadList row r))), G) := callT (by omega) rfl fun j e => by
  have c1 := @f_check_row j (by omega) row h hl G
  have c2 := @f_check_rods j (by omega) r G (by omega)
  have c3 : runT T j 20 [.tup (iD row), .int r] G = some (.d (.tup (tups (threadList row r))), G) := callT (by omega) rfl fun i e2 => by
    have c1 := @f_places_in i (by omega) row r (by omega) hl G
    have hp := places_len row r (by omega) hl
    have et : threadList row r = (List.range r).map fun x : Nat => threadOn (heights (places row r) r x) := rfl
    generalize hps : places row r = ps at *
    have c2 := fun x => @f_heights_on i (by omega) ps r x (by omega) (by omega) G
    have c3 := fun (l : List Int) (hl : l.length ≤ 100000) => @f_thread_on i (by omega) l hl G
    have e1 : lcL (.nm 4) cYes (cCall 19 (cCons (cCall 16 (cCons (cVar 2) (cCons (cVar 1) (cCons (cVar 4) cNil))) []) cNil) []) (runT T i) [.v (.tup (iD row)), .v (.int r), .v (.lst (iD ps)), .no, .no] (rangeI 0 r) G = some (tups (threadList row r), G) := by
      rw [rangeI_map, et]
      unfold tups
      rw [List.map_map]
      refine lcL_mapD _ fun x _ => ⟨_, rfl, ?_⟩
      have h0 : (0 : Int) + (x : Nat) = x := by omega
      simp only [lz, cz, h0, c2, c3 _ (Nat.le_trans (heights_len ps r x) (by omega)), Function.comp]
    have h1 : rgOk (r : Int) = true := rgOk_of (by omega)
    have h2 : (r : Int).toNat = r := Int.toNat_natCast _
    have h3 : (rangeI 0 r).length ≤ 1000000 := by rw [rangeI_len]; omega
    simp only [lz, cz, d_thread_list, c1, h1, h2, h3, e1]
  simp only [lz, cz, d_threads, c1, c2, c3]
end K85

namespace K85
open PySem PySem.Spec PyProof.Rows L2 Lp
/-! ### counts by fives' numbers -/
def g1 (k : Int) : Int := k * (3 * k - 1) / 2
def g2 (k : Int) : Int := k * (3 * k + 1) / 2
def sg (k : Int) : Int := if k % 2 = 1 then 1 else -1
theorem g_le {k : Int} (h : 1 ≤ k) : k ≤ g1 k ∧ g1 k ≤ g2 k := by
  have e : k ≤ k * k := by
    have := Int.mul_le_mul_of_nonneg_left h (show 0 ≤ k by omega)
    rw [Int.mul_one] at this
    exact this
  unfold g1 g2
  have e1 : k * (3 * k - 1) = 3 * (k * k) - k := by rw [Int.mul_sub, Int.mul_left_comm, Int.mul_one]
  have e2 : k * (3 * k + 1) = 3 * (k * k) + k := by rw [Int.mul_add, Int.mul_left_comm, Int.mul_one]
  rw [e1, e2]
  omega
def step (k : Int) (t : Nat) (l : List Int) (w : Int) : Int :=
  let w1 := w + sg k * l.getD (t - g1 k).toNat 0
  if g2 k ≤ t then w1 + sg k * l.getD (t - g2 k).toNat 0 else w1
def pentF : Nat → Int → Nat → List Int → Int → Int
  | 0, _, _, _, w => w
  | f + 1, k, t, l, w => if g1 k ≤ t then pentF f (k + 1) t l (step k t l w) else w
def pcounts : Nat → List Int
  | 0 => [1]
  | n + 1 => pcounts n ++ [pentF (n + 2) 1 (n + 1) (pcounts n) 0]
theorem pcounts_len : ∀ n, (pcounts n).length = n + 1
  | 0 => rfl
  | n + 1 => by unfold pcounts; rw [List.length_append, pcounts_len n]; rfl
abbrev wC : FnT := cTv (cBin (vb leI) (cBin fdivR (cBin mulR (cVar 4) (cBin subR (cBin mulR (cC (.int 3)) (cVar 4)) (cC (.int 1)))) (cC (.int 2))) (cVar 2))
abbrev wB : SFn := sSeq (sAsg .val 5 (cIf (cTv (cBin (vb eqR) (cBin modR (cUnG intR (cVar 4)) (cC (.int 2))) (cC (.int 1)))) (cC (.int 1)) (cUn negR (cC (.int 1))))) (sSeq (sAsg .val 3 (cBin addR (cVar 3) (cBin mulR (cVar 5) (cBinG ixG (cVar 1) (cBin subR (cVar 2) (cBin fdivR (cBin mulR (cVar 4) (cBin subR (cBin mulR (cC (.int 3)) (cVar 4)) (cC (.int 1)))) (cC (.int 2)))))))) (sSeq (sIf (cTv (cBin (vb leI) (cBin fdivR (cBin mulR (cVar 4) (cBin addR (cBin mulR (cC (.int 3)) (cVar 4)) (cC (.int 1)))) (cC (.int 2))) (cVar 2))) (sAsg .val 3 (cBin addR (cVar 3) (cBin mulR (cVar 5) (cBinG ixG (cVar 1) (cBin subR (cVar 2) (cBin fdivR (cBin mulR (cVar 4) (cBin addR (cBin mulR (cC (.int 3)) (cVar 4)) (cC (.int 1)))) (cC (.int 2)))))))) (sNext)) (sAsg .val 4 (cBin addR (cVar 4) (cC (.int 1))))))
theorem negR_i (i : Int) : negR (.d (.int i)) = some (.d (.int (-i))) := rfl
theorem wB_ok (cf : CF) (n : Int) (l : List Int) (t : Nat) (w k : Int) (s : Sl) (G : Sto) (hk : 1 ≤ k ∧ k ≤ 100000) (ht : t ≤ l.length) (hg : g1 k ≤ t) :
    wB cf [.v (.int n), .own (.lst (iD l)), .v (.int t), .v (.int w), .v (.int k), s] G = some (.nx [.v (.int n), .own (.lst (iD l)), .v (.int t), .v (.int (step k t l w)), .v (.int (k + 1)), .v (.int (sg k))] G) := by
  have hl := g_le hk.1
  have o1 : mulOkI (3 : Int) k = true := mulOk_of (by omega)
  have o2 : ∀ x, mulOkI k x = true := fun x => mulOk_of (by omega)
  have o3 : ∀ x, mulOkI (sg k) x = true := fun x => mulOk_of (by unfold sg; split <;> omega)
  have d2 : divOk 2 = true := divOk_of (by omega)
  have p2 : ((0 : Int) < 2) = True := by simp
  have i1 : ∀ G, ixG (.bor 1 (.lst (iD l))) (.d (.int ((t : Int) - g1 k))) G = some (.d (.int (l.getD ((t : Int) - g1 k).toNat 0))) := fun G => ixG_lst _ (.inr (.inl ⟨1, rfl⟩)) (by omega) (by omega)
  have i2 : g2 k ≤ t → ∀ G, ixG (.bor 1 (.lst (iD l))) (.d (.int ((t : Int) - g2 k))) G = some (.d (.int (l.getD ((t : Int) - g2 k).toNat 0))) := fun h G => ixG_lst _ (.inr (.inl ⟨1, rfl⟩)) (by omega) (by omega)
  have e1 : k * (3 * k - 1) / 2 = g1 k := rfl
  have e2 : k * (3 * k + 1) / 2 = g2 k := rfl
  have es : ∀ G : Sto, (if (k % 2 = 1) then some (R.d (.int 1), G) else some (R.d (.int (-1)), G)) = some (R.d (.int (sg k)), G) := fun G => by unfold sg; split <;> rfl
  by_cases h2 : g2 k ≤ t
  · have h2' : (g2 k ≤ (t : Int)) = True := eq_true h2
    have est : step k t l w = w + sg k * l.getD (t - g1 k).toNat 0 + sg k * l.getD (t - g2 k).toNat 0 := by unfold step; rw [if_pos h2]
    simp only [lz, cz, negR_i, o1, o2, d2, p2, e1, e2, es, o3, i1, i2 h2, h2', est]
  · have h2' : (g2 k ≤ (t : Int)) = False := eq_false h2
    have est : step k t l w = w + sg k * l.getD (t - g1 k).toNat 0 := by unfold step; rw [if_neg h2]
    simp only [lz, cz, negR_i, o1, o2, d2, p2, e1, e2, es, o3, i1, h2', est]
theorem wC_ok (cf : CF) (n : Int) (l : List Int) (t : Nat) (w k : Int) (s : Sl) (G : Sto) (hk : 1 ≤ k ∧ k ≤ 100000) :
    wC cf [.v (.int n), .own (.lst (iD l)), .v (.int t), .v (.int w), .v (.int k), s] G = some (decide (g1 k ≤ t), G) := by
  have o1 : mulOkI (3 : Int) k = true := mulOk_of (by omega)
  have o2 : ∀ x, mulOkI k x = true := fun x => mulOk_of (by omega)
  have d2 : divOk 2 = true := divOk_of (by omega)
  have e1 : k * (3 * k - 1) / 2 = g1 k := rfl
  simp only [lz, cz, o1, o2, d2, e1]
theorem while_ok (cf : CF) (n : Int) (l : List Int) (t : Nat) (G : Sto) (ht : t ≤ l.length) (ht2 : t ≤ 1000) : ∀ (f N : Nat) (w k : Int) (s : Sl), 1 ≤ k → (t : Int) < k + f → k + f ≤ 3000 → f < N →
    ∃ k' s', whileL wC wB cf N [.v (.int n), .own (.lst (iD l)), .v (.int t), .v (.int w), .v (.int k), s] G = some (.nx [.v (.int n), .own (.lst (iD l)), .v (.int t), .v (.int (pentF f k t l w)), .v (.int k'), s'] G)
  | 0, N + 1, w, k, s, h1, h2, h3, _ => by
    have hl := (g_le h1).1
    refine ⟨k, s, ?_⟩
    unfold whileL
    rw [wC_ok cf n l t w k s G ⟨h1, by omega⟩, decide_eq_false (by omega)]
    rfl
  | f + 1, N + 1, w, k, s, h1, h2, h3, h4 => by
    unfold whileL
    rw [wC_ok cf n l t w k s G ⟨h1, by omega⟩]
    by_cases hg : g1 k ≤ t
    · obtain ⟨k', s', e⟩ := while_ok cf n l t G ht ht2 f N (step k t l w) (k + 1) (.v (.int (sg k))) (by omega) (by omega) (by omega) (by omega)
      refine ⟨k', s', ?_⟩
      rw [decide_eq_true hg]
      have ep : pentF (f + 1) k t l w = pentF f (k + 1) t l (step k t l w) := by rw [pentF]; rw [if_pos hg]
      rw [ep]
      simp only [Option.bind_some]
      rw [wB_ok cf n l t w k s G ⟨h1, by omega⟩ ht hg]
      exact e
    · refine ⟨k, s, ?_⟩
      rw [decide_eq_false hg]
      have ep : pentF (f + 1) k t l w = w := by rw [pentF]; rw [if_neg hg]
      rw [ep]
      rfl
theorem f_all_counts {k : Nat} (hk : 1 ≤ k) (n : Nat) (hn : n ≤ 400) (G : Sto) : runT T k 9 [.int n] G = some (.tmp (.lst (iD (pcounts n))), G) := callT (by omega) rfl fun j e => by
  obtain ⟨ρ', G', e1, rfl, a, b, c, d, e2⟩ := forL_inv (cf := runT T j) (tg := .nm 2) (f := fun x : Nat => D.int (1 + (x : Nat)))
    (body := sSeq (sPar [(.val, 3), (.val, 4)] (rCons (cC (.int 0)) (rCons (cC (.int 1)) (rNil)))) (sSeq (sWhile 1000000 wC wB) (sApp (cVar 1) (cVar 3))))
    (I := fun i ρ G' => G' = G ∧ ∃ a b c d, ρ = [.v (.int n), .own (.lst (iD (pcounts i))), a, b, c, d])
    (List.range n) 0 [.v (.int n), .own (.lst (iD [1])), .no, .no, .no, .no] G ⟨rfl, _, _, _, _, rfl⟩ (fun i x ρ G' hi hI => by
      obtain ⟨rfl, a, b, c, d, rfl⟩ := hI
      rw [Nat.zero_add] at *
      obtain ⟨hi1, hi2⟩ := List.getElem?_eq_some_iff.mp hi
      rw [List.getElem_range] at hi2
      subst hi2
      rw [List.length_range] at hi1
      have hl := pcounts_len i
      have ex : (1 : Int) + (i : Nat) = ((i + 1 : Nat) : Int) := by omega
      obtain ⟨k', s', ew⟩ := while_ok (runT T j) n (pcounts i) (i + 1) G' (by omega) (by omega) (i + 2) 1000000 0 1 d (by omega) (by omega) (by omega) (by omega)
      have h1 : (pcounts i).length < sz := by rw [hl, sz_eq]; omega
      refine ⟨_, [.v (.int n), .own (.lst (iD (pcounts (i + 1)))), .v (.int ((i + 1 : Nat) : Int)), .v (.int (pentF (i + 2) 1 (i + 1) (pcounts i) 0)), .v (.int k'), s'], _, rfl, .inl ?_, rfl, _, _, _, _, rfl⟩
      have ea : iD (pcounts i) ++ [D.int (pentF (i + 2) 1 (i + 1) (pcounts i) 0)] = iD (pcounts (i + 1)) := by
        rw [pcounts]; simp [iD]
      simp only [lz, cz, ex, ew, h1, ea])
  have h1 : rgOk 1 = true := rgOk_of (by omega)
  have h2 : rgOk ((n : Int) + 1) = true := rgOk_of (by omega)
  have h3 : ((n : Int) + 1 - 1).toNat = n := by omega
  have h4 : iD [1] = [.int 1] := rfl
  rw [h4, ← rangeI_map] at e1
  rw [Nat.zero_add, List.length_range] at e2
  subst e2
  have hd : d_all_counts = sSeq (sAsg .own 1 (cLst (cCons (cC (.int 1)) (cNil)))) (sSeq (sFor (cRng2 (cCons (cC (.int 1)) (cCons (cBin addR (cVar 0) (cC (.int 1))) (cNil)))) (.nm 2) (sSeq (sPar [(.val, 3), (.val, 4)] (rCons (cC (.int 0)) (rCons (cC (.int 1)) (rNil)))) (sSeq (sWhile 1000000 wC wB) (sApp (cVar 1) (cVar 3))))) (sRet (cVar 1))) := rfl
  simp only [hd]
  simp only [lz, cz, h1, h2, h3]
  rw [e1]
  simp only [lz, cz]
theorem f_count_all {k : Nat} (hk : 5 ≤ k) (n : Nat) (hn : n ≤ 400) (G : Sto) : runT T k 12 [.int n] G = some (.d (.int ((pcounts n).getD n 0)), G) := callT (by omega) rfl fun j e => by
  have c1 := @f_check_number j (by omega) n G (by omega)
  have c2 := @f_all_counts j (by omega) n hn G
  have i1 := ixG_lst (r := .tmp (.lst (iD (pcounts n)))) (G := G) (i := (n : Int)) n (.inr (.inr rfl)) rfl (by rw [pcounts_len]; omega)
  simp only [lz, cz, d_count_all, c1, c2, i1]
end K85

namespace K85
open PySem PySem.Spec PyProof.Rows L2 Lp
theorem rangeC_map : ∀ (n : Nat) (lo c : Int), rangeC lo c n = (List.range n).map fun k : Nat => D.int (lo + (k : Nat) * c)
  | 0, _, _ => rfl
  | n + 1, lo, c => by
    show D.int lo :: rangeC (lo + c) c n = _
    rw [rangeC_map n, List.range_succ_eq_map, List.map_cons, List.map_map]
    congr 1
    · simp
    · apply List.map_congr_left
      intro k _
      simp only [Function.comp, D.int.injEq]
      have : ((k.succ : Nat) : Int) * c = k * c + c := by
        rw [Nat.succ_eq_add_one, Int.natCast_add, Int.add_mul]
        simp
      omega
theorem set_map {β : Type} (f : Nat → β) (n k : Nat) (v : β) : ((List.range n).map f).set k v = (List.range n).map fun t => if t = k then v else f t := by
  apply List.ext_getElem?
  intro t
  by_cases h : t = k
  · subst h
    by_cases ht : t < n
    · rw [List.getElem?_set_self (by simpa using ht)]
      simp [ht]
    · rw [List.getElem?_eq_none (by simpa using Nat.le_of_not_lt ht), List.getElem?_eq_none (by simpa using Nat.le_of_not_lt ht)]
  · rw [List.getElem?_set_ne (Ne.symm h)]
    by_cases ht : t < n
    · simp [ht, h]
    · simp [ht]
theorem getD_map (f : Nat → Int) {n k : Nat} (h : k < n) : ((List.range n).map f).getD k 0 = f k := by
  simp [List.getD, h]
/-- sums over divisors, the first j of them -/
def sdv (a : Nat → Int) : Nat → Nat → Int
  | 0, _ => 0
  | j + 1, t => sdv a j t + if (t + 1) % (j + 1) = 0 then ((j + 1 : Nat) : Int) * a j else 0
theorem sdv_more (a : Nat → Int) (t : Nat) : ∀ j, sdv a (t + 1 + j) t = sdv a (t + 1) t
  | 0 => rfl
  | j + 1 => by
    rw [show t + 1 + (j + 1) = (t + 1 + j) + 1 by omega, sdv, sdv_more a t j, if_neg, Int.add_zero]
    rw [Nat.mod_eq_of_lt (by omega)]
    omega
theorem f_sums_by_divisors {k : Nat} (hk : 1 ≤ k) (a : Nat → Int) (n : Nat) (hn : n ≤ 1000) (G : Sto) : runT T k 10 [.lst (iD ((List.range n).map a))] G = some (.tmp (.lst (iD ((List.range n).map fun t => sdv a n t))), G) := callT (by omega) rfl fun j e => by
  have hall : ((List.range n).map a).length = n := by simp
  generalize hA : (List.range n).map a = as at *
  have ea : enumD 1 (iD as) = (List.range n).map fun i : Nat => D.tup [.int (1 + (i : Nat)), .int (a i)] := by
    rw [enumD_iD, ← hA]
    apply List.ext_getElem?
    intro i
    by_cases hi : i < n
    · simp [hi]
    · simp [hi]
  obtain ⟨ρ', G', e1, rfl, x, y, z, e2⟩ := forL_inv (cf := runT T j) (tg := .tup [2, 3]) (f := fun i : Nat => D.tup [.int (1 + (i : Nat)), .int (a i)])
    (body := sFor (cRng3 (cCons (cVar 2) (cCons (cBin addR (cUnG lenR (cVar 0)) (cC (.int 1))) (cCons (cVar 2) (cNil))))) (.nm 4) (sAsgG (gSb (cVar 1) (cBin subR (cVar 4) (cC (.int 1)))) (cBin addR (cBinG ixG (cVar 1) (cBin subR (cVar 4) (cC (.int 1)))) (cBin mulR (cVar 2) (cVar 3)))))
    (I := fun i ρ G' => G' = G ∧ ∃ x y z, ρ = [.v (.lst (iD as)), .own (.lst (iD ((List.range n).map fun t => sdv a i t))), x, y, z])
    (List.range n) 0 [.v (.lst (iD as)), .own (.lst (iD ((List.range n).map fun t => sdv a 0 t))), .no, .no, .no] G ⟨rfl, _, _, _, rfl⟩ (fun i x ρ G' hi hI => by
      obtain ⟨rfl, x1, y1, z1, rfl⟩ := hI
      rw [Nat.zero_add] at *
      obtain ⟨hi1, hi2⟩ := List.getElem?_eq_some_iff.mp hi
      rw [List.getElem_range] at hi2
      subst hi2
      rw [List.length_range] at hi1
      have ex : (1 : Int) + (i : Nat) = ((i + 1 : Nat) : Int) := by omega
      have hdm := Nat.div_add_mod n (i + 1)
      have hml := Nat.mod_lt n (show 0 < i + 1 by omega)
      have hq1 : 1 ≤ n / (i + 1) := (Nat.le_div_iff_mul_le (by omega)).mpr (by omega)
      generalize hq : n / (i + 1) = q at *
      obtain ⟨s, el⟩ := forL_st (cf := runT T j) (i := 4) (f := fun m : Nat => D.int (((i + 1 : Nat) : Int) + (m : Nat) * ((i + 1 : Nat) : Int)))
        (body := sAsgG (gSb (cVar 1) (cBin subR (cVar 4) (cC (.int 1)))) (cBin addR (cBinG ixG (cVar 1) (cBin subR (cVar 4) (cC (.int 1)))) (cBin mulR (cVar 2) (cVar 3))))
        (env := fun m s => [.v (.lst (iD as)), .own (.lst (iD ((List.range n).map fun t => sdv a i t + if (t + 1) % (i + 1) = 0 ∧ t + 1 ≤ m * (i + 1) then ((i + 1 : Nat) : Int) * a i else 0))), .v (.int ((i + 1 : Nat) : Int)), .v (.int (a i)), s])
        (st := fun _ => G') (List.range q) z1 (fun m m' s hm => by
          obtain ⟨hm1, hm2⟩ := List.getElem?_eq_some_iff.mp hm
          rw [List.getElem_range] at hm2
          subst hm2
          rw [List.length_range] at hm1
          have hmq : (m + 1) * (i + 1) ≤ n := by
            have : (m + 1) * (i + 1) ≤ q * (i + 1) := Nat.mul_le_mul_right _ hm1
            rw [Nat.mul_comm q] at this
            omega
          have eix : ((i + 1 : Nat) : Int) + (m : Nat) * ((i + 1 : Nat) : Int) - 1 = (((m + 1) * (i + 1) - 1 : Nat) : Int) := by
            have h1 : ((m + 1) * (i + 1) : Nat) = (i + 1) + m * (i + 1) := by rw [Nat.add_mul]; omega
            rw [h1]
            have : (((i + 1) + m * (i + 1) : Nat) : Int) = ((i + 1 : Nat) : Int) + (m : Nat) * ((i + 1 : Nat) : Int) := by push_cast; rfl
            omega
          have hpos : 1 ≤ (m + 1) * (i + 1) := Nat.mul_pos (by omega) (by omega)
          have hlt : (m + 1) * (i + 1) - 1 < n := by omega
          have i1 := fun G => ixG_lst (r := .bor 1 (.lst (iD ((List.range n).map fun t => sdv a i t + if (t + 1) % (i + 1) = 0 ∧ t + 1 ≤ m * (i + 1) then ((i + 1 : Nat) : Int) * a i else 0)))) (G := G) ((m + 1) * (i + 1) - 1) (.inr (.inl ⟨1, rfl⟩)) eix (by simpa using hlt)
          rw [getD_map _ hlt] at i1
          have o1 : mulOkI ((i + 1 : Nat) : Int) (a i) = true := mulOk_of (by omega)
          have ix : ixN n (((i + 1 : Nat) : Int) + (m : Nat) * ((i + 1 : Nat) : Int) - 1) = some ((m + 1) * (i + 1) - 1) := by rw [eix]; exact ixN_nat hlt
          have iset : ∀ (l : List Int) (k : Nat) (v : Int), (iD l).set k (.int v) = iD (l.set k v) := fun l k v => by unfold iD; rw [List.map_set]
          have e3 : ((m + 1) * (i + 1) - 1 + 1) = (m + 1) * (i + 1) := by omega
          have c0 : ((m + 1) * (i + 1)) % (i + 1) = 0 := Nat.mul_mod_left _ _
          have c1 : ¬ ((m + 1) * (i + 1) ≤ m * (i + 1)) := by rw [Nat.add_mul]; omega
          simp only [lz, cz, i1, o1, List.length_map, List.length_range, ix, iset, set_map]
          congr 7
          apply List.map_congr_left
          intro t ht
          by_cases h : t = (m + 1) * (i + 1) - 1
          · subst h
            rw [if_pos rfl, e3, if_neg (by rintro ⟨_, h⟩; exact c1 h), if_pos ⟨c0, Nat.le_refl _⟩]
            omega
          · rw [if_neg h]
            congr 1
            by_cases hc : (t + 1) % (i + 1) = 0
            · have : t + 1 ≤ m * (i + 1) ↔ t + 1 ≤ (m + 1) * (i + 1) := by
                constructor
                · intro hh
                  rw [Nat.add_mul]; omega
                · intro hh
                  obtain ⟨w, hw⟩ := Nat.dvd_of_mod_eq_zero hc
                  have hne : t + 1 ≠ (m + 1) * (i + 1) := by omega
                  have hw' : t + 1 = w * (i + 1) := by rw [Nat.mul_comm]; exact hw
                  rw [hw'] at hh hne ⊢
                  have : w ≤ m + 1 := Nat.le_of_mul_le_mul_right hh (by omega)
                  have : w ≠ m + 1 := fun z => hne (by rw [z])
                  exact Nat.mul_le_mul_right _ (by omega)
              simp only [hc, true_and, this]
            · simp only [hc, false_and])
      rw [List.length_range] at el
      have em : (List.range q).map (fun m : Nat => D.int (((i + 1 : Nat) : Int) + (m : Nat) * ((i + 1 : Nat) : Int))) = rangeC ((i + 1 : Nat) : Int) ((i + 1 : Nat) : Int) q := (rangeC_map q _ _).symm
      have env0 : (List.range n).map (fun t => sdv a i t + if (t + 1) % (i + 1) = 0 ∧ t + 1 ≤ 0 * (i + 1) then ((i + 1 : Nat) : Int) * a i else 0) = (List.range n).map fun t => sdv a i t := by
        apply List.map_congr_left
        intro t _
        rw [if_neg (by omega), Int.add_zero]
      have envq : (List.range n).map (fun t => sdv a i t + if (t + 1) % (i + 1) = 0 ∧ t + 1 ≤ q * (i + 1) then ((i + 1 : Nat) : Int) * a i else 0) = (List.range n).map fun t => sdv a (i + 1) t := by
        apply List.map_congr_left
        intro t ht
        rw [List.mem_range] at ht
        rw [sdv]
        congr 1
        by_cases hc : (t + 1) % (i + 1) = 0
        · have hle : t + 1 ≤ q * (i + 1) := by
            obtain ⟨w, hw⟩ := Nat.dvd_of_mod_eq_zero hc
            have : w ≤ q := by
              rw [← hq]
              exact (Nat.le_div_iff_mul_le (by omega)).mpr (by rw [Nat.mul_comm]; omega)
            rw [hw, Nat.mul_comm (i + 1)]
            exact Nat.mul_le_mul_right _ this
          rw [if_pos hc, if_pos ⟨hc, hle⟩]
        · rw [if_neg hc, if_neg (fun h => hc h.1)]
      rw [em, env0, envq] at el
      have hrs : (Builtin.Range.rangeSize ((i + 1 : Nat) : Int) ((n : Nat) + 1) ((i + 1 : Nat) : Int)) = q := by
        have g1 : ((i + 1 : Nat) : Int) > 0 := by omega
        have g2 : ((i + 1 : Nat) : Int) < (n : Int) + 1 := by omega
        unfold Builtin.Range.rangeSize
        rw [if_pos g1, if_pos g2]
        have h1 : ((n : Int) + 1 - ((i + 1 : Nat) : Int) - 1) = ((n - (i + 1) : Nat) : Int) := by omega
        rw [h1, ← Int.natCast_ediv]
        have h2 : (n - (i + 1)) / (i + 1) + 1 = q := by
          rw [← hq]
          have := Nat.add_div_right (n - (i + 1)) (show 0 < i + 1 by omega)
          rw [show n - (i + 1) + (i + 1) = n by omega] at this
          omega
        rw [← h2]
        rfl
      have hqn : q ≤ n := by rw [← hq]; exact Nat.div_le_self _ _
      have hsm : Builtin.Range.small ((i + 1 : Nat) : Int) ((n : Nat) + 1) ((i + 1 : Nat) : Int) = true := by
        unfold Builtin.Range.small
        rw [hrs, if_pos (by omega)]
        unfold Builtin.Range.rangeFitsLong
        simp only [Bool.and_eq_true, Bool.or_eq_true, decide_eq_true_eq]
        omega
      have r1 : rgOk ((i + 1 : Nat) : Int) = true := rgOk_of (by omega)
      have r2 : rgOk ((n : Nat) + 1 : Int) = true := rgOk_of (by omega)
      have r3 : ((((i + 1 : Nat) : Int) = -1) : Prop) = False := eq_false (by omega)
      have r4 : ((((i + 1 : Nat) : Int) ≠ 0) : Prop) = True := eq_true (by omega)
      have r5 : ((((i + 1 : Nat) : Int).natAbs < 1073741824) : Prop) = True := eq_true (by omega)
      have r6 : ((q : Nat) : Int).toNat = q := Int.toNat_natCast q
      refine ⟨_, [.v (.lst (iD as)), .own (.lst (iD ((List.range n).map fun t => sdv a (i + 1) t))), .v (.int ((i + 1 : Nat) : Int)), .v (.int (a i)), s], _, rfl, .inl ?_, rfl, _, _, _, rfl⟩
      simp only [lz, cz, ex, hall, r1, r2, r3, r4, r5, hsm, hrs, r6, z_af, z_at, Bool.and_false, Bool.and_true]
      exact el)
  rw [Nat.zero_add, List.length_range] at e2
  subst e2
  have r0 : repOk 1 (n : Int) = true := by
    unfold repOk
    simp only [Bool.and_eq_true, decide_eq_true_eq, sz_eq]
    omega
  have r1 : rgOk 1 = true := rgOk_of (by omega)
  have e0 : (List.replicate ((n : Int)).toNat [D.int 0]).flatten = iD ((List.range n).map fun t => sdv a 0 t) := by
    rw [iD_rep, Int.toNat_natCast]
    congr 1
    apply List.ext_getElem?
    intro t
    by_cases ht : t < n
    · simp [ht, sdv]
    · simp [ht]
  have h4 : 0 + 1 = 1 := rfl
  simp only [lz, cz, d_sums_by_divisors, h4, hall, r0, e0, r1, ea]
  rw [e1]
  simp only [lz, cz]
end K85

namespace K85
open PySem PySem.Spec PyProof.Rows L2 Lp
def exc (f : Nat → Int) : Nat → List Int
  | 0 => [1]
  | i + 1 => exc f i ++ [((List.range (i + 1)).map fun k => f k * (exc f i).getD (i - k) 0).sum / ((i + 1 : Nat) : Int)]
theorem exc_len (f : Nat → Int) : ∀ n, (exc f n).length = n + 1
  | 0 => rfl
  | n + 1 => by unfold exc; rw [List.length_append, exc_len f n]; rfl
theorem exc_congr {f g : Nat → Int} : ∀ {n : Nat}, (∀ t, t < n → f t = g t) → exc f n = exc g n
  | 0, _ => rfl
  | n + 1, h => by
    unfold exc
    rw [exc_congr fun t ht => h t (by omega)]
    congr 4
    apply List.map_congr_left
    intro k hk
    rw [List.mem_range] at hk
    rw [h k hk]
theorem exc_get (f : Nat → Int) {n : Nat} : ∀ {m : Nat}, n ≤ m → (exc f m).getD n 0 = (exc f n).getD n 0
  | 0, h => by rw [Nat.le_zero.mp h]
  | m + 1, h => by
    by_cases e : n = m + 1
    · rw [e]
    · rw [← exc_get f (n := n) (m := m) (by omega)]
      rw [exc]
      unfold List.getD
      rw [List.getElem?_append_left (by rw [exc_len]; omega)]
theorem f_counts_by_excesses {k : Nat} (hk : 2 ≤ k) (a : Nat → Int) (n : Nat) (hn : n ≤ 400) (hB : ∀ t, t < n → -1000000000 ≤ sdv a n t ∧ sdv a n t ≤ 1000000000) (G : Sto) : runT T k 11 [.lst (iD ((List.range n).map a))] G = some (.tmp (.lst (iD (exc (fun t => sdv a n t) n))), G) := callT (by omega) rfl fun j e => by
  have c1 := @f_sums_by_divisors j (by omega) a n (by omega) G
  have hall : ((List.range n).map a).length = n := by simp
  generalize hA : (List.range n).map a = as at *
  have hB : ∀ t, t < n → -1000000000 ≤ (fun t => sdv a n t) t ∧ (fun t => sdv a n t) t ≤ 1000000000 := hB
  generalize hf : (fun t => sdv a n t) = f at *
  obtain ⟨s, e1⟩ := forL_st (cf := runT T j) (i := 3) (f := fun x : Nat => D.int (1 + (x : Nat)))
    (body := sApp (cVar 2) (cBin fdivR (cUnG sumR (cLc [4, 5] (cRng2 (cCons (cC (.int 1)) (cCons (cBin addR (cVar 3) (cC (.int 1))) (cNil)))) (.nm 5) (cYes) (cBin mulR (cBinG ixG (cVar 1) (cBin subR (cVar 5) (cC (.int 1)))) (cBinG ixG (cVar 2) (cBin subR (cVar 3) (cVar 5)))))) (cVar 3)))
    (env := fun i s => [.v (.lst (iD as)), .v (.lst (iD ((List.range n).map f))), .own (.lst (iD (exc f i))), s, .no, .no]) (st := fun _ => G) (List.range n) .no (fun i i' s hi => by
      obtain ⟨hi1, hi2⟩ := List.getElem?_eq_some_iff.mp hi
      rw [List.getElem_range] at hi2
      subst hi2
      rw [List.length_range] at hi1
      have ex : (1 : Int) + (i : Nat) = ((i + 1 : Nat) : Int) := by omega
      have hle := exc_len f i
      have el : lcL (.nm 5) cYes (cBin mulR (cBinG ixG (cVar 1) (cBin subR (cVar 5) (cC (.int 1)))) (cBinG ixG (cVar 2) (cBin subR (cVar 3) (cVar 5)))) (runT T j) [.v (.lst (iD as)), .v (.lst (iD ((List.range n).map f))), .own (.lst (iD (exc f i))), .v (.int ((i + 1 : Nat) : Int)), .no, .no] (rangeI 1 (i + 1)) G = some (iD ((List.range (i + 1)).map fun k => f k * (exc f i).getD (i - k) 0), G) := by
        rw [rangeI_map]
        refine lcL_mapI _ fun k hk => ⟨_, rfl, ?_⟩
        rw [List.mem_range] at hk
        have e5 : (1 : Int) + (k : Nat) - 1 = k := by omega
        have e6 : ((i + 1 : Nat) : Int) - (1 + (k : Nat)) = ((i - k : Nat) : Int) := by omega
        have i1 := fun G => ixG_lst (r := .d (.lst (iD ((List.range n).map f)))) (G := G) (i := (k : Int)) k (.inl rfl) rfl (by simp; omega)
        rw [getD_map _ (by omega)] at i1
        have i2 := fun G => ixG_lst (r := .bor 2 (.lst (iD (exc f i)))) (G := G) (i := ((i - k : Nat) : Int)) (i - k) (.inr (.inl ⟨_, rfl⟩)) rfl (by omega)
        have o1 : mulOkI (f k) ((exc f i).getD (i - k) 0) = true := mulOk_of (hB k (by omega))
        simp only [lz, cz, e5, e6, i1, i2, o1]
      have h1 : rgOk 1 = true := rgOk_of (by omega)
      have h2 : rgOk (((i + 1 : Nat) : Int) + 1) = true := rgOk_of (by omega)
      have h3 : (((i + 1 : Nat) : Int) + 1 - 1).toNat = i + 1 := by omega
      have h4 : (rangeI 1 (i + 1)).length ≤ 1000000 := by rw [rangeI_len]; omega
      have h5 : divOk ((i + 1 : Nat) : Int) = true := divOk_of (by omega)
      have h6 : (exc f i).length < sz := by rw [hle, sz_eq]; omega
      have h7 : iD (exc f i) ++ [D.int (((List.range (i + 1)).map fun k => f k * (exc f i).getD (i - k) 0).sum / ((i + 1 : Nat) : Int))] = iD (exc f (i + 1)) := by
        rw [exc]; simp [iD]
      simp only [lz, cz, ex, h1, h2, h3, h4, el, h5, h6, h7])
  rw [← rangeI_map, List.length_range] at e1
  have h1 : rgOk 1 = true := rgOk_of (by omega)
  have h2 : rgOk ((n : Int) + 1) = true := rgOk_of (by omega)
  have h3 : ((n : Int) + 1 - 1).toNat = n := by omega
  have h4 : iD (exc f 0) = [.int 1] := rfl
  rw [h4] at e1
  simp only [lz, cz, d_counts_by_excesses, c1, hall, h1, h2, h3]
  rw [e1]
  simp only [lz, cz]
end K85

namespace K85
open PySem PySem.Spec PyProof.Rows L2 Lp
def am (r : Nat) (t : Nat) : Int := if (t + 1) % r = 0 then 1 - r else 1
def kn (a : Nat → Int) (t : Nat) : Int := sdv a (t + 1) t
theorem sdv_bound {a : Nat → Int} (ha : ∀ t, -10 ≤ a t ∧ a t ≤ 10) (t : Nat) : ∀ j : Nat, j ≤ 400 → -(4000 * (j : Int)) ≤ sdv a j t ∧ sdv a j t ≤ 4000 * (j : Int)
  | 0, _ => by simp [sdv]
  | j + 1, h => by
    have ih := sdv_bound ha t j (by omega)
    rw [sdv]
    have h1 : ((j + 1 : Nat) : Int) * a j ≤ 4000 := by
      have h2 : ((j + 1 : Nat) : Int) * a j ≤ ((j + 1 : Nat) : Int) * 10 := Int.mul_le_mul_of_nonneg_left (ha j).2 (by omega)
      omega
    have h3 : -4000 ≤ ((j + 1 : Nat) : Int) * a j := by
      have h2 : ((j + 1 : Nat) : Int) * (-10) ≤ ((j + 1 : Nat) : Int) * a j := Int.mul_le_mul_of_nonneg_left (ha j).1 (by omega)
      omega
    split <;> omega
/-- how many cores of n -/
def cores (r n : Nat) : Int := (exc (kn (am r)) n).getD n 0
theorem f_count_cores {k : Nat} (hk : 5 ≤ k) (n r : Nat) (hn : n ≤ 400) (hr : 2 ≤ r ∧ r ≤ 9) (G : Sto) : runT T k 22 [.int n, .int r] G = some (.d (.int (cores r n)), G) := callT (by omega) rfl fun j e => by
  have c1 := @f_check_number j (by omega) n G (by omega)
  have c2 := @f_check_rods j (by omega) r G (by omega)
  have ha : ∀ t, -10 ≤ am r t ∧ am r t ≤ 10 := fun t => by unfold am; split <;> omega
  have c3 := @f_counts_by_excesses j (by omega) (am r) n hn (fun t ht => by have := sdv_bound ha t n hn; omega) G
  have ee : exc (fun t => sdv (am r) n t) n = exc (kn (am r)) n := exc_congr fun t ht => by
    show sdv (am r) n t = sdv (am r) (t + 1) t
    rw [show n = t + 1 + (n - (t + 1)) by omega, sdv_more]
  rw [ee] at c3
  have el : lcL (.nm 4) cYes (cIf (cTv (cBin (vb eqR) (cBin modR (cUnG intR (cVar 4)) (cVar 1)) (cC (.int 0)))) (cBin subR (cC (.int 1)) (cVar 1)) (cC (.int 1))) (runT T j) [.v (.int n), .v (.int r), .no, .no, .no] (rangeI 1 n) G = some (iD ((List.range n).map (am r)), G) := by
    rw [rangeI_map]
    refine lcL_mapI _ fun t ht => ⟨_, rfl, ?_⟩
    have p : ((0 : Int) < r) = True := eq_true (by omega)
    have em : ((1 : Int) + (t : Nat)) % (r : Int) = (((t + 1) % r : Nat) : Int) := by
      rw [show (1 : Int) + (t : Nat) = ((t + 1 : Nat) : Int) by omega, ← Int.natCast_emod]
    have e0 : ((((t + 1) % r : Nat) : Int) = 0) = ((t + 1) % r = 0) := propext (by omega)
    unfold am
    by_cases h : (t + 1) % r = 0
    · have h' : ((t + 1) % r = 0) = True := eq_true h
      simp only [lz, cz, p, em, e0, h']
    · have h' : ((t + 1) % r = 0) = False := eq_false h
      simp only [lz, cz, p, em, e0, h']
  have h1 : rgOk 1 = true := rgOk_of (by omega)
  have h2 : rgOk ((n : Int) + 1) = true := rgOk_of (by omega)
  have h3 : ((n : Int) + 1 - 1).toNat = n := by omega
  have h4 : (rangeI 1 n).length ≤ 1000000 := by rw [rangeI_len]; omega
  have i1 := ixG_lst (r := .tmp (.lst (iD (exc (kn (am r)) n)))) (G := G) (i := (n : Int)) n (.inr (.inr rfl)) rfl (by rw [exc_len]; omega)
  have hc : (exc (kn (am r)) n).getD n 0 = cores r n := rfl
  rw [hc] at i1
  simp only [lz, cz, d_count_cores, c1, c2, h1, h2, h3, h4, el, c3, i1]
/-! ### all rows, size by size -/
def swp (f : Nat → Int) (d : Nat) : Nat → List Int
  | 0 => []
  | t + 1 => swp f d t ++ [f t + if d ≤ t then (swp f d t).getD (t - d) 0 else 0]
theorem swp_len (f : Nat → Int) (d : Nat) : ∀ n, (swp f d n).length = n
  | 0 => rfl
  | n + 1 => by unfold swp; rw [List.length_append, swp_len f d n]; rfl
theorem swp_get (f : Nat → Int) (d : Nat) {t : Nat} : ∀ {n : Nat}, t < n → (swp f d n).getD t 0 = (swp f d (t + 1)).getD t 0
  | 0, h => absurd h (Nat.not_lt_zero _)
  | n + 1, h => by
    by_cases e : t = n
    · rw [e]
    · rw [← swp_get f d (t := t) (n := n) (by omega)]
      rw [swp]
      unfold List.getD
      rw [List.getElem?_append_left (by rw [swp_len]; omega)]
theorem swp_eq (f : Nat → Int) {d : Nat} (hd : 1 ≤ d) {n t : Nat} (h : t < n) : (swp f d n).getD t 0 = f t + if d ≤ t then (swp f d n).getD (t - d) 0 else 0 := by
  rw [swp_get f d h, swp]
  have e : (swp f d t ++ [f t + if d ≤ t then (swp f d t).getD (t - d) 0 else 0]).getD t 0 = f t + if d ≤ t then (swp f d t).getD (t - d) 0 else 0 := by
    unfold List.getD
    rw [List.getElem?_append_right (by rw [swp_len]; exact Nat.le_refl _), swp_len, Nat.sub_self]
    rfl
  rw [e]
  by_cases hd2 : d ≤ t
  · rw [if_pos hd2, if_pos hd2, swp_get f d (show t - d < t by omega), swp_get f d (show t - d < n by omega)]
  · rw [if_neg hd2, if_neg hd2]
def evL : Nat → List Int
  | 0 => (List.range 91).map fun t => if t = 0 then 1 else 0
  | s + 1 => swp (fun t => (evL s).getD t 0) (s + 1) 91
def ev (s t : Nat) : Int := (evL s).getD t 0
theorem ev_0 {t : Nat} (h : t < 91) : ev 0 t = if t = 0 then 1 else 0 := getD_map _ h
theorem ev_s (s : Nat) {t : Nat} (h : t < 91) : ev (s + 1) t = ev s t + if s + 1 ≤ t then ev (s + 1) (t - (s + 1)) else 0 := swp_eq _ (by omega) h
theorem ev_stop {t : Nat} (h : t < 91) : ∀ s, t ≤ s → ev s t = ev t t
  | 0, hs => by rw [Nat.le_zero.mp hs]
  | s + 1, hs => by
    by_cases e : t = s + 1
    · rw [e]
    · rw [ev_s s h, if_neg (by omega), Int.add_zero, ev_stop h s (by omega)]
def pe (t : Nat) : Int := ev t t
theorem iset (l : List Int) (k : Nat) (v : Int) : (iD l).set k (.int v) = iD (l.set k v) := by unfold iD; rw [List.map_set]
theorem f_every {k : Nat} (hk : 1 ≤ k) (m : Nat) (hm : m ≤ 90) (G : Sto) : runT T k 25 [.int m] G = some (.tmp (.lst (iD ((List.range (m + 1)).map pe))), G) := callT (by omega) rfl fun j e => by
  obtain ⟨ρ', G', e1, rfl, x, y, e2⟩ := forL_inv (cf := runT T j) (tg := .nm 2) (f := fun i : Nat => D.int (1 + (i : Nat)))
    (body := sFor (cRng2 (cCons (cVar 2) (cCons (cBin addR (cVar 0) (cC (.int 1))) (cNil)))) (.nm 3) (sAsgG (gSb (cVar 1) (cVar 3)) (cBin addR (cBinG ixG (cVar 1) (cVar 3)) (cBinG ixG (cVar 1) (cBin subR (cVar 3) (cVar 2))))))
    (I := fun i ρ G' => G' = G ∧ ∃ x y, ρ = [.v (.int m), .own (.lst (iD ((List.range (m + 1)).map (ev i)))), x, y])
    (List.range m) 0 [.v (.int m), .own (.lst (iD ((List.range (m + 1)).map (ev 0)))), .no, .no] G ⟨rfl, _, _, rfl⟩ (fun i x ρ G' hi hI => by
      obtain ⟨rfl, x1, y1, rfl⟩ := hI
      rw [Nat.zero_add] at *
      obtain ⟨hi1, hi2⟩ := List.getElem?_eq_some_iff.mp hi
      rw [List.getElem_range] at hi2
      subst hi2
      rw [List.length_range] at hi1
      have ex : (1 : Int) + (i : Nat) = ((i + 1 : Nat) : Int) := by omega
      obtain ⟨s, el⟩ := forL_st (cf := runT T j) (i := 3) (f := fun q : Nat => D.int (((i + 1 : Nat) : Int) + (q : Nat)))
        (body := sAsgG (gSb (cVar 1) (cVar 3)) (cBin addR (cBinG ixG (cVar 1) (cVar 3)) (cBinG ixG (cVar 1) (cBin subR (cVar 3) (cVar 2)))))
        (env := fun q s => [.v (.int m), .own (.lst (iD ((List.range (m + 1)).map fun t => if t < i + 1 + q then ev (i + 1) t else ev i t))), .v (.int ((i + 1 : Nat) : Int)), s])
        (st := fun _ => G') (List.range (m - i)) y1 (fun q q' s hq => by
          obtain ⟨hq1, hq2⟩ := List.getElem?_eq_some_iff.mp hq
          rw [List.getElem_range] at hq2
          subst hq2
          rw [List.length_range] at hq1
          have e3 : ((i + 1 : Nat) : Int) + (q : Nat) = ((i + 1 + q : Nat) : Int) := by omega
          have e4 : ((i + 1 + q : Nat) : Int) - ((i + 1 : Nat) : Int) = (q : Int) := by omega
          have i1 := fun G => ixG_lst (r := .bor 1 (.lst (iD ((List.range (m + 1)).map fun t => if t < i + 1 + q then ev (i + 1) t else ev i t)))) (G := G) (i := ((i + 1 + q : Nat) : Int)) (i + 1 + q) (.inr (.inl ⟨1, rfl⟩)) rfl (by simp; omega)
          have i2 := fun G => ixG_lst (r := .bor 1 (.lst (iD ((List.range (m + 1)).map fun t => if t < i + 1 + q then ev (i + 1) t else ev i t)))) (G := G) (i := (q : Int)) q (.inr (.inl ⟨1, rfl⟩)) rfl (by simp; omega)
          rw [getD_map _ (by omega), if_neg (by omega)] at i1
          rw [getD_map _ (by omega), if_pos (by omega)] at i2
          have ix : ixN (m + 1) ((i + 1 + q : Nat) : Int) = some (i + 1 + q) := ixN_nat (by omega)
          have ee : ev i (i + 1 + q) + ev (i + 1) q = ev (i + 1) (i + 1 + q) := by
            rw [ev_s i (show i + 1 + q < 91 by omega), if_pos (by omega), show i + 1 + q - (i + 1) = q by omega]
          simp only [lz, cz, e3, e4, i1, i2, List.length_map, List.length_range, ix, iset, set_map, ee]
          congr 7
          apply List.map_congr_left
          intro t ht
          by_cases h : t = i + 1 + q
          · subst h
            rw [if_pos rfl, if_pos (by omega)]
          · rw [if_neg h]
            by_cases h2 : t < i + 1 + q
            · rw [if_pos h2, if_pos (by omega)]
            · rw [if_neg h2, if_neg (by omega)])
      rw [List.length_range, ← rangeI_map] at el
      have env0 : (List.range (m + 1)).map (fun t => if t < i + 1 + 0 then ev (i + 1) t else ev i t) = (List.range (m + 1)).map (ev i) := by
        apply List.map_congr_left
        intro t ht
        rw [List.mem_range] at ht
        by_cases h : t < i + 1 + 0
        · rw [if_pos h, ev_s i (by omega), if_neg (by omega), Int.add_zero]
        · rw [if_neg h]
      have envq : (List.range (m + 1)).map (fun t => if t < i + 1 + (m - i) then ev (i + 1) t else ev i t) = (List.range (m + 1)).map (ev (i + 1)) := by
        apply List.map_congr_left
        intro t ht
        rw [List.mem_range] at ht
        rw [if_pos (by omega)]
      rw [env0, envq] at el
      have r1 : rgOk ((i + 1 : Nat) : Int) = true := rgOk_of (by omega)
      have r2 : rgOk ((m : Nat) + 1 : Int) = true := rgOk_of (by omega)
      have r3 : ((m : Nat) + 1 - ((i + 1 : Nat) : Int)).toNat = m - i := by omega
      refine ⟨_, [.v (.int m), .own (.lst (iD ((List.range (m + 1)).map (ev (i + 1))))), .v (.int ((i + 1 : Nat) : Int)), s], _, rfl, .inl ?_, rfl, _, _, rfl⟩
      simp only [lz, cz, ex, r1, r2, r3]
      exact el)
  rw [Nat.zero_add, List.length_range] at e2
  subst e2
  rw [← rangeI_map] at e1
  have r0 : repOk 1 (m : Int) = true := by
    unfold repOk
    simp only [Bool.and_eq_true, decide_eq_true_eq, sz_eq]
    omega
  have r1 : rgOk 1 = true := rgOk_of (by omega)
  have r2 : rgOk ((m : Nat) + 1 : Int) = true := rgOk_of (by omega)
  have r3 : ((m : Nat) + 1 - (1 : Int)).toNat = m := by omega
  have e0 : D.int 1 :: iD (List.replicate m 0) = iD ((List.range (m + 1)).map (ev 0)) := by
    show iD (1 :: List.replicate m 0) = _
    congr 1
    apply List.ext_getElem?
    intro t
    cases t with
    | zero => simp [ev_0]
    | succ t =>
      by_cases ht : t < m
      · simp [ht, ev_0 (show t + 1 < 91 by omega)]
      · simp [ht]
  have h4 : 0 + 1 = 1 := rfl
  have h5 : 1 + (List.replicate m (0 : Int)).length ≤ sz := by rw [List.length_replicate, sz_eq]; omega
  have e9 : (List.range (m + 1)).map (ev m) = (List.range (m + 1)).map pe := by
    apply List.map_congr_left
    intro t ht
    rw [List.mem_range] at ht
    exact ev_stop (by omega) m (by omega)
  rw [e9] at e1
  simp only [lz, cz, d__law_every, h4, r0, Int.toNat_natCast, iD_rep, h5, e0, r1, r2, r3]
  rw [e1]
  simp only [lz, cz]
end K85

namespace K85
open PySem PySem.Spec PyProof.Rows L2 Lp
/-! ### lots of rows -/
def lotL : Nat → List Int
  | 0 => (List.range 46).map fun t => if t = 0 then 1 else 0
  | x + 1 => (List.range 46).map fun t => ((List.range (t + 1)).map fun k => (lotL x).getD k 0 * pe (t - k)).sum
def lot (x t : Nat) : Int := (lotL x).getD t 0
theorem lot_0 {t : Nat} (h : t < 46) : lot 0 t = if t = 0 then 1 else 0 := getD_map _ h
theorem lot_s (x : Nat) {t : Nat} (h : t < 46) : lot (x + 1) t = ((List.range (t + 1)).map fun k => lot x k * pe (t - k)).sum := getD_map _ h
def PeB : Prop := ∀ t, t ≤ 90 → -1000000000 ≤ pe t ∧ pe t ≤ 1000000000
theorem f_lots (hB : PeB) {k : Nat} (hk : 2 ≤ k) (r m : Nat) (hr : r ≤ 9) (hm : m ≤ 45) (G : Sto) : runT T k 26 [.int r, .int m] G = some (.d (.lst (iD ((List.range (m + 1)).map (lot r)))), G) := callT (by omega) rfl fun j e => by
  have c1 := @f_every j (by omega) m (by omega) G
  generalize hE : (List.range (m + 1)).map pe = es at *
  have hel : es.length = m + 1 := by rw [← hE]; simp
  have heg : ∀ t, t < m + 1 → es.getD t 0 = pe t := fun t ht => by rw [← hE]; exact getD_map _ ht
  obtain ⟨s, e1⟩ := forL_st (cf := runT T j) (i := 4) (f := fun x : Nat => D.int (0 + (x : Nat)))
    (body := sAsg .val 3 (cLc [5, 6] (cRng1 (cCons (cBin addR (cVar 1) (cC (.int 1))) (cNil))) (.nm 6) (cYes) (cUnG sumR (cLc [5, 7] (cRng1 (cCons (cBin addR (cVar 6) (cC (.int 1))) (cNil))) (.nm 7) (cYes) (cBin mulR (cBinG ixG (cVar 3) (cVar 7)) (cBinG ixG (cVar 2) (cBin subR (cVar 6) (cVar 7))))))))
    (env := fun x s => [.v (.int r), .v (.int m), .v (.lst (iD es)), .v (.lst (iD ((List.range (m + 1)).map (lot x)))), s, .no, .no, .no]) (st := fun _ => G) (List.range r) .no (fun x x' s hx => by
      have hll : ((List.range (m + 1)).map (lot x)).length = m + 1 := by simp
      have hlg : ∀ t, t < m + 1 → ((List.range (m + 1)).map (lot x)).getD t 0 = lot x t := fun t ht => getD_map _ ht
      generalize hL : (List.range (m + 1)).map (lot x) = ls at *
      have e1 : lcL (.nm 6) cYes (cUnG sumR (cLc [5, 7] (cRng1 (cCons (cBin addR (cVar 6) (cC (.int 1))) (cNil))) (.nm 7) (cYes) (cBin mulR (cBinG ixG (cVar 3) (cVar 7)) (cBinG ixG (cVar 2) (cBin subR (cVar 6) (cVar 7)))))) (runT T j) [.v (.int r), .v (.int m), .v (.lst (iD es)), .v (.lst (iD ls)), .v (.int (0 + (x' : Nat))), .no, .no, .no] (rangeI 0 (m + 1)) G = some (iD ((List.range (m + 1)).map (lot (x + 1))), G) := by
        rw [rangeI_map]
        refine lcL_mapI _ fun t ht => ⟨_, rfl, ?_⟩
        rw [List.mem_range] at ht
        have h0 : (0 : Int) + (t : Nat) = t := by omega
        have e2 : lcL (.nm 7) cYes (cBin mulR (cBinG ixG (cVar 3) (cVar 7)) (cBinG ixG (cVar 2) (cBin subR (cVar 6) (cVar 7)))) (runT T j) [.v (.int r), .v (.int m), .v (.lst (iD es)), .v (.lst (iD ls)), .v (.int (0 + (x' : Nat))), .no, .v (.int t), .no] (rangeI 0 (t + 1)) G = some (iD ((List.range (t + 1)).map fun k => lot x k * pe (t - k)), G) := by
          rw [rangeI_map]
          refine lcL_mapI _ fun k hk => ⟨_, rfl, ?_⟩
          rw [List.mem_range] at hk
          have h1 : (0 : Int) + (k : Nat) = k := by omega
          have h2 : (t : Int) - (k : Nat) = ((t - k : Nat) : Int) := by omega
          have i1 := fun G => ixG_lst (r := .d (.lst (iD ls))) (G := G) (i := (k : Int)) k (.inl rfl) rfl (by omega)
          have i2 := fun G => ixG_lst (r := .d (.lst (iD es))) (G := G) (i := ((t - k : Nat) : Int)) (t - k) (.inl rfl) rfl (by omega)
          rw [hlg k (by omega)] at i1
          rw [heg (t - k) (by omega)] at i2
          have o : mulOkI (lot x k) (pe (t - k)) = true := mulOk_of' (hB (t - k) (by omega))
          simp only [lz, cz, h1, h2, i1, i2, o]
        have h3 : rgOk ((t : Int) + 1) = true := rgOk_of (by omega)
        have h4 : ((t : Int) + 1).toNat = t + 1 := by omega
        have h5 : (rangeI 0 (t + 1)).length ≤ 1000000 := by rw [rangeI_len]; omega
        simp only [lz, cz, h0, h3, h4, h5, e2]
        rw [lot_s x (by omega)]
      have h3 : rgOk ((m : Int) + 1) = true := rgOk_of (by omega)
      have h4 : ((m : Int) + 1).toNat = m + 1 := by omega
      have h5 : (rangeI 0 (m + 1)).length ≤ 1000000 := by rw [rangeI_len]; omega
      simp only [lz, cz, h3, h4, h5, e1])
  rw [← rangeI_map, List.length_range] at e1
  have r0 : repOk 1 (m : Int) = true := by
    unfold repOk
    simp only [Bool.and_eq_true, decide_eq_true_eq, sz_eq]
    omega
  have e0 : D.int 1 :: iD (List.replicate m 0) = iD ((List.range (m + 1)).map (lot 0)) := by
    show iD (1 :: List.replicate m 0) = _
    congr 1
    apply List.ext_getElem?
    intro t
    cases t with
    | zero => simp [lot_0]
    | succ t =>
      by_cases ht : t < m
      · simp [ht, lot_0 (show t + 1 < 46 by omega)]
      · simp [ht]
  have h4 : 0 + 1 = 1 := rfl
  have h5 : 1 + (List.replicate m (0 : Int)).length ≤ sz := by rw [List.length_replicate, sz_eq]; omega
  have r1 : rgOk (r : Int) = true := rgOk_of (by omega)
  simp only [lz, cz, d__law_lots, c1, h4, r0, Int.toNat_natCast, iD_rep, h5, e0, r1]
  rw [e1]
  simp only [lz, cz]
/-! ### draws -/
theorem ixG_ref {m : Nat} {G : Sto} {l : List Int} (h : G[m]? = some (.lst (iD l))) {k : Nat} {i : Int} (hi : i = k) (hk : k < l.length) : ixG (.d (.ref m)) (.d (.int i)) G = some (.d (.int (l.getD k 0))) := by
  have e : dicG (.d (.ref m)) G = none := by unfold dicG; simp [h]
  have e2 : seqG (.d (.ref m)) G = some (iD l) := by unfold seqG; simp [h]
  unfold ixG
  rw [e]
  show (seqG (.d (.ref m)) G).bind (fun l => (atI l i).map R.d) = _
  rw [e2, Option.bind_some, atI_iD l k hi hk]
  rfl
theorem set_get {G : Sto} {m : Nat} {o o' : Ob} (h : G[m]? = some o) : (G.set m o')[m]? = some o' := List.getElem?_set_self (List.getElem?_eq_some_iff.mp h).1
theorem f_draw {k : Nat} (hk : 1 ≤ k) (m : Nat) (a b c : Int) (size : Int) (hs : 1 ≤ size ∧ size ≤ 1000) (G : Sto) (hG : G[m]? = some (.lst (iD [a, b, c]))) :
    ∃ d a' b' c', (0 ≤ d ∧ d < size) ∧ runT T k 24 [.ref m, .int size] G = some (.d (.int d), G.set m (.lst (iD [a', b', c']))) := by
  have g1 : (G.set m (.lst (iD [a, b, c + 1])))[m]? = some (.lst (iD [a, b, c + 1])) := set_get hG
  have x2 := ixG_ref hG (k := 2) (i := 2) rfl (by simp)
  have y0 := ixG_ref g1 (k := 0) (i := 0) rfl (by simp)
  have y1 := ixG_ref g1 (k := 1) (i := 1) rfl (by simp)
  have y2 := ixG_ref g1 (k := 2) (i := 2) rfl (by simp)
  simp only [List.getD_cons_zero, List.getD_cons_succ] at x2 y0 y1 y2
  have n2 : ixN 3 2 = some 2 := rfl
  have n1 : ixN 3 1 = some 1 := rfl
  have n0 : ixN 3 0 = some 0 := rfl
  have p1 : ∀ (l : List D) (y d : D), obPut (.lst l) y d = (match y with | .int k => (ixN l.length k).map fun j => .lst (l.set j d) | _ => none) := fun _ _ _ => rfl
  have l3 : ∀ a b c : Int, (iD [a, b, c]).length = 3 := fun _ _ _ => rfl
  have s2 : ∀ a b c d : Int, (iD [a, b, c]).set 2 (.int d) = iD [a, b, d] := fun _ _ _ _ => rfl
  have s1 : ∀ a b c d : Int, (iD [a, b, c]).set 1 (.int d) = iD [a, d, c] := fun _ _ _ _ => rfl
  have s0 : ∀ a b c d : Int, (iD [a, b, c]).set 0 (.int d) = iD [d, b, c] := fun _ _ _ _ => rfl
  have o1 : divOk size = true := divOk_of (by omega)
  have l4 : [a, b, c].length = 3 := rfl
  have l5 : [a, b, c + 1].length = 3 := rfl
  by_cases h0 : 0 < a
  · refine ⟨a % size, a / size, b, c + 1, ⟨Int.emod_nonneg _ (by omega), Int.emod_lt_of_pos _ (by omega)⟩, callT (by omega) rfl fun j e => ?_⟩
    have h0' : ((0 : Int) < a) = True := eq_true h0
    simp only [lz, cz, d__law_draw, x2, hG, n2, s2, g1, y0, h0', o1, n0, s0, List.set_set, l4, l5, if_true]
  · have h0' : ((0 : Int) < a) = False := eq_false h0
    generalize hby : b % 30011 + 40013 = by_
    have hb1 : 0 ≤ b % 30011 := Int.emod_nonneg _ (by omega)
    have hb2 : b % 30011 < 30011 := Int.emod_lt_of_pos _ (by omega)
    have o2 : mulOkI b by_ = true := mulOk_of' (by omega)
    have o3 : mulOkI 60013 (c + 1) = true := mulOk_of (by omega)
    generalize hb' : (b * by_ + 60013 * (c + 1) + 11) % 2147483549 = b'
    have g2 : (G.set m (.lst (iD [a, b', c + 1])))[m]? = some (.lst (iD [a, b', c + 1])) := set_get hG
    have z1 := ixG_ref g2 (k := 1) (i := 1) rfl (by simp)
    simp only [List.getD_cons_zero, List.getD_cons_succ] at z1
    refine ⟨b' / 97 % size, a, b', c + 1, ⟨Int.emod_nonneg _ (by omega), Int.emod_lt_of_pos _ (by omega)⟩, callT (by omega) rfl fun j e => ?_⟩
    have q1 : ((0 : Int) < 30011) = True := eq_true (by omega)
    have q2 : ((0 : Int) < 2147483549) = True := eq_true (by omega)
    have q3 : ((0 : Int) < size) = True := eq_true (by omega)
    have o4 : divOk 97 = true := divOk_of (by omega)
    simp only [lz, cz, d__law_draw, x2, hG, n2, s2, g1, y0, y1, y2, h0', q1, q2, q3, hby, o2, o3, hb', n1, s1, List.set_set, z1, o4, l4, l5]
end K85

namespace K85
open PySem PySem.Spec PyProof.Rows L2 Lp
/-! ### counting marks -/
def key (l : List Int) : List Key := l.map Sum.inl
theorem key_inj : ∀ {a b : List Int}, key a = key b → a = b
  | [], [], _ => rfl
  | [], _ :: _, h => by cases h
  | _ :: _, [], h => by cases h
  | x :: a, y :: b, h => by
    have h1 : (Sum.inl x :: key a : List Key) = Sum.inl y :: key b := h
    injection h1 with h2 h3
    injection h2 with h2
    rw [h2, key_inj h3]
theorem keysOf_iD : ∀ l : List Int, keysOf (iD l) = some (key l)
  | [] => rfl
  | x :: l => by
    show (keyOf (.int x)).bind (fun k => (keysOf (iD l)).map (k :: ·)) = _
    rw [keysOf_iD l]
    rfl
theorem key_kD : ∀ l : List Int, (key l).map kD = iD l
  | [] => rfl
  | x :: l => by
    show kD (Sum.inl x) :: (key l).map kD = _
    rw [key_kD l]
    rfl
def getI : List (List Int) → List Int → List Int → Option Int
  | a :: as, c :: cs, m => if a = m then some c else getI as cs m
  | _, _, _ => none
def putI : List (List Int) → List Int → List Int → Int → List Int
  | a :: as, c :: cs, m, v => (if a = m then v else c) :: putI as cs m v
  | _, _, _, _ => []
def bump (c : List (List Int) × List Int) (m : List Int) : List (List Int) × List Int := match getI c.1 c.2 m with
  | some v => (c.1, putI c.1 c.2 m (v + 1))
  | none => (c.1 ++ [m], c.2 ++ [0 + 1])
theorem getD_marks (m : List Int) : ∀ (as : List (List Int)) (cs : List Int), getD (as.map key) (iD cs) (key m) = (getI as cs m).map .int
  | [], [] => rfl
  | [], _ :: _ => rfl
  | _ :: _, [] => rfl
  | a :: as, c :: cs => by
    show (if key a = key m then some (D.int c) else getD (as.map key) (iD cs) (key m)) = (if a = m then some c else getI as cs m).map .int
    by_cases h : a = m
    · rw [if_pos h, if_pos (by rw [h])]; rfl
    · rw [if_neg h, if_neg (fun z => h (key_inj z)), getD_marks m as cs]
theorem putV_marks (m : List Int) (v : Int) : ∀ (as : List (List Int)) (cs : List Int), putV (as.map key) (iD cs) (key m) (.int v) = iD (putI as cs m v)
  | [], [] => rfl
  | [], _ :: _ => rfl
  | _ :: _, [] => rfl
  | a :: as, c :: cs => by
    show (if key a = key m then D.int v else D.int c) :: putV (as.map key) (iD cs) (key m) (.int v) = D.int (if a = m then v else c) :: iD (putI as cs m v)
    rw [putV_marks m v as cs]
    by_cases h : a = m
    · rw [if_pos h, if_pos (by rw [h])]
    · rw [if_neg h, if_neg (fun z => h (key_inj z))]
theorem putD_bump (c : List (List Int) × List Int) (m : List Int) : putD (c.1.map key) (iD c.2) (key m) (.int (((getI c.1 c.2 m).getD 0) + 1)) = ((bump c m).1.map key, iD (bump c m).2) := by
  unfold putD bump
  rw [getD_marks]
  cases h : getI c.1 c.2 m with
  | none => simp [iD]
  | some v => simp [putV_marks]
theorem bump_len (c : List (List Int) × List Int) (m : List Int) : (bump c m).1.length ≤ c.1.length + 1 := by
  unfold bump
  split <;> simp
def marks (rows : List (List Int)) (r : Nat) : List (List Int) × List Int := rows.foldl (fun c row => bump c (coreRow row r)) ([], [])
theorem marks_len (r : Nat) : ∀ (rows : List (List Int)) (c : List (List Int) × List Int), (rows.foldl (fun c row => bump c (coreRow row r)) c).1.length ≤ c.1.length + rows.length
  | [], c => Nat.le_refl _
  | row :: rows, c => by
    have h1 := marks_len r rows (bump c (coreRow row r))
    have h2 := bump_len c (coreRow row r)
    rw [List.foldl_cons, List.length_cons]
    omega
def rowOk (r n : Nat) (row : List Int) : Bool := okRow row && decide (row.length ≤ 1000) && decide ((coreRow row r).sum + r * ((threadList row r).map List.sum).sum = n)
def markOk (r n : Nat) (c : List (List Int) × List Int) (m : List Int) : Bool := decide (getI c.1 c.2 m = some (lot r (((n : Int) - m.sum) / r).toNat)) && decide (0 ≤ ((n : Int) - m.sum) / r) && decide ((((n : Int) - m.sum) / r).toNat < n / r + 1)
def shareOk (r n : Nat) : Bool := (rowsF 13 n n).all (rowOk r n) && (marks (rowsF 13 n n) r).1.all (markOk r n (marks (rowsF 13 n n) r))
theorem dicG_bor (i : Nat) (ks : List (List Key)) (vs : List D) (G : Sto) : dicG (.bor i (.dT ks vs)) G = some (.dT ks vs) := rfl
theorem dicG_d (ks : List (List Key)) (vs : List D) (G : Sto) : dicG (.d (.dT ks vs)) G = some (.dT ks vs) := rfl
theorem obGet_T (ks : List (List Key)) (vs : List D) (l : List D) : obGet (.dT ks vs) (.tup l) = (keysOf l).map fun k => getD ks vs k := rfl
theorem obPut_T (ks : List (List Key)) (vs : List D) (l : List D) (d : D) : obPut (.dT ks vs) (.tup l) d = if ks.length < sz then (keysOf l).map fun k => .dT (putD ks vs k d).1 (putD ks vs k d).2 else none := rfl
theorem f_shared (hB : PeB) {k : Nat} (hk : 15 ≤ k) (r n : Nat) (hr : 2 ≤ r ∧ r ≤ 9) (hn : n ≤ 12) (hs : shareOk r n = true) (G : Sto) : runT T k 27 [.int r, .int n] G = some (.d (.bl true), G) := callT (by omega) rfl fun j e => by
  have hdv : n / r ≤ n := Nat.div_le_self _ _
  have c1 := @f_lots hB j (by omega) r (n / r) hr.2 (by omega) G
  have c2 := @f_all_rows j (by omega) n hn G
  unfold shareOk at hs
  rw [Bool.and_eq_true, List.all_eq_true, List.all_eq_true] at hs
  obtain ⟨hrow, hmk⟩ := hs
  have hrl : (rowsF 13 n n).length ≤ 4096 := Nat.le_trans (rowsF_bound _ _ _) (Nat.le_trans (Nat.pow_le_pow_right (by decide) hn) (by decide))
  have hml : ∀ q, ((marks ((rowsF 13 n n).take q) r).1.length ≤ 4096) := fun q => by
    have h1 := marks_len r ((rowsF 13 n n).take q) ([], [])
    have h2 : ((rowsF 13 n n).take q).length ≤ 4096 := by rw [List.length_take]; omega
    have h3 : (([], []) : List (List Int) × List Int).1.length = 0 := rfl
    exact Nat.le_trans h1 (by rw [h3]; omega)
  generalize hR : rowsF 13 n n = rows at *
  have hll : ((List.range (n / r + 1)).map (lot r)).length = n / r + 1 := by simp
  have hlg : ∀ t, t < n / r + 1 → ((List.range (n / r + 1)).map (lot r)).getD t 0 = lot r t := fun t ht => getD_map _ ht
  generalize hL : (List.range (n / r + 1)).map (lot r) = ls at *
  obtain ⟨ρ', G', e1, rfl, x, y, e2⟩ := forL_inv (cf := runT T j) (tg := .nm 4) (f := fun row : List Int => D.tup (iD row))
    (body := sSeq (sAsg .val 5 (cCall 18 (cCons (cVar 4) (cCons (cVar 0) (cNil))) [])) (sSeq (sIf (cTv (cBin (vb (nb eqR)) (cBin addR (cUnG sumR (cUnG listR (cVar 5))) (cBin mulR (cVar 0) (cUnG sumR (cLc [6, 7] (cSeqI (cCall 21 (cCons (cVar 4) (cCons (cVar 0) (cNil))) [])) (.nm 7) (cYes) (cUnG sumR (cUnG listR (cVar 7))))))) (cVar 1))) (sRet (cC (.bl false))) (sNext)) (sAsgG (gSb (cVar 3) (cVar 5)) (cBin addR (cGet2 (cVar 3) (cVar 5) (cC (.int 0))) (cC (.int 1))))))
    (I := fun q ρ G' => G' = G ∧ ∃ x y, ρ = [.v (.int r), .v (.int n), .v (.lst (iD ls)), .own (.dT ((marks (rows.take q) r).1.map key) (iD (marks (rows.take q) r).2)), x, y, .no, .no])
    rows 0 [.v (.int r), .v (.int n), .v (.lst (iD ls)), .own (.dT [] []), .no, .no, .no, .no] G ⟨rfl, _, _, rfl⟩ (fun q row ρ G' hq hI => by
      obtain ⟨rfl, x1, y1, rfl⟩ := hI
      rw [Nat.zero_add] at *
      have hok := hrow row (List.mem_of_getElem? hq)
      unfold rowOk at hok
      rw [Bool.and_eq_true, Bool.and_eq_true, decide_eq_true_eq, decide_eq_true_eq] at hok
      obtain ⟨⟨ho, hlen⟩, hsum⟩ := hok
      have d1 := @f_core j (by omega) row r hr ho hlen G'
      have d2 := @f_threads j (by omega) row r hr ho hlen G'
      have em : marks (rows.take (q + 1)) r = bump (marks (rows.take q) r) (coreRow row r) := by
        unfold marks
        rw [take_next hq, List.foldl_append]
        rfl
      have hml' := hml q
      rw [em]
      generalize marks (rows.take q) r = c at *
      have htl : (threadList row r).length = r := by unfold threadList; simp
      generalize hT : threadList row r = tl at *
      have hm2 := putD_bump c (coreRow row r)
      generalize coreRow row r = mk at *
      have el : lcL (.nm 7) cYes (cUnG sumR (cUnG listR (cVar 7))) (runT T j) [.v (.int r), .v (.int n), .v (.lst (iD ls)), .own (.dT (c.1.map key) (iD c.2)), .v (.tup (iD row)), .v (.tup (iD mk)), .no, .no] (tups tl) G' = some (iD (tl.map List.sum), G') :=
        lcL_mapI tl fun t _ => ⟨_, rfl, by simp only [lz, cz]⟩
      have h1 : (tups tl).length ≤ 1000000 := by unfold tups; rw [List.length_map]; omega
      have o1 : mulOkI (r : Int) (tl.map List.sum).sum = true := mulOk_of (by omega)
      have h2 : (c.1.map key).length < sz := by rw [List.length_map, sz_eq]; omega
      have g0 : (Option.map D.int (getI c.1 c.2 mk)).getD (.int 0) = .int ((getI c.1 c.2 mk).getD 0) := by cases getI c.1 c.2 mk <;> rfl
      have tt : (((n : Int) = n)) = True := eq_true rfl
      refine ⟨_, [.v (.int r), .v (.int n), .v (.lst (iD ls)), .own (.dT ((bump c mk).1.map key) (iD (bump c mk).2)), .v (.tup (iD row)), .v (.tup (iD mk)), .no, .no], _, rfl, .inl ?_, rfl, _, _, rfl⟩
      simp only [lz, cz, d1, d2, h1, el, o1, hsum, tt, dicG_bor, obGet_T, keysOf_iD, getD_marks, g0, obPut_T, h2, hm2])
  rw [Nat.zero_add, List.take_length] at e2
  subst e2
  have hml' : (marks rows r).1.length ≤ 4096 := by have := hml rows.length; rwa [List.take_length] at this
  generalize marks rows r = c at *
  have e3 : lcL (.nm 5) (cTv (cBin (vb (nb eqR)) (cBinG ixG (cVar 3) (cVar 5)) (cBinG ixG (cVar 2) (cBin fdivR (cBin subR (cVar 1) (cUnG sumR (cUnG listR (cVar 5)))) (cVar 0))))) (cVar 5) (runT T j) [.v (.int r), .v (.int n), .v (.lst (iD ls)), .v (.dT (c.1.map key) (iD c.2)), x, .no, .no, .no] (tups c.1) G' = some ((c.1.filter fun _ => false).map fun m => D.tup (iD m), G') := by
    refine lcL_filter c.1 fun m hm => ⟨_, rfl, ?_, fun h => by cases h⟩
    have hk := hmk m hm
    unfold markOk at hk
    rw [Bool.and_eq_true, Bool.and_eq_true, decide_eq_true_eq, decide_eq_true_eq, decide_eq_true_eq] at hk
    obtain ⟨⟨k1, k2⟩, k3⟩ := hk
    have o1 : divOk (r : Int) = true := divOk_of (by omega)
    have i1 : ∀ G, ixG (.d (.dT (c.1.map key) (iD c.2))) (.d (.tup (iD m))) G = some (.d (.int (lot r (((n : Int) - m.sum) / r).toNat))) := fun G => by
      show (dOf (.d (.tup (iD m)))).bind (fun k => (obGet (.dT (c.1.map key) (iD c.2)) k).bind fun z => z.map R.d) = _
      simp only [lz, cz, obGet_T, keysOf_iD, getD_marks, k1]
    have i2 := fun G => ixG_lst (r := .d (.lst (iD ls))) (G := G) (i := ((n : Int) - m.sum) / r) (((n : Int) - m.sum) / r).toNat (.inl rfl) (by omega) (by omega)
    rw [hlg _ k3] at i2
    have tt : ∀ z : Int, (z = z) = True := fun z => eq_true rfl
    simp only [lz, cz, i1, o1, i2, tt]
  have e4 : (c.1.filter fun _ => false).map (fun m : List Int => D.tup (iD m)) = [] := by simp
  rw [e4] at e3
  have ek : (c.1.map key).map (fun k => D.tup (k.map kD)) = tups c.1 := by
    unfold tups
    rw [List.map_map]
    apply List.map_congr_left
    intro m _
    simp only [Function.comp, key_kD]
  have o1 : divOk (r : Int) = true := divOk_of (by omega)
  have h1 : (tups c.1).length ≤ 1000000 := by unfold tups; rw [List.length_map]; omega
  have fz : ∀ (ks : List (List Key)) (vs : List D), frzDSl (.own (.dT ks vs)) = .v (.dT ks vs) := fun _ _ => rfl
  have nn : eqR (.tmp (.lst [])) (.tmp (.lst [])) = some true := rfl
  have ed : (n : Int) / (r : Int) = ((n / r : Nat) : Int) := by rw [Int.natCast_ediv]
  simp only [lz, cz, d__law_shared_right, o1, ed, c1, c2]
  rw [show List.map (fun row : List Int => D.tup (iD row)) rows = tups rows from rfl] at e1
  rw [e1]
  simp only [lz, cz, fz, ek, h1, e3, nn]
end K85

namespace K85
open PySem PySem.Spec PyProof.Rows L2 Lp
theorem cutD_iD (l : List Int) (lo hi : Option Int) : ∃ m, Lp.cutD (iD l) lo hi = iD m ∧ m.length ≤ l.length := by
  refine ⟨(l.drop (HT.sIx l.length 0 lo)).take (HT.sIx l.length l.length hi - HT.sIx l.length 0 lo), ?_, ?_⟩
  · unfold Lp.cutD iD
    rw [List.length_map, List.map_take, List.map_drop]
  · rw [List.length_take, List.length_drop]; omega
theorem ixG_scr {l : List Int} {G : Sto} {i : Int} (k : Nat) (hi : i = k) (h : k < l.length) : ixG (.d (.scr (iD l))) (.d (.int i)) G = some (.d (.int (l.getD k 0))) := by
  have e := atI_iD l k hi h
  show (some (iD l)).bind (fun l => (atI l i).map R.d) = _
  rw [Option.bind_some, e]
  rfl
theorem powR_i (i j : Int) : powR (.d (.int i)) (.d (.int j)) = if powOk i j = true then some (.d (.int (i ^ j.toNat))) else none := rfl
theorem f_pot {k : Nat} (hk : 1 ≤ k) (ns : List Int) (hl : ns.length ≤ 63) (t : Nat) (ht : t ≤ 10) (G : Sto) : ∃ a b c, runT T k 23 [.scr (iD ns), .int t] G = some (.tmp (.lst (iD [a, b, c])), G) := by
  obtain ⟨m1, e1, hm1⟩ := cutD_iD ns none (some 1)
  obtain ⟨m6, e6, hm6⟩ := cutD_iD ns none (some 6)
  obtain ⟨j, rfl⟩ : ∃ j, k = j + 1 := ⟨k - 1, by omega⟩
  have hcell : ∃ cell, (cIf (cTv (cBin (vb ltI) (cVar 1) (cUnG lenR (cVar 0)))) (cUnG intR (cBinG ixG (cVar 0) (cVar 1))) (cBin addR (cBin mulR (cC (.int 6007)) (cVar 1)) (cBin modR (cUnG intR (cUnG sumR (cSl (cVar 0) (cNo) (cPart (cC (.int 1)))))) (cC (.int 1000003))))) (runT T j) [.v (.scr (iD ns)), .v (.int t), .no, .no, .no] G = some (.d (.int cell), G) := by
    by_cases h : t < ns.length
    · have h' : ((t : Int) < ns.length) = True := eq_true (by omega)
      have i1 := fun G => ixG_scr (l := ns) (G := G) (i := (t : Int)) t rfl h
      exact ⟨ns.getD t 0, by simp only [lz, cz, h', i1]⟩
    · have h' : ((t : Int) < ns.length) = False := eq_false (by omega)
      have o1 : mulOkI 6007 (t : Int) = true := mulOk_of (by omega)
      have p1 : ((0 : Int) < 1000003) = True := eq_true (by omega)
      exact ⟨6007 * t + m1.sum % 1000003, by simp only [lz, cz, h', o1, e1, p1]⟩
  obtain ⟨cell, hcell⟩ := hcell
  have hf : ∃ w y, forL (.nm 4) (sAsg .val 3 (cBin modR (cUnG intR (cBin addR (cBin addR (cBin mulR (cVar 3) (cC (.int 40961))) (cBin modR (cUnG intR (cVar 4)) (cC (.int 2147483549)))) (cC (.int 31)))) (cC (.int 2147483549)))) (runT T j) (iD (m6 ++ [cell])) [.v (.scr (iD ns)), .v (.int t), .v (.int cell), .v (.int (52361 + 811 * t)), .no] G = some (.nx [.v (.scr (iD ns)), .v (.int t), .v (.int cell), .v (.int w), y] G) := by
    obtain ⟨ρ', G', e1, rfl, w, y, e2⟩ := forL_inv (cf := runT T j) (tg := .nm 4) (f := D.int) (body := sAsg .val 3 (cBin modR (cUnG intR (cBin addR (cBin addR (cBin mulR (cVar 3) (cC (.int 40961))) (cBin modR (cUnG intR (cVar 4)) (cC (.int 2147483549)))) (cC (.int 31)))) (cC (.int 2147483549))))
      (I := fun i ρ G' => G' = G ∧ ∃ w y, ρ = [.v (.scr (iD ns)), .v (.int t), .v (.int cell), .v (.int w), y]) (m6 ++ [cell]) 0 [.v (.scr (iD ns)), .v (.int t), .v (.int cell), .v (.int (52361 + 811 * t)), .no] G ⟨rfl, _, _, rfl⟩ (fun i x ρ G' hi hI => by
        obtain ⟨rfl, w, y, rfl⟩ := hI
        have o1 : mulOkI w 40961 = true := mulOk_of' (by omega)
        have p1 : ((0 : Int) < 2147483549) = True := eq_true (by omega)
        refine ⟨_, [.v (.scr (iD ns)), .v (.int t), .v (.int cell), .v (.int ((w * 40961 + x % 2147483549 + 31) % 2147483549)), .v (.int x)], _, rfl, .inl ?_, rfl, _, _, rfl⟩
        simp only [lz, cz, o1, p1])
    exact ⟨w, y, by rw [e2] at e1; exact e1⟩
  obtain ⟨w, y, hf⟩ := hf
  have o2 : mulOkI 811 (t : Int) = true := mulOk_of (by omega)
  have l1 : m6.length + (0 + 1) ≤ sz := by rw [sz_eq]; omega
  have ea : iD m6 ++ [D.int cell] = iD (m6 ++ [cell]) := by simp [iD]
  have po : powOk 10 18 = true := by decide
  have e3 : ∀ a b c : Int, [D.int a, D.int b, D.int c] = iD [a, b, c] := fun _ _ _ => rfl
  by_cases hc : cell < 0
  · have hc' : (cell < 0) = True := eq_true hc
    refine ⟨-cell, w, 0, ?_⟩
    rw [runT_succ T j 23 _ _ _ _ rfl]
    simp only [d__law_pot, ap_sSeq, ap_sAsg, cz, hcell]
    simp only [lz, cz, o2, e6, l1, ea, hf, hc', powR_i, po, e3]
  · by_cases hd : (10 : Int) ^ (18 : Int).toNat ≤ cell
    · have hc' : (cell < 0) = False := eq_false hc
      have hd' : ((10 : Int) ^ (18 : Int).toNat ≤ cell) = True := eq_true hd
      refine ⟨cell, w, 0, ?_⟩
      rw [runT_succ T j 23 _ _ _ _ rfl]
      simp only [d__law_pot, ap_sSeq, ap_sAsg, cz, hcell]
      simp only [lz, cz, o2, e6, l1, ea, hf, hc', powR_i, po, hd', e3]
    · have hc' : (cell < 0) = False := eq_false hc
      have hd' : ((10 : Int) ^ (18 : Int).toNat ≤ cell) = False := eq_false hd
      refine ⟨0, w, 0, ?_⟩
      rw [runT_succ T j 23 _ _ _ _ rfl]
      simp only [d__law_pot, ap_sSeq, ap_sAsg, cz, hcell]
      simp only [lz, cz, o2, e6, l1, ea, hf, hc', powR_i, po, hd', e3]
/-- what is to be checked of the numbers -/
structure Chk : Prop where
  pe : PeB
  sh : ∀ r n, 2 ≤ r → r ≤ 9 → n ≤ 12 → shareOk r n = true
  cb : ∀ r n, 2 ≤ r → r ≤ 9 → n ≤ 90 → -1000000000 ≤ cores r n ∧ cores r n ≤ 1000000000
  eq : ∀ r n, 2 ≤ r → r ≤ 9 → n ≤ 90 → ((List.range (n / r + 1)).map fun k => cores r (n - r * k) * lot r k).sum = (pcounts n).getD n 0
  pp : ∀ n, n ≤ 90 → K85.pe n = (pcounts n).getD n 0
theorem f_right (C : Chk) {k : Nat} (hk : 16 ≤ k) (m : Nat) (a b c : Int) (G : Sto) (hG : G[m]? = some (.lst (iD [a, b, c]))) : ∃ G', runT T k 28 [.ref m] G = some (.d (.bl true), G') := by
  obtain ⟨j, rfl⟩ : ∃ j, k = j + 1 := ⟨k - 1, by omega⟩
  obtain ⟨d1, a1, b1, c1, hd1, e1⟩ := @f_draw j (by omega) m a b c 8 (by omega) G hG
  have hG1 := set_get (o' := .lst (iD [a1, b1, c1])) hG
  generalize G.set m (.lst (iD [a1, b1, c1])) = G1 at *
  obtain ⟨d2, a2, b2, c2, hd2, e2⟩ := @f_draw j (by omega) m a1 b1 c1 91 (by omega) G1 hG1
  have hG2 := set_get (o' := .lst (iD [a2, b2, c2])) hG1
  generalize G1.set m (.lst (iD [a2, b2, c2])) = G2 at *
  obtain ⟨d3, a3, b3, c3, hd3, e3⟩ := @f_draw j (by omega) m a2 b2 c2 13 (by omega) G2 hG2
  generalize G2.set m (.lst (iD [a3, b3, c3])) = G3 at *
  refine ⟨G3, ?_⟩
  obtain ⟨r, hr⟩ : ∃ r : Nat, 2 + d1 = r := ⟨(2 + d1).toNat, by omega⟩
  obtain ⟨n, hn⟩ : ∃ n : Nat, d2 = n := ⟨d2.toNat, by omega⟩
  obtain ⟨n3, hn3⟩ : ∃ n : Nat, d3 = n := ⟨d3.toNat, by omega⟩
  subst hn hn3
  have hr1 : 2 ≤ r ∧ r ≤ 9 := by omega
  have hn1 : n ≤ 90 := by omega
  have hdv : n / r ≤ 45 := by
    have : n / r ≤ 90 / r := Nat.div_le_div_right hn1
    have h2 : 90 / r ≤ 90 / 2 := Nat.div_le_div_left hr1.1 (by omega)
    omega
  have q1 := @f_lots C.pe j (by omega) r (n / r) hr1.2 hdv G2
  have q2 := @f_count_all j (by omega) n (by omega) G2
  have q3 := @f_every j (by omega) n hn1 G2
  have q4 := @f_shared C.pe j (by omega) r n3 hr1 (by omega) (C.sh r n3 hr1.1 hr1.2 (by omega)) G3
  have ed : (n : Int) / (r : Int) = ((n / r : Nat) : Int) := by rw [Int.natCast_ediv]
  have o1 : divOk (r : Int) = true := divOk_of (by omega)
  have hll : ((List.range (n / r + 1)).map (lot r)).length = n / r + 1 := by simp
  have hlg : ∀ t, t < n / r + 1 → ((List.range (n / r + 1)).map (lot r)).getD t 0 = lot r t := fun t ht => getD_map _ ht
  generalize hL : (List.range (n / r + 1)).map (lot r) = ls at *
  have el : lcL (.nm 6) cYes (cBin mulR (cCall 22 (cCons (cBin subR (cVar 2) (cBin mulR (cVar 1) (cVar 6))) (cCons (cVar 1) (cNil))) []) (cBinG ixG (cVar 3) (cVar 6))) (runT T j) [.v (.ref m), .v (.int r), .v (.int n), .v (.lst (iD ls)), .no, .no, .no] (rangeI 0 (n / r + 1)) G2 = some (iD ((List.range (n / r + 1)).map fun k => cores r (n - r * k) * lot r k), G2) := by
    rw [rangeI_map]
    refine lcL_mapI _ fun t ht => ⟨_, rfl, ?_⟩
    rw [List.mem_range] at ht
    have h0 : (0 : Int) + (t : Nat) = t := by omega
    have hrt : r * t ≤ n := by
      have h1 : t ≤ n / r := by omega
      have := Nat.mul_le_mul_left r h1
      exact Nat.le_trans this (Nat.mul_div_le n r)
    have e5 : (n : Int) - (r : Int) * (t : Nat) = ((n - r * t : Nat) : Int) := by
      rw [← Int.natCast_mul]; omega
    have q5 := @f_count_cores j (by omega) (n - r * t) r (by omega) hr1 G2
    have i1 := fun G => ixG_lst (r := .d (.lst (iD ls))) (G := G) (i := (t : Int)) t (.inl rfl) rfl (by omega)
    rw [hlg t ht] at i1
    have o2 : mulOkI (r : Int) (t : Int) = true := mulOk_of (by omega)
    have o3 : mulOkI (cores r (n - r * t)) (lot r t) = true := mulOk_of (C.cb r _ hr1.1 hr1.2 (by omega))
    simp only [lz, cz, h0, o2, e5, q5, i1, o3]
  have h1 : rgOk (((n / r : Nat) : Int) + 1) = true := rgOk_of (by omega)
  have h2 : (((n / r : Nat) : Int) + 1).toNat = n / r + 1 := by omega
  have h3 : (rangeI 0 (n / r + 1)).length ≤ 1000000 := by rw [rangeI_len]; omega
  have i2 := fun G => ixG_lst (r := .tmp (.lst (iD ((List.range (n + 1)).map K85.pe)))) (G := G) (i := (n : Int)) n (.inr (.inr rfl)) rfl (by simp)
  rw [getD_map _ (by omega), C.pp n hn1] at i2
  have es := C.eq r n hr1.1 hr1.2 hn1
  have tt : ∀ z : Int, (z = z) = True := fun z => eq_true rfl
  rw [runT_succ T j 28 _ _ _ _ rfl]
  simp only [lz, cz, d__law_right, e1, hr, e2, q1, o1, ed, h1, h2, h3, el, es, q2, q3, i2, tt, e3, q4]
theorem law_true (C : Chk) {k : Nat} (hk : 17 ≤ k) (ns : List Int) (hl : ns.length ≤ 63) : ∃ G', runT T k 29 [.scr (iD ns)] [] = some (.d (.bl true), G') := by
  obtain ⟨j, rfl⟩ : ∃ j, k = j + 1 := ⟨k - 1, by omega⟩
  obtain ⟨a, b, c, e1⟩ := @f_pot j (by omega) ns hl 0 (by omega) []
  obtain ⟨G1, e2⟩ := f_right C (k := j) (by omega) 0 a b c [.lst (iD [a, b, c])] rfl
  obtain ⟨a2, b2, c2, e3⟩ := @f_pot j (by omega) ns hl 1 (by omega) G1
  obtain ⟨G2, e4⟩ := f_right C (k := j) (by omega) G1.length a2 b2 c2 (G1 ++ [.lst (iD [a2, b2, c2])]) (by simp)
  refine ⟨G2, ?_⟩
  have e0 : rangeI 0 (2 : Int).toNat = [.int 0, .int 1] := rfl
  have h1 : rgOk 2 = true := rgOk_of (by omega)
  have e1' : runT T j 23 [.scr (iD ns), .int 0] [] = some (.tmp (.lst (iD [a, b, c])), []) := e1
  have e3' : runT T j 23 [.scr (iD ns), .int 1] G1 = some (.tmp (.lst (iD [a2, b2, c2])), G1) := e3
  have h2 : 0 + 1 + 1 ≤ 1000000 := by decide
  have hb : bsOf [.bl true, .bl true] = some [true, true] := rfl
  have ha : ([true, true].all id) = true := rfl
  rw [runT_succ T j 29 _ _ _ _ rfl]
  simp only [lz, cz, d_law, h1, e0, h2, lcL, e1', e2, e3', e4, hb, ha]
end K85

namespace K85
open PySem PySem.Spec PyProof.Rows L2 Lp
def P : List Int := [1, 1, 2, 3, 5, 7, 11, 15, 22, 30, 42, 56, 77, 101, 135, 176, 231, 297, 385, 490, 627, 792, 1002, 1255, 1575, 1958, 2436, 3010, 3718, 4565, 5604, 6842, 8349, 10143, 12310, 14883, 17977, 21637, 26015, 31185, 37338, 44583, 53174, 63261, 75175, 89134, 105558, 124754, 147273, 173525, 204226, 239943, 281589, 329931, 386155, 451276, 526823, 614154, 715220, 831820, 966467, 1121505, 1300156, 1505499, 1741630, 2012558, 2323520, 2679689, 3087735, 3554345, 4087968, 4697205, 5392783, 6185689, 7089500, 8118264, 9289091, 10619863, 12132164, 13848650, 15796476, 18004327, 20506255, 23338469, 26543660, 30167357, 34262962, 38887673, 44108109, 49995925, 56634173]
def CC : List (List Int) := [[1, 1, 0, 1, 0, 0, 1, 0, 0, 0, 1, 0, 0, 0, 0, 1, 0, 0, 0, 0, 0, 1, 0, 0, 0, 0, 0, 0, 1, 0, 0, 0, 0, 0, 0, 0, 1, 0, 0, 0, 0, 0, 0, 0, 0, 1, 0, 0, 0, 0, 0, 0, 0, 0, 0, 1, 0, 0, 0, 0, 0, 0, 0, 0, 0, 0, 1, 0, 0, 0, 0, 0, 0, 0, 0, 0, 0, 0, 1, 0, 0, 0, 0, 0, 0, 0, 0, 0, 0, 0, 0],
  [1, 1, 2, 0, 2, 1, 2, 0, 1, 2, 2, 0, 2, 0, 2, 0, 3, 2, 0, 0, 2, 1, 2, 0, 2, 2, 2, 0, 0, 0, 4, 0, 2, 1, 2, 0, 2, 2, 0, 0, 1, 2, 2, 0, 4, 0, 2, 0, 0, 2, 2, 0, 2, 0, 2, 0, 3, 2, 2, 0, 2, 0, 0, 0, 2, 3, 2, 0, 0, 2, 2, 0, 4, 0, 2, 0, 2, 0, 0, 0, 2, 2, 4, 0, 0, 1, 4, 0, 0, 2, 2],
  [1, 1, 2, 3, 1, 3, 3, 3, 4, 4, 2, 2, 7, 3, 5, 6, 2, 4, 7, 3, 4, 7, 5, 8, 5, 4, 4, 8, 5, 6, 7, 2, 9, 11, 3, 8, 9, 4, 6, 5, 7, 5, 14, 7, 4, 10, 5, 10, 11, 3, 9, 10, 5, 8, 10, 4, 6, 15, 8, 9, 10, 6, 8, 15, 6, 10, 6, 5, 15, 9, 6, 8, 14, 8, 6, 13, 5, 16, 18, 7, 8, 7, 9, 6, 15, 6, 12, 17, 5, 8, 15],
  [1, 1, 2, 3, 5, 2, 6, 5, 7, 5, 12, 6, 12, 6, 10, 11, 16, 7, 20, 15, 12, 12, 22, 10, 25, 12, 20, 18, 30, 10, 32, 21, 24, 16, 30, 21, 36, 20, 24, 25, 42, 12, 42, 36, 35, 22, 46, 22, 43, 25, 32, 36, 52, 20, 60, 30, 40, 30, 60, 30, 62, 32, 42, 43, 60, 24, 66, 48, 44, 30, 72, 35, 72, 36, 50, 60, 72, 24, 80, 55, 61, 42, 82, 36, 80, 42, 60, 60, 90, 35, 72],
  [1, 1, 2, 3, 5, 7, 5, 9, 10, 12, 12, 14, 20, 20, 21, 23, 24, 24, 32, 29, 35, 36, 44, 47, 38, 47, 49, 52, 55, 58, 59, 64, 66, 71, 70, 78, 79, 88, 87, 90, 85, 87, 111, 104, 102, 107, 112, 113, 121, 113, 130, 130, 148, 153, 132, 147, 149, 156, 162, 149, 167, 160, 178, 180, 183, 198, 171, 207, 205, 198, 200, 210, 232, 238, 217, 231, 216, 239, 265, 243, 250, 254, 265, 272, 267, 278, 267, 294, 308, 280, 295],
  [1, 1, 2, 3, 5, 7, 11, 8, 15, 16, 21, 21, 28, 24, 44, 36, 49, 45, 63, 49, 74, 64, 85, 72, 105, 82, 133, 112, 120, 120, 165, 122, 180, 147, 186, 176, 225, 168, 255, 210, 245, 224, 324, 219, 338, 276, 341, 294, 385, 288, 441, 352, 410, 366, 518, 360, 506, 435, 504, 465, 600, 455, 694, 504, 610, 576, 756, 530, 735, 616, 779, 666, 842, 601, 945, 742, 840, 792, 1023, 728, 1050, 861, 1029, 864, 1178, 842, 1294, 990, 1095, 1029, 1380],
  [1, 1, 2, 3, 5, 7, 11, 15, 14, 22, 26, 32, 37, 45, 47, 56, 75, 77, 89, 102, 111, 124, 142, 147, 167, 182, 196, 210, 242, 249, 288, 322, 299, 349, 382, 393, 423, 467, 453, 499, 570, 563, 602, 669, 649, 716, 772, 754, 843, 907, 884, 967, 1047, 1015, 1107, 1198, 1165, 1242, 1364, 1292, 1435, 1531, 1484, 1607, 1687, 1635, 1794, 1884, 1828, 1972, 2163, 2076, 2169, 2385, 2246, 2474, 2612, 2486, 2629, 2802, 2791, 2928, 3102, 2993, 3159, 3427, 3250, 3454, 3692, 3527, 3777],
  [1, 1, 2, 3, 5, 7, 11, 15, 22, 21, 33, 38, 50, 56, 72, 77, 96, 99, 142, 139, 177, 180, 228, 229, 288, 284, 357, 343, 430, 410, 519, 491, 615, 588, 745, 714, 832, 811, 1007, 939, 1152, 1077, 1310, 1215, 1456, 1426, 1686, 1580, 1887, 1778, 2137, 1983, 2349, 2205, 2662, 2461, 2900, 2721, 3242, 2992, 3566, 3306, 3949, 3594, 4267, 3950, 4706, 4277, 5073, 4685, 5613, 5088, 5920, 5488, 6512, 5934, 6944, 6403, 7544, 6893, 8109, 7398, 8766, 8007, 9281, 8637, 10056, 9126, 10524, 9654, 11633]]
def LL : List (List Int) := [[1, 0, 0, 0, 0, 0, 0, 0, 0, 0, 0, 0, 0, 0, 0, 0, 0, 0, 0, 0, 0, 0, 0, 0, 0, 0, 0, 0, 0, 0, 0, 0, 0, 0, 0, 0, 0, 0, 0, 0, 0, 0, 0, 0, 0, 0],
  [1, 1, 2, 3, 5, 7, 11, 15, 22, 30, 42, 56, 77, 101, 135, 176, 231, 297, 385, 490, 627, 792, 1002, 1255, 1575, 1958, 2436, 3010, 3718, 4565, 5604, 6842, 8349, 10143, 12310, 14883, 17977, 21637, 26015, 31185, 37338, 44583, 53174, 63261, 75175, 89134],
  [1, 2, 5, 10, 20, 36, 65, 110, 185, 300, 481, 752, 1165, 1770, 2665, 3956, 5822, 8470, 12230, 17490, 24842, 35002, 49010, 68150, 94235, 129512, 177087, 240840, 326015, 439190, 589128, 786814, 1046705, 1386930, 1831065, 2408658, 3157789, 4126070, 5374390, 6978730, 9035539, 11664896, 15018300, 19283830, 24697480, 31551450],
  [1, 3, 9, 22, 51, 108, 221, 429, 810, 1479, 2640, 4599, 7868, 13209, 21843, 35581, 57222, 90882, 142769, 221910, 341649, 521196, 788460, 1183221, 1762462, 2606604, 3829437, 5590110, 8111346, 11701998, 16790136, 23964594, 34034391, 48104069, 67679109, 94800537, 132230021, 183686994, 254170332, 350371088, 481225800, 658626822, 898365204, 1221340197, 1655151489, 2236138826],
  [1, 4, 14, 40, 105, 252, 574, 1240, 2580, 5180, 10108, 19208, 35693, 64960, 116090, 203984, 353017, 602348, 1014580, 1688400, 2778517, 4524760, 7296752, 11658920, 18468245, 29015700, 45235414, 70005376, 107585845, 164245380, 249162620, 375704920, 563251038, 839757660, 1245383930, 1837560960, 2698091422, 3943014992, 5736319830, 8308877360, 11984575498, 17216193316, 24634595782, 35115884320, 49872929610, 70579640748],
  [1, 5, 20, 65, 190, 506, 1265, 2990, 6765, 14725, 31027, 63505, 126730, 247170, 472295, 885723, 1633000, 2963840, 5302075, 9358470, 16313440, 28107365, 47902010, 80803485, 134992865, 223474667, 366772720, 597049255, 964375855, 1546208695, 2461649861, 3892774130, 6116396095, 9551122255, 14826771315, 22886283845, 35134760670, 53656441020, 81529441675, 123280423945, 185539111677, 277976935445, 414648673725, 615903376755, 911097530745, 1342434636590],
  [1, 6, 27, 98, 315, 918, 2492, 6372, 15525, 36280, 81816, 178794, 380051, 788004, 1597725, 3174210, 6190182, 11867310, 22395359, 41650050, 76413078, 138421358, 247783113, 438616728, 768291650, 1332444330, 2289213495, 3898064226, 6581591157, 11023247880, 18320981569, 30227301468, 49522366656, 80590617278, 130307480730, 209396014650, 334492740175, 531278722086, 839204245278, 1318587244800, 2061234013149, 3206265612102, 4963610011174, 7648740634158, 11733857681850, 17923026108974],
  [1, 7, 35, 140, 490, 1547, 4522, 12405, 32305, 80465, 192899, 447146, 1006145, 2204475, 4715510, 9869132, 20247710, 40786690, 80782800, 157510780, 302666903, 573720808, 1073720305, 1985506775, 3630307835, 6567206471, 11760658378, 20860415590, 36665885170, 63891010155, 110415782785, 189320804673, 322174588225, 544313510685, 913274346530, 1522188092649, 2520942484767, 4149449539025, 6789686865150, 11046722446970, 17874289316814, 28768544837739, 46065759830255, 73397788167025, 116386144869365, 183695569433761],
  [1, 8, 44, 192, 726, 2464, 7704, 22528, 62337, 164560, 417140, 1020416, 2418710, 5573568, 12520744, 27484160, 59068372, 124505880, 257770964, 524871424, 1052316364, 2079491744, 4053978040, 7803219968, 14840711765, 27907041392, 51917588800, 95608651776, 174374048226, 315116024256, 564480785968, 1002743087104, 1767059165529, 3090160346056, 5364345550500, 9246688953216, 15831025142756, 26927556198400, 45515024095024, 76468217309184, 127722692222125, 212130564940976, 350403749917320, 575760966987776, 941232951872944, 1531098085437568],
  [1, 9, 54, 255, 1035, 3753, 12483, 38709, 113265, 315445, 841842, 2164185, 5382276, 12994290, 30543210, 70066809, 157199805, 345552183, 745377215, 1579915080, 3294664578, 6766656315, 13700560491, 27370137195, 53991639855, 105242612526, 202837976145, 386769460701, 730014873120, 1364584214160, 2527282453251, 4639516934202, 8445485842191, 15249820103820, 27323572801680, 48593436024384, 85804659731585, 150471754601004, 262132146921105, 453743462742540, 780589527326541, 1334901094697700, 2269739781404505, 3837827456149635, 6454380596518665, 10798332617208613]]
/-! ### the numbers -/
def swpR (f : Nat → Int) (d : Nat) : Nat → List Int
  | 0 => []
  | t + 1 => (f t + if d ≤ t then (swpR f d t).getD (d - 1) 0 else 0) :: swpR f d t
theorem swpR_len (f : Nat → Int) (d : Nat) : ∀ n, (swpR f d n).length = n
  | 0 => rfl
  | n + 1 => by unfold swpR; rw [List.length_cons, swpR_len f d n]
theorem swpR_eq (f : Nat → Int) {d : Nat} (hd : 1 ≤ d) : ∀ n, (swpR f d n).reverse = swp f d n
  | 0 => rfl
  | n + 1 => by
    have ih := swpR_eq f hd n
    rw [swpR, swp, List.reverse_cons, ih]
    by_cases h : d ≤ n
    · rw [if_pos h, if_pos h]
      have e : (swp f d n).getD (n - d) 0 = (swpR f d n).getD (d - 1) 0 := by
        rw [← ih]
        unfold List.getD
        rw [List.getElem?_reverse (by rw [swpR_len]; omega), swpR_len]
        rw [show n - 1 - (n - d) = d - 1 by omega]
      rw [e]
    · rw [if_neg h, if_neg h]
def evQ : Nat → List Int
  | 0 => (List.range 91).map fun t => if t = 0 then 1 else 0
  | s + 1 => (swpR (fun t => (evQ s).getD t 0) (s + 1) 91).reverse
theorem evQ_eq : ∀ s, evQ s = evL s
  | 0 => rfl
  | s + 1 => by
    unfold evQ evL
    rw [swpR_eq _ (by omega), evQ_eq s]
theorem pe_all : ((List.range 91).all fun t => decide ((evQ t).getD t 0 = P.getD t 0)) = true := by decide +kernel
theorem pe_P {t : Nat} (h : t ≤ 90) : pe t = P.getD t 0 := by
  have := List.all_eq_true.mp pe_all t (List.mem_range.mpr (by omega))
  rw [decide_eq_true_eq, evQ_eq] at this
  exact this
end K85

namespace K85
open PySem PySem.Spec PyProof.Rows L2 Lp
theorem pc_get {n : Nat} : ∀ {m : Nat}, n ≤ m → (pcounts m).getD n 0 = (pcounts n).getD n 0
  | 0, h => by rw [Nat.le_zero.mp h]
  | m + 1, h => by
    by_cases e : n = m + 1
    · rw [e]
    · rw [← pc_get (n := n) (m := m) (by omega)]
      rw [pcounts]
      unfold List.getD
      rw [List.getElem?_append_left (by rw [pcounts_len]; omega)]
theorem pc_all : ((List.range 91).all fun t => decide ((pcounts 90).getD t 0 = P.getD t 0)) = true := by decide +kernel
theorem pc_P {t : Nat} (h : t ≤ 90) : (pcounts t).getD t 0 = P.getD t 0 := by
  have := List.all_eq_true.mp pc_all t (List.mem_range.mpr (by omega))
  rw [decide_eq_true_eq, pc_get (n := t) (m := 90) (by omega)] at this
  exact this
theorem pe_b : PeB := fun t ht => by
  have h : ((List.range 91).all fun t => decide (-1000000000 ≤ P.getD t 0 ∧ P.getD t 0 ≤ 1000000000)) = true := by decide +kernel
  have := List.all_eq_true.mp h t (List.mem_range.mpr (by omega))
  rw [decide_eq_true_eq] at this
  rw [pe_P ht]
  exact this
/-- a list that keeps the rule is the list of the rule -/
theorem exc_lit (f : Nat → Int) (L : List Int) (h0 : L.getD 0 0 = 1) (N : Nat) (h : ∀ i, i < N → L.getD (i + 1) 0 = ((List.range (i + 1)).map fun k => f k * L.getD (i - k) 0).sum / ((i + 1 : Nat) : Int)) : ∀ n, n ≤ N → ∀ t, t ≤ n → (exc f n).getD t 0 = L.getD t 0
  | 0, _, t, ht => by rw [Nat.le_zero.mp ht, h0]; rfl
  | n + 1, hn, t, ht => by
    have ih := exc_lit f L h0 N h n (by omega)
    by_cases e : t = n + 1
    · subst e
      rw [exc, h n (by omega)]
      have e2 : ∀ x : Int, (exc f n ++ [x]).getD (n + 1) 0 = x := fun x => by
        unfold List.getD
        rw [List.getElem?_append_right (by rw [exc_len]; exact Nat.le_refl _), exc_len, Nat.sub_self]
        rfl
      rw [e2]
      congr 2
      apply List.map_congr_left
      intro k hk
      rw [List.mem_range] at hk
      rw [ih (n - k) (by omega)]
    · rw [← ih t (by omega), exc]
      unfold List.getD
      rw [List.getElem?_append_left (by rw [exc_len]; omega)]
def excOk (r : Nat) (L : List Int) : Bool := decide (L.getD 0 0 = 1) && (let K := (List.range 90).map (kn (am r)); (List.range 90).all fun i => decide (L.getD (i + 1) 0 = ((List.range (i + 1)).map fun k => K.getD k 0 * L.getD (i - k) 0).sum / ((i + 1 : Nat) : Int)))
theorem exc_all : ((List.range 8).all fun r => excOk (r + 2) (CC.getD r [])) = true := by decide +kernel
theorem cores_C {r n : Nat} (h1 : 2 ≤ r) (h2 : r ≤ 9) (hn : n ≤ 90) : cores r n = (CC.getD (r - 2) []).getD n 0 := by
  have := List.all_eq_true.mp exc_all (r - 2) (List.mem_range.mpr (by omega))
  rw [show r - 2 + 2 = r by omega] at this
  unfold excOk at this
  rw [Bool.and_eq_true, decide_eq_true_eq, List.all_eq_true] at this
  refine exc_lit (kn (am r)) _ this.1 90 (fun i hi => ?_) n hn n (Nat.le_refl _)
  have := this.2 i (List.mem_range.mpr hi)
  rw [decide_eq_true_eq] at this
  rw [this]
  congr 2
  apply List.map_congr_left
  intro k hk
  rw [List.mem_range] at hk
  rw [getD_map _ (by omega)]
def lotOk : Bool := (List.range 46).all (fun t => decide ((LL.getD 0 []).getD t 0 = if t = 0 then 1 else 0)) && (List.range 9).all fun x => (List.range 46).all fun t => decide ((LL.getD (x + 1) []).getD t 0 = ((List.range (t + 1)).map fun k => (LL.getD x []).getD k 0 * P.getD (t - k) 0).sum)
theorem lot_all : lotOk = true := by decide +kernel
theorem lot_L {t : Nat} (ht : t < 46) : ∀ {x : Nat}, x ≤ 9 → ∀ t, t < 46 → lot x t = (LL.getD x []).getD t 0
  | 0, _, t, ht => by
    have := lot_all
    unfold lotOk at this
    rw [Bool.and_eq_true, List.all_eq_true] at this
    have := this.1 t (List.mem_range.mpr ht)
    rw [decide_eq_true_eq] at this
    rw [this, lot_0 ht]
  | x + 1, hx, t, ht => by
    have := lot_all
    unfold lotOk at this
    rw [Bool.and_eq_true, List.all_eq_true, List.all_eq_true] at this
    have := List.all_eq_true.mp (this.2 x (List.mem_range.mpr (by omega))) t (List.mem_range.mpr ht)
    rw [decide_eq_true_eq] at this
    rw [this, lot_s x ht]
    congr 1
    apply List.map_congr_left
    intro k hk
    rw [List.mem_range] at hk
    rw [lot_L (t := 0) (by omega) (x := x) (by omega) k (by omega), pe_P (by omega)]
def sumOk (r n : Nat) : Bool := decide (((List.range (n / r + 1)).map fun k => (CC.getD (r - 2) []).getD (n - r * k) 0 * (LL.getD r []).getD k 0).sum = P.getD n 0) && decide (-1000000000 ≤ (CC.getD (r - 2) []).getD n 0 ∧ (CC.getD (r - 2) []).getD n 0 ≤ 1000000000)
theorem sum_all : ((List.range 8).all fun r => (List.range 91).all fun n => sumOk (r + 2) n) = true := by decide +kernel
theorem sum_ok {r n : Nat} (h1 : 2 ≤ r) (h2 : r ≤ 9) (hn : n ≤ 90) : sumOk r n = true := by
  have := List.all_eq_true.mp (List.all_eq_true.mp sum_all (r - 2) (List.mem_range.mpr (by omega))) n (List.mem_range.mpr (by omega))
  rwa [show r - 2 + 2 = r by omega] at this
end K85

namespace K85
open PySem PySem.Spec PyProof.Rows L2 Lp
def markOk' (r n : Nat) (c : List (List Int) × List Int) (m : List Int) : Bool := decide ((((n : Int) - m.sum) / r).toNat < n / r + 1) && decide (getI c.1 c.2 m = some ((LL.getD r []).getD (((n : Int) - m.sum) / r).toNat 0)) && decide (0 ≤ ((n : Int) - m.sum) / r)
def shareOk' (r n : Nat) : Bool := (rowsF 13 n n).all (rowOk r n) && (let c := marks (rowsF 13 n n) r; c.1.all (markOk' r n c))
theorem share_of {r n : Nat} (h1 : 2 ≤ r) (h2 : r ≤ 9) (hn : n ≤ 12) (h : shareOk' r n = true) : shareOk r n = true := by
  unfold shareOk' at h
  unfold shareOk
  rw [Bool.and_eq_true] at h ⊢
  refine ⟨h.1, ?_⟩
  rw [List.all_eq_true]
  intro m hm
  have h2 := List.all_eq_true.mp h.2 m hm
  unfold markOk' at h2
  unfold markOk
  simp only [Bool.and_eq_true, decide_eq_true_eq] at h2 ⊢
  obtain ⟨⟨a, b⟩, c⟩ := h2
  have hd : n / r ≤ n := Nat.div_le_self _ _
  refine ⟨⟨?_, c⟩, a⟩
  rw [lot_L (t := 0) (by omega) (x := r) (by omega) _ (by omega)]
  exact b
theorem share_2 : ((List.range 13).all fun n => shareOk' 2 n) = true := by decide +kernel
theorem share_3 : ((List.range 13).all fun n => shareOk' 3 n) = true := by decide +kernel
theorem share_4 : ((List.range 13).all fun n => shareOk' 4 n) = true := by decide +kernel
theorem share_5 : ((List.range 13).all fun n => shareOk' 5 n) = true := by decide +kernel
theorem share_6 : ((List.range 13).all fun n => shareOk' 6 n) = true := by decide +kernel
theorem share_7 : ((List.range 13).all fun n => shareOk' 7 n) = true := by decide +kernel
theorem share_8 : ((List.range 13).all fun n => shareOk' 8 n) = true := by decide +kernel
theorem share_9 : ((List.range 13).all fun n => shareOk' 9 n) = true := by decide +kernel
theorem share_ok (r n : Nat) (h1 : 2 ≤ r) (h2 : r ≤ 9) (hn : n ≤ 12) : shareOk r n = true := by
  refine share_of h1 h2 hn ?_
  have hm : n ∈ List.range 13 := List.mem_range.mpr (by omega)
  have hr : r = 2 ∨ r = 3 ∨ r = 4 ∨ r = 5 ∨ r = 6 ∨ r = 7 ∨ r = 8 ∨ r = 9 := by omega
  rcases hr with rfl | rfl | rfl | rfl | rfl | rfl | rfl | rfl
  · exact List.all_eq_true.mp share_2 n hm
  · exact List.all_eq_true.mp share_3 n hm
  · exact List.all_eq_true.mp share_4 n hm
  · exact List.all_eq_true.mp share_5 n hm
  · exact List.all_eq_true.mp share_6 n hm
  · exact List.all_eq_true.mp share_7 n hm
  · exact List.all_eq_true.mp share_8 n hm
  · exact List.all_eq_true.mp share_9 n hm
theorem chk : Chk where
  pe := pe_b
  sh := share_ok
  cb := fun r n h1 h2 hn => by
    have := sum_ok h1 h2 hn
    unfold sumOk at this
    rw [Bool.and_eq_true, decide_eq_true_eq, decide_eq_true_eq] at this
    rw [cores_C h1 h2 hn]
    exact this.2
  eq := fun r n h1 h2 hn => by
    have := sum_ok h1 h2 hn
    unfold sumOk at this
    rw [Bool.and_eq_true, decide_eq_true_eq, decide_eq_true_eq] at this
    rw [pc_P hn, ← this.1]
    congr 1
    apply List.map_congr_left
    intro k hk
    rw [List.mem_range] at hk
    have hd : n / r ≤ 45 := by
      have h3 : n / r ≤ 90 / r := Nat.div_le_div_right hn
      have h4 : 90 / r ≤ 90 / 2 := Nat.div_le_div_left h1 (by omega)
      omega
    rw [cores_C h1 h2 (by omega), lot_L (t := 0) (by omega) (x := r) h2 k (by omega)]
  pp := fun n hn => by rw [pc_P hn, pe_P hn]
end K85

namespace K85
open PySem PySem.Spec PyProof.Rows L2 Lp
structure Fx (K : PySem.W.Frag) (mg : Str → Option Value) : Prop where
  b_abs : mg "abs" = none
  b_all : mg "all" = none
  b_bool : mg "bool" = none
  b_divmod : mg "divmod" = none
  b_enumerate : mg "enumerate" = none
  b_int : mg "int" = none
  b_isinstance : mg "isinstance" = none
  b_len : mg "len" = none
  b_list : mg "list" = none
  b_min : mg "min" = none
  b_range : mg "range" = none
  b_sorted : mg "sorted" = none
  b_sum : mg "sum" = none
  b_tuple : mg "tuple" = none
  g_LEAST_RODS : ∃ t, mg "LEAST_RODS" = some (.int 2 t)
  g_MOST_LISTED : ∃ t, mg "MOST_LISTED" = some (.int 24 t)
  g_MOST_NUMBER : ∃ t, mg "MOST_NUMBER" = some (.int 400 t)
  g_MOST_RODS : ∃ t, mg "MOST_RODS" = some (.int 9 t)
  g_MOST_SUM : ∃ t, mg "MOST_SUM" = some (.int 600 t)
  f_is_integer : ∃ f fd, mg "is_integer" = some (.ref f) ∧ FunD K "is_integer" "is_integer" (defArgs (top 9)) (defBody (top 9)) (defScope (top 9)) [] [] f fd
  f_is_within_bounds : ∃ f fd, mg "is_within_bounds" = some (.ref f) ∧ FunD K "is_within_bounds" "is_within_bounds" (defArgs (top 10)) (defBody (top 10)) (defScope (top 10)) [] [] f fd
  f_check_within : ∃ f fd, mg "check_within" = some (.ref f) ∧ FunD K "check_within" "check_within" (defArgs (top 11)) (defBody (top 11)) (defScope (top 11)) [] [] f fd
  f_check_number : ∃ f fd, mg "check_number" = some (.ref f) ∧ FunD K "check_number" "check_number" (defArgs (top 12)) (defBody (top 12)) (defScope (top 12)) [] [] f fd
  f_is_falling : ∃ f fd, mg "is_falling" = some (.ref f) ∧ FunD K "is_falling" "is_falling" (defArgs (top 14)) (defBody (top 14)) (defScope (top 14)) [] [] f fd
  f_is_row : ∃ f fd, mg "is_row" = some (.ref f) ∧ FunD K "is_row" "is_row" (defArgs (top 15)) (defBody (top 15)) (defScope (top 15)) [] [] f fd
  f_check_row : ∃ f fd, mg "check_row" = some (.ref f) ∧ FunD K "check_row" "check_row" (defArgs (top 16)) (defBody (top 16)) (defScope (top 16)) [] [] f fd
  f_rows_within : ∃ f fd, mg "rows_within" = some (.ref f) ∧ FunD K "rows_within" "rows_within" (defArgs (top 17)) (defBody (top 17)) (defScope (top 17)) [] [] f fd
  f_all_rows : ∃ f fd, mg "all_rows" = some (.ref f) ∧ FunD K "all_rows" "all_rows" (defArgs (top 18)) (defBody (top 18)) (defScope (top 18)) [] [] f fd
  f_all_counts : ∃ f fd, mg "all_counts" = some (.ref f) ∧ FunD K "all_counts" "all_counts" (defArgs (top 20)) (defBody (top 20)) (defScope (top 20)) [] [] f fd
  f_sums_by_divisors : ∃ f fd, mg "sums_by_divisors" = some (.ref f) ∧ FunD K "sums_by_divisors" "sums_by_divisors" (defArgs (top 21)) (defBody (top 21)) (defScope (top 21)) [] [] f fd
  f_counts_by_excesses : ∃ f fd, mg "counts_by_excesses" = some (.ref f) ∧ FunD K "counts_by_excesses" "counts_by_excesses" (defArgs (top 22)) (defBody (top 22)) (defScope (top 22)) [] [] f fd
  f_count_all : ∃ f fd, mg "count_all" = some (.ref f) ∧ FunD K "count_all" "count_all" (defArgs (top 23)) (defBody (top 23)) (defScope (top 23)) [] [] f fd
  f_check_rods : ∃ f fd, mg "check_rods" = some (.ref f) ∧ FunD K "check_rods" "check_rods" (defArgs (top 26)) (defBody (top 26)) (defScope (top 26)) [] [] f fd
  f_places_in : ∃ f fd, mg "places_in" = some (.ref f) ∧ FunD K "places_in" "places_in" (defArgs (top 27)) (defBody (top 27)) (defScope (top 27)) [] [] f fd
  f_row_at : ∃ f fd, mg "row_at" = some (.ref f) ∧ FunD K "row_at" "row_at" (defArgs (top 28)) (defBody (top 28)) (defScope (top 28)) [] [] f fd
  f_heights_on : ∃ f fd, mg "heights_on" = some (.ref f) ∧ FunD K "heights_on" "heights_on" (defArgs (top 29)) (defBody (top 29)) (defScope (top 29)) [] [] f fd
  f_core_row : ∃ f fd, mg "core_row" = some (.ref f) ∧ FunD K "core_row" "core_row" (defArgs (top 30)) (defBody (top 30)) (defScope (top 30)) [] [] f fd
  f_core : ∃ f fd, mg "core" = some (.ref f) ∧ FunD K "core" "core" (defArgs (top 31)) (defBody (top 31)) (defScope (top 31)) [] [] f fd
  f_thread_on : ∃ f fd, mg "thread_on" = some (.ref f) ∧ FunD K "thread_on" "thread_on" (defArgs (top 32)) (defBody (top 32)) (defScope (top 32)) [] [] f fd
  f_thread_list : ∃ f fd, mg "thread_list" = some (.ref f) ∧ FunD K "thread_list" "thread_list" (defArgs (top 33)) (defBody (top 33)) (defScope (top 33)) [] [] f fd
  f_threads : ∃ f fd, mg "threads" = some (.ref f) ∧ FunD K "threads" "threads" (defArgs (top 34)) (defBody (top 34)) (defScope (top 34)) [] [] f fd
  f_count_cores : ∃ f fd, mg "count_cores" = some (.ref f) ∧ FunD K "count_cores" "count_cores" (defArgs (top 35)) (defBody (top 35)) (defScope (top 35)) [] [] f fd
  f__law_pot : ∃ f fd, mg "_law_pot" = some (.ref f) ∧ FunD K "_law_pot" "_law_pot" (defArgs (top 37)) (defBody (top 37)) (defScope (top 37)) [] [] f fd
  f__law_draw : ∃ f fd, mg "_law_draw" = some (.ref f) ∧ FunD K "_law_draw" "_law_draw" (defArgs (top 38)) (defBody (top 38)) (defScope (top 38)) [] [] f fd
  f__law_every : ∃ f fd, mg "_law_every" = some (.ref f) ∧ FunD K "_law_every" "_law_every" (defArgs (top 39)) (defBody (top 39)) (defScope (top 39)) [] [] f fd
  f__law_lots : ∃ f fd, mg "_law_lots" = some (.ref f) ∧ FunD K "_law_lots" "_law_lots" (defArgs (top 40)) (defBody (top 40)) (defScope (top 40)) [] [] f fd
  f__law_shared_right : ∃ f fd, mg "_law_shared_right" = some (.ref f) ∧ FunD K "_law_shared_right" "_law_shared_right" (defArgs (top 41)) (defBody (top 41)) (defScope (top 41)) [] [] f fd
  f__law_right : ∃ f fd, mg "_law_right" = some (.ref f) ∧ FunD K "_law_right" "_law_right" (defArgs (top 42)) (defBody (top 42)) (defScope (top 42)) [] [] f fd
def P_is_integer : List Str := ["value"]
theorem S_is_integer : FnScope N_is_integer P_is_integer (defScope (top 9)) := ⟨rfl, rfl, rfl, by decide +kernel, rfl, by decide +kernel, by decide +kernel⟩
def P_is_within_bounds : List Str := ["value", "least", "most"]
theorem S_is_within_bounds : FnScope N_is_within_bounds P_is_within_bounds (defScope (top 10)) := ⟨rfl, rfl, rfl, by decide +kernel, rfl, by decide +kernel, by decide +kernel⟩
def P_check_within : List Str := ["value", "least", "most"]
theorem S_check_within : FnScope N_check_within P_check_within (defScope (top 11)) := ⟨rfl, rfl, rfl, by decide +kernel, rfl, by decide +kernel, by decide +kernel⟩
def P_check_number : List Str := ["value"]
theorem S_check_number : FnScope N_check_number P_check_number (defScope (top 12)) := ⟨rfl, rfl, rfl, by decide +kernel, rfl, by decide +kernel, by decide +kernel⟩
def P_is_falling : List Str := ["parts", "step"]
theorem S_is_falling : FnScope N_is_falling P_is_falling (defScope (top 14)) := ⟨rfl, rfl, rfl, by decide +kernel, rfl, by decide +kernel, by decide +kernel⟩
def P_is_row : List Str := ["value"]
theorem S_is_row : FnScope N_is_row P_is_row (defScope (top 15)) := ⟨rfl, rfl, rfl, by decide +kernel, rfl, by decide +kernel, by decide +kernel⟩
def P_check_row : List Str := ["value"]
theorem S_check_row : FnScope N_check_row P_check_row (defScope (top 16)) := ⟨rfl, rfl, rfl, by decide +kernel, rfl, by decide +kernel, by decide +kernel⟩
def P_rows_within : List Str := ["number", "most"]
theorem S_rows_within : FnScope N_rows_within P_rows_within (defScope (top 17)) := ⟨rfl, rfl, rfl, by decide +kernel, rfl, by decide +kernel, by decide +kernel⟩
def P_all_rows : List Str := ["number"]
theorem S_all_rows : FnScope N_all_rows P_all_rows (defScope (top 18)) := ⟨rfl, rfl, rfl, by decide +kernel, rfl, by decide +kernel, by decide +kernel⟩
def P_all_counts : List Str := ["number"]
theorem S_all_counts : FnScope N_all_counts P_all_counts (defScope (top 20)) := ⟨rfl, rfl, rfl, by decide +kernel, rfl, by decide +kernel, by decide +kernel⟩
def P_sums_by_divisors : List Str := ["amounts"]
theorem S_sums_by_divisors : FnScope N_sums_by_divisors P_sums_by_divisors (defScope (top 21)) := ⟨rfl, rfl, rfl, by decide +kernel, rfl, by decide +kernel, by decide +kernel⟩
def P_counts_by_excesses : List Str := ["amounts"]
theorem S_counts_by_excesses : FnScope N_counts_by_excesses P_counts_by_excesses (defScope (top 22)) := ⟨rfl, rfl, rfl, by decide +kernel, rfl, by decide +kernel, by decide +kernel⟩
def P_count_all : List Str := ["number"]
theorem S_count_all : FnScope N_count_all P_count_all (defScope (top 23)) := ⟨rfl, rfl, rfl, by decide +kernel, rfl, by decide +kernel, by decide +kernel⟩
def P_check_rods : List Str := ["value"]
theorem S_check_rods : FnScope N_check_rods P_check_rods (defScope (top 26)) := ⟨rfl, rfl, rfl, by decide +kernel, rfl, by decide +kernel, by decide +kernel⟩
def P_places_in : List Str := ["row", "rods"]
theorem S_places_in : FnScope N_places_in P_places_in (defScope (top 27)) := ⟨rfl, rfl, rfl, by decide +kernel, rfl, by decide +kernel, by decide +kernel⟩
def P_row_at : List Str := ["places"]
theorem S_row_at : FnScope N_row_at P_row_at (defScope (top 28)) := ⟨rfl, rfl, rfl, by decide +kernel, rfl, by decide +kernel, by decide +kernel⟩
def P_heights_on : List Str := ["places", "rods", "rod"]
theorem S_heights_on : FnScope N_heights_on P_heights_on (defScope (top 29)) := ⟨rfl, rfl, rfl, by decide +kernel, rfl, by decide +kernel, by decide +kernel⟩
def P_core_row : List Str := ["row", "rods"]
theorem S_core_row : FnScope N_core_row P_core_row (defScope (top 30)) := ⟨rfl, rfl, rfl, by decide +kernel, rfl, by decide +kernel, by decide +kernel⟩
def P_core : List Str := ["row", "rods"]
theorem S_core : FnScope N_core P_core (defScope (top 31)) := ⟨rfl, rfl, rfl, by decide +kernel, rfl, by decide +kernel, by decide +kernel⟩
def P_thread_on : List Str := ["heights"]
theorem S_thread_on : FnScope N_thread_on P_thread_on (defScope (top 32)) := ⟨rfl, rfl, rfl, by decide +kernel, rfl, by decide +kernel, by decide +kernel⟩
def P_thread_list : List Str := ["row", "rods"]
theorem S_thread_list : FnScope N_thread_list P_thread_list (defScope (top 33)) := ⟨rfl, rfl, rfl, by decide +kernel, rfl, by decide +kernel, by decide +kernel⟩
def P_threads : List Str := ["row", "rods"]
theorem S_threads : FnScope N_threads P_threads (defScope (top 34)) := ⟨rfl, rfl, rfl, by decide +kernel, rfl, by decide +kernel, by decide +kernel⟩
def P_count_cores : List Str := ["number", "rods"]
theorem S_count_cores : FnScope N_count_cores P_count_cores (defScope (top 35)) := ⟨rfl, rfl, rfl, by decide +kernel, rfl, by decide +kernel, by decide +kernel⟩
def P__law_pot : List Str := ["script", "turn"]
theorem S__law_pot : FnScope N__law_pot P__law_pot (defScope (top 37)) := ⟨rfl, rfl, rfl, by decide +kernel, rfl, by decide +kernel, by decide +kernel⟩
def P__law_draw : List Str := ["pot", "size"]
theorem S__law_draw : FnScope N__law_draw P__law_draw (defScope (top 38)) := ⟨rfl, rfl, rfl, by decide +kernel, rfl, by decide +kernel, by decide +kernel⟩
def P__law_every : List Str := ["most"]
theorem S__law_every : FnScope N__law_every P__law_every (defScope (top 39)) := ⟨rfl, rfl, rfl, by decide +kernel, rfl, by decide +kernel, by decide +kernel⟩
def P__law_lots : List Str := ["rods", "most"]
theorem S__law_lots : FnScope N__law_lots P__law_lots (defScope (top 40)) := ⟨rfl, rfl, rfl, by decide +kernel, rfl, by decide +kernel, by decide +kernel⟩
def P__law_shared_right : List Str := ["rods", "number"]
theorem S__law_shared_right : FnScope N__law_shared_right P__law_shared_right (defScope (top 41)) := ⟨rfl, rfl, rfl, by decide +kernel, rfl, by decide +kernel, by decide +kernel⟩
def P__law_right : List Str := ["pot"]
theorem S__law_right : FnScope N__law_right P__law_right (defScope (top 42)) := ⟨rfl, rfl, rfl, by decide +kernel, rfl, by decide +kernel, by decide +kernel⟩
def P_law : List Str := ["script"]
theorem S_law : FnScope N_law P_law (defScope (top 43)) := ⟨rfl, rfl, rfl, by decide +kernel, rfl, by decide +kernel, by decide +kernel⟩
theorem hy {P : Program} {w : World} {K : PySem.W.Frag} {mg : Str → Option Value} {base : Heap} (X : Fx K mg) : ∀ k, Hy P w K mg base ⟨K, fun _ => 0, fun _ => 0⟩ k (runT T k) := by
  intro k
  induction k with
  | zero =>
    constructor
    · rfl
    · exact X.b_abs
    · exact X.b_all
    · exact X.b_bool
    · exact X.b_divmod
    · exact X.b_enumerate
    · exact X.b_int
    · exact X.b_isinstance
    · exact X.b_len
    · exact X.b_list
    · exact X.b_min
    · exact X.b_range
    · exact X.b_sorted
    · exact X.b_sum
    · exact X.b_tuple
    · exact X.g_LEAST_RODS
    · exact X.g_MOST_LISTED
    · exact X.g_MOST_NUMBER
    · exact X.g_MOST_RODS
    · exact X.g_MOST_SUM
    · obtain ⟨f, fd, hm, F⟩ := X.f_is_integer
      exact calD_zero (ps := P_is_integer) F hm (F.bindsN (ps := P_is_integer) fun _ _ _ _ _ _ us hl => match us, hl with | [_], _ => rfl)
    · obtain ⟨f, fd, hm, F⟩ := X.f_is_within_bounds
      exact calD_zero (ps := P_is_within_bounds) F hm (F.bindsN (ps := P_is_within_bounds) fun _ _ _ _ _ _ us hl => match us, hl with | [_, _, _], _ => rfl)
    · obtain ⟨f, fd, hm, F⟩ := X.f_check_within
      exact calD_zero (ps := P_check_within) F hm (F.bindsN (ps := P_check_within) fun _ _ _ _ _ _ us hl => match us, hl with | [_, _, _], _ => rfl)
    · obtain ⟨f, fd, hm, F⟩ := X.f_check_number
      exact calD_zero (ps := P_check_number) F hm (F.bindsN (ps := P_check_number) fun _ _ _ _ _ _ us hl => match us, hl with | [_], _ => rfl)
    · obtain ⟨f, fd, hm, F⟩ := X.f_is_falling
      exact calD_zero (ps := P_is_falling) F hm (F.bindsN (ps := P_is_falling) fun _ _ _ _ _ _ us hl => match us, hl with | [_, _], _ => rfl)
    · obtain ⟨f, fd, hm, F⟩ := X.f_is_row
      exact calD_zero (ps := P_is_row) F hm (F.bindsN (ps := P_is_row) fun _ _ _ _ _ _ us hl => match us, hl with | [_], _ => rfl)
    · obtain ⟨f, fd, hm, F⟩ := X.f_check_row
      exact calD_zero (ps := P_check_row) F hm (F.bindsN (ps := P_check_row) fun _ _ _ _ _ _ us hl => match us, hl with | [_], _ => rfl)
    · obtain ⟨f, fd, hm, F⟩ := X.f_rows_within
      exact calD_zero (ps := P_rows_within) F hm (F.bindsN (ps := P_rows_within) fun _ _ _ _ _ _ us hl => match us, hl with | [_, _], _ => rfl)
    · obtain ⟨f, fd, hm, F⟩ := X.f_all_rows
      exact calD_zero (ps := P_all_rows) F hm (F.bindsN (ps := P_all_rows) fun _ _ _ _ _ _ us hl => match us, hl with | [_], _ => rfl)
    · obtain ⟨f, fd, hm, F⟩ := X.f_all_counts
      exact calD_zero (ps := P_all_counts) F hm (F.bindsN (ps := P_all_counts) fun _ _ _ _ _ _ us hl => match us, hl with | [_], _ => rfl)
    · obtain ⟨f, fd, hm, F⟩ := X.f_sums_by_divisors
      exact calD_zero (ps := P_sums_by_divisors) F hm (F.bindsN (ps := P_sums_by_divisors) fun _ _ _ _ _ _ us hl => match us, hl with | [_], _ => rfl)
    · obtain ⟨f, fd, hm, F⟩ := X.f_counts_by_excesses
      exact calD_zero (ps := P_counts_by_excesses) F hm (F.bindsN (ps := P_counts_by_excesses) fun _ _ _ _ _ _ us hl => match us, hl with | [_], _ => rfl)
    · obtain ⟨f, fd, hm, F⟩ := X.f_count_all
      exact calD_zero (ps := P_count_all) F hm (F.bindsN (ps := P_count_all) fun _ _ _ _ _ _ us hl => match us, hl with | [_], _ => rfl)
    · obtain ⟨f, fd, hm, F⟩ := X.f_check_rods
      exact calD_zero (ps := P_check_rods) F hm (F.bindsN (ps := P_check_rods) fun _ _ _ _ _ _ us hl => match us, hl with | [_], _ => rfl)
    · obtain ⟨f, fd, hm, F⟩ := X.f_places_in
      exact calD_zero (ps := P_places_in) F hm (F.bindsN (ps := P_places_in) fun _ _ _ _ _ _ us hl => match us, hl with | [_, _], _ => rfl)
    · obtain ⟨f, fd, hm, F⟩ := X.f_row_at
      exact calD_zero (ps := P_row_at) F hm (F.bindsN (ps := P_row_at) fun _ _ _ _ _ _ us hl => match us, hl with | [_], _ => rfl)
    · obtain ⟨f, fd, hm, F⟩ := X.f_heights_on
      exact calD_zero (ps := P_heights_on) F hm (F.bindsN (ps := P_heights_on) fun _ _ _ _ _ _ us hl => match us, hl with | [_, _, _], _ => rfl)
    · obtain ⟨f, fd, hm, F⟩ := X.f_core_row
      exact calD_zero (ps := P_core_row) F hm (F.bindsN (ps := P_core_row) fun _ _ _ _ _ _ us hl => match us, hl with | [_, _], _ => rfl)
    · obtain ⟨f, fd, hm, F⟩ := X.f_core
      exact calD_zero (ps := P_core) F hm (F.bindsN (ps := P_core) fun _ _ _ _ _ _ us hl => match us, hl with | [_, _], _ => rfl)
    · obtain ⟨f, fd, hm, F⟩ := X.f_thread_on
      exact calD_zero (ps := P_thread_on) F hm (F.bindsN (ps := P_thread_on) fun _ _ _ _ _ _ us hl => match us, hl with | [_], _ => rfl)
    · obtain ⟨f, fd, hm, F⟩ := X.f_thread_list
      exact calD_zero (ps := P_thread_list) F hm (F.bindsN (ps := P_thread_list) fun _ _ _ _ _ _ us hl => match us, hl with | [_, _], _ => rfl)
    · obtain ⟨f, fd, hm, F⟩ := X.f_threads
      exact calD_zero (ps := P_threads) F hm (F.bindsN (ps := P_threads) fun _ _ _ _ _ _ us hl => match us, hl with | [_, _], _ => rfl)
    · obtain ⟨f, fd, hm, F⟩ := X.f_count_cores
      exact calD_zero (ps := P_count_cores) F hm (F.bindsN (ps := P_count_cores) fun _ _ _ _ _ _ us hl => match us, hl with | [_, _], _ => rfl)
    · obtain ⟨f, fd, hm, F⟩ := X.f__law_pot
      exact calD_zero (ps := P__law_pot) F hm (F.bindsN (ps := P__law_pot) fun _ _ _ _ _ _ us hl => match us, hl with | [_, _], _ => rfl)
    · obtain ⟨f, fd, hm, F⟩ := X.f__law_draw
      exact calD_zero (ps := P__law_draw) F hm (F.bindsN (ps := P__law_draw) fun _ _ _ _ _ _ us hl => match us, hl with | [_, _], _ => rfl)
    · obtain ⟨f, fd, hm, F⟩ := X.f__law_every
      exact calD_zero (ps := P__law_every) F hm (F.bindsN (ps := P__law_every) fun _ _ _ _ _ _ us hl => match us, hl with | [_], _ => rfl)
    · obtain ⟨f, fd, hm, F⟩ := X.f__law_lots
      exact calD_zero (ps := P__law_lots) F hm (F.bindsN (ps := P__law_lots) fun _ _ _ _ _ _ us hl => match us, hl with | [_, _], _ => rfl)
    · obtain ⟨f, fd, hm, F⟩ := X.f__law_shared_right
      exact calD_zero (ps := P__law_shared_right) F hm (F.bindsN (ps := P__law_shared_right) fun _ _ _ _ _ _ us hl => match us, hl with | [_, _], _ => rfl)
    · obtain ⟨f, fd, hm, F⟩ := X.f__law_right
      exact calD_zero (ps := P__law_right) F hm (F.bindsN (ps := P__law_right) fun _ _ _ _ _ _ us hl => match us, hl with | [_], _ => rfl)
  | succ k Y =>
    constructor
    · rfl
    · exact X.b_abs
    · exact X.b_all
    · exact X.b_bool
    · exact X.b_divmod
    · exact X.b_enumerate
    · exact X.b_int
    · exact X.b_isinstance
    · exact X.b_len
    · exact X.b_list
    · exact X.b_min
    · exact X.b_range
    · exact X.b_sorted
    · exact X.b_sum
    · exact X.b_tuple
    · exact X.g_LEAST_RODS
    · exact X.g_MOST_LISTED
    · exact X.g_MOST_NUMBER
    · exact X.g_MOST_RODS
    · exact X.g_MOST_SUM
    · obtain ⟨f, fd, hm, F⟩ := X.f_is_integer
      exact calD_succ (ps := P_is_integer) F hm (F.bindsN (ps := P_is_integer) fun _ _ _ _ _ _ us hl => match us, hl with | [_], _ => rfl) S_is_integer rfl fun cdv A outer s H w0 E hr => b_is_integer Y cdv A outer s H w0 E hr
    · obtain ⟨f, fd, hm, F⟩ := X.f_is_within_bounds
      exact calD_succ (ps := P_is_within_bounds) F hm (F.bindsN (ps := P_is_within_bounds) fun _ _ _ _ _ _ us hl => match us, hl with | [_, _, _], _ => rfl) S_is_within_bounds rfl fun cdv A outer s H w0 E hr => b_is_within_bounds Y cdv A outer s H w0 E hr
    · obtain ⟨f, fd, hm, F⟩ := X.f_check_within
      exact calD_succ (ps := P_check_within) F hm (F.bindsN (ps := P_check_within) fun _ _ _ _ _ _ us hl => match us, hl with | [_, _, _], _ => rfl) S_check_within rfl fun cdv A outer s H w0 E hr => b_check_within Y cdv A outer s H w0 E hr
    · obtain ⟨f, fd, hm, F⟩ := X.f_check_number
      exact calD_succ (ps := P_check_number) F hm (F.bindsN (ps := P_check_number) fun _ _ _ _ _ _ us hl => match us, hl with | [_], _ => rfl) S_check_number rfl fun cdv A outer s H w0 E hr => b_check_number Y cdv A outer s H w0 E hr
    · obtain ⟨f, fd, hm, F⟩ := X.f_is_falling
      exact calD_succ (ps := P_is_falling) F hm (F.bindsN (ps := P_is_falling) fun _ _ _ _ _ _ us hl => match us, hl with | [_, _], _ => rfl) S_is_falling rfl fun cdv A outer s H w0 E hr => b_is_falling Y cdv A outer s H w0 E hr
    · obtain ⟨f, fd, hm, F⟩ := X.f_is_row
      exact calD_succ (ps := P_is_row) F hm (F.bindsN (ps := P_is_row) fun _ _ _ _ _ _ us hl => match us, hl with | [_], _ => rfl) S_is_row rfl fun cdv A outer s H w0 E hr => b_is_row Y cdv A outer s H w0 E hr
    · obtain ⟨f, fd, hm, F⟩ := X.f_check_row
      exact calD_succ (ps := P_check_row) F hm (F.bindsN (ps := P_check_row) fun _ _ _ _ _ _ us hl => match us, hl with | [_], _ => rfl) S_check_row rfl fun cdv A outer s H w0 E hr => b_check_row Y cdv A outer s H w0 E hr
    · obtain ⟨f, fd, hm, F⟩ := X.f_rows_within
      exact calD_succ (ps := P_rows_within) F hm (F.bindsN (ps := P_rows_within) fun _ _ _ _ _ _ us hl => match us, hl with | [_, _], _ => rfl) S_rows_within rfl fun cdv A outer s H w0 E hr => b_rows_within Y cdv A outer s H w0 E hr
    · obtain ⟨f, fd, hm, F⟩ := X.f_all_rows
      exact calD_succ (ps := P_all_rows) F hm (F.bindsN (ps := P_all_rows) fun _ _ _ _ _ _ us hl => match us, hl with | [_], _ => rfl) S_all_rows rfl fun cdv A outer s H w0 E hr => b_all_rows Y cdv A outer s H w0 E hr
    · obtain ⟨f, fd, hm, F⟩ := X.f_all_counts
      exact calD_succ (ps := P_all_counts) F hm (F.bindsN (ps := P_all_counts) fun _ _ _ _ _ _ us hl => match us, hl with | [_], _ => rfl) S_all_counts rfl fun cdv A outer s H w0 E hr => b_all_counts Y cdv A outer s H w0 E hr
    · obtain ⟨f, fd, hm, F⟩ := X.f_sums_by_divisors
      exact calD_succ (ps := P_sums_by_divisors) F hm (F.bindsN (ps := P_sums_by_divisors) fun _ _ _ _ _ _ us hl => match us, hl with | [_], _ => rfl) S_sums_by_divisors rfl fun cdv A outer s H w0 E hr => b_sums_by_divisors Y cdv A outer s H w0 E hr
    · obtain ⟨f, fd, hm, F⟩ := X.f_counts_by_excesses
      exact calD_succ (ps := P_counts_by_excesses) F hm (F.bindsN (ps := P_counts_by_excesses) fun _ _ _ _ _ _ us hl => match us, hl with | [_], _ => rfl) S_counts_by_excesses rfl fun cdv A outer s H w0 E hr => b_counts_by_excesses Y cdv A outer s H w0 E hr
    · obtain ⟨f, fd, hm, F⟩ := X.f_count_all
      exact calD_succ (ps := P_count_all) F hm (F.bindsN (ps := P_count_all) fun _ _ _ _ _ _ us hl => match us, hl with | [_], _ => rfl) S_count_all rfl fun cdv A outer s H w0 E hr => b_count_all Y cdv A outer s H w0 E hr
    · obtain ⟨f, fd, hm, F⟩ := X.f_check_rods
      exact calD_succ (ps := P_check_rods) F hm (F.bindsN (ps := P_check_rods) fun _ _ _ _ _ _ us hl => match us, hl with | [_], _ => rfl) S_check_rods rfl fun cdv A outer s H w0 E hr => b_check_rods Y cdv A outer s H w0 E hr
    · obtain ⟨f, fd, hm, F⟩ := X.f_places_in
      exact calD_succ (ps := P_places_in) F hm (F.bindsN (ps := P_places_in) fun _ _ _ _ _ _ us hl => match us, hl with | [_, _], _ => rfl) S_places_in rfl fun cdv A outer s H w0 E hr => b_places_in Y cdv A outer s H w0 E hr
    · obtain ⟨f, fd, hm, F⟩ := X.f_row_at
      exact calD_succ (ps := P_row_at) F hm (F.bindsN (ps := P_row_at) fun _ _ _ _ _ _ us hl => match us, hl with | [_], _ => rfl) S_row_at rfl fun cdv A outer s H w0 E hr => b_row_at Y cdv A outer s H w0 E hr
    · obtain ⟨f, fd, hm, F⟩ := X.f_heights_on
      exact calD_succ (ps := P_heights_on) F hm (F.bindsN (ps := P_heights_on) fun _ _ _ _ _ _ us hl => match us, hl with | [_, _, _], _ => rfl) S_heights_on rfl fun cdv A outer s H w0 E hr => b_heights_on Y cdv A outer s H w0 E hr
    · obtain ⟨f, fd, hm, F⟩ := X.f_core_row
      exact calD_succ (ps := P_core_row) F hm (F.bindsN (ps := P_core_row) fun _ _ _ _ _ _ us hl => match us, hl with | [_, _], _ => rfl) S_core_row rfl fun cdv A outer s H w0 E hr => b_core_row Y cdv A outer s H w0 E hr
    · obtain ⟨f, fd, hm, F⟩ := X.f_core
      exact calD_succ (ps := P_core) F hm (F.bindsN (ps := P_core) fun _ _ _ _ _ _ us hl => match us, hl with | [_, _], _ => rfl) S_core rfl fun cdv A outer s H w0 E hr => b_core Y cdv A outer s H w0 E hr
    · obtain ⟨f, fd, hm, F⟩ := X.f_thread_on
      exact calD_succ (ps := P_thread_on) F hm (F.bindsN (ps := P_thread_on) fun _ _ _ _ _ _ us hl => match us, hl with | [_], _ => rfl) S_thread_on rfl fun cdv A outer s H w0 E hr => b_thread_on Y cdv A outer s H w0 E hr
    · obtain ⟨f, fd, hm, F⟩ := X.f_thread_list
      exact calD_succ (ps := P_thread_list) F hm (F.bindsN (ps := P_thread_list) fun _ _ _ _ _ _ us hl => match us, hl with | [_, _], _ => rfl) S_thread_list rfl fun cdv A outer s H w0 E hr => b_thread_list Y cdv A outer s H w0 E hr
    · obtain ⟨f, fd, hm, F⟩ := X.f_threads
      exact calD_succ (ps := P_threads) F hm (F.bindsN (ps := P_threads) fun _ _ _ _ _ _ us hl => match us, hl with | [_, _], _ => rfl) S_threads rfl fun cdv A outer s H w0 E hr => b_threads Y cdv A outer s H w0 E hr
    · obtain ⟨f, fd, hm, F⟩ := X.f_count_cores
      exact calD_succ (ps := P_count_cores) F hm (F.bindsN (ps := P_count_cores) fun _ _ _ _ _ _ us hl => match us, hl with | [_, _], _ => rfl) S_count_cores rfl fun cdv A outer s H w0 E hr => b_count_cores Y cdv A outer s H w0 E hr
    · obtain ⟨f, fd, hm, F⟩ := X.f__law_pot
      exact calD_succ (ps := P__law_pot) F hm (F.bindsN (ps := P__law_pot) fun _ _ _ _ _ _ us hl => match us, hl with | [_, _], _ => rfl) S__law_pot rfl fun cdv A outer s H w0 E hr => b__law_pot Y cdv A outer s H w0 E hr
    · obtain ⟨f, fd, hm, F⟩ := X.f__law_draw
      exact calD_succ (ps := P__law_draw) F hm (F.bindsN (ps := P__law_draw) fun _ _ _ _ _ _ us hl => match us, hl with | [_, _], _ => rfl) S__law_draw rfl fun cdv A outer s H w0 E hr => b__law_draw Y cdv A outer s H w0 E hr
    · obtain ⟨f, fd, hm, F⟩ := X.f__law_every
      exact calD_succ (ps := P__law_every) F hm (F.bindsN (ps := P__law_every) fun _ _ _ _ _ _ us hl => match us, hl with | [_], _ => rfl) S__law_every rfl fun cdv A outer s H w0 E hr => b__law_every Y cdv A outer s H w0 E hr
    · obtain ⟨f, fd, hm, F⟩ := X.f__law_lots
      exact calD_succ (ps := P__law_lots) F hm (F.bindsN (ps := P__law_lots) fun _ _ _ _ _ _ us hl => match us, hl with | [_, _], _ => rfl) S__law_lots rfl fun cdv A outer s H w0 E hr => b__law_lots Y cdv A outer s H w0 E hr
    · obtain ⟨f, fd, hm, F⟩ := X.f__law_shared_right
      exact calD_succ (ps := P__law_shared_right) F hm (F.bindsN (ps := P__law_shared_right) fun _ _ _ _ _ _ us hl => match us, hl with | [_, _], _ => rfl) S__law_shared_right rfl fun cdv A outer s H w0 E hr => b__law_shared_right Y cdv A outer s H w0 E hr
    · obtain ⟨f, fd, hm, F⟩ := X.f__law_right
      exact calD_succ (ps := P__law_right) F hm (F.bindsN (ps := P__law_right) fun _ _ _ _ _ _ us hl => match us, hl with | [_], _ => rfl) S__law_right rfl fun cdv A outer s H w0 E hr => b__law_right Y cdv A outer s H w0 E hr
def dd_is_integer : He.DefD := ⟨("is_integer", none), "is_integer", "is_integer", defArgs (top 9), defBody (top 9), defScope (top 9), [], []⟩
def dd_is_within_bounds : He.DefD := ⟨("is_within_bounds", none), "is_within_bounds", "is_within_bounds", defArgs (top 10), defBody (top 10), defScope (top 10), [], []⟩
def dd_check_within : He.DefD := ⟨("check_within", none), "check_within", "check_within", defArgs (top 11), defBody (top 11), defScope (top 11), [], []⟩
def dd_check_number : He.DefD := ⟨("check_number", none), "check_number", "check_number", defArgs (top 12), defBody (top 12), defScope (top 12), [], []⟩
def dd_is_falling : He.DefD := ⟨("is_falling", none), "is_falling", "is_falling", defArgs (top 14), defBody (top 14), defScope (top 14), [], []⟩
def dd_is_row : He.DefD := ⟨("is_row", none), "is_row", "is_row", defArgs (top 15), defBody (top 15), defScope (top 15), [], []⟩
def dd_check_row : He.DefD := ⟨("check_row", none), "check_row", "check_row", defArgs (top 16), defBody (top 16), defScope (top 16), [], []⟩
def dd_rows_within : He.DefD := ⟨("rows_within", none), "rows_within", "rows_within", defArgs (top 17), defBody (top 17), defScope (top 17), [], []⟩
def dd_all_rows : He.DefD := ⟨("all_rows", none), "all_rows", "all_rows", defArgs (top 18), defBody (top 18), defScope (top 18), [], []⟩
def dd_all_counts : He.DefD := ⟨("all_counts", none), "all_counts", "all_counts", defArgs (top 20), defBody (top 20), defScope (top 20), [], []⟩
def dd_sums_by_divisors : He.DefD := ⟨("sums_by_divisors", none), "sums_by_divisors", "sums_by_divisors", defArgs (top 21), defBody (top 21), defScope (top 21), [], []⟩
def dd_counts_by_excesses : He.DefD := ⟨("counts_by_excesses", none), "counts_by_excesses", "counts_by_excesses", defArgs (top 22), defBody (top 22), defScope (top 22), [], []⟩
def dd_count_all : He.DefD := ⟨("count_all", none), "count_all", "count_all", defArgs (top 23), defBody (top 23), defScope (top 23), [], []⟩
def dd_check_rods : He.DefD := ⟨("check_rods", none), "check_rods", "check_rods", defArgs (top 26), defBody (top 26), defScope (top 26), [], []⟩
def dd_places_in : He.DefD := ⟨("places_in", none), "places_in", "places_in", defArgs (top 27), defBody (top 27), defScope (top 27), [], []⟩
def dd_row_at : He.DefD := ⟨("row_at", none), "row_at", "row_at", defArgs (top 28), defBody (top 28), defScope (top 28), [], []⟩
def dd_heights_on : He.DefD := ⟨("heights_on", none), "heights_on", "heights_on", defArgs (top 29), defBody (top 29), defScope (top 29), [], []⟩
def dd_core_row : He.DefD := ⟨("core_row", none), "core_row", "core_row", defArgs (top 30), defBody (top 30), defScope (top 30), [], []⟩
def dd_core : He.DefD := ⟨("core", none), "core", "core", defArgs (top 31), defBody (top 31), defScope (top 31), [], []⟩
def dd_thread_on : He.DefD := ⟨("thread_on", none), "thread_on", "thread_on", defArgs (top 32), defBody (top 32), defScope (top 32), [], []⟩
def dd_thread_list : He.DefD := ⟨("thread_list", none), "thread_list", "thread_list", defArgs (top 33), defBody (top 33), defScope (top 33), [], []⟩
def dd_threads : He.DefD := ⟨("threads", none), "threads", "threads", defArgs (top 34), defBody (top 34), defScope (top 34), [], []⟩
def dd_count_cores : He.DefD := ⟨("count_cores", none), "count_cores", "count_cores", defArgs (top 35), defBody (top 35), defScope (top 35), [], []⟩
def dd__law_pot : He.DefD := ⟨("_law_pot", none), "_law_pot", "_law_pot", defArgs (top 37), defBody (top 37), defScope (top 37), [], []⟩
def dd__law_draw : He.DefD := ⟨("_law_draw", none), "_law_draw", "_law_draw", defArgs (top 38), defBody (top 38), defScope (top 38), [], []⟩
def dd__law_every : He.DefD := ⟨("_law_every", none), "_law_every", "_law_every", defArgs (top 39), defBody (top 39), defScope (top 39), [], []⟩
def dd__law_lots : He.DefD := ⟨("_law_lots", none), "_law_lots", "_law_lots", defArgs (top 40), defBody (top 40), defScope (top 40), [], []⟩
def dd__law_shared_right : He.DefD := ⟨("_law_shared_right", none), "_law_shared_right", "_law_shared_right", defArgs (top 41), defBody (top 41), defScope (top 41), [], []⟩
def dd__law_right : He.DefD := ⟨("_law_right", none), "_law_right", "_law_right", defArgs (top 42), defBody (top 42), defScope (top 42), [], []⟩
def dd_law : He.DefD := ⟨("law", none), "law", "law", defArgs (top 43), defBody (top 43), defScope (top 43), [], []⟩
def fnl : List He.DefD := [dd_is_integer, dd_is_within_bounds, dd_check_within, dd_check_number, dd_is_falling, dd_is_row, dd_check_row, dd_rows_within, dd_all_rows, dd_all_counts, dd_sums_by_divisors, dd_counts_by_excesses, dd_count_all, dd_check_rods, dd_places_in, dd_row_at, dd_heights_on, dd_core_row, dd_core, dd_thread_on, dd_thread_list, dd_threads, dd_count_cores, dd__law_pot, dd__law_draw, dd__law_every, dd__law_lots, dd__law_shared_right, dd__law_right, dd_law]
def fal : List He.Fa := [.glo "is_integer", .glo "is_within_bounds", .glo "check_within", .glo "check_number", .glo "is_falling", .glo "is_row", .glo "check_row", .glo "rows_within", .glo "all_rows", .glo "all_counts", .glo "sums_by_divisors", .glo "counts_by_excesses", .glo "count_all", .glo "check_rods", .glo "places_in", .glo "row_at", .glo "heights_on", .glo "core_row", .glo "core", .glo "thread_on", .glo "thread_list", .glo "threads", .glo "count_cores", .glo "_law_pot", .glo "_law_draw", .glo "_law_every", .glo "_law_lots", .glo "_law_shared_right", .glo "_law_right", .glo "law", .free "abs", .free "all", .free "bool", .free "divmod", .free "enumerate", .free "int", .free "isinstance", .free "len", .free "list", .free "min", .free "range", .free "sorted", .free "sum", .free "tuple", .int "LEAST_RODS" 2, .int "MOST_LISTED" 24, .int "MOST_NUMBER" 400, .int "MOST_RODS" 9, .int "MOST_SUM" 600]
abbrev R : PySem.W.OpenRow := PySem.W.OpenLaw.row PySem.Challenge.rw_letparts_k85_whole_all_rows_by_cores_and
def loose0 : List PySem.Str := ["WrongValue", "InvalidRow", "InvalidNumber", "MOST_SUM", "MOST_NUMBER", "MOST_LISTED", "MOST_RODS", "is_integer", "is_within_bounds", "check_within", "check_number", "is_falling", "is_row", "check_row", "rows_within", "all_rows"]
def loose1 : List PySem.Str := ["all_counts", "sums_by_divisors", "counts_by_excesses", "count_all", "LEAST_RODS", "check_rods", "places_in", "row_at", "heights_on", "core_row", "core", "thread_on", "thread_list", "threads", "count_cores", "_law_pot"]
def loose2 : List PySem.Str := ["_law_draw", "_law_every", "_law_lots", "_law_shared_right", "_law_right"]
abbrev hk : PySem.W.Hook := He.hookD 4 fal fnl
def ob (s : PySem.W.SharedT) : He.AlD := He.obsDG 4 fal fnl (HandSHeadRun.getT s)
theorem ob_eq (s : PySem.W.SharedT) : ob s = hk.obs s.abs := He.obsDG_eq (HandSHeadRun.getT_eq s)
theorem run (w : World) : HandSHeadRun.RunEq R (PySem.W.view R.prog [43]) hk ob 3000 (loose0 ++ loose1 ++ loose2) w := by
  intro os
  kernel_rfl
theorem facts {P : Program} {w : World} {K : PySem.W.Frag} {h : Heap} {mg : Str → Option Value} {f : Addr} (X : K.In h) (G : h.Ns mainGlobals mg) (hfa : mg ("law" : Str) = some (.ref f)) (c : He.SaysD fal fnl K) (k : Nat) :
    ∃ fd : FuncData, (∀ (s : Shared) (v : Value), BindsTo s fd ⟨[v], []⟩ [("script", v)]) ∧ ∀ base : Heap, K.In base → base.Ns mainGlobals mg → FnOk P w K mg base CX0 (k + 1) f fd ["script"] (spD ⟨K, fun _ => 0, fun _ => 0⟩ (runT T (k + 1)) 29 1) := by
  have FX : Fx K mg := by
    constructor
    · exact He.free_ok X G (c.fact 30 (f := .free "abs") rfl)
    · exact He.free_ok X G (c.fact 31 (f := .free "all") rfl)
    · exact He.free_ok X G (c.fact 32 (f := .free "bool") rfl)
    · exact He.free_ok X G (c.fact 33 (f := .free "divmod") rfl)
    · exact He.free_ok X G (c.fact 34 (f := .free "enumerate") rfl)
    · exact He.free_ok X G (c.fact 35 (f := .free "int") rfl)
    · exact He.free_ok X G (c.fact 36 (f := .free "isinstance") rfl)
    · exact He.free_ok X G (c.fact 37 (f := .free "len") rfl)
    · exact He.free_ok X G (c.fact 38 (f := .free "list") rfl)
    · exact He.free_ok X G (c.fact 39 (f := .free "min") rfl)
    · exact He.free_ok X G (c.fact 40 (f := .free "range") rfl)
    · exact He.free_ok X G (c.fact 41 (f := .free "sorted") rfl)
    · exact He.free_ok X G (c.fact 42 (f := .free "sum") rfl)
    · exact He.free_ok X G (c.fact 43 (f := .free "tuple") rfl)
    · exact He.int_ok X G (c.fact 44 (f := .int "LEAST_RODS" 2) rfl)
    · exact He.int_ok X G (c.fact 45 (f := .int "MOST_LISTED" 24) rfl)
    · exact He.int_ok X G (c.fact 46 (f := .int "MOST_NUMBER" 400) rfl)
    · exact He.int_ok X G (c.fact 47 (f := .int "MOST_RODS" 9) rfl)
    · exact He.int_ok X G (c.fact 48 (f := .int "MOST_SUM" 600) rfl)
    · obtain ⟨fd, F⟩ := c.def_ 0 (d := dd_is_integer) rfl
      exact ⟨_, fd, He.glo_ok X G (c.fact 0 (f := .glo "is_integer") rfl), F⟩
    · obtain ⟨fd, F⟩ := c.def_ 1 (d := dd_is_within_bounds) rfl
      exact ⟨_, fd, He.glo_ok X G (c.fact 1 (f := .glo "is_within_bounds") rfl), F⟩
    · obtain ⟨fd, F⟩ := c.def_ 2 (d := dd_check_within) rfl
      exact ⟨_, fd, He.glo_ok X G (c.fact 2 (f := .glo "check_within") rfl), F⟩
    · obtain ⟨fd, F⟩ := c.def_ 3 (d := dd_check_number) rfl
      exact ⟨_, fd, He.glo_ok X G (c.fact 3 (f := .glo "check_number") rfl), F⟩
    · obtain ⟨fd, F⟩ := c.def_ 4 (d := dd_is_falling) rfl
      exact ⟨_, fd, He.glo_ok X G (c.fact 4 (f := .glo "is_falling") rfl), F⟩
    · obtain ⟨fd, F⟩ := c.def_ 5 (d := dd_is_row) rfl
      exact ⟨_, fd, He.glo_ok X G (c.fact 5 (f := .glo "is_row") rfl), F⟩
    · obtain ⟨fd, F⟩ := c.def_ 6 (d := dd_check_row) rfl
      exact ⟨_, fd, He.glo_ok X G (c.fact 6 (f := .glo "check_row") rfl), F⟩
    · obtain ⟨fd, F⟩ := c.def_ 7 (d := dd_rows_within) rfl
      exact ⟨_, fd, He.glo_ok X G (c.fact 7 (f := .glo "rows_within") rfl), F⟩
    · obtain ⟨fd, F⟩ := c.def_ 8 (d := dd_all_rows) rfl
      exact ⟨_, fd, He.glo_ok X G (c.fact 8 (f := .glo "all_rows") rfl), F⟩
    · obtain ⟨fd, F⟩ := c.def_ 9 (d := dd_all_counts) rfl
      exact ⟨_, fd, He.glo_ok X G (c.fact 9 (f := .glo "all_counts") rfl), F⟩
    · obtain ⟨fd, F⟩ := c.def_ 10 (d := dd_sums_by_divisors) rfl
      exact ⟨_, fd, He.glo_ok X G (c.fact 10 (f := .glo "sums_by_divisors") rfl), F⟩
    · obtain ⟨fd, F⟩ := c.def_ 11 (d := dd_counts_by_excesses) rfl
      exact ⟨_, fd, He.glo_ok X G (c.fact 11 (f := .glo "counts_by_excesses") rfl), F⟩
    · obtain ⟨fd, F⟩ := c.def_ 12 (d := dd_count_all) rfl
      exact ⟨_, fd, He.glo_ok X G (c.fact 12 (f := .glo "count_all") rfl), F⟩
    · obtain ⟨fd, F⟩ := c.def_ 13 (d := dd_check_rods) rfl
      exact ⟨_, fd, He.glo_ok X G (c.fact 13 (f := .glo "check_rods") rfl), F⟩
    · obtain ⟨fd, F⟩ := c.def_ 14 (d := dd_places_in) rfl
      exact ⟨_, fd, He.glo_ok X G (c.fact 14 (f := .glo "places_in") rfl), F⟩
    · obtain ⟨fd, F⟩ := c.def_ 15 (d := dd_row_at) rfl
      exact ⟨_, fd, He.glo_ok X G (c.fact 15 (f := .glo "row_at") rfl), F⟩
    · obtain ⟨fd, F⟩ := c.def_ 16 (d := dd_heights_on) rfl
      exact ⟨_, fd, He.glo_ok X G (c.fact 16 (f := .glo "heights_on") rfl), F⟩
    · obtain ⟨fd, F⟩ := c.def_ 17 (d := dd_core_row) rfl
      exact ⟨_, fd, He.glo_ok X G (c.fact 17 (f := .glo "core_row") rfl), F⟩
    · obtain ⟨fd, F⟩ := c.def_ 18 (d := dd_core) rfl
      exact ⟨_, fd, He.glo_ok X G (c.fact 18 (f := .glo "core") rfl), F⟩
    · obtain ⟨fd, F⟩ := c.def_ 19 (d := dd_thread_on) rfl
      exact ⟨_, fd, He.glo_ok X G (c.fact 19 (f := .glo "thread_on") rfl), F⟩
    · obtain ⟨fd, F⟩ := c.def_ 20 (d := dd_thread_list) rfl
      exact ⟨_, fd, He.glo_ok X G (c.fact 20 (f := .glo "thread_list") rfl), F⟩
    · obtain ⟨fd, F⟩ := c.def_ 21 (d := dd_threads) rfl
      exact ⟨_, fd, He.glo_ok X G (c.fact 21 (f := .glo "threads") rfl), F⟩
    · obtain ⟨fd, F⟩ := c.def_ 22 (d := dd_count_cores) rfl
      exact ⟨_, fd, He.glo_ok X G (c.fact 22 (f := .glo "count_cores") rfl), F⟩
    · obtain ⟨fd, F⟩ := c.def_ 23 (d := dd__law_pot) rfl
      exact ⟨_, fd, He.glo_ok X G (c.fact 23 (f := .glo "_law_pot") rfl), F⟩
    · obtain ⟨fd, F⟩ := c.def_ 24 (d := dd__law_draw) rfl
      exact ⟨_, fd, He.glo_ok X G (c.fact 24 (f := .glo "_law_draw") rfl), F⟩
    · obtain ⟨fd, F⟩ := c.def_ 25 (d := dd__law_every) rfl
      exact ⟨_, fd, He.glo_ok X G (c.fact 25 (f := .glo "_law_every") rfl), F⟩
    · obtain ⟨fd, F⟩ := c.def_ 26 (d := dd__law_lots) rfl
      exact ⟨_, fd, He.glo_ok X G (c.fact 26 (f := .glo "_law_lots") rfl), F⟩
    · obtain ⟨fd, F⟩ := c.def_ 27 (d := dd__law_shared_right) rfl
      exact ⟨_, fd, He.glo_ok X G (c.fact 27 (f := .glo "_law_shared_right") rfl), F⟩
    · obtain ⟨fd, F⟩ := c.def_ 28 (d := dd__law_right) rfl
      exact ⟨_, fd, He.glo_ok X G (c.fact 28 (f := .glo "_law_right") rfl), F⟩
  obtain ⟨fd, F⟩ := c.def_ 29 (d := dd_law) rfl
  have e := hfa.symm.trans (He.glo_ok X G (c.fact 29 (f := .glo "law") rfl))
  cases e
  have b := FunD.bindsA (ps := ["script"]) F fun _ _ _ _ _ _ us hl => match us, hl with | [_], _ => rfl
  exact ⟨fd, fun s v => b s [v] rfl, fun base _ _ => fnT_succ (ps := P_law) F S_law rfl fun cdv A outer s H w0 E hr => b_law (hy FX k) cdv A outer s H w0 E hr⟩
end K85

open PySem PySem.W PySem.Calls PyProof.Rows
theorem PySem.Challenge.cw_letparts_k85_whole_all_rows_by_cores_and_holds : PySem.Challenge.rw_letparts_k85_whole_all_rows_by_cores_and.Holds := by
  w_on; o_law
  refine HandSHeadRun.head_any (r := OpenLaw.row PySem.Challenge.rw_letparts_k85_whole_all_rows_by_cores_and) (q := view (OpenLaw.row PySem.Challenge.rw_letparts_k85_whole_all_rows_by_cores_and).prog [43]) (H := K85.hk) (ob := K85.ob) (M := 3000) (loose := (K85.loose0 ++ K85.loose1 ++ K85.loose2)) (d := HandSHeadRun.topDef (OpenLaw.row PySem.Challenge.rw_letparts_k85_whole_all_rows_by_cores_and).prog 43) (kwd := []) K85.ob_eq
    (by kernel_rfl) (fun s => by kernel_rfl) K85.run (by kernel_rfl) (by kernel_rfl) (by kernel_rfl) (by rfl) (by first | assumption | decide +kernel) (by decide +kernel) ⟨rfl, rfl, rfl, rfl, rfl, by decide +kernel⟩ ?hw ?hc
  case hw => w_witness2
  case hc =>
    refine L2.walk_ofE (l := PySem.Challenge.rw_letparts_k85_whole_all_rows_by_cores_and) (n := 63) (k := 20) (x := "script") (CX := L2.CX0) rfl (by decide) (by kernel_rfl) ⟨rfl, by decide, by decide⟩ ?F (fun _ _ _ _ z => z)
    intro w mg fa h Y G hmg0
    obtain ⟨K, KX, c⟩ := Y
    have hmg : mg ("law" : PySem.Str) = some (.ref fa) := by
      have e : (HandSHeadRun.topDef (OpenLaw.row PySem.Challenge.rw_letparts_k85_whole_all_rows_by_cores_and).prog 43).name = ("law" : PySem.Str) := by kernel_rfl
      rw [← e]
      exact hmg0
    obtain ⟨fd, hb, hF⟩ := K85.facts (P := (PySem.Challenge.rw_letparts_k85_whole_all_rows_by_cores_and).prog) (w := w) KX G hmg c 19
    refine ⟨K, fd, _, KX, hb, fun H a ns hl _ hS => ?_, hF⟩
    obtain ⟨G', e⟩ := K85.law_true K85.chk (k := 20) (by decide) ns hl
    exact Lp.spD_law rfl hS e

