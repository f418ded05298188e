import PyProof.Rows.All
import Wide.All
import OpenK.AllK
import Wide.FinOn
import HandS.ForMost
import HandS.TupAny
import HandS.TupMul
import HandS.TupLe
import HandS.Style
import HandS.Star
import HandS.IsInst
import HandS.SortInts
import HandS.SortKw
import HandS.Iter
import HandS.Walk
import HandS.Comp
import KE.GoesEnum
import HandS.Dict
import HandS.Small
import HandS.Ends
import HandS.More
import HandS.Words
import HandS.Defaults
import HandS.Property
import HandS.ClsMeth
import HandS.Text
import HandS.MapJoin
import HandS.RaiseMore
import HandS.HeadHook1
import HandS.HeadHook2
import HandS.Head2
import KE.KEqDeep
import HandS.Head0
import HandS.Head1
import HandS.HeadEnd
import PySem.Challenge.RW_letparts_k97_whole_rows_apart_beside_cap
set_option Elab.async false
set_option linter.all false
set_option maxRecDepth 100000
set_option maxHeartbeats 4000000
namespace Lp
open PySem PySem.Spec PyProof.Rows L2

/-! ### plain values, objects, slots, results -/
/-- built-in types -/
inductive Ty where
  | non | bool | int | str | tuple | list | dict | set
  deriving DecidableEq
def Ty.nm : Ty → String
  | .non => "NoneType" | .bool => "bool" | .int => "int" | .str => "str" | .tuple => "tuple" | .list => "list" | .dict => "dict" | .set => "set"
inductive D where
  | non | bl (b : Bool) | int (i : Int) | str (s : Str)
  | tup (l : List D) | lst (l : List D) | scr (l : List D)
  | ins (c : Nat) (ns : List Str) (l : List D)
  | dK (ks : List Key) (vs : List D) | dT (ks : List (List Key)) (vs : List D)
  | ref (n : Nat) | ty (t : Ty) | cls (c : Nat) | fn (f : Nat)
inductive Ob where
  | lst (l : List D) | dK (ks : List Key) (vs : List D) | dT (ks : List (List Key)) (vs : List D)
  | ins (c : Nat) (ns : List Str) (l : List D)
inductive Sl where
  | no | v (d : D) | own (o : Ob)
inductive R where
  | d (x : D) | tmp (o : Ob) | bor (i : Nat) (o : Ob)
abbrev Env := List Sl
abbrev Sto := List Ob

/-- what the text's names stand for behind the top -/
structure Md where
  K : PySem.W.Frag
  ca : Nat → Addr
  fa : Nat → Addr
/-- what stands for good, where the shared objects stand -/
structure Wd where
  fz : Hp
  al : List Addr

mutual
def Rep (M : Md) (w : Wd) : D → V → Prop
  | .non, v => v = .non
  | .bl b, v => v = .bl b
  | .int i, v => v = .int i
  | .str s, v => v = .str s
  | .tup l, v => ∃ a xs, v = .ref a ∧ w.fz a = some (.tup xs) ∧ RepL M w l xs
  | .lst l, v => ∃ a xs, v = .ref a ∧ w.fz a = some (.lst xs) ∧ RepL M w l xs
  | .scr l, v => ∃ a xs, v = .ref a ∧ SqL M.K w.fz a xs ∧ RepL M w l xs
  | .ins c ns l, v => ∃ a dx fs, v = .ref a ∧ w.fz a = some (.ins (M.ca c) dx fs) ∧ fs.map (·.1) = ns ∧ RepL M w l (fs.map (·.2))
  | .dK ks vs, v => ∃ a od kvs, v = .ref a ∧ w.fz a = some (.frz od (.dK kvs)) ∧ kvs.map (·.1) = ks ∧ RepL M w vs (kvs.map (·.2))
  | .dT ks vs, v => ∃ a od kvs, v = .ref a ∧ w.fz a = some (.frz od (.dT kvs)) ∧ kvs.map (·.1) = ks ∧ RepL M w vs (kvs.map (·.2))
  | .ref n, v => ∃ a, v = .ref a ∧ w.al[n]? = some a
  | .ty t, v => v = .ty t.nm
  | .cls c, v => v = .ref (M.ca c)
  | .fn f, v => v = .ref (M.fa f)
def RepL (M : Md) (w : Wd) : List D → List V → Prop
  | [], xs => xs = []
  | d :: l, xs => ∃ x r, xs = x :: r ∧ Rep M w d x ∧ RepL M w l r
end

def ObAt (M : Md) (w : Wd) (H : Hp) (a : Addr) : Ob → Prop
  | .lst l => ∃ xs, H a = some (.lst xs) ∧ RepL M w l xs
  | .dK ks vs => ∃ kvs, H a = some (.dK kvs) ∧ kvs.map (·.1) = ks ∧ RepL M w vs (kvs.map (·.2))
  | .dT ks vs => ∃ kvs, H a = some (.dT kvs) ∧ kvs.map (·.1) = ks ∧ RepL M w vs (kvs.map (·.2))
  | .ins c ns l => ∃ dx fs, H a = some (.ins (M.ca c) dx fs) ∧ fs.map (·.1) = ns ∧ RepL M w l (fs.map (·.2))

/-- later: what stands for good stays so, only new things have been added, all else but the shared objects stays -/
structure Lat (H : Hp) (w : Wd) (H' : Hp) (w' : Wd) : Prop where
  fz : ∀ a o, w.fz a = some o → w'.fz a = some o
  al : ∃ t, w'.al = w.al ++ t ∧ ∀ a ∈ t, H a = none
  nw : ∀ a, w'.fz a ≠ none → w.fz a = none → H a = none ∨ ∃ xs, H a = some (.tup xs)
  tb : ∀ a xs, H' a = some (.tup xs) → H a = none ∨ H a = some (.tup xs)
  kp : ∀ a o, H a = some o → a ∉ w.al → H' a = some o
  dm : ∀ a, H a ≠ none → H' a ≠ none

theorem Lat.refl (H : Hp) (w : Wd) : Lat H w H w :=
  ⟨fun _ _ h => h, ⟨[], by simp, fun _ h => absurd h (by simp)⟩, fun _ h h' => absurd h' h, fun _ _ h => .inr h, fun _ _ h _ => h, fun _ h => h⟩
theorem Lat.trans {H H1 H2 : Hp} {w w1 w2 : Wd} (a : Lat H w H1 w1) (b : Lat H1 w1 H2 w2) : Lat H w H2 w2 := by
  obtain ⟨t1, e1, n1⟩ := a.al
  obtain ⟨t2, e2, n2⟩ := b.al
  refine ⟨fun x o h => b.fz x o (a.fz x o h), ⟨t1 ++ t2, by rw [e2, e1, List.append_assoc], fun x hx => ?_⟩, fun x h1 h2 => ?_, fun x xs h => ?_, fun x o h1 h2 => ?_, fun x h => b.dm x (a.dm x h)⟩
  · rcases List.mem_append.mp hx with h | h
    · exact n1 x h
    · cases q : H x with
      | none => rfl
      | some o => exact absurd (n2 x h) (a.dm x (by rw [q]; simp))
  · cases q : w1.fz x with
    | none =>
      rcases b.nw x h1 q with z | ⟨xs, z⟩
      · cases q2 : H x with
        | none => exact .inl rfl
        | some o => exact absurd z (a.dm x (by rw [q2]; simp))
      · exact (a.tb x xs z).imp (fun h => h) fun h => ⟨xs, h⟩
    | some o => exact a.nw x (by rw [q]; simp) h2
  · rcases b.tb x xs h with z | z
    · cases q2 : H x with
      | none => exact .inl rfl
      | some o => exact absurd z (a.dm x (by rw [q2]; simp))
    · exact a.tb x xs z
  · refine b.kp x o (a.kp x o h1 h2) ?_
    rw [e1]
    intro hm
    rcases List.mem_append.mp hm with h | h
    · exact h2 h
    · rw [n1 x h] at h1; cases h1
theorem Lat.al_get {H H' : Hp} {w w' : Wd} (L : Lat H w H' w') {n : Nat} {a : Addr} (h : w.al[n]? = some a) : w'.al[n]? = some a := by
  obtain ⟨t, e, _⟩ := L.al
  rw [e, List.getElem?_append_left (List.getElem?_eq_some_iff.mp h).1]
  exact h

theorem sqT_mono {K : PySem.W.Frag} {H H' : Hp} (e : ∀ a o, H a = some o → H' a = some o) {a : Addr} {xs : List V} (h : SqT K H a xs) : SqT K H' a xs := by
  rcases h with (h | ⟨o, h⟩) | h
  · exact .inl (.inl (e _ _ h))
  · exact .inl (.inr ⟨o, e _ _ h⟩)
  · exact .inr h
theorem sqL_mono {K : PySem.W.Frag} {H H' : Hp} (e : ∀ a o, H a = some o → H' a = some o) {a : Addr} {xs : List V} (h : SqL K H a xs) : SqL K H' a xs := by
  rcases h with (h | ⟨o, h⟩) | h
  · exact .inl (.inl (e _ _ h))
  · exact .inl (.inr ⟨o, e _ _ h⟩)
  · exact .inr h

mutual
theorem Rep.mono {M : Md} {w w' : Wd} (hf : ∀ a o, w.fz a = some o → w'.fz a = some o) (ha : ∀ (n : Nat) (a : Addr), w.al[n]? = some a → w'.al[n]? = some a) : ∀ (d : D) (v : V), Rep M w d v → Rep M w' d v
  | .non, _, h => by simp only [Rep] at h ⊢; exact h
  | .bl _, _, h => by simp only [Rep] at h ⊢; exact h
  | .int _, _, h => by simp only [Rep] at h ⊢; exact h
  | .str _, _, h => by simp only [Rep] at h ⊢; exact h
  | .tup l, _, h => by
    simp only [Rep] at h ⊢
    obtain ⟨a, xs, e, s, r⟩ := h
    exact ⟨a, xs, e, hf _ _ s, RepL.mono hf ha l xs r⟩
  | .lst l, _, h => by
    simp only [Rep] at h ⊢
    obtain ⟨a, xs, e, s, r⟩ := h
    exact ⟨a, xs, e, hf _ _ s, RepL.mono hf ha l xs r⟩
  | .scr l, _, h => by
    simp only [Rep] at h ⊢
    obtain ⟨a, xs, e, s, r⟩ := h
    exact ⟨a, xs, e, sqL_mono hf s, RepL.mono hf ha l xs r⟩
  | .ins c ns l, _, h => by
    simp only [Rep] at h ⊢
    obtain ⟨a, dx, fs, e, s, q, r⟩ := h
    exact ⟨a, dx, fs, e, hf _ _ s, q, RepL.mono hf ha l _ r⟩
  | .dK ks l, _, h => by
    simp only [Rep] at h ⊢
    obtain ⟨a, dx, fs, e, s, q, r⟩ := h
    exact ⟨a, dx, fs, e, hf _ _ s, q, RepL.mono hf ha l _ r⟩
  | .dT ks l, _, h => by
    simp only [Rep] at h ⊢
    obtain ⟨a, dx, fs, e, s, q, r⟩ := h
    exact ⟨a, dx, fs, e, hf _ _ s, q, RepL.mono hf ha l _ r⟩
  | .ref _, _, h => by
    simp only [Rep] at h ⊢
    obtain ⟨a, e, s⟩ := h
    exact ⟨a, e, ha _ _ s⟩
  | .ty _, _, h => by simp only [Rep] at h ⊢; exact h
  | .cls _, _, h => by simp only [Rep] at h ⊢; exact h
  | .fn _, _, h => by simp only [Rep] at h ⊢; exact h
theorem RepL.mono {M : Md} {w w' : Wd} (hf : ∀ a o, w.fz a = some o → w'.fz a = some o) (ha : ∀ (n : Nat) (a : Addr), w.al[n]? = some a → w'.al[n]? = some a) : ∀ (l : List D) (xs : List V), RepL M w l xs → RepL M w' l xs
  | [], _, h => by simp only [RepL] at h ⊢; exact h
  | d :: l, _, h => by
    simp only [RepL] at h ⊢
    obtain ⟨x, r, e, h1, h2⟩ := h
    exact ⟨x, r, e, Rep.mono hf ha d x h1, RepL.mono hf ha l r h2⟩
end
theorem Rep.lat {M : Md} {H H' : Hp} {w w' : Wd} {d : D} {v : V} (h : Rep M w d v) (L : Lat H w H' w') : Rep M w' d v := Rep.mono L.fz (fun _ _ q => L.al_get q) d v h
theorem RepL.lat {M : Md} {H H' : Hp} {w w' : Wd} {l : List D} {xs : List V} (h : RepL M w l xs) (L : Lat H w H' w') : RepL M w' l xs := RepL.mono L.fz (fun _ _ q => L.al_get q) l xs h
theorem RepL.nil {M : Md} {w : Wd} : RepL M w [] [] := by simp only [RepL]
theorem RepL.cons {M : Md} {w : Wd} {d : D} {l : List D} {x : V} {r : List V} (h : Rep M w d x) (t : RepL M w l r) : RepL M w (d :: l) (x :: r) := by
  simp only [RepL]; exact ⟨x, r, rfl, h, t⟩
theorem RepL.length {M : Md} {w : Wd} : ∀ {l : List D} {xs : List V}, RepL M w l xs → l.length = xs.length
  | [], _, h => by simp only [RepL] at h; rw [h]; rfl
  | d :: l, _, h => by
    simp only [RepL] at h
    obtain ⟨x, r, rfl, _, t⟩ := h
    simp [RepL.length t]
theorem RepL.get {M : Md} {w : Wd} : ∀ {l : List D} {xs : List V} {i : Nat} {x : V}, RepL M w l xs → xs[i]? = some x → ∃ d, l[i]? = some d ∧ Rep M w d x
  | [], _, i, x, h, e => by simp only [RepL] at h; subst h; simp at e
  | d :: l, _, i, x, h, e => by
    simp only [RepL] at h
    obtain ⟨y, r, rfl, h1, t⟩ := h
    cases i with
    | zero => simp at e; subst e; exact ⟨d, rfl, h1⟩
    | succ i => simp at e; obtain ⟨d', q1, q2⟩ := RepL.get t e; exact ⟨d', by simpa using q1, q2⟩
theorem RepL.getD {M : Md} {w : Wd} {l : List D} {xs : List V} {i : Nat} {d : D} (h : RepL M w l xs) (e : l[i]? = some d) : ∃ x, xs[i]? = some x ∧ Rep M w d x := by
  have hi : i < xs.length := by rw [← h.length]; exact (List.getElem?_eq_some_iff.mp e).1
  obtain ⟨d', q1, q2⟩ := h.get (List.getElem?_eq_getElem hi)
  rw [e] at q1; cases q1
  exact ⟨_, List.getElem?_eq_getElem hi, q2⟩
theorem RepL.append {M : Md} {w : Wd} : ∀ {l m : List D} {xs ys : List V}, RepL M w l xs → RepL M w m ys → RepL M w (l ++ m) (xs ++ ys)
  | [], _, _, _, h, t => by simp only [RepL] at h; subst h; exact t
  | d :: l, _, _, _, h, t => by
    simp only [RepL] at h
    obtain ⟨x, r, rfl, h1, h2⟩ := h
    exact RepL.cons h1 (RepL.append h2 t)
theorem RepL.set {M : Md} {w : Wd} : ∀ {l : List D} {xs : List V} {d : D} {x : V} (i : Nat), RepL M w l xs → Rep M w d x → RepL M w (l.set i d) (xs.set i x)
  | [], _, _, _, i, h, _ => by simp only [RepL] at h; subst h; exact RepL.nil
  | d :: l, _, _, _, i, h, q => by
    simp only [RepL] at h
    obtain ⟨x, r, rfl, h1, h2⟩ := h
    cases i with
    | zero => exact RepL.cons q h2
    | succ i => exact RepL.cons h1 (RepL.set i h2 q)
theorem RepL.drop {M : Md} {w : Wd} : ∀ {l : List D} {xs : List V} (n : Nat), RepL M w l xs → RepL M w (l.drop n) (xs.drop n)
  | _, _, 0, h => h
  | [], _, n + 1, h => by simp only [RepL] at h; subst h; exact RepL.nil
  | d :: l, _, n + 1, h => by
    simp only [RepL] at h
    obtain ⟨x, r, rfl, h1, h2⟩ := h
    exact RepL.drop n h2
theorem RepL.take {M : Md} {w : Wd} : ∀ {l : List D} {xs : List V} (n : Nat), RepL M w l xs → RepL M w (l.take n) (xs.take n)
  | _, _, 0, h => RepL.nil
  | [], _, n + 1, h => by simp only [RepL] at h; subst h; exact RepL.nil
  | d :: l, _, n + 1, h => by
    simp only [RepL] at h
    obtain ⟨x, r, rfl, h1, h2⟩ := h
    exact RepL.cons h1 (RepL.take n h2)
theorem RepL.reverse {M : Md} {w : Wd} : ∀ {l : List D} {xs : List V}, RepL M w l xs → RepL M w l.reverse xs.reverse
  | [], _, h => by simp only [RepL] at h; subst h; exact RepL.nil
  | d :: l, _, h => by
    simp only [RepL] at h
    obtain ⟨x, r, rfl, h1, h2⟩ := h
    rw [List.reverse_cons, List.reverse_cons]
    exact RepL.append (RepL.reverse h2) (RepL.cons h1 RepL.nil)
theorem RepL.rep {M : Md} {w : Wd} {l : List D} {xs : List V} (h : RepL M w l xs) : ∀ k : Nat, RepL M w (List.replicate k l).flatten (List.replicate k xs).flatten
  | 0 => RepL.nil
  | k + 1 => by rw [List.replicate_succ, List.replicate_succ, List.flatten_cons, List.flatten_cons]; exact RepL.append h (RepL.rep h k)

theorem ObAt.lat {M : Md} {H H' : Hp} {w w' : Wd} {a : Addr} {o : Ob} (h : ObAt M w H a o) (L : Lat H w H' w') (ha : a ∉ w.al) : ObAt M w' H' a o := by
  cases o with
  | lst l => obtain ⟨xs, e, r⟩ := h; exact ⟨xs, L.kp _ _ e ha, r.lat L⟩
  | dK ks vs => obtain ⟨xs, e, q, r⟩ := h; exact ⟨xs, L.kp _ _ e ha, q, r.lat L⟩
  | dT ks vs => obtain ⟨xs, e, q, r⟩ := h; exact ⟨xs, L.kp _ _ e ha, q, r.lat L⟩
  | ins c ns l => obtain ⟨dx, fs, e, q, r⟩ := h; exact ⟨dx, fs, L.kp _ _ e ha, q, r.lat L⟩
theorem ObAt.there {M : Md} {H : Hp} {w : Wd} {a : Addr} {o : Ob} (h : ObAt M w H a o) : H a ≠ none := by
  cases o with
  | lst l => obtain ⟨xs, e, r⟩ := h; rw [e]; simp
  | dK ks vs => obtain ⟨xs, e, q, r⟩ := h; rw [e]; simp
  | dT ks vs => obtain ⟨xs, e, q, r⟩ := h; rw [e]; simp
  | ins c ns l => obtain ⟨dx, fs, e, q, r⟩ := h; rw [e]; simp

theorem ObAt.nt {M : Md} {H : Hp} {w : Wd} {a : Addr} {o : Ob} (h : ObAt M w H a o) : ¬ (H a = none ∨ ∃ xs, H a = some (.tup xs)) := by
  rintro (z | ⟨ys, z⟩)
  · exact h.there z
  · cases o with
    | lst l => obtain ⟨xs, e, r⟩ := h; rw [e] at z; cases z
    | dK ks vs => obtain ⟨xs, e, q, r⟩ := h; rw [e] at z; cases z
    | dT ks vs => obtain ⟨xs, e, q, r⟩ := h; rw [e] at z; cases z
    | ins c ns l => obtain ⟨dx, fs, e, q, r⟩ := h; rw [e] at z; cases z

def SlAt (M : Md) (w : Wd) (H : Hp) : Sl → Option (Option V) → Prop
  | .no, _ => True
  | .v d, o => ∃ v, o = some (some v) ∧ Rep M w d v
  | .own ob, o => ∃ a, o = some (some (.ref a)) ∧ ObAt M w H a ob ∧ w.fz a = none ∧ a ∉ w.al
/-- the names' values -/
structure SlOk (M : Md) (H : Hp) (w : Wd) (σ : L2.St) (ρ : Env) : Prop where
  len : σ.length = ρ.length
  at_ : ∀ (i : Nat) (s : Sl), ρ[i]? = some s → SlAt M w H s σ[i]?
  sep : ∀ (i j : Nat) (o o' : Ob) (a : Addr), ρ[i]? = some (.own o) → ρ[j]? = some (.own o') → σ[i]? = some (some (.ref a)) → σ[j]? = some (some (.ref a)) → i = j
/-- the shared objects -/
structure StOk (M : Md) (H : Hp) (w : Wd) (G : Sto) : Prop where
  fzH : ∀ a o, w.fz a = some o → H a = some o
  len : w.al.length = G.length
  nd : w.al.Nodup
  at_ : ∀ (n : Nat) (o : Ob) (a : Addr), G[n]? = some o → w.al[n]? = some a → ObAt M w H a o ∧ w.fz a = none

theorem SlOk.lat {M : Md} {H H' : Hp} {w w' : Wd} {σ : L2.St} {ρ : Env} (h : SlOk M H w σ ρ) (L : Lat H w H' w') : SlOk M H' w' σ ρ := by
  refine ⟨h.len, fun i s e => ?_, h.sep⟩
  have q := h.at_ i s e
  cases s with
  | no => trivial
  | v d => obtain ⟨v, e1, r⟩ := q; exact ⟨v, e1, r.lat L⟩
  | own o =>
    obtain ⟨a, e1, r, n1, n2⟩ := q
    refine ⟨a, e1, r.lat L n2, ?_, ?_⟩
    · cases z : w'.fz a with
      | none => rfl
      | some u => exact absurd (L.nw a (by rw [z]; simp) n1) r.nt
    · obtain ⟨t, et, nt⟩ := L.al
      rw [et]
      intro hm
      rcases List.mem_append.mp hm with z | z
      · exact n2 z
      · exact r.there (nt a z)
theorem StOk.al_there {M : Md} {H : Hp} {w : Wd} {G : Sto} (h : StOk M H w G) {a : Addr} (ha : a ∈ w.al) : H a ≠ none ∧ w.fz a = none := by
  obtain ⟨n, hn, e⟩ := List.getElem_of_mem ha
  have hn' : n < G.length := by rw [← h.len]; exact hn
  obtain ⟨q, z⟩ := h.at_ n G[n] a (List.getElem?_eq_getElem hn') (by rw [List.getElem?_eq_getElem hn, e])
  exact ⟨q.there, z⟩
/-- a new object, not yet given a place -/
theorem Lat.new {M : Md} {H : Hp} {w : Wd} {G : Sto} {p : Addr} {o : HO} (hp : H p = none) : Lat H w (upd H p o) w :=
  ⟨fun _ _ h => h, ⟨[], by simp, fun _ h => absurd h (by simp)⟩, fun _ h h' => absurd h' h, fun a xs h => by
    by_cases e : a = p
    · subst e; exact .inl hp
    · rw [upd_ne e] at h; exact .inr h, fun a u h _ => by rw [upd_ne (ne_of_none h hp)]; exact h, fun a h => by
    by_cases e : a = p
    · subst e; exact absurd hp h
    · rw [upd_ne e]; exact h⟩
theorem StOk.keep {M : Md} {H H' : Hp} {w w' : Wd} {G : Sto} (h : StOk M H w G) (L : Lat H w H' w') (ea : w'.al = w.al) (hk : ∀ a ∈ w.al, H' a = H a) (hf : ∀ a o, w'.fz a = some o → H' a = some o) : StOk M H' w' G := by
  refine ⟨hf, by rw [ea]; exact h.len, by rw [ea]; exact h.nd, fun n o a e1 e2 => ?_⟩
  rw [ea] at e2
  obtain ⟨q, z⟩ := h.at_ n o a e1 e2
  have ha : a ∈ w.al := List.mem_of_getElem? e2
  refine ⟨?_, ?_⟩
  · cases o with
    | lst l => obtain ⟨xs, e, r⟩ := q; exact ⟨xs, (hk a ha).trans e, r.lat L⟩
    | dK ks vs => obtain ⟨xs, e, q, r⟩ := q; exact ⟨xs, (hk a ha).trans e, q, r.lat L⟩
    | dT ks vs => obtain ⟨xs, e, q, r⟩ := q; exact ⟨xs, (hk a ha).trans e, q, r.lat L⟩
    | ins c ns l => obtain ⟨dx, fs, e, q, r⟩ := q; exact ⟨dx, fs, (hk a ha).trans e, q, r.lat L⟩
  · cases z' : w'.fz a with
    | none => rfl
    | some u => exact absurd (L.nw a (by rw [z']; simp) z) q.nt
theorem StOk.new {M : Md} {H : Hp} {w : Wd} {G : Sto} {p : Addr} {o : HO} (h : StOk M H w G) (hp : H p = none) : StOk M (upd H p o) w G :=
  h.keep (Lat.new (M := M) (G := G) hp) rfl (fun a ha => upd_ne fun e => (h.al_there ha).1 (by rw [e]; exact hp)) fun a u e => by
    have q := h.fzH a u e
    rw [upd_ne (ne_of_none q hp)]; exact q
/-- a new object that stands for good -/
def Wd.put (w : Wd) (p : Addr) (o : HO) : Wd := ⟨upd w.fz p o, w.al⟩
theorem StOk.fzn {M : Md} {H : Hp} {w : Wd} {G : Sto} {p : Addr} (h : StOk M H w G) (hp : H p = none) : w.fz p = none := by
  cases e : w.fz p with
  | none => rfl
  | some o => rw [h.fzH p o e] at hp; cases hp
theorem StOk.aln {M : Md} {H : Hp} {w : Wd} {G : Sto} {p : Addr} (h : StOk M H w G) (hp : H p = none) : p ∉ w.al := fun z => (h.al_there z).1 hp
/-- freezing what is new behind H -/
theorem Lat.freeze {M : Md} {H H1 : Hp} {w w1 : Wd} {G : Sto} {p : Addr} {o : HO} (L : Lat H w H1 w1) (hn : H p = none) (h1 : w1.fz p = none) : Lat H w H1 (w1.put p o) := by
  refine ⟨fun a u h => ?_, L.al, fun a z1 z2 => ?_, L.tb, L.kp, L.dm⟩
  · have q := L.fz a u h
    show upd w1.fz p o a = some u
    rw [upd_ne (ne_of_none q h1)]; exact q
  · by_cases e : a = p
    · rw [e]; exact .inl hn
    · exact L.nw a (by have z : upd w1.fz p o a ≠ none := z1; rwa [upd_ne e] at z) z2
theorem Wd.put_lat {H : Hp} {w : Wd} {p : Addr} {o : HO} (h1 : w.fz p = none) : (∀ a u, w.fz a = some u → (w.put p o).fz a = some u) ∧ ∀ (n : Nat) (a : Addr), w.al[n]? = some a → (w.put p o).al[n]? = some a :=
  ⟨fun a u h => by show upd w.fz p o a = some u; rw [upd_ne (ne_of_none h h1)]; exact h, fun _ _ h => h⟩
theorem StOk.freeze {M : Md} {H : Hp} {w : Wd} {G : Sto} {p : Addr} {o : HO} (h : StOk M H w G) (hp : H p = some o) (h1 : w.fz p = none) (h2 : p ∉ w.al) : StOk M H (w.put p o) G := by
  have m := Wd.put_lat (H := H) (o := o) h1
  refine ⟨fun a u e => ?_, h.len, h.nd, fun n ob a e1 e2 => ?_⟩
  · by_cases z : a = p
    · subst z
      have e : upd w.fz a o a = some u := e
      rw [upd_same] at e; cases e; exact hp
    · have e : upd w.fz p o a = some u := e
      rw [upd_ne z] at e; exact h.fzH a u e
  · obtain ⟨q, z⟩ := h.at_ n ob a e1 e2
    have ne : a ≠ p := fun z => h2 (by rw [← z]; exact List.mem_of_getElem? e2)
    refine ⟨?_, by show upd w.fz p o a = none; rw [upd_ne ne]; exact z⟩
    cases ob with
    | lst l => obtain ⟨xs, e, r⟩ := q; exact ⟨xs, e, RepL.mono m.1 m.2 _ _ r⟩
    | dK ks vs => obtain ⟨xs, e, q, r⟩ := q; exact ⟨xs, e, q, RepL.mono m.1 m.2 _ _ r⟩
    | dT ks vs => obtain ⟨xs, e, q, r⟩ := q; exact ⟨xs, e, q, RepL.mono m.1 m.2 _ _ r⟩
    | ins c ns l => obtain ⟨dx, fs, e, q, r⟩ := q; exact ⟨dx, fs, e, q, RepL.mono m.1 m.2 _ _ r⟩

/-! ### results -/
def RX (M : Md) (H : Hp) (σ : L2.St) (ρ : Env) (H' : Hp) (w' : Wd) : R → V → Prop
  | .d x, v => Rep M w' x v
  | .tmp o, v => ∃ a, v = .ref a ∧ ObAt M w' H' a o ∧ w'.fz a = none ∧ a ∉ w'.al ∧ H a = none
  | .bor i o, v => ρ[i]? = some (.own o) ∧ σ[i]? = some (some v)
theorem RX.lat {M : Md} {H H1 H2 : Hp} {w1 w2 : Wd} {σ : L2.St} {ρ : Env} {r : R} {v : V} (h : RX M H σ ρ H1 w1 r v) (L : Lat H1 w1 H2 w2) : RX M H σ ρ H2 w2 r v := by
  cases r with
  | d x => exact Rep.lat h L
  | tmp o =>
    obtain ⟨a, e, q, n1, n2, n3⟩ := h
    refine ⟨a, e, q.lat L n2, ?_, ?_, n3⟩
    · cases z : w2.fz a with
      | none => rfl
      | some u => exact absurd (L.nw a (by rw [z]; simp) n1) q.nt
    · obtain ⟨t, et, nt⟩ := L.al
      rw [et]
      intro hm
      rcases List.mem_append.mp hm with z | z
      · exact n2 z
      · exact q.there (nt a z)
  | bor i o => exact h
theorem RX.back {M : Md} {H H1 H2 : Hp} {w w1 w2 : Wd} {σ : L2.St} {ρ : Env} {r : R} {v : V} (h : RX M H1 σ ρ H2 w2 r v) (L : Lat H w H1 w1) : RX M H σ ρ H2 w2 r v := by
  cases r with
  | d x => exact h
  | tmp o =>
    obtain ⟨a, e, q, n1, n2, n3⟩ := h
    refine ⟨a, e, q, n1, n2, ?_⟩
    cases z : H a with
    | none => rfl
    | some u => exact absurd n3 (L.dm a (by rw [z]; simp))
  | bor i o => exact h
/-- what must hold behind an expression -/
def Post (M : Md) (H : Hp) (w : Wd) (σ : L2.St) (ρ : Env) (r : R) (G' : Sto) (Q : VK) : Prop :=
  ∀ v H' w', Lat H w H' w' → StOk M H' w' G' → RX M H σ ρ H' w' r v → Q v H'
end Lp

namespace Lp
open PySem PySem.Spec PyProof.Rows L2

abbrev CF := Nat → List D → Sto → Option (R × Sto)
abbrev Fn := CF → Env → Sto → Option (R × Sto)
/-- several values: an argument list, all plain -/
abbrev FnL := CF → Env → Sto → Option (List D × Sto)
abbrev FnT := CF → Env → Sto → Option (Bool × Sto)

def tE (M : Md) (cf : CF) (c : Fn) : TE := fun σ H Q => ∃ ρ w G r G', SlOk M H w σ ρ ∧ StOk M H w G ∧ c cf ρ G = some (r, G') ∧ Post M H w σ ρ r G' Q
def tT (M : Md) (cf : CF) (c : FnT) : TT := fun σ H Q => ∃ ρ w G b G', SlOk M H w σ ρ ∧ StOk M H w G ∧ c cf ρ G = some (b, G') ∧ ∀ H' w', Lat H w H' w' → StOk M H' w' G' → Q b H'
def tA (M : Md) (cf : CF) (c : FnL) : TA := fun σ H Q => ∃ ρ w G l G', SlOk M H w σ ρ ∧ StOk M H w G ∧ c cf ρ G = some (l, G') ∧ ∀ vs H' w', Lat H w H' w' → StOk M H' w' G' → RepL M w' l vs → Q vs H'

theorem peW {X : Cx} {e : Expr} {t t' : TE} (h : PE X e t) (k : ∀ σ H Q, t' σ H Q → t σ H Q) : PE X e t' := ⟨fun pins s σ H Q I q => h.run pins s σ H Q I (k σ H Q q)⟩
theorem ptW {X : Cx} {e : Expr} {t t' : TT} (h : PT X e t) (k : ∀ σ H Q, t' σ H Q → t σ H Q) : PT X e t' := ⟨fun pins s σ H Q I q => h.run pins s σ H Q I (k σ H Q q)⟩
theorem pwW {X : Cx} {e : Expr} {t t' : TT} (h : PW X e t) (k : ∀ σ H Q, t' σ H Q → t σ H Q) : PW X e t' := ⟨fun wh pins s σ H Q I q => h.run wh pins s σ H Q I (k σ H Q q)⟩
theorem paW {X : Cx} {e : List Expr} {t t' : TA} (h : PA X e t) (k : ∀ σ H Q, t' σ H Q → t σ H Q) : PA X e t' := ⟨fun pos pins s σ H Q I q => h.run pos pins s σ H Q I (k σ H Q q)⟩
theorem psW {X : Cx} {e : Stmt} {t t' : TS} (h : PS X e t) (k : ∀ D σ H, t' D σ H → t D σ H) : PS X e t' := ⟨fun pins s σ H D I q => h.run pins s σ H D I (k D σ H q)⟩
theorem pssW {X : Cx} {e : List Stmt} {t t' : TS} (h : PSs X e t) (k : ∀ D σ H, t' D σ H → t D σ H) : PSs X e t' := ⟨fun pins s σ H D I q => h.run pins s σ H D I (k D σ H q)⟩

/-- where an evaluation stands that began at H0 -/
structure At (M : Md) (H0 : Hp) (w0 : Wd) (σ : L2.St) (ρ : Env) (H : Hp) (w : Wd) (G : Sto) : Prop where
  lat : Lat H0 w0 H w
  st : StOk M H w G
  sl0 : SlOk M H0 w0 σ ρ
theorem At.sl {M : Md} {H0 H : Hp} {w0 w : Wd} {σ : L2.St} {ρ : Env} {G : Sto} (a : At M H0 w0 σ ρ H w G) : SlOk M H w σ ρ := a.sl0.lat a.lat
theorem At.start {M : Md} {H : Hp} {w : Wd} {σ : L2.St} {ρ : Env} {G : Sto} (a : SlOk M H w σ ρ) (b : StOk M H w G) : At M H w σ ρ H w G := ⟨Lat.refl H w, b, a⟩
theorem At.step {M : Md} {H0 H H' : Hp} {w0 w w' : Wd} {σ : L2.St} {ρ : Env} {G G' : Sto} (a : At M H0 w0 σ ρ H w G) (L : Lat H w H' w') (s : StOk M H' w' G') : At M H0 w0 σ ρ H' w' G' :=
  ⟨a.lat.trans L, s, a.sl0⟩

theorem bindSome {α β : Type} {x : Option α} {f : α → Option β} {z : β} (h : x.bind f = some z) : ∃ y, x = some y ∧ f y = some z := by
  cases x with
  | none => cases h
  | some y => exact ⟨y, rfl, h⟩

section
variable {M : Md} {cf : CF} {H0 H : Hp} {w0 w : Wd} {σ : L2.St} {ρ : Env} {G : Sto}
/-- run a part, go on with what it gives -/
theorem At.run {c : Fn} {α : Type} {f : R × Sto → Option α} {z : α} {K : V → Hp → Prop} (a : At M H0 w0 σ ρ H w G) (h : (c cf ρ G).bind f = some z)
    (k : ∀ r G1 v H1 w1, f (r, G1) = some z → Lat H w H1 w1 → At M H0 w0 σ ρ H1 w1 G1 → RX M H0 σ ρ H1 w1 r v → K v H1) : tE M cf c σ H K := by
  obtain ⟨⟨r, G1⟩, e1, e2⟩ := bindSome h
  exact ⟨ρ, w, G, r, G1, a.sl, a.st, e1, fun v H1 w1 L s x => k r G1 v H1 w1 e2 L (a.step L s) (x.back a.lat)⟩
theorem At.runT {c : FnT} {α : Type} {f : Bool × Sto → Option α} {z : α} {K : Bool → Hp → Prop} (a : At M H0 w0 σ ρ H w G) (h : (c cf ρ G).bind f = some z)
    (k : ∀ b G1 H1 w1, f (b, G1) = some z → Lat H w H1 w1 → At M H0 w0 σ ρ H1 w1 G1 → K b H1) : tT M cf c σ H K := by
  obtain ⟨⟨r, G1⟩, e1, e2⟩ := bindSome h
  exact ⟨ρ, w, G, r, G1, a.sl, a.st, e1, fun H1 w1 L s => k r G1 H1 w1 e2 L (a.step L s)⟩
theorem At.runA {c : FnL} {α : Type} {f : List D × Sto → Option α} {z : α} {K : List V → Hp → Prop} (a : At M H0 w0 σ ρ H w G) (h : (c cf ρ G).bind f = some z)
    (k : ∀ l G1 vs H1 w1, f (l, G1) = some z → Lat H w H1 w1 → At M H0 w0 σ ρ H1 w1 G1 → RepL M w1 l vs → K vs H1) : tA M cf c σ H K := by
  obtain ⟨⟨r, G1⟩, e1, e2⟩ := bindSome h
  exact ⟨ρ, w, G, r, G1, a.sl, a.st, e1, fun vs H1 w1 L s x => k r G1 vs H1 w1 e2 L (a.step L s) x⟩

/-! ### ends -/
theorem At.fin {r : R} {v : V} {Q : VK} (a : At M H0 w0 σ ρ H w G) (q : Post M H0 w0 σ ρ r G Q) (x : RX M H0 σ ρ H w r v) : Q v H := q v H w a.lat a.st x
/-- a new list (or another object that nobody else knows) -/
theorem At.newTmp {o : Ob} {p : Addr} {ho : HO} {Q : VK} (a : At M H0 w0 σ ρ H w G) (q : Post M H0 w0 σ ρ (.tmp o) G Q) (hp : H p = none) (ob : ObAt M w (upd H p ho) p o) : Q (.ref p) (upd H p ho) := by
  have L : Lat H w (upd H p ho) w := Lat.new (M := M) (G := G) hp
  refine q _ _ w (a.lat.trans L) (a.st.new hp) ⟨p, rfl, ob, a.st.fzn hp, a.st.aln hp, ?_⟩
  cases z : H0 p with
  | none => rfl
  | some u => exact absurd hp (a.lat.dm p (by rw [z]; simp))
theorem At.newLst {l : List D} {xs : List V} {p : Addr} {Q : VK} (a : At M H0 w0 σ ρ H w G) (q : Post M H0 w0 σ ρ (.tmp (.lst l)) G Q) (hp : H p = none) (r : RepL M w l xs) : Q (.ref p) (upd H p (.lst xs)) :=
  a.newTmp q hp ⟨xs, upd_same, r⟩
/-- a new object for good -/
theorem At.newFz {d : D} {p : Addr} {ho : HO} {Q : VK} (a : At M H0 w0 σ ρ H w G) (q : Post M H0 w0 σ ρ (.d d) G Q) (hp : H p = none) (r : Rep M (w.put p ho) d (.ref p)) : Q (.ref p) (upd H p ho) := by
  have L : Lat H w (upd H p ho) w := Lat.new (M := M) (G := G) hp
  have L2 := (a.lat.trans L).freeze (M := M) (G := G) (p := p) (o := ho) (by
    cases z : H0 p with
    | none => rfl
    | some u => exact absurd hp (a.lat.dm p (by rw [z]; simp))) (a.st.fzn hp)
  exact q _ _ _ L2 ((a.st.new hp).freeze upd_same (a.st.fzn hp) (a.st.aln hp)) r
theorem RepL.put {w : Wd} {p : Addr} {ho : HO} {l : List D} {xs : List V} (r : RepL M w l xs) (h1 : w.fz p = none) : RepL M (w.put p ho) l xs :=
  RepL.mono (Wd.put_lat (H := fun _ => none) h1).1 (Wd.put_lat (H := fun _ => none) h1).2 l xs r
theorem Rep.put {w : Wd} {p : Addr} {ho : HO} {l : D} {xs : V} (r : Rep M w l xs) (h1 : w.fz p = none) : Rep M (w.put p ho) l xs :=
  Rep.mono (Wd.put_lat (H := fun _ => none) h1).1 (Wd.put_lat (H := fun _ => none) h1).2 l xs r
theorem At.newTup {l : List D} {xs : List V} {p : Addr} {Q : VK} (a : At M H0 w0 σ ρ H w G) (q : Post M H0 w0 σ ρ (.d (.tup l)) G Q) (hp : H p = none) (r : RepL M w l xs) : Q (.ref p) (upd H p (.tup xs)) := by
  refine a.newFz q hp ?_
  simp only [Rep]
  exact ⟨p, xs, rfl, (show upd w.fz p (.tup xs) p = _ from upd_same), r.put (a.st.fzn hp)⟩
/-- a result of one's own becomes a value for good -/
def frz : R → Option D
  | .d x => some x
  | .tmp (.lst l) => some (.lst l)
  | .tmp (.ins c ns l) => some (.ins c ns l)
  | _ => none
theorem At.frz {r : R} {d : D} {v : V} (a : At M H0 w0 σ ρ H w G) (x : RX M H0 σ ρ H w r v) (e : frz r = some d) : ∃ w', At M H0 w0 σ ρ H w' G ∧ Rep M w' d v ∧ Lat H0 w0 H w' := by
  cases r with
  | d y => cases e; exact ⟨w, a, x, a.lat⟩
  | bor i o => cases e
  | tmp o =>
    obtain ⟨p, rfl, ob, n1, n2, n3⟩ := x
    have go : ∀ ho, H p = some ho → At M H0 w0 σ ρ H (w.put p ho) G := fun ho hh => by
      have s := a.st.freeze hh n1 n2
      exact ⟨a.lat.freeze (M := M) (G := G) n3 n1, s, a.sl0⟩
    cases o with
    | lst l =>
      cases e
      obtain ⟨xs, hx, rr⟩ := ob
      refine ⟨_, go _ hx, ?_, (go _ hx).lat⟩
      simp only [Rep]
      exact ⟨p, xs, rfl, (show upd w.fz p (.lst xs) p = _ from upd_same), rr.put n1⟩
    | ins c ns l =>
      cases e
      obtain ⟨dx, fs, hx, hn, rr⟩ := ob
      refine ⟨_, go _ hx, ?_, (go _ hx).lat⟩
      simp only [Rep]
      exact ⟨p, dx, fs, rfl, (show upd w.fz p (.ins (M.ca c) dx fs) p = _ from upd_same), hn, rr.put n1⟩
    | dK _ _ => cases e
    | dT _ _ => cases e
end
end Lp

namespace Lp
open PySem PySem.Spec PyProof.Rows L2

/-! ### names, constants -/
def cVar (i : Nat) : Fn := fun _ ρ G => match ρ[i]? with
  | some (.v d) => some (.d d, G)
  | some (.own o) => some (.bor i o, G)
  | _ => none
def cC (d : D) : Fn := fun _ _ G => some (.d d, G)
section
variable {X : Cx} {M : Md} {cf : CF}
theorem x_var {i : Nat} {x : Str} {pos : Pos} (hN : X.N[i]? = some x) (hv : Vis X.env.scope x) (hd : (x == ("__debug__" : Str)) = false) (hcd : (x == ("__classdict__" : Str)) = false) : PE X (.Name x pos) (tE M cf (cVar i)) :=
  peW (pe_var hN hv hd hcd) fun σ H Q h => by
    obtain ⟨ρ, w, G, r, G', sl, st, e, q⟩ := h
    unfold cVar at e
    cases z : ρ[i]? with
    | none => rw [z] at e; cases e
    | some s =>
      rw [z] at e
      have k := sl.at_ i s z
      cases s with
      | no => cases e
      | v d =>
        cases e
        obtain ⟨v, e1, r⟩ := k
        exact ⟨v, e1, q v H w (Lat.refl H w) st r⟩
      | own o =>
        cases e
        obtain ⟨a, e1, r, n1, n2⟩ := k
        exact ⟨.ref a, e1, q _ H w (Lat.refl H w) st ⟨z, e1⟩⟩
theorem x_cst {e : Expr} {d : D} {v : V} (h : PE X e (tC v)) (r : ∀ w : Wd, Rep M w d v) : PE X e (tE M cf (cC d)) :=
  peW h fun σ H Q h => by
    obtain ⟨ρ, w, G, r', G', sl, st, e, q⟩ := h
    cases e
    exact q v H w (Lat.refl H w) st (r w)
theorem x_int {i j pos} : PE X (.Constant (.int i) j pos) (tE M cf (cC (.int i))) := x_cst pe_int fun _ => by simp only [Rep]
theorem x_bl {b j pos} : PE X (.Constant (.bool b) j pos) (tE M cf (cC (.bl b))) := x_cst pe_bl fun _ => by simp only [Rep]
theorem x_non {j pos} : PE X (.Constant .none j pos) (tE M cf (cC .non)) := x_cst pe_non fun _ => by simp only [Rep]
theorem x_str {x j pos} : PE X (.Constant (.str x) j pos) (tE M cf (cC (.str x))) := x_cst pe_str fun _ => by simp only [Rep]
/-- a global constant of the module -/
theorem x_glob {x : Str} {d : D} {v : V} {u : Value} {pos : Pos} (hg : Gl X x) (hm : X.mg x = some u) (r : RelV v u) (hd : (x == ("__debug__" : Str)) = false) (rd : ∀ w : Wd, Rep M w d v) : PE X (.Name x pos) (tE M cf (cC d)) := x_cst (pe_glob hg hm r hd) rd
end

/-! ### operations on results -/
abbrev sz : Nat := 16777216
theorem sz_line {n : Nat} (h : n ≤ sz) : n ≤ sizeLine := by rw [sizeLine_eq]; exact h
theorem sz_lineT {n : Nat} (h : n < sz) : n < sizeLine := by rw [sizeLine_eq]; exact h
def lstOf : R → Option (List D)
  | .d (.lst l) => some l
  | .tmp (.lst l) => some l
  | .bor _ (.lst l) => some l
  | _ => none
def seqOf : R → Option (List D)
  | .d (.lst l) => some l
  | .tmp (.lst l) => some l
  | .bor _ (.lst l) => some l
  | .d (.scr l) => some l
  | _ => none
def tupOf : R → Option (List D)
  | .d (.tup l) => some l
  | _ => none
section
variable {M : Md} {cf : CF} {H0 H : Hp} {w0 w : Wd} {σ : L2.St} {ρ : Env} {G : Sto}
theorem At.lst {r : R} {v : V} {l : List D} (a : At M H0 w0 σ ρ H w G) (x : RX M H0 σ ρ H w r v) (e : lstOf r = some l) : ∃ p xs, v = .ref p ∧ H p = some (.lst xs) ∧ RepL M w l xs := by
  cases r with
  | d y =>
    cases y <;> first | (cases e; done) | skip
    cases e
    have x : Rep M w (.lst l) v := x
    simp only [Rep] at x
    obtain ⟨p, xs, rfl, q, r⟩ := x
    exact ⟨p, xs, rfl, a.st.fzH _ _ q, r⟩
  | tmp o =>
    cases o <;> first | (cases e; done) | skip
    cases e
    obtain ⟨p, rfl, ⟨xs, q, r⟩, _⟩ := x
    exact ⟨p, xs, rfl, q, r⟩
  | bor i o =>
    cases o <;> first | (cases e; done) | skip
    cases e
    obtain ⟨e1, e2⟩ := x
    obtain ⟨p, e3, ⟨xs, q, r⟩, _⟩ := a.sl.at_ i _ e1
    rw [e2] at e3; cases e3
    exact ⟨p, xs, rfl, q, r⟩
theorem At.seq {r : R} {v : V} {l : List D} (a : At M H0 w0 σ ρ H w G) (x : RX M H0 σ ρ H w r v) (e : seqOf r = some l) : ∃ p xs, v = .ref p ∧ SqL M.K H p xs ∧ RepL M w l xs := by
  cases z : lstOf r with
  | some m =>
    have : m = l := by
      cases r with
      | d y => cases y <;> first | (cases z; done) | (cases z; cases e; rfl)
      | tmp o => cases o <;> first | (cases z; done) | (cases z; cases e; rfl)
      | bor i o => cases o <;> first | (cases z; done) | (cases z; cases e; rfl)
    subst this
    obtain ⟨p, xs, rfl, q, r⟩ := a.lst x z
    exact ⟨p, xs, rfl, .inl (.inl q), r⟩
  | none =>
    cases r with
    | d y =>
      cases y <;> first | (cases e; done) | (cases z; done) | skip
      cases e
      have x : Rep M w (.scr l) v := x
      simp only [Rep] at x
      obtain ⟨p, xs, rfl, q, r⟩ := x
      exact ⟨p, xs, rfl, sqL_mono a.st.fzH q, r⟩
    | tmp o => cases o <;> first | (cases e; done) | (cases z; done)
    | bor i o => cases o <;> first | (cases e; done) | (cases z; done)
theorem At.tup {r : R} {v : V} {l : List D} (a : At M H0 w0 σ ρ H w G) (x : RX M H0 σ ρ H w r v) (e : tupOf r = some l) : ∃ p xs, v = .ref p ∧ SqT M.K H p xs ∧ w.fz p = some (.tup xs) ∧ RepL M w l xs := by
  cases r with
  | d y =>
    cases y <;> first | (cases e; done) | skip
    cases e
    have x : Rep M w (.tup l) v := x
    simp only [Rep] at x
    obtain ⟨p, xs, rfl, q, r⟩ := x
    exact ⟨p, xs, rfl, .inl (.inl (a.st.fzH _ _ q)), q, r⟩
  | tmp o => cases e
  | bor i o => cases e
theorem rx_int {i : Int} {v : V} (x : RX M H0 σ ρ H w (.d (.int i)) v) : v = .int i := by
  have x : Rep M w (.int i) v := x
  simpa only [Rep] using x
theorem rx_bl {i : Bool} {v : V} (x : RX M H0 σ ρ H w (.d (.bl i)) v) : v = .bl i := by
  have x : Rep M w (.bl i) v := x
  simpa only [Rep] using x
theorem rx_str {i : Str} {v : V} (x : RX M H0 σ ρ H w (.d (.str i)) v) : v = .str i := by
  have x : Rep M w (.str i) v := x
  simpa only [Rep] using x
theorem rx_non {v : V} (x : RX M H0 σ ρ H w (.d .non) v) : v = .non := by
  have x : Rep M w .non v := x
  simpa only [Rep] using x
theorem of_int {i : Int} : RX M H0 σ ρ H w (.d (.int i)) (.int i) := by show Rep M w _ _; simp only [Rep]
theorem of_bl {i : Bool} : RX M H0 σ ρ H w (.d (.bl i)) (.bl i) := by show Rep M w _ _; simp only [Rep]
theorem of_str {i : Str} : RX M H0 σ ρ H w (.d (.str i)) (.str i) := by show Rep M w _ _; simp only [Rep]
theorem of_non : RX M H0 σ ρ H w (.d .non) .non := by show Rep M w _ _; simp only [Rep]
theorem of_tup {l : List D} {p : Addr} {xs : List V} (h : w.fz p = some (.tup xs)) (r : RepL M w l xs) : RX M H0 σ ρ H w (.d (.tup l)) (.ref p) := by
  show Rep M w _ _
  simp only [Rep]
  exact ⟨p, xs, rfl, h, r⟩
end

def rB (M : Md) (f : R → R → Option R) : R2 := fun x y H Q => ∃ H0 w0 σ ρ w G ra rb r, At M H0 w0 σ ρ H w G ∧ RX M H0 σ ρ H w ra x ∧ RX M H0 σ ρ H w rb y ∧ f ra rb = some r ∧ Post M H0 w0 σ ρ r G Q

def smallI (i : Int) : Bool := decide (i.natAbs < 18446744073709551616)
def mulOkI (i j : Int) : Bool := smallI i || smallI j
theorem mulOkI_ok {i j : Int} (h : mulOkI i j = true) : CMul i j := by
  unfold mulOkI smallI at h
  simp only [Bool.or_eq_true, decide_eq_true_eq] at h
  exact h.imp (fun h => ⟨by omega, by omega⟩) fun h => ⟨by omega, by omega⟩
def addR (a b : R) : Option R := match a, b with
  | .d (.int i), .d (.int j) => some (.d (.int (i + j)))
  | .d (.str s), .d (.str t) => if s.length + t.length ≤ sz then some (.d (.str (s ++ t))) else none
  | .d (.tup l), .d (.tup m) => if l.length + m.length ≤ sz then some (.d (.tup (l ++ m))) else none
  | a, b => match lstOf a, lstOf b with
    | some l, some m => if l.length + m.length ≤ sz then some (.tmp (.lst (l ++ m))) else none
    | _, _ => none
def subR (a b : R) : Option R := match a, b with
  | .d (.int i), .d (.int j) => some (.d (.int (i - j)))
  | _, _ => none
def repOk (n : Nat) (k : Int) : Bool := decide (k.natAbs < 9223372036854775808) && decide (n * k.toNat ≤ sz)
def mulR (a b : R) : Option R := match a, b with
  | .d (.int i), .d (.int j) => if mulOkI i j = true then some (.d (.int (i * j))) else none
  | a, .d (.int k) => match lstOf a with
    | some l => if repOk l.length k = true then some (.tmp (.lst (List.replicate k.toNat l).flatten)) else none
    | none => none
  | _, _ => none
def divOk (j : Int) : Bool := decide (0 < j) && decide (j.natAbs < 1073741824)
def fdivR (a b : R) : Option R := match a, b with
  | .d (.int i), .d (.int j) => if divOk j = true then some (.d (.int (i / j))) else none
  | _, _ => none
def modR (a b : R) : Option R := match a, b with
  | .d (.int i), .d (.int j) => if 0 < j then some (.d (.int (i % j))) else none
  | _, _ => none
def powOk (i j : Int) : Bool := decide (0 ≤ j) && decide (j.natAbs ≤ 1000000) && decide (i.natAbs < 18446744073709551616)
theorem powOk_ok {i j : Int} (h : powOk i j = true) : CPow i j := by
  unfold powOk at h
  simp only [Bool.and_eq_true, decide_eq_true_eq] at h
  exact ⟨h.1.1, by omega, by omega⟩
def powR (a b : R) : Option R := match a, b with
  | .d (.int i), .d (.int j) => if powOk i j = true then some (.d (.int (i ^ j.toNat))) else none
  | _, _ => none
def shlR (a b : R) : Option R := match a, b with
  | .d (.int i), .d (.int j) => if powOk i j = true then some (.d (.int (i * 2 ^ j.toNat))) else none
  | _, _ => none
def shrR (a b : R) : Option R := match a, b with
  | .d (.int i), .d (.int j) => if 0 ≤ j then some (.d (.int (i / 2 ^ j.toNat))) else none
  | _, _ => none
def andR (a b : R) : Option R := match a, b with
  | .d (.int i), .d (.int j) => some (.d (.int (Builtin.bitAnd i j)))
  | _, _ => none
def xorR (a b : R) : Option R := match a, b with
  | .d (.int i), .d (.int j) => some (.d (.int (Builtin.bitXor i j)))
  | _, _ => none

theorem ifSome {α : Type} {c : Prop} [Decidable c] {x y : α} (h : (if c then some x else none) = some y) : c ∧ x = y := by
  by_cases z : c
  · rw [if_pos z] at h; exact ⟨z, Option.some.inj h⟩
  · rw [if_neg z] at h; cases h

section
variable {X : Cx} {M : Md}
theorem op_lstcat {a b : R} {x y : V} {H0 H : Hp} {w0 w : Wd} {σ : L2.St} {ρ : Env} {G : Sto} {r : R} {Q : VK} (A : At M H0 w0 σ ρ H w G) (xa : RX M H0 σ ρ H w a x) (xb : RX M H0 σ ρ H w b y)
    (e : (match lstOf a, lstOf b with | some l, some m => if l.length + m.length ≤ sz then some (R.tmp (.lst (l ++ m))) else none | _, _ => none) = some r) (q : Post M H0 w0 σ ρ r G Q) : rCat x y H Q := by
  split at e
  · rename_i l m e1 e2
    obtain ⟨h, rfl⟩ := ifSome e
    obtain ⟨p1, xs, rfl, h1, r1⟩ := A.lst xa e1
    obtain ⟨p2, ys, rfl, h2, r2⟩ := A.lst xb e2
    exact ⟨p1, p2, xs, ys, rfl, rfl, h1, h2, by rw [← r1.length, ← r2.length]; exact sz_line h, fun p hp => A.newLst q hp (r1.append r2)⟩
  · cases e
theorem o_add (hK : X.K = M.K) : OpR X (binaryOp .Add) (rB M addR) := by
  intro pins s σ' H x y v u Q I rx ry h
  obtain ⟨H0, w0, σ, ρ, w, G, ra, rb, r, A, xa, xb, e, q⟩ := h
  unfold addR at e
  split at e
  · cases e
    cases rx_int xa; cases rx_int xb
    exact op_add pins s σ' H _ _ v u Q I rx ry ⟨_, _, rfl, rfl, A.fin q of_int⟩
  · obtain ⟨h, rfl⟩ := ifSome e
    cases rx_str xa; cases rx_str xb
    exact op_add_str pins s σ' H _ _ v u Q I rx ry ⟨_, _, rfl, rfl, sz_line h, A.fin q of_str⟩
  · obtain ⟨h, rfl⟩ := ifSome e
    obtain ⟨p1, xs, rfl, h1, f1, r1⟩ := A.tup xa rfl
    obtain ⟨p2, ys, rfl, h2, f2, r2⟩ := A.tup xb rfl
    refine op_catA pins s σ' H _ _ v u Q I rx ry ⟨p1, p2, xs, ys, rfl, rfl, by rw [hK]; exact h1, by rw [hK]; exact h2, by rw [← r1.length, ← r2.length]; exact sz_line h, fun e => ?_, fun _ e => ?_, fun _ _ p hp => A.newTup q hp (r1.append r2)⟩
    · subst e
      exact A.fin q (of_tup f2 (r1.append r2))
    · subst e
      refine A.fin q (of_tup f1 ?_)
      have z := r1.append r2
      rwa [List.append_nil] at z
  · exact op_cat pins s σ' H _ _ v u Q I rx ry (op_lstcat A xa xb e q)
theorem o_sub : OpR X (binaryOp .Sub) (rB M subR) := by
  intro pins s σ' H x y v u Q I rx ry h
  obtain ⟨H0, w0, σ, ρ, w, G, ra, rb, r, A, xa, xb, e, q⟩ := h
  unfold subR at e
  split at e
  · cases e
    cases rx_int xa; cases rx_int xb
    exact op_sub pins s σ' H _ _ v u Q I rx ry ⟨_, _, rfl, rfl, A.fin q of_int⟩
  · cases e
theorem o_fdiv : OpR X (binaryOp .FloorDiv) (rB M fdivR) := by
  intro pins s σ' H x y v u Q I rx ry h
  obtain ⟨H0, w0, σ, ρ, w, G, ra, rb, r, A, xa, xb, e, q⟩ := h
  unfold fdivR at e
  split at e
  · obtain ⟨h, rfl⟩ := ifSome e
    cases rx_int xa; cases rx_int xb
    unfold divOk at h
    simp only [Bool.and_eq_true, decide_eq_true_eq] at h
    exact op_fdiv pins s σ' H _ _ v u Q I rx ry ⟨_, _, rfl, rfl, ⟨h.1, by omega⟩, A.fin q of_int⟩
  · cases e
theorem o_mod : OpR X (binaryOp .Mod) (rB M modR) := by
  intro pins s σ' H x y v u Q I rx ry h
  obtain ⟨H0, w0, σ, ρ, w, G, ra, rb, r, A, xa, xb, e, q⟩ := h
  unfold modR at e
  split at e
  · obtain ⟨h, rfl⟩ := ifSome e
    cases rx_int xa; cases rx_int xb
    exact op_mod pins s σ' H _ _ v u Q I rx ry ⟨_, _, rfl, rfl, h, A.fin q of_int⟩
  · cases e
theorem o_pow : OpR X (binaryOp .Pow) (rB M powR) := by
  intro pins s σ' H x y v u Q I rx ry h
  obtain ⟨H0, w0, σ, ρ, w, G, ra, rb, r, A, xa, xb, e, q⟩ := h
  unfold powR at e
  split at e
  · obtain ⟨h, rfl⟩ := ifSome e
    cases rx_int xa; cases rx_int xb
    exact op_pow pins s σ' H _ _ v u Q I rx ry ⟨_, _, rfl, rfl, powOk_ok h, A.fin q of_int⟩
  · cases e
theorem o_shl : OpR X (binaryOp .LShift) (rB M shlR) := by
  intro pins s σ' H x y v u Q I rx ry h
  obtain ⟨H0, w0, σ, ρ, w, G, ra, rb, r, A, xa, xb, e, q⟩ := h
  unfold shlR at e
  split at e
  · obtain ⟨h, rfl⟩ := ifSome e
    cases rx_int xa; cases rx_int xb
    exact op_shl pins s σ' H _ _ v u Q I rx ry ⟨_, _, rfl, rfl, powOk_ok h, A.fin q of_int⟩
  · cases e
theorem o_shr : OpR X (binaryOp .RShift) (rB M shrR) := by
  intro pins s σ' H x y v u Q I rx ry h
  obtain ⟨H0, w0, σ, ρ, w, G, ra, rb, r, A, xa, xb, e, q⟩ := h
  unfold shrR at e
  split at e
  · obtain ⟨h, rfl⟩ := ifSome e
    cases rx_int xa; cases rx_int xb
    exact op_shr pins s σ' H _ _ v u Q I rx ry ⟨_, _, rfl, rfl, h, A.fin q of_int⟩
  · cases e
theorem o_and : OpR X (binaryOp .BitAnd) (rB M andR) := by
  intro pins s σ' H x y v u Q I rx ry h
  obtain ⟨H0, w0, σ, ρ, w, G, ra, rb, r, A, xa, xb, e, q⟩ := h
  unfold andR at e
  split at e
  · cases e
    cases rx_int xa; cases rx_int xb
    exact op_and pins s σ' H _ _ v u Q I rx ry ⟨_, _, rfl, rfl, A.fin q of_int⟩
  · cases e
theorem o_xor : OpR X (binaryOp .BitXor) (rB M xorR) := by
  intro pins s σ' H x y v u Q I rx ry h
  obtain ⟨H0, w0, σ, ρ, w, G, ra, rb, r, A, xa, xb, e, q⟩ := h
  unfold xorR at e
  split at e
  · cases e
    cases rx_int xa; cases rx_int xb
    exact op_xor pins s σ' H _ _ v u Q I rx ry ⟨_, _, rfl, rfl, A.fin q of_int⟩
  · cases e
theorem o_mul : OpR X (binaryOp .Mult) (rB M mulR) := by
  intro pins s σ' H x y v u Q I rx ry h
  obtain ⟨H0, w0, σ, ρ, w, G, ra, rb, r, A, xa, xb, e, q⟩ := h
  unfold mulR at e
  split at e
  · obtain ⟨h, rfl⟩ := ifSome e
    cases rx_int xa; cases rx_int xb
    exact op_mul pins s σ' H _ _ v u Q I rx ry ⟨_, _, rfl, rfl, mulOkI_ok h, A.fin q of_int⟩
  · split at e
    · rename_i l e1
      obtain ⟨h, rfl⟩ := ifSome e
      cases rx_int xb
      obtain ⟨p1, xs, rfl, h1, r1⟩ := A.lst xa e1
      unfold repOk at h
      simp only [Bool.and_eq_true, decide_eq_true_eq] at h
      exact op_rep pins s σ' H _ _ v u Q I rx ry ⟨p1, _, xs, rfl, rfl, h1, by omega, by omega, by rw [← r1.length]; exact sz_line h.2, fun p hp => A.newLst q hp (r1.rep _)⟩
    · cases e
  · cases e

/-! ### an operator over two expressions -/
def cBin (f : R → R → Option R) (a b : Fn) : Fn := fun cf ρ G => (a cf ρ G).bind fun p => (b cf ρ p.2).bind fun q => (f p.1 q.1).map (·, q.2)
theorem mapSome {α β : Type} {x : Option α} {f : α → β} {z : β} (h : x.map f = some z) : ∃ y, x = some y ∧ f y = z := by
  cases x with
  | none => cases h
  | some y => exact ⟨y, rfl, Option.some.inj h⟩
theorem tE_bin {cf : CF} {f : R → R → Option R} {ca cb : Fn} (σ : L2.St) (H : Hp) (Q : VK) (h : tE M cf (cBin f ca cb) σ H Q) : tOp (rB M f) (tE M cf ca) (tE M cf cb) σ H Q := by
  obtain ⟨ρ, w, G, r, G', sl, st, e, q⟩ := h
  refine (At.start sl st).run e fun ra G1 x H1 w1 e1 L1 A1 x1 => ?_
  refine A1.run e1 fun rb G2 y H2 w2 e2 L2 A2 x2 => ?_
  obtain ⟨r', e3, e4⟩ := mapSome e2
  cases e4
  exact ⟨H, w, σ, ρ, w2, _, ra, rb, r, A2, x1.lat L2, x2, e3, q⟩
theorem x_bin {cf : CF} {op : Operator} {f : R → R → Option R} {a b : Expr} {pos : Pos} {ca cb : Fn} (ho : OpR X (binaryOp op) (rB M f)) (ha : PE X a (tE M cf ca)) (hb : PE X b (tE M cf cb)) : PE X (.BinOp a op b pos) (tE M cf (cBin f ca cb)) :=
  peW (pe_op ho ha hb) tE_bin
def opF : Operator → Option (R → R → Option R)
  | .Add => some addR | .Sub => some subR | .Mult => some mulR | .FloorDiv => some fdivR | .Mod => some modR | .Pow => some powR
  | .LShift => some shlR | .RShift => some shrR | .BitAnd => some andR | .BitXor => some xorR | _ => none
theorem opF_ok {op : Operator} {f : R → R → Option R} (hK : X.K = M.K) (h : opF op = some f) : OpR X (binaryOp op) (rB M f) := by
  cases op <;> first | (cases h; done) | (cases h; first | exact o_add hK | exact o_sub | exact o_mul | exact o_fdiv | exact o_mod | exact o_pow | exact o_shl | exact o_shr | exact o_and | exact o_xor)
end
end Lp

namespace Lp
open PySem PySem.Spec PyProof.Rows L2

/-! ### data as the library's own -/
mutual
def py : D → Option PyData
  | .non => some .none
  | .bl b => some (.bool b)
  | .int i => some (.int i)
  | .str s => some (.str s)
  | .tup l => (pyL l).map .tuple
  | .lst l => (pyL l).map .list
  | .scr l => (pyL l).map .list
  | .ins _ _ _ => none
  | .dK _ _ => none
  | .dT _ _ => none
  | .ref _ => none
  | .ty _ => none
  | .cls _ => none
  | .fn _ => none
def pyL : List D → Option (List PyData)
  | [] => some []
  | d :: l => match py d, pyL l with
    | some x, some r => some (x :: r)
    | _, _ => none
end
mutual
theorem py_dp {M : Md} {w : Wd} {H : Hp} (hf : ∀ a o, w.fz a = some o → H a = some o) : ∀ (d : D) (v : V) (p : PyData), py d = some p → Rep M w d v → Dp M.K H v p
  | .non, v, p, e, r => by simp only [py, Option.some.injEq] at e; subst e; simp only [Rep] at r; subst r; exact .non
  | .bl b, v, p, e, r => by simp only [py, Option.some.injEq] at e; subst e; simp only [Rep] at r; subst r; exact .bl b
  | .int b, v, p, e, r => by simp only [py, Option.some.injEq] at e; subst e; simp only [Rep] at r; subst r; exact .int b
  | .str b, v, p, e, r => by simp only [py, Option.some.injEq] at e; subst e; simp only [Rep] at r; subst r; exact .str b
  | .tup l, v, p, e, r => by
    simp only [py] at e
    obtain ⟨q, e1, e2⟩ := mapSome e
    subst e2
    simp only [Rep] at r
    obtain ⟨a, xs, rfl, s, r⟩ := r
    exact .tup (.inl (.inl (hf _ _ s))) (pyL_dp hf l xs q e1 r)
  | .lst l, v, p, e, r => by
    simp only [py] at e
    obtain ⟨q, e1, e2⟩ := mapSome e
    subst e2
    simp only [Rep] at r
    obtain ⟨a, xs, rfl, s, r⟩ := r
    exact .lst (.inl (.inl (hf _ _ s))) (pyL_dp hf l xs q e1 r)
  | .scr l, v, p, e, r => by
    simp only [py] at e
    obtain ⟨q, e1, e2⟩ := mapSome e
    subst e2
    simp only [Rep] at r
    obtain ⟨a, xs, rfl, s, r⟩ := r
    exact .lst (sqL_mono hf s) (pyL_dp hf l xs q e1 r)
  | .ins _ _ _, _, _, e, _ => by simp only [py] at e; cases e
  | .dK _ _, _, _, e, _ => by simp only [py] at e; cases e
  | .dT _ _, _, _, e, _ => by simp only [py] at e; cases e
  | .ref _, _, _, e, _ => by simp only [py] at e; cases e
  | .ty _, _, _, e, _ => by simp only [py] at e; cases e
  | .cls _, _, _, e, _ => by simp only [py] at e; cases e
  | .fn _, _, _, e, _ => by simp only [py] at e; cases e
theorem pyL_dp {M : Md} {w : Wd} {H : Hp} (hf : ∀ a o, w.fz a = some o → H a = some o) : ∀ (l : List D) (xs : List V) (p : List PyData), pyL l = some p → RepL M w l xs → DpAll M.K H xs p
  | [], xs, p, e, r => by simp only [pyL, Option.some.injEq] at e; subst e; simp only [RepL] at r; subst r; exact .nil
  | d :: l, xs, p, e, r => by
    simp only [pyL] at e
    simp only [RepL] at r
    obtain ⟨x, t, rfl, r1, r2⟩ := r
    split at e
    · rename_i a b e1 e2
      cases e
      exact .cons (py_dp hf d x _ e1 r1) (pyL_dp hf l t _ e2 r2)
    · cases e
end
def pyR : R → Option PyData
  | .d x => py x
  | .tmp (.lst l) => (pyL l).map .list
  | .bor _ (.lst l) => (pyL l).map .list
  | _ => none
theorem At.dp {M : Md} {H0 H : Hp} {w0 w : Wd} {σ : L2.St} {ρ : Env} {G : Sto} {r : R} {v : V} {p : PyData} (a : At M H0 w0 σ ρ H w G) (x : RX M H0 σ ρ H w r v) (e : pyR r = some p) : Dp M.K H v p := by
  cases r with
  | d y => exact py_dp a.st.fzH y v p e x
  | tmp o =>
    cases o <;> first | (cases e; done) | skip
    obtain ⟨q, e1, e2⟩ := mapSome e
    subst e2
    obtain ⟨b, xs, rfl, h, r⟩ := a.lst x rfl
    exact .lst (.inl (.inl h)) (pyL_dp a.st.fzH _ _ _ e1 r)
  | bor i o =>
    cases o <;> first | (cases e; done) | skip
    obtain ⟨q, e1, e2⟩ := mapSome e
    subst e2
    obtain ⟨b, xs, rfl, h, r⟩ := a.lst x rfl
    exact .lst (.inl (.inl h)) (pyL_dp a.st.fzH _ _ _ e1 r)
def eqG (a b : R) : Option Bool := match pyR a, pyR b with
  | some d, some e => if (SeqAt.shaped d && SeqAt.shaped e) = true then some (PyData.eqv d e) else none
  | _, _ => none
def eqR (a b : R) : Option Bool := match a, b with
  | .d (.int i), .d (.int j) => some (decide (i = j))
  | .d (.str i), .d (.str j) => some (decide (i = j))
  | .d (.bl i), .d (.bl j) => some (decide (i = j))
  | a, b => eqG a b
/-- is None, is not None; is True, is False -/
def isR (a b : R) : Option Bool := match a, b with
  | .d .non, .d .non => some true
  | .d (.int _), .d .non => some false
  | .d (.str _), .d .non => some false
  | .d (.bl _), .d .non => some false
  | .d (.tup _), .d .non => some false
  | .d (.lst _), .d .non => some false
  | .d (.scr _), .d .non => some false
  | .d (.ins _ _ _), .d .non => some false
  | .tmp _, .d .non => some false
  | .d (.bl i), .d (.bl j) => some (decide (i = j))
  | _, _ => none
def cmpI (p : Int → Int → Bool) (a b : R) : Option Bool := match a, b with
  | .d (.int i), .d (.int j) => some (p i j)
  | _, _ => none
def vb (f : R → R → Option Bool) : R → R → Option R := fun a b => (f a b).map fun k => .d (.bl k)
def nb (f : R → R → Option Bool) : R → R → Option Bool := fun a b => (f a b).map not
section
variable {X : Cx} {M : Md}
theorem dv_int {i j : Int} : decide (V.int i = V.int j) = decide (i = j) := by rw [dec_int, Bool.beq_eq_decide_eq]
theorem dv_str {i j : Str} : decide (V.str i = V.str j) = decide (i = j) := by rw [dec_str, Bool.beq_eq_decide_eq]
theorem dv_bl {i j : Bool} : decide (V.bl i = V.bl j) = decide (i = j) := by rw [dec_bl, Bool.beq_eq_decide_eq]
theorem o_cmpI {op : CmpOp} {p : Int → Int → Bool} (ho : OpR X (compareOp op) (rI0 fun i j => .bl (p i j))) : OpR X (compareOp op) (rB M (vb (cmpI p))) := by
  intro pins s σ' H x y v u Q I rx ry h
  obtain ⟨H0, w0, σ, ρ, w, G, ra, rb, r, A, xa, xb, e, q⟩ := h
  obtain ⟨k, e1, e2⟩ := mapSome e
  subst e2
  clear e
  have e := e1
  clear e1
  unfold cmpI at e
  split at e
  · cases e
    cases rx_int xa; cases rx_int xb
    exact ho pins s σ' H _ _ v u Q I rx ry ⟨_, _, rfl, rfl, A.fin q of_bl⟩
  · cases e
theorem o_lt : OpR X (compareOp .Lt) (rB M (vb (cmpI fun i j => decide (i < j)))) := o_cmpI op_lt
theorem o_le : OpR X (compareOp .LtE) (rB M (vb (cmpI fun i j => decide (i ≤ j)))) := o_cmpI op_le
theorem o_gt : OpR X (compareOp .Gt) (rB M (vb (cmpI fun i j => decide (j < i)))) := o_cmpI op_gt
theorem o_ge : OpR X (compareOp .GtE) (rB M (vb (cmpI fun i j => decide (j ≤ i)))) := o_cmpI op_ge
theorem o_eqG {a b : R} {k : Bool} {x y : V} {H0 H : Hp} {w0 w : Wd} {σ : L2.St} {ρ : Env} {G : Sto} (hK : X.K = M.K) (A : At M H0 w0 σ ρ H w G) (xa : RX M H0 σ ρ H w a x) (xb : RX M H0 σ ρ H w b y) (e : eqG a b = some k) :
    ∃ d f, Dp X.K H x d ∧ Dp X.K H y f ∧ SeqAt.shaped d = true ∧ SeqAt.shaped f = true ∧ k = PyData.eqv d f := by
  unfold eqG at e
  split at e
  · rename_i d f e1 e2
    obtain ⟨h, rfl⟩ := ifSome e
    simp only [Bool.and_eq_true] at h
    exact ⟨d, f, by rw [hK]; exact A.dp xa e1, by rw [hK]; exact A.dp xb e2, h.1, h.2, rfl⟩
  · cases e
theorem o_eq (hK : X.K = M.K) (hu : X.A.units + 64 < cLine) : OpR X (compareOp .Eq) (rB M (vb eqR)) := by
  intro pins s σ' H x y v u Q I rx ry h
  obtain ⟨H0, w0, σ, ρ, w, G, ra, rb, r, A, xa, xb, e, q⟩ := h
  obtain ⟨k, e1, e2⟩ := mapSome e
  subst e2
  clear e
  have e := e1
  clear e1
  unfold eqR at e
  split at e
  · cases e
    cases rx_int xa; cases rx_int xb
    exact op_eq pins s σ' H _ _ v u Q I rx ry ⟨rfl, by rw [dv_int]; exact A.fin q of_bl⟩
  · cases e
    cases rx_str xa; cases rx_str xb
    exact op_eq pins s σ' H _ _ v u Q I rx ry ⟨rfl, by rw [dv_str]; exact A.fin q of_bl⟩
  · cases e
    cases rx_bl xa; cases rx_bl xb
    exact op_eq pins s σ' H _ _ v u Q I rx ry ⟨rfl, by rw [dv_bl]; exact A.fin q of_bl⟩
  · obtain ⟨d, f, h1, h2, h3, h4, rfl⟩ := o_eqG hK A xa xb e
    exact op_eqD hu pins s σ' H _ _ v u Q I rx ry ⟨d, f, h1, h2, h3, h4, A.fin q of_bl⟩
theorem o_ne (hK : X.K = M.K) (hu : X.A.units + 64 < cLine) : OpR X (compareOp .NotEq) (rB M (vb (nb eqR))) := by
  intro pins s σ' H x y v u Q I rx ry h
  obtain ⟨H0, w0, σ, ρ, w, G, ra, rb, r, A, xa, xb, e, q⟩ := h
  obtain ⟨k, e1, e2⟩ := mapSome e
  subst e2
  obtain ⟨k2, e3, e4⟩ := mapSome e1
  subst e4
  clear e e1
  have e := e3
  clear e3
  unfold eqR at e
  split at e
  · cases e
    cases rx_int xa; cases rx_int xb
    exact op_ne pins s σ' H _ _ v u Q I rx ry ⟨rfl, by rw [dv_int]; exact A.fin q of_bl⟩
  · cases e
    cases rx_str xa; cases rx_str xb
    exact op_ne pins s σ' H _ _ v u Q I rx ry ⟨rfl, by rw [dv_str]; exact A.fin q of_bl⟩
  · cases e
    cases rx_bl xa; cases rx_bl xb
    exact op_ne pins s σ' H _ _ v u Q I rx ry ⟨rfl, by rw [dv_bl]; exact A.fin q of_bl⟩
  · obtain ⟨d, f, h1, h2, h3, h4, rfl⟩ := o_eqG hK A xa xb e
    exact op_neD hu pins s σ' H _ _ v u Q I rx ry ⟨d, f, h1, h2, h3, h4, A.fin q of_bl⟩
theorem isR_cases {a b : R} {k : Bool} {x y : V} {H0 H : Hp} {w0 w : Wd} {σ : L2.St} {ρ : Env} {G : Sto} (A : At M H0 w0 σ ρ H w G) (xa : RX M H0 σ ρ H w a x) (xb : RX M H0 σ ρ H w b y) (e : isR a b = some k) :
    (y = .non ∧ k = decide (x = .non)) ∨ ∃ i j, x = .bl i ∧ y = .bl j ∧ k = decide (i = j) := by
  unfold isR at e
  split at e <;> first | (cases e; done) | skip
  · cases e; cases rx_non xa; cases rx_non xb; exact .inl ⟨rfl, rfl⟩
  · cases e; cases rx_int xa; cases rx_non xb; exact .inl ⟨rfl, rfl⟩
  · cases e; cases rx_str xa; cases rx_non xb; exact .inl ⟨rfl, rfl⟩
  · cases e; cases rx_bl xa; cases rx_non xb; exact .inl ⟨rfl, rfl⟩
  · cases e; obtain ⟨p, xs, rfl, _⟩ := A.tup xa rfl; cases rx_non xb; exact .inl ⟨rfl, rfl⟩
  · cases e; obtain ⟨p, xs, rfl, _⟩ := A.lst xa rfl; cases rx_non xb; exact .inl ⟨rfl, rfl⟩
  · cases e; obtain ⟨p, xs, rfl, _⟩ := A.seq xa rfl; cases rx_non xb; exact .inl ⟨rfl, rfl⟩
  · rename_i c ns l
    cases e
    have xa : Rep M w (.ins c ns l) x := xa
    simp only [Rep] at xa
    obtain ⟨p, dx, fs, rfl, _⟩ := xa
    cases rx_non xb; exact .inl ⟨rfl, rfl⟩
  · cases e
    obtain ⟨p, rfl, _⟩ := xa
    cases rx_non xb; exact .inl ⟨rfl, rfl⟩
  · cases e; cases rx_bl xa; cases rx_bl xb; exact .inr ⟨_, _, rfl, rfl, rfl⟩
theorem o_is : OpR X (compareOp .Is) (rB M (vb isR)) := by
  intro pins s σ' H x y v u Q I rx ry h
  obtain ⟨H0, w0, σ, ρ, w, G, ra, rb, r, A, xa, xb, e, q⟩ := h
  obtain ⟨k, e1, e2⟩ := mapSome e
  subst e2
  clear e
  have e := e1
  clear e1
  rcases isR_cases A xa xb e with ⟨rfl, rfl⟩ | ⟨i, j, rfl, rfl, rfl⟩
  · exact op_isN pins s σ' H _ _ v u Q I rx ry ⟨rfl, A.fin q of_bl⟩
  · exact op_isBl pins s σ' H _ _ v u Q I rx ry ⟨i, j, rfl, rfl, A.fin q of_bl⟩
theorem o_isnot : OpR X (compareOp .IsNot) (rB M (vb (nb isR))) := by
  intro pins s σ' H x y v u Q I rx ry h
  obtain ⟨H0, w0, σ, ρ, w, G, ra, rb, r, A, xa, xb, e, q⟩ := h
  obtain ⟨k, e1, e2⟩ := mapSome e
  subst e2
  obtain ⟨k2, e3, e4⟩ := mapSome e1
  subst e4
  clear e e1
  have e := e3
  clear e3
  rcases isR_cases A xa xb e with ⟨rfl, rfl⟩ | ⟨i, j, rfl, rfl, rfl⟩
  · exact op_notN pins s σ' H _ _ v u Q I rx ry ⟨rfl, A.fin q of_bl⟩
  · exact op_notBl pins s σ' H _ _ v u Q I rx ry ⟨i, j, rfl, rfl, A.fin q of_bl⟩
def cmpF : CmpOp → Option (R → R → Option Bool)
  | .Eq => some eqR | .NotEq => some (nb eqR) | .Is => some isR | .IsNot => some (nb isR)
  | .Lt => some (cmpI fun i j => decide (i < j)) | .LtE => some (cmpI fun i j => decide (i ≤ j)) | .Gt => some (cmpI fun i j => decide (j < i)) | .GtE => some (cmpI fun i j => decide (j ≤ i))
  | _ => none
theorem cmpF_ok {op : CmpOp} {f : R → R → Option Bool} (hK : X.K = M.K) (hu : X.A.units + 64 < cLine) (h : cmpF op = some f) : OpR X (compareOp op) (rB M (vb f)) := by
  cases op <;> first | (cases h; done) | (cases h; first | exact o_eq hK hu | exact o_ne hK hu | exact o_is | exact o_isnot | exact o_lt | exact o_le | exact o_gt | exact o_ge)
theorem cmpF_mark {op : CmpOp} {f : R → R → Option Bool} (h : cmpF op = some f) (b : Expr) : behindInMarks op b = false := by
  cases op <;> first | (cases h; done) | exact nomark b
end

/-! ### tests -/
def cTv (c : Fn) : FnT := fun cf ρ G => (c cf ρ G).bind fun p => match p.1 with
  | .d (.bl b) => some (b, p.2)
  | _ => none
def cVt (c : FnT) : Fn := fun cf ρ G => (c cf ρ G).map fun p => (.d (.bl p.1), p.2)
def cAnd (a b : FnT) : FnT := fun cf ρ G => (a cf ρ G).bind fun p => if p.1 = true then b cf ρ p.2 else some (false, p.2)
def cOr (a b : FnT) : FnT := fun cf ρ G => (a cf ρ G).bind fun p => if p.1 = true then some (true, p.2) else b cf ρ p.2
def cNot (a : FnT) : FnT := fun cf ρ G => (a cf ρ G).map fun p => (!p.1, p.2)
def cIf (t : FnT) (a b : Fn) : Fn := fun cf ρ G => (t cf ρ G).bind fun p => if p.1 = true then a cf ρ p.2 else b cf ρ p.2
def cChain (f g : R → R → Option Bool) (a b c : Fn) : FnT := fun cf ρ G => (a cf ρ G).bind fun p => (b cf ρ p.2).bind fun q => (f p.1 q.1).bind fun k =>
  if k = true then (c cf ρ q.2).bind fun r => (g q.1 r.1).map (·, r.2) else some (false, q.2)
section
variable {X : Cx} {M : Md} {cf : CF} {a b c : Expr} {ca cb cc : Fn} {ta tb : FnT} {pos : Pos}
theorem tT_val (σ : L2.St) (H : Hp) (Q : Bool → Hp → Prop) (h : tT M cf (cTv ca) σ H Q) : tTest (tE M cf ca) σ H Q := by
  obtain ⟨ρ, w, G, r, G', sl, st, e, q⟩ := h
  refine (At.start sl st).run e fun ra G1 x H1 w1 e1 L1 A1 x1 => ?_
  dsimp only at e1
  cases ra with
  | d y =>
    cases y <;> first | (cases e1; done) | skip
    cases e1
    exact ⟨_, rx_bl x1, q H1 w1 L1 A1.st⟩
  | tmp _ => cases e1
  | bor _ _ => cases e1
theorem t_cmp {op : CmpOp} {f : R → R → Option Bool} (ho : OpR X (compareOp op) (rB M (vb f))) (ha : PE X a (tE M cf ca)) (hb : PE X b (tE M cf cb)) (hm : behindInMarks op b = false) : PT X (.Compare a [op] [b] pos) (tT M cf (cTv (cBin (vb f) ca cb))) :=
  ptW (pt_cmpR ho ha hb hm) fun σ H Q h => by
    obtain ⟨ρ, w, G, r, G', sl, st, e, q⟩ := h
    obtain ⟨⟨r1, G1⟩, e1, e2⟩ := bindSome e
    refine tE_bin σ H _ ⟨ρ, w, G, r1, G1, sl, st, e1, fun v H' w' L s x => ?_⟩
    dsimp only at e2
    cases r1 with
    | d y =>
      cases y <;> first | (cases e2; done) | skip
      cases e2
      exact ⟨_, rx_bl x, q H' w' L s⟩
    | tmp _ => cases e2
    | bor _ _ => cases e2
theorem x_cmp {op : CmpOp} {f : R → R → Option Bool} (ho : OpR X (compareOp op) (rB M (vb f))) (ha : PE X a (tE M cf ca)) (hb : PE X b (tE M cf cb)) (hm : behindInMarks op b = false) : PE X (.Compare a [op] [b] pos) (tE M cf (cBin (vb f) ca cb)) :=
  peW (pe_cmpR ho ha hb hm) tE_bin
theorem t_val (ha : PE X a (tE M cf ca)) (he : ∀ whole, isTrue a X.env whole = (do let v ← whole; standAt a.pos; holding [v] (truthy v))) : PT X a (tT M cf (cTv ca)) :=
  ptW (pt_val ha he) fun σ H Q h => tT_val σ H Q h
/-- a test's answer as a value -/
theorem tE_vt (σ : L2.St) (H : Hp) (Q : VK) (h : tE M cf (cVt ta) σ H Q) : tT M cf ta σ H fun k H1 => Q (.bl k) H1 := by
  obtain ⟨ρ, w, G, r, G', sl, st, e, q⟩ := h
  obtain ⟨⟨k, G1⟩, e1, e2⟩ := mapSome e
  cases e2
  exact ⟨ρ, w, G, k, G1, sl, st, e1, fun H' w' L s => q _ H' w' L s of_bl⟩
theorem t_and (σ : L2.St) (H : Hp) (Q : Bool → Hp → Prop) (h : tT M cf (cAnd ta tb) σ H Q) : tAnd (tT M cf ta) (tT M cf tb) σ H Q := by
  obtain ⟨ρ, w, G, r, G', sl, st, e, q⟩ := h
  refine (At.start sl st).runT e fun k G1 H1 w1 e1 L1 A1 => ?_
  cases k with
  | true => exact iteT ⟨ρ, w1, G1, r, G', A1.sl, A1.st, e1, fun H' w' L s => q H' w' (L1.trans L) s⟩
  | false => cases e1; exact iteF (q H1 w1 L1 A1.st)
theorem t_or (σ : L2.St) (H : Hp) (Q : Bool → Hp → Prop) (h : tT M cf (cOr ta tb) σ H Q) : tOr (tT M cf ta) (tT M cf tb) σ H Q := by
  obtain ⟨ρ, w, G, r, G', sl, st, e, q⟩ := h
  refine (At.start sl st).runT e fun k G1 H1 w1 e1 L1 A1 => ?_
  cases k with
  | false => exact iteF ⟨ρ, w1, G1, r, G', A1.sl, A1.st, e1, fun H' w' L s => q H' w' (L1.trans L) s⟩
  | true => cases e1; exact iteT (q H1 w1 L1 A1.st)
theorem t_not (σ : L2.St) (H : Hp) (Q : Bool → Hp → Prop) (h : tT M cf (cNot ta) σ H Q) : tNot (tT M cf ta) σ H Q := by
  obtain ⟨ρ, w, G, r, G', sl, st, e, q⟩ := h
  obtain ⟨⟨k, G1⟩, e1, e2⟩ := mapSome e
  cases e2
  exact ⟨ρ, w, G, k, G1, sl, st, e1, q⟩
theorem x_if (ht : PT X c (tT M cf ta)) (ha : PE X a (tE M cf ca)) (hb : PE X b (tE M cf cb)) : PE X (.IfExp c a b pos) (tE M cf (cIf ta ca cb)) :=
  peW (pe_ifExp ht ha hb) fun σ H Q h => by
    obtain ⟨ρ, w, G, r, G', sl, st, e, q⟩ := h
    refine (At.start sl st).runT e fun k G1 H1 w1 e1 L1 A1 => ?_
    have go : ∀ {cx : Fn}, cx cf ρ G1 = some (r, G') → tE M cf cx σ H1 Q := fun e => ⟨ρ, w1, G1, r, G', A1.sl, A1.st, e, fun v H' w' L s x => q v H' w' (L1.trans L) s (x.back L1)⟩
    cases k with
    | true => exact iteT (go e1)
    | false => exact iteF (go e1)
/-- a comparison of three ints -/
theorem tE_chain {p p' : Int → Int → Bool} (σ : L2.St) (H : Hp) (Q : VK) (h : tE M cf (cVt (cChain (cmpI p) (cmpI p') ca cb cc)) σ H Q) : tChain (rI0 fun i j => .bl (p i j)) (rI0 fun i j => .bl (p' i j)) (tE M cf ca) (tE M cf cb) (tE M cf cc) σ H Q := by
  obtain ⟨ρ, w, G, r, G', sl, st, e, q⟩ := h
  obtain ⟨⟨kk, G0⟩, e0, e9⟩ := mapSome e
  cases e9
  clear e
  refine (At.start sl st).run e0 fun ra G1 x H1 w1 e1 L1 A1 x1 => ?_
  refine A1.run e1 fun rb G2 y H2 w2 e2 L2 A2 x2 => ?_
  obtain ⟨k, e3, e4⟩ := bindSome e2
  dsimp only at e3 e4
  unfold cmpI at e3
  split at e3
  · rename_i i j
    cases e3
    cases rx_int (x1.lat L2); cases rx_int x2
    refine ⟨i, j, rfl, rfl, p i j, rfl, ?_⟩
    by_cases hk : p i j = true
    · rw [if_pos hk] at e4 ⊢
      refine A2.run e4 fun rc G3 z H3 w3 e5 L3 A3 x3 => ?_
      obtain ⟨k', e6, e7⟩ := mapSome e5
      cases e7
      cases rc with
      | d y =>
        cases y <;> first | (cases e6; done) | skip
        rename_i l
        cases e6
        have ez := rx_int x3
        subst ez
        exact ⟨j, l, rfl, rfl, A3.fin q of_bl⟩
      | tmp _ => cases e6
      | bor _ _ => cases e6
    · rw [if_neg hk] at e4 ⊢
      cases e4
      exact A2.fin q of_bl
  · cases e3
theorem x_chain {op op' : CmpOp} {p p' : Int → Int → Bool} (ho : OpR X (compareOp op) (rI0 fun i j => .bl (p i j))) (ho' : OpR X (compareOp op') (rI0 fun i j => .bl (p' i j))) (ha : PE X a (tE M cf ca)) (hb : PE X b (tE M cf cb)) (hc : PE X c (tE M cf cc))
    (hm : lastMarks [op, op'] [b, c] = false) : PE X (.Compare a [op, op'] [b, c] pos) (tE M cf (cVt (cChain (cmpI p) (cmpI p') ca cb cc))) :=
  peW (pe_chain ho ho' ha hb hc hm) tE_chain
theorem t_chain {op op' : CmpOp} {p p' : Int → Int → Bool} (ho : OpR X (compareOp op) (rI0 fun i j => .bl (p i j))) (ho' : OpR X (compareOp op') (rI0 fun i j => .bl (p' i j))) (ha : PE X a (tE M cf ca)) (hb : PE X b (tE M cf cb)) (hc : PE X c (tE M cf cc))
    (hm : lastMarks [op, op'] [b, c] = false) : PT X (.Compare a [op, op'] [b, c] pos) (tT M cf (cChain (cmpI p) (cmpI p') ca cb cc)) :=
  ptW (pt_chain ho ho' ha hb hc hm) fun σ H Q h => by
    refine tE_chain σ H _ ?_
    obtain ⟨ρ, w, G, r, G', sl, st, e, q⟩ := h
    exact ⟨ρ, w, G, .d (.bl r), G', sl, st, by unfold cVt; rw [e]; rfl, fun v H' w' L s x => ⟨r, rx_bl x, q H' w' L s⟩⟩
def ordF : CmpOp → Option (Int → Int → Bool)
  | .Lt => some fun i j => decide (i < j) | .LtE => some fun i j => decide (i ≤ j) | .Gt => some fun i j => decide (j < i) | .GtE => some fun i j => decide (j ≤ i)
  | _ => none
theorem ordF_ok {op : CmpOp} {p : Int → Int → Bool} (h : ordF op = some p) : OpR X (compareOp op) (rI0 fun i j => .bl (p i j)) := by
  cases op <;> first | (cases h; done) | (cases h; first | exact op_lt | exact op_le | exact op_gt | exact op_ge)
theorem ordF_mark {op op' : CmpOp} {p p' : Int → Int → Bool} (h : ordF op = some p) (h' : ordF op' = some p') (b c : Expr) : lastMarks [op, op'] [b, c] = false := by
  have e : lastMarks [op, op'] [b, c] = behindInMarks op' c := rfl
  rw [e]
  cases op' <;> first | (cases h'; done) | exact nomark c
/-- -a -/
def negR (a : R) : Option R := match a with
  | .d (.int i) => some (.d (.int (-i)))
  | _ => none
def cUn (f : R → Option R) (a : Fn) : Fn := fun cf ρ G => (a cf ρ G).bind fun p => (f p.1).map (·, p.2)
theorem x_neg (ha : PE X a (tE M cf ca)) : PE X (.UnaryOp .USub a pos) (tE M cf (cUn negR ca)) :=
  peW (pe_un un_neg ha) fun σ H Q h => by
    obtain ⟨ρ, w, G, r, G', sl, st, e, q⟩ := h
    refine (At.start sl st).run e fun ra G1 x H1 w1 e1 L1 A1 x1 => ?_
    obtain ⟨r', e2, e3⟩ := mapSome e1
    cases e3
    dsimp only at e2
    unfold negR at e2
    split at e2
    · cases e2
      cases rx_int x1
      exact ⟨_, rfl, A1.fin q of_int⟩
    · cases e2
/-! and, or, not as values: of tests -/
theorem x_and1 {op : BoolOp} (ha : PE X a (tE M cf (cVt ta))) : PE X (.BoolOp op [a] pos) (tE M cf (cVt ta)) := pe_one ha
theorem x_and {rest : List Expr} (ha : PE X a (tE M cf (cVt ta))) (hb : PE X (.BoolOp .And (b :: rest) pos) (tE M cf (cVt tb))) : PE X (.BoolOp .And (a :: b :: rest) pos) (tE M cf (cVt (cAnd ta tb))) :=
  peW (pe_and ha hb) fun σ H Q h => by
    obtain ⟨ρ, w, G, r, G', sl, st, e, q⟩ := h
    obtain ⟨⟨kk, G0⟩, e0, e9⟩ := mapSome e
    cases e9
    obtain ⟨⟨k, G1⟩, e1, e2⟩ := bindSome e0
    refine ⟨ρ, w, G, .d (.bl k), G1, sl, st, by unfold cVt; rw [e1]; rfl, fun v H1 w1 L1 s1 x1 => ⟨k, rx_bl x1, ?_⟩⟩
    have A1 := (At.start sl st).step L1 s1
    dsimp only at e2
    cases k with
    | true =>
      rw [if_pos rfl] at e2 ⊢
      exact ⟨ρ, w1, G1, .d (.bl kk), G0, A1.sl, s1, by unfold cVt; rw [e2]; rfl, fun v H' w' L s x => q v H' w' (L1.trans L) s x⟩
    | false => cases e2; rw [if_neg Bool.false_ne_true]; exact A1.fin q of_bl
theorem x_or {rest : List Expr} (ha : PE X a (tE M cf (cVt ta))) (hb : PE X (.BoolOp .Or (b :: rest) pos) (tE M cf (cVt tb))) : PE X (.BoolOp .Or (a :: b :: rest) pos) (tE M cf (cVt (cOr ta tb))) :=
  peW (pe_or ha hb) fun σ H Q h => by
    obtain ⟨ρ, w, G, r, G', sl, st, e, q⟩ := h
    obtain ⟨⟨kk, G0⟩, e0, e9⟩ := mapSome e
    cases e9
    obtain ⟨⟨k, G1⟩, e1, e2⟩ := bindSome e0
    refine ⟨ρ, w, G, .d (.bl k), G1, sl, st, by unfold cVt; rw [e1]; rfl, fun v H1 w1 L1 s1 x1 => ⟨k, rx_bl x1, ?_⟩⟩
    have A1 := (At.start sl st).step L1 s1
    dsimp only at e2
    cases k with
    | false =>
      rw [if_neg Bool.false_ne_true] at e2 ⊢
      exact ⟨ρ, w1, G1, .d (.bl kk), G0, A1.sl, s1, by unfold cVt; rw [e2]; rfl, fun v H' w' L s x => q v H' w' (L1.trans L) s x⟩
    | true => cases e2; rw [if_pos rfl]; exact A1.fin q of_bl
theorem x_not (ha : PE X a (tE M cf (cVt ta))) : PE X (.UnaryOp .Not a pos) (tE M cf (cVt (cNot ta))) :=
  peW (pe_not ha) fun σ H Q h => by
    obtain ⟨ρ, w, G, r, G', sl, st, e, q⟩ := h
    obtain ⟨⟨kk, G0⟩, e0, e9⟩ := mapSome e
    cases e9
    obtain ⟨⟨k, G1⟩, e1, e2⟩ := mapSome e0
    cases e2
    exact ⟨ρ, w, G, .d (.bl k), G1, sl, st, by unfold cVt; rw [e1]; rfl, fun v H1 w1 L1 s1 x1 => ⟨k, rx_bl x1, q _ H1 w1 L1 s1 of_bl⟩⟩
/-- a value known as a test's answer -/
theorem x_tv (ha : PE X a (tE M cf ca)) : PE X a (tE M cf (cVt (cTv ca))) :=
  peW ha fun σ H Q h => by
    obtain ⟨ρ, w, G, r, G', sl, st, e, q⟩ := h
    obtain ⟨⟨kk, G0⟩, e0, e9⟩ := mapSome e
    cases e9
    obtain ⟨⟨r1, G1⟩, e1, e2⟩ := bindSome e0
    dsimp only at e2
    cases r1 with
    | d y =>
      cases y <;> first | (cases e2; done) | skip
      cases e2
      exact ⟨ρ, w, G, _, _, sl, st, e1, q⟩
    | tmp _ => cases e2
    | bor _ _ => cases e2
end
end Lp

namespace Lp
open PySem PySem.Spec PyProof.Rows L2

/-! ### argument lists, displays -/
def isStar : Expr → Bool
  | .Starred _ _ => true
  | _ => false
theorem starEach_plain {e : Expr} {es : List Expr} {env : PySem.Env} (h : isStar e = false) : starEach (e :: es) env = (false, eval e env) :: starEach es env := by
  cases e <;> first | rfl | cases h
theorem starEach_any {pos : Pos} {env : PySem.Env} : ∀ {es : List Expr}, es.any isStar = false → (backTo pos (starEach es env)).any (·.1) = false
  | [], _ => rfl
  | e :: es, h => by
    rw [List.any_cons, Bool.or_eq_false_iff] at h
    rw [starEach_plain h.1]
    show (false || (backTo pos (starEach es env)).any (·.1)) = false
    rw [Bool.false_or]
    exact starEach_any h.2
def cNil : FnL := fun _ _ G => some ([], G)
def cCons (a : Fn) (r : FnL) : FnL := fun cf ρ G => (a cf ρ G).bind fun p => (frz p.1).bind fun d => (r cf ρ p.2).bind fun q => some (d :: q.1, q.2)
def itemsOf : R → Option (List D)
  | .d (.tup l) => some l
  | r => seqOf r
def cStar (a : Fn) (r : FnL) : FnL := fun cf ρ G => (a cf ρ G).bind fun p => (itemsOf p.1).bind fun l => (r cf ρ p.2).bind fun q => some (l ++ q.1, q.2)
section
variable {M : Md} {cf : CF} {H0 H : Hp} {w0 w : Wd} {σ : L2.St} {ρ : Env} {G : Sto}
theorem At.items {r : R} {v : V} {l : List D} (a : At M H0 w0 σ ρ H w G) (x : RX M H0 σ ρ H w r v) (e : itemsOf r = some l) : ∃ p xs, v = .ref p ∧ (SqT M.K H p xs ∨ SqL M.K H p xs) ∧ RepL M w l xs := by
  unfold itemsOf at e
  split at e
  · cases e
    obtain ⟨p, xs, rfl, h, _, r⟩ := a.tup x rfl
    exact ⟨p, xs, rfl, .inl h, r⟩
  · obtain ⟨p, xs, rfl, h, r⟩ := a.seq x e
    exact ⟨p, xs, rfl, .inr h, r⟩
end
section
variable {X : Cx} {M : Md} {cf : CF} {a b c : Expr} {es : List Expr} {ca cb cc : Fn} {cl : FnL} {pos : Pos}
theorem x_nil : PA X [] (tA M cf cNil) := paW pa_nil fun σ H Q h => by
  obtain ⟨ρ, w, G, l, G', sl, st, e, q⟩ := h
  cases e
  exact q [] H w (Lat.refl H w) st RepL.nil
theorem x_cons (ha : PE X a (tE M cf ca)) (hr : PA X es (tA M cf cl)) (hs : isStar a = false) : PA X (a :: es) (tA M cf (cCons ca cl)) := paW (pa_cons ha hr (starEach_plain hs)) fun σ H Q h => by
  obtain ⟨ρ, w, G, l, G', sl, st, e, q⟩ := h
  refine (At.start sl st).run e fun ra G1 x H1 w1 e1 L1 A1 x1 => ?_
  obtain ⟨d, e2, e3⟩ := bindSome e1
  obtain ⟨w1', A1', r1, L1'⟩ := A1.frz x1 e2
  refine A1'.runA e3 fun l2 G2 vs H2 w2 e4 L2 A2 r2 => ?_
  cases e4
  exact q _ H2 w2 A2.lat A2.st (RepL.cons (r1.lat L2) r2)
theorem x_star {p : Pos} (hK : X.K = M.K) (ha : PE X a (tE M cf ca)) (hr : PA X es (tA M cf cl)) : PA X (.Starred a p :: es) (tA M cf (cStar ca cl)) := paW (StX.pa_star ha hr) fun σ H Q h => by
  obtain ⟨ρ, w, G, l, G', sl, st, e, q⟩ := h
  refine (At.start sl st).run e fun ra G1 x H1 w1 e1 L1 A1 x1 => ?_
  obtain ⟨l1, e2, e3⟩ := bindSome e1
  obtain ⟨p, xs, rfl, hx, r1⟩ := A1.items x1 e2
  refine ⟨p, xs, rfl, by rw [hK]; exact hx, ?_⟩
  refine A1.runA e3 fun l2 G2 vs H2 w2 e4 L2 A2 r2 => ?_
  cases e4
  exact q _ H2 w2 A2.lat A2.st ((r1.lat L2).append r2)
def cTup (c : FnL) : Fn := fun cf ρ G => (c cf ρ G).bind fun p => if p.1.length ≤ sz then some (.d (.tup p.1), p.2) else none
def cLst (c : FnL) : Fn := fun cf ρ G => (c cf ρ G).bind fun p => if p.1.length ≤ sz then some (.tmp (.lst p.1), p.2) else none
theorem x_tup {k} (h : PA X es (tA M cf cl)) : PE X (.Tuple es k pos) (tE M cf (cTup cl)) := peW (pe_tup h) fun σ H Q h => by
  obtain ⟨ρ, w, G, r, G', sl, st, e, q⟩ := h
  refine (At.start sl st).runA e fun l G1 vs H1 w1 e1 L1 A1 r1 => ?_
  obtain ⟨hz, e2⟩ := ifSome e1
  cases e2
  exact ⟨by rw [← r1.length]; exact sz_line hz, fun p hp => A1.newTup q hp r1⟩
theorem x_lst (h : PA X es (tA M cf cl)) : PE X (.List es pos) (tE M cf (cLst cl)) := peW (pe_lst h) fun σ H Q h => by
  obtain ⟨ρ, w, G, r, G', sl, st, e, q⟩ := h
  refine (At.start sl st).runA e fun l G1 vs H1 w1 e1 L1 A1 r1 => ?_
  obtain ⟨hz, e2⟩ := ifSome e1
  cases e2
  exact ⟨by rw [← r1.length]; exact sz_line hz, fun p hp => A1.newLst q hp r1⟩

/-! ### operations that look at the shared objects -/
def rG (M : Md) (f : R → R → Sto → Option R) : R2 := fun x y H Q => ∃ H0 w0 σ ρ w G ra rb r, At M H0 w0 σ ρ H w G ∧ RX M H0 σ ρ H w ra x ∧ RX M H0 σ ρ H w rb y ∧ f ra rb G = some r ∧ Post M H0 w0 σ ρ r G Q
def cBinG (f : R → R → Sto → Option R) (a b : Fn) : Fn := fun cf ρ G => (a cf ρ G).bind fun p => (b cf ρ p.2).bind fun q => (f p.1 q.1 q.2).map (·, q.2)
theorem tE_binG {f : R → R → Sto → Option R} (σ : L2.St) (H : Hp) (Q : VK) (h : tE M cf (cBinG f ca cb) σ H Q) : tOp (rG M f) (tE M cf ca) (tE M cf cb) σ H Q := by
  obtain ⟨ρ, w, G, r, G', sl, st, e, q⟩ := h
  refine (At.start sl st).run e fun ra G1 x H1 w1 e1 L1 A1 x1 => ?_
  refine A1.run e1 fun rb G2 y H2 w2 e2 L2 A2 x2 => ?_
  obtain ⟨r', e3, e4⟩ := mapSome e2
  cases e4
  exact ⟨H, w, σ, ρ, w2, _, ra, rb, r, A2, x1.lat L2, x2, e3, q⟩
theorem At.ref {H0 H : Hp} {w0 w : Wd} {σ : L2.St} {ρ : Env} {G : Sto} {n : Nat} {v : V} {o : Ob} (A : At M H0 w0 σ ρ H w G) (x : RX M H0 σ ρ H w (.d (.ref n)) v) (e : G[n]? = some o) : ∃ a, v = .ref a ∧ w.al[n]? = some a ∧ ObAt M w H a o ∧ w.fz a = none := by
  have x : Rep M w (.ref n) v := x
  simp only [Rep] at x
  obtain ⟨a, rfl, ha⟩ := x
  obtain ⟨q, z⟩ := A.st.at_ n o a e ha
  exact ⟨a, rfl, ha, q, z⟩
/-- the items of a list that is read, also of a shared one -/
def seqG (r : R) (G : Sto) : Option (List D) := match r with
  | .d (.ref n) => match G[n]? with
    | some (.lst l) => some l
    | _ => none
  | r => seqOf r
theorem At.seqG {H0 H : Hp} {w0 w : Wd} {σ : L2.St} {ρ : Env} {G : Sto} {r : R} {v : V} {l : List D} (a : At M H0 w0 σ ρ H w G) (x : RX M H0 σ ρ H w r v) (e : seqG r G = some l) : ∃ p xs, v = .ref p ∧ SqL M.K H p xs ∧ RepL M w l xs := by
  unfold Lp.seqG at e
  split at e
  · split at e
    · rename_i n l' e1
      cases e
      obtain ⟨p, rfl, _, ⟨xs, h, r⟩, _⟩ := a.ref x e1
      exact ⟨p, xs, rfl, .inl (.inl h), r⟩
    · cases e
  · exact a.seq x e
theorem atI_rep {w : Wd} {l : List D} {xs : List V} {i : Int} {d : D} (r : RepL M w l xs) (e : atI l i = some d) : ∃ x, atI xs i = some x ∧ Rep M w d x := by
  unfold atI at e ⊢
  rw [← r.length]
  cases z : ixN l.length i with
  | none => rw [z] at e; cases e
  | some j =>
    rw [z] at e
    have e : l[j]? = some d := e
    exact r.getD e
def ixR (a b : R) (G : Sto) : Option R := match b with
  | .d (.int i) => match a with
    | .d (.tup l) => (atI l i).map .d
    | .d (.str s) => if s.length ≤ sz then (atI s.cps.toList i).map fun c => .d (.str ⟨#[c]⟩) else none
    | a => (seqG a G).bind fun l => (atI l i).map .d
  | _ => none
theorem o_ix (hK : X.K = M.K) : IxR X (rG M ixR) := by
  intro va sc pins s σ' H x y v u Q I rx ry h hs
  obtain ⟨H0, w0, σ, ρ, w, G, ra, rb, r, A, xa, xb, e, q⟩ := h
  unfold ixR at e
  split at e
  · rename_i i
    cases rx_int xb
    split at e
    · obtain ⟨d, e1, rfl⟩ := mapSome e
      obtain ⟨p, xs, rfl, h1, f1, r1⟩ := A.tup xa rfl
      obtain ⟨z, e2, r2⟩ := atI_rep r1 e1
      refine ix_tup va sc pins s σ' H _ _ v u Q I rx ry ⟨p, xs, _, z, rfl, rfl, by rw [hK]; exact h1, e2, A.fin q r2⟩ hs
    · obtain ⟨hz, e⟩ : _ ∧ _ := by
        split at e
        · rename_i hz; exact ⟨hz, e⟩
        · cases e
      obtain ⟨c, e1, rfl⟩ := mapSome e
      cases rx_str xa
      refine ix_str va sc pins s σ' H _ _ v u Q I rx ry ⟨_, _, c, rfl, rfl, sz_line hz, e1, A.fin q of_str⟩ hs
    · obtain ⟨l, e0, e9⟩ := bindSome e
      obtain ⟨d, e1, rfl⟩ := mapSome e9
      obtain ⟨p, xs, rfl, h1, r1⟩ := A.seqG xa e0
      obtain ⟨z, e2, r2⟩ := atI_rep r1 e1
      refine ix_list va sc pins s σ' H _ _ v u Q I rx ry ⟨p, xs, _, z, rfl, rfl, by rw [hK]; exact h1, e2, A.fin q r2⟩ hs
  · cases e
def isSlice : Expr → Bool
  | .Slice _ _ _ _ => true
  | _ => false
theorem plainIx {b : Expr} (h : isSlice b = false) : PlainIx b := fun o i => by
  cases b <;> first | rfl | cases h
theorem x_ix (hK : X.K = M.K) (ha : PE X a (tE M cf ca)) (hb : PE X b (tE M cf cb)) (hs : isSlice b = false) : PE X (.Subscript a b pos) (tE M cf (cBinG ixR ca cb)) :=
  peW (pe_ix (o_ix hK) ha hb (plainIx hs)) tE_binG

/-! ### slices -/
def cutD (l : List D) (lo hi : Option Int) : List D := (l.drop (HT.sIx l.length 0 lo)).take (HT.sIx l.length l.length hi - HT.sIx l.length 0 lo)
theorem cutD_rep {w : Wd} {l : List D} {xs : List V} (r : RepL M w l xs) (lo hi : Option Int) : RepL M w (cutD l lo hi) (cutV xs lo hi) := by
  unfold cutD cutV
  rw [← r.length]
  exact (r.drop _).take _
abbrev FnO := CF → Env → Sto → Option (Option Int × Sto)
def tO (M : Md) (cf : CF) (c : FnO) : TO := fun σ H Q => ∃ ρ w G l G', SlOk M H w σ ρ ∧ StOk M H w G ∧ c cf ρ G = some (l, G') ∧ ∀ H' w', Lat H w H' w' → StOk M H' w' G' → Q l H'
def cNo : FnO := fun _ _ G => some (none, G)
def cPart (a : Fn) : FnO := fun cf ρ G => (a cf ρ G).bind fun p => match p.1 with
  | .d (.int i) => some (some i, p.2)
  | _ => none
theorem x_no : PO X none (tO M cf cNo) := ⟨fun pins s σ H Q I h => po_none.run pins s σ H Q I (by
  obtain ⟨ρ, w, G, l, G', sl, st, e, q⟩ := h
  cases e
  exact q H w (Lat.refl H w) st)⟩
theorem x_part (ha : PE X a (tE M cf ca)) : PO X (some a) (tO M cf (cPart ca)) := ⟨fun pins s σ H Q I h => (po_some ha).run pins s σ H Q I (by
  obtain ⟨ρ, w, G, l, G', sl, st, e, q⟩ := h
  refine (At.start sl st).run e fun ra G1 x H1 w1 e1 L1 A1 x1 => ?_
  cases ra with
  | d y =>
    cases y <;> first | (cases e1; done) | skip
    cases e1
    have ez := rx_int x1
    subst ez
    exact ⟨_, rfl, q H1 w1 L1 A1.st⟩
  | tmp _ => cases e1
  | bor _ _ => cases e1)⟩
def slR (r : R) (lo hi : Option Int) : Option R := match r with
  | .d (.tup l) => some (.d (.tup (cutD l lo hi)))
  | r => (seqOf r).map fun l => .tmp (.lst (cutD l lo hi))
def cSl (a : Fn) (lo hi : FnO) : Fn := fun cf ρ G => (a cf ρ G).bind fun p => (lo cf ρ p.2).bind fun l => (hi cf ρ l.2).bind fun h => (slR p.1 l.1 h.1).map (·, h.2)
def rSl (M : Md) : V → Option Int → Option Int → Hp → VK → Prop := fun x lo hi H Q => ∃ H0 w0 σ ρ w G ra r, At M H0 w0 σ ρ H w G ∧ RX M H0 σ ρ H w ra x ∧ slR ra lo hi = some r ∧ Post M H0 w0 σ ρ r G Q
theorem o_sl (hK : X.K = M.K) : SlR X (rSl M) := by
  intro pins s σ' H x v vl vu lo hi sl Q I rx hs pl pu h
  obtain ⟨H0, w0, σ, ρ, w, G, ra, r, A, xa, e, q⟩ := h
  unfold slR at e
  split at e
  · cases e
    obtain ⟨p, xs, rfl, h1, f1, r1⟩ := A.tup xa rfl
    refine sl_tupA pins s σ' H _ v vl vu lo hi sl Q I rx hs pl pu ⟨p, xs, rfl, by rw [hK]; exact h1, fun hw => ?_, fun _ p' hp => A.newTup q hp (cutD_rep r1 lo hi)⟩
    refine A.fin q (of_tup f1 ?_)
    have z := cutD_rep r1 lo hi
    have : cutV xs lo hi = xs := by
      unfold cutV
      rw [hw.1, hw.2, List.drop_zero, Nat.sub_zero, List.take_length]
    rwa [this] at z
  · obtain ⟨l, e1, rfl⟩ := mapSome e
    obtain ⟨p, xs, rfl, h1, r1⟩ := A.seq xa e1
    exact sl_list pins s σ' H _ v vl vu lo hi sl Q I rx hs pl pu ⟨p, xs, rfl, by rw [hK]; exact h1, fun p' hp => A.newLst q hp (cutD_rep r1 lo hi)⟩
theorem x_sl {lo hi : Option Expr} {cl ch : FnO} {p2 : Pos} (hK : X.K = M.K) (ha : PE X a (tE M cf ca)) (hl : PO X lo (tO M cf cl)) (hh : PO X hi (tO M cf ch)) : PE X (.Subscript a (.Slice lo hi none p2) pos) (tE M cf (cSl ca cl ch)) :=
  peW (pe_slice (o_sl hK) ha hl hh) fun σ H Q h => by
    obtain ⟨ρ, w, G, r, G', sl, st, e, q⟩ := h
    refine (At.start sl st).run e fun ra G1 x H1 w1 e1 L1 A1 x1 => ?_
    obtain ⟨⟨lo', G2⟩, e2, e3⟩ := bindSome e1
    refine ⟨ρ, w1, G1, lo', G2, A1.sl, A1.st, e2, fun H2 w2 L2 s2 => ?_⟩
    have A2 := A1.step L2 s2
    obtain ⟨⟨hi', G3⟩, e4, e5⟩ := bindSome e3
    refine ⟨ρ, w2, G2, hi', G3, A2.sl, A2.st, e4, fun H3 w3 L3 s3 => ?_⟩
    have A3 := A2.step L3 s3
    obtain ⟨r', e6, e7⟩ := mapSome e5
    cases e7
    exact ⟨H, w, σ, ρ, w3, _, ra, r, A3, (x1.lat L2).lat L3, e6, q⟩
/-- xs[::-1], a list -/
def revR (r : R) : Option R := (seqOf r).map fun l => .tmp (.lst l.reverse)
theorem x_rev {k : Nat} {p1 p2 p3 : Pos} (hK : X.K = M.K) (ha : PE X a (tE M cf ca)) : PE X (.Subscript a (.Slice none none (some (.UnaryOp .USub (.Constant (.int 1) k p1) p2)) p3) pos) (tE M cf (cUn revR ca)) :=
  peW (pe_revL ha) fun σ H Q h => by
    obtain ⟨ρ, w, G, r, G', sl, st, e, q⟩ := h
    refine (At.start sl st).run e fun ra G1 x H1 w1 e1 L1 A1 x1 => ?_
    obtain ⟨r', e2, e3⟩ := mapSome e1
    cases e3
    obtain ⟨l, e4, e5⟩ := mapSome e2
    subst e5
    obtain ⟨p, xs, rfl, h1, r1⟩ := A1.seq x1 e4
    exact ⟨p, xs, rfl, by rw [hK]; exact h1, fun p' hp => A1.newLst q hp r1.reverse⟩
end
end Lp

namespace Lp
open PySem PySem.Spec PyProof.Rows L2

/-! ### built-ins of one argument, of two -/
def r1 (M : Md) (f : R → Sto → Option R) : List V → Hp → VK → Prop := fun xs H Q => ∃ H0 w0 σ ρ w G ra r x, xs = [x] ∧ At M H0 w0 σ ρ H w G ∧ RX M H0 σ ρ H w ra x ∧ f ra G = some r ∧ Post M H0 w0 σ ρ r G Q
def r2 (M : Md) (f : R → R → Sto → Option R) : List V → Hp → VK → Prop := fun xs H Q => ∃ H0 w0 σ ρ w G ra rb r x y, xs = [x, y] ∧ At M H0 w0 σ ρ H w G ∧ RX M H0 σ ρ H w ra x ∧ RX M H0 σ ρ H w rb y ∧ f ra rb G = some r ∧ Post M H0 w0 σ ρ r G Q
def cUnG (f : R → Sto → Option R) (a : Fn) : Fn := fun cf ρ G => (a cf ρ G).bind fun p => (f p.1 p.2).map (·, p.2)
section
variable {X : Cx} {M : Md} {cf : CF} {a b c : Expr} {es : List Expr} {ca cb cc : Fn} {cl : FnL} {pos p : Pos} {x : Str}
theorem tE_c1 {f : R → Sto → Option R} (σ : L2.St) (H : Hp) (Q : VK) (h : tE M cf (cUnG f ca) σ H Q) : tCB (r1 M f) (tCons (tE M cf ca) tNil) σ H Q := by
  obtain ⟨ρ, w, G, r, G', sl, st, e, q⟩ := h
  refine (At.start sl st).run e fun ra G1 x H1 w1 e1 L1 A1 x1 => ?_
  obtain ⟨r', e3, e4⟩ := mapSome e1
  cases e4
  exact ⟨H, w, σ, ρ, w1, _, ra, r, x, rfl, A1, x1, e3, q⟩
theorem tE_c2 {f : R → R → Sto → Option R} (σ : L2.St) (H : Hp) (Q : VK) (h : tE M cf (cBinG f ca cb) σ H Q) : tCB (r2 M f) (tCons (tE M cf ca) (tCons (tE M cf cb) tNil)) σ H Q := by
  obtain ⟨ρ, w, G, r, G', sl, st, e, q⟩ := h
  refine (At.start sl st).run e fun ra G1 x H1 w1 e1 L1 A1 x1 => ?_
  refine A1.run e1 fun rb G2 y H2 w2 e2 L2 A2 x2 => ?_
  obtain ⟨r', e3, e4⟩ := mapSome e2
  cases e4
  exact ⟨H, w, σ, ρ, w2, _, ra, rb, r, x, y, rfl, A2, x1.lat L2, x2, e3, q⟩
theorem x_b1 {f : R → Sto → Option R} {id : String} (hc : CallR X (.builtin id) (r1 M f)) (hg : Gl X x) (hm : X.mg x = none) (hv : bootBuiltins x = some (.builtin id)) (ha : PE X a (tE M cf ca)) (hs : isStar a = false) (hn : x ≠ "__name__") (hdb : (x == ("__debug__" : Str)) = false) :
    PE X (.Call (.Name x p) [a] [] pos) (tE M cf (cUnG f ca)) := peW (pe_callB hc hg hm hv (pa_cons ha pa_nil (starEach_plain hs)) hn hdb (starEach_plain hs) rfl) tE_c1
theorem x_t1 {f : R → Sto → Option R} {T : String} (hc : CallR X (.type T) (r1 M f)) (hg : Gl X x) (hm : X.mg x = none) (hv : bootBuiltins x = some (.type T)) (ha : PE X a (tE M cf ca)) (hs : isStar a = false) (hn : x ≠ "__name__") (hdb : (x == ("__debug__" : Str)) = false) :
    PE X (.Call (.Name x p) [a] [] pos) (tE M cf (cUnG f ca)) := peW (pe_callTy hc hg hm hv (pa_cons ha pa_nil (starEach_plain hs)) hn hdb (starEach_plain hs) rfl) tE_c1
theorem any1 {env : PySem.Env} (hs : isStar b = false) : (backTo pos (starEach [b] env)).any (·.1) = false := starEach_any (by rw [List.any_cons, hs]; rfl)
theorem x_b2 {f : R → R → Sto → Option R} {id : String} (hc : CallR X (.builtin id) (r2 M f)) (hg : Gl X x) (hm : X.mg x = none) (hv : bootBuiltins x = some (.builtin id)) (ha : PE X a (tE M cf ca)) (hb : PE X b (tE M cf cb)) (hs : isStar a = false) (hs2 : isStar b = false) (hn : x ≠ "__name__") (hdb : (x == ("__debug__" : Str)) = false) :
    PE X (.Call (.Name x p) [a, b] [] pos) (tE M cf (cBinG f ca cb)) := peW (pe_callB hc hg hm hv (pa_cons ha (pa_cons hb pa_nil (starEach_plain hs2)) (starEach_plain hs)) hn hdb (starEach_plain hs) (any1 hs2)) tE_c2

/-! ### which -/
def lenR (r : R) (G : Sto) : Option R := match r with
  | .d (.str s) => if s.length ≤ sz then some (.d (.int s.length)) else none
  | .d (.tup l) => some (.d (.int l.length))
  | r => (seqG r G).map fun l => .d (.int l.length)
theorem c_len (hK : X.K = M.K) : CallR X (.builtin "len") (r1 M lenR) := by
  intro pins s σ' H xs us Q I rx h
  obtain ⟨H0, w0, σ, ρ, w, G, ra, r, x, rfl, A, xa, e, q⟩ := h
  unfold lenR at e
  split at e
  · obtain ⟨hz, rfl⟩ := ifSome e
    cases rx_str xa
    exact call_len pins s σ' H _ us Q I rx ⟨_, _, rfl, ⟨sz_line hz, rfl⟩, A.fin q of_int⟩
  · cases e
    obtain ⟨p, xs, rfl, h1, f1, r1⟩ := A.tup xa rfl
    exact call_len pins s σ' H _ us Q I rx ⟨_, xs.length, rfl, .inr ⟨xs, by rw [hK]; exact h1, rfl⟩, A.fin q (by rw [r1.length]; exact of_int)⟩
  · obtain ⟨l, e1, rfl⟩ := mapSome e
    obtain ⟨p, xs, rfl, h1, r1⟩ := A.seqG xa e1
    exact call_len pins s σ' H _ us Q I rx ⟨_, xs.length, rfl, .inl ⟨xs, by rw [hK]; exact h1, rfl⟩, A.fin q (by rw [r1.length]; exact of_int)⟩
def intsOf : List D → Option (List Int)
  | [] => some []
  | .int i :: l => (intsOf l).map (i :: ·)
  | _ :: _ => none
theorem intsOf_rep {w : Wd} : ∀ {l : List D} {xs : List V} {ns : List Int}, RepL M w l xs → intsOf l = some ns → xs = ns.map V.int
  | [], xs, ns, r, e => by simp only [RepL] at r; subst r; cases e; rfl
  | d :: l, xs, ns, r, e => by
    simp only [RepL] at r
    obtain ⟨x, t, rfl, r1, r2⟩ := r
    cases d <;> first | (cases e; done) | skip
    obtain ⟨ms, e1, rfl⟩ := mapSome e
    simp only [Rep] at r1
    rw [r1, intsOf_rep r2 e1]
    rfl
theorem RepL.ints {w : Wd} : ∀ ns : List Int, RepL M w (ns.map D.int) (ns.map V.int)
  | [] => RepL.nil
  | n :: ns => RepL.cons (by simp only [Rep]) (RepL.ints ns)
def bsOf : List D → Option (List Bool)
  | [] => some []
  | .bl i :: l => (bsOf l).map (i :: ·)
  | _ :: _ => none
theorem bsOf_rep {w : Wd} : ∀ {l : List D} {xs : List V} {ns : List Bool}, RepL M w l xs → bsOf l = some ns → xs = ns.map V.bl
  | [], xs, ns, r, e => by simp only [RepL] at r; subst r; cases e; rfl
  | d :: l, xs, ns, r, e => by
    simp only [RepL] at r
    obtain ⟨x, t, rfl, r1, r2⟩ := r
    cases d <;> first | (cases e; done) | skip
    obtain ⟨ms, e1, rfl⟩ := mapSome e
    simp only [Rep] at r1
    rw [r1, bsOf_rep r2 e1]
    rfl
def sumR (r : R) (G : Sto) : Option R := ((seqG r G).bind intsOf).map fun ns => .d (.int ns.sum)
theorem c_sum (hK : X.K = M.K) (hc : X.calm = true) : CallR X (.builtin "sum") (r1 M sumR) := by
  intro pins s σ' H xs us Q I rx h
  obtain ⟨H0, w0, σ, ρ, w, G, ra, r, x, rfl, A, xa, e, q⟩ := h
  obtain ⟨ns, e1, rfl⟩ := mapSome e
  obtain ⟨l, e2, e3⟩ := bindSome e1
  obtain ⟨p, xs, rfl, h1, r1⟩ := A.seqG xa e2
  have ex := intsOf_rep r1 e3
  subst ex
  exact cr_sum hc pins s σ' H _ us Q I rx ⟨p, ns, rfl, by rw [hK]; exact h1, A.fin q of_int⟩
def allR (r : R) (G : Sto) : Option R := ((seqG r G).bind bsOf).map fun ns => .d (.bl (ns.all id))
def anyR (r : R) (G : Sto) : Option R := ((seqG r G).bind bsOf).map fun ns => .d (.bl (ns.any id))
theorem c_all (hK : X.K = M.K) (hc : X.calm = true) : CallR X (.builtin "all") (r1 M allR) := by
  intro pins s σ' H xs us Q I rx h
  obtain ⟨H0, w0, σ, ρ, w, G, ra, r, x, rfl, A, xa, e, q⟩ := h
  obtain ⟨ns, e1, rfl⟩ := mapSome e
  obtain ⟨l, e2, e3⟩ := bindSome e1
  obtain ⟨p, xs, rfl, h1, r1⟩ := A.seqG xa e2
  have ex := bsOf_rep r1 e3
  subst ex
  exact cr_all hc pins s σ' H _ us Q I rx ⟨p, ns, rfl, by rw [hK]; exact h1, A.fin q of_bl⟩
theorem c_any (hK : X.K = M.K) (hc : X.calm = true) : CallR X (.builtin "any") (r1 M anyR) := by
  intro pins s σ' H xs us Q I rx h
  obtain ⟨H0, w0, σ, ρ, w, G, ra, r, x, rfl, A, xa, e, q⟩ := h
  obtain ⟨ns, e1, rfl⟩ := mapSome e
  obtain ⟨l, e2, e3⟩ := bindSome e1
  obtain ⟨p, xs, rfl, h1, r1⟩ := A.seqG xa e2
  have ex := bsOf_rep r1 e3
  subst ex
  exact cr_any hc pins s σ' H _ us Q I rx ⟨p, ns, rfl, by rw [hK]; exact h1, A.fin q of_bl⟩
def itemsG (r : R) (G : Sto) : Option (List D) := match r with
  | .d (.tup l) => some l
  | r => seqG r G
def listR (r : R) (G : Sto) : Option R := (itemsG r G).map fun l => .tmp (.lst l)
theorem At.itemsG {H0 H : Hp} {w0 w : Wd} {σ : L2.St} {ρ : Env} {G : Sto} {r : R} {v : V} {l : List D} (a : At M H0 w0 σ ρ H w G) (x : RX M H0 σ ρ H w r v) (e : itemsG r G = some l) : ∃ p xs, v = .ref p ∧ (SqL M.K H p xs ∨ SqT M.K H p xs) ∧ RepL M w l xs := by
  unfold Lp.itemsG at e
  split at e
  · cases e
    obtain ⟨p, xs, rfl, h, _, r⟩ := a.tup x rfl
    exact ⟨p, xs, rfl, .inr h, r⟩
  · obtain ⟨p, xs, rfl, h, r⟩ := a.seqG x e
    exact ⟨p, xs, rfl, .inl h, r⟩
theorem c_list (hK : X.K = M.K) : CallR X (.type "list") (r1 M listR) := by
  intro pins s σ' H xs us Q I rx h
  obtain ⟨H0, w0, σ, ρ, w, G, ra, r, x, rfl, A, xa, e, q⟩ := h
  obtain ⟨l, e1, rfl⟩ := mapSome e
  obtain ⟨p, xs, rfl, h1, r1⟩ := A.itemsG xa e1
  exact call_list_of pins s σ' H _ us Q I rx ⟨p, xs, rfl, by rw [hK]; exact h1, fun p' hp => A.newLst q hp r1⟩
def tupleR (r : R) (G : Sto) : Option R := (itemsG r G).map fun l => .d (.tup l)
theorem c_tuple (hK : X.K = M.K) : CallR X (.type "tuple") (r1 M tupleR) := by
  intro pins s σ' H xs us Q I rx h
  obtain ⟨H0, w0, σ, ρ, w, G, ra, r, x, rfl, A, xa, e, q⟩ := h
  obtain ⟨l, e1, rfl⟩ := mapSome e
  unfold Lp.itemsG at e1
  split at e1
  · cases e1
    obtain ⟨p, xs, rfl, h, f, r⟩ := A.tup xa rfl
    exact call_tuple_of pins s σ' H _ us Q I rx ⟨p, xs, rfl, .inr ⟨by rw [hK]; exact h, A.fin q (of_tup f r)⟩⟩
  · obtain ⟨p, xs, rfl, h, r⟩ := A.seqG xa e1
    exact call_tuple_of pins s σ' H _ us Q I rx ⟨p, xs, rfl, .inl ⟨by rw [hK]; exact h, fun p' hp => A.newTup q hp r⟩⟩
def absR (r : R) (G : Sto) : Option R := match r with
  | .d (.int i) => some (.d (.int (if i < 0 then -i else i)))
  | _ => none
theorem c_abs : CallR X (.builtin "abs") (r1 M absR) := by
  intro pins s σ' H xs us Q I rx h
  obtain ⟨H0, w0, σ, ρ, w, G, ra, r, x, rfl, A, xa, e, q⟩ := h
  unfold absR at e
  split at e
  · cases e
    cases rx_int xa
    exact call_abs pins s σ' H _ us Q I rx ⟨_, rfl, A.fin q of_int⟩
  · cases e
def intR (r : R) (G : Sto) : Option R := match r with
  | .d (.int i) => some (.d (.int i))
  | .d (.bl k) => some (.d (.int (if k then 1 else 0)))
  | _ => none
theorem c_int : CallR X (.type "int") (r1 M intR) := by
  intro pins s σ' H xs us Q I rx h
  obtain ⟨H0, w0, σ, ρ, w, G, ra, r, x, rfl, A, xa, e, q⟩ := h
  unfold intR at e
  split at e
  · cases e
    cases rx_int xa
    exact call_int1 pins s σ' H _ us Q I rx (.inl ⟨_, rfl, A.fin q of_int⟩)
  · cases e
    cases rx_bl xa
    exact call_int1 pins s σ' H _ us Q I rx (.inr ⟨_, rfl, A.fin q of_int⟩)
  · cases e
/-- greatest, least of a list of ints -/
def maxI : Int → List Int → Int
  | m, [] => m
  | m, n :: l => maxI (if n > m then n else m) l
def minI : Int → List Int → Int
  | m, [] => m
  | m, n :: l => minI (if n < m then n else m) l
theorem maxI_spec : ∀ (l : List Int) (m : Int), (maxI m l = m ∨ maxI m l ∈ l) ∧ m ≤ maxI m l ∧ ∀ n ∈ l, n ≤ maxI m l
  | [], m => ⟨.inl rfl, Int.le_refl _, fun n h => absurd h (by simp)⟩
  | a :: l, m => by
    obtain ⟨h1, h2, h3⟩ := maxI_spec l (if a > m then a else m)
    show (maxI (if a > m then a else m) l = m ∨ maxI (if a > m then a else m) l ∈ a :: l) ∧ m ≤ maxI (if a > m then a else m) l ∧ ∀ n ∈ a :: l, n ≤ maxI (if a > m then a else m) l
    have k1 : m ≤ (if a > m then a else m) := by split <;> omega
    have k2 : a ≤ (if a > m then a else m) := by split <;> omega
    refine ⟨?_, Int.le_trans k1 h2, fun n hn => ?_⟩
    · rcases h1 with h1 | h1
      · rw [h1]
        by_cases z : a > m
        · rw [if_pos z]; exact .inr (by simp)
        · rw [if_neg z]; exact .inl rfl
      · exact .inr (List.mem_cons_of_mem _ h1)
    · rcases List.mem_cons.mp hn with rfl | hn
      · exact Int.le_trans k2 h2
      · exact h3 n hn
theorem minI_spec : ∀ (l : List Int) (m : Int), (minI m l = m ∨ minI m l ∈ l) ∧ minI m l ≤ m ∧ ∀ n ∈ l, minI m l ≤ n
  | [], m => ⟨.inl rfl, Int.le_refl _, fun n h => absurd h (by simp)⟩
  | a :: l, m => by
    obtain ⟨h1, h2, h3⟩ := minI_spec l (if a < m then a else m)
    show (minI (if a < m then a else m) l = m ∨ minI (if a < m then a else m) l ∈ a :: l) ∧ minI (if a < m then a else m) l ≤ m ∧ ∀ n ∈ a :: l, minI (if a < m then a else m) l ≤ n
    have k1 : (if a < m then a else m) ≤ m := by split <;> omega
    have k2 : (if a < m then a else m) ≤ a := by split <;> omega
    refine ⟨?_, Int.le_trans h2 k1, fun n hn => ?_⟩
    · rcases h1 with h1 | h1
      · rw [h1]
        by_cases z : a < m
        · rw [if_pos z]; exact .inr (by simp)
        · rw [if_neg z]; exact .inl rfl
      · exact .inr (List.mem_cons_of_mem _ h1)
    · rcases List.mem_cons.mp hn with rfl | hn
      · exact Int.le_trans h2 k2
      · exact h3 n hn
def maxR (r : R) (G : Sto) : Option R := ((seqG r G).bind intsOf).bind fun ns => match ns with
  | [] => none
  | n :: l => some (.d (.int (maxI n l)))
def minR (r : R) (G : Sto) : Option R := ((seqG r G).bind intsOf).bind fun ns => match ns with
  | [] => none
  | n :: l => some (.d (.int (minI n l)))
theorem c_max (hK : X.K = M.K) (hc : X.calm = true) : CallR X (.builtin "max") (r1 M maxR) := by
  intro pins s σ' H xs us Q I rx h
  obtain ⟨H0, w0, σ, ρ, w, G, ra, r, x, rfl, A, xa, e, q⟩ := h
  obtain ⟨ns, e1, e4⟩ := bindSome e
  obtain ⟨l, e2, e3⟩ := bindSome e1
  obtain ⟨p, xs, rfl, h1, r1⟩ := A.seqG xa e2
  have ex := intsOf_rep r1 e3
  subst ex
  cases ns with
  | nil => cases e4
  | cons n l =>
    cases e4
    obtain ⟨k1, k2, k3⟩ := maxI_spec l n
    refine cr_max hc pins s σ' H _ us Q I rx ⟨p, n :: l, rfl, by rw [hK]; exact h1, by simp, fun m hm hle => ?_⟩
    have em : m = maxI n l := by
      have a1 : maxI n l ≤ m := by
        rcases k1 with k1 | k1
        · rw [k1]; exact hle n (by simp)
        · exact hle _ (List.mem_cons_of_mem _ k1)
      have a2 : m ≤ maxI n l := by
        rcases List.mem_cons.mp hm with rfl | hm
        · exact k2
        · exact k3 m hm
      omega
    subst em
    exact A.fin q of_int
theorem c_min (hK : X.K = M.K) (hc : X.calm = true) : CallR X (.builtin "min") (r1 M minR) := by
  intro pins s σ' H xs us Q I rx h
  obtain ⟨H0, w0, σ, ρ, w, G, ra, r, x, rfl, A, xa, e, q⟩ := h
  obtain ⟨ns, e1, e4⟩ := bindSome e
  obtain ⟨l, e2, e3⟩ := bindSome e1
  obtain ⟨p, xs, rfl, h1, r1⟩ := A.seqG xa e2
  have ex := intsOf_rep r1 e3
  subst ex
  cases ns with
  | nil => cases e4
  | cons n l =>
    cases e4
    obtain ⟨k1, k2, k3⟩ := minI_spec l n
    refine cr_min hc pins s σ' H _ us Q I rx ⟨p, n :: l, rfl, by rw [hK]; exact h1, by simp, fun m hm hle => ?_⟩
    have em : m = minI n l := by
      have a1 : m ≤ minI n l := by
        rcases k1 with k1 | k1
        · rw [k1]; exact hle n (by simp)
        · exact hle _ (List.mem_cons_of_mem _ k1)
      have a2 : minI n l ≤ m := by
        rcases List.mem_cons.mp hm with rfl | hm
        · exact k2
        · exact k3 m hm
      omega
    subst em
    exact A.fin q of_int
def max2R (a b : R) (G : Sto) : Option R := match a, b with
  | .d (.int i), .d (.int j) => some (.d (.int (if j > i then j else i)))
  | _, _ => none
def min2R (a b : R) (G : Sto) : Option R := match a, b with
  | .d (.int i), .d (.int j) => some (.d (.int (if j < i then j else i)))
  | _, _ => none
theorem c_max2 (hc : X.calm = true) : CallR X (.builtin "max") (r2 M max2R) := by
  intro pins s σ' H xs us Q I rx h
  obtain ⟨H0, w0, σ, ρ, w, G, ra, rb, r, x, y, rfl, A, xa, xb, e, q⟩ := h
  unfold max2R at e
  split at e
  · cases e
    cases rx_int xa; cases rx_int xb
    exact call_max2 hc pins s σ' H _ us Q I rx ⟨_, _, rfl, A.fin q of_int⟩
  · cases e
theorem c_min2 (hc : X.calm = true) : CallR X (.builtin "min") (r2 M min2R) := by
  intro pins s σ' H xs us Q I rx h
  obtain ⟨H0, w0, σ, ρ, w, G, ra, rb, r, x, y, rfl, A, xa, xb, e, q⟩ := h
  unfold min2R at e
  split at e
  · cases e
    cases rx_int xa; cases rx_int xb
    exact call_min2 hc pins s σ' H _ us Q I rx ⟨_, _, rfl, A.fin q of_int⟩
  · cases e
def divmodR (a b : R) (G : Sto) : Option R := match a, b with
  | .d (.int i), .d (.int j) => if divOk j = true then some (.d (.tup [.int (i / j), .int (i % j)])) else none
  | _, _ => none
theorem c_divmod : CallR X (.builtin "divmod") (r2 M divmodR) := by
  intro pins s σ' H xs us Q I rx h
  obtain ⟨H0, w0, σ, ρ, w, G, ra, rb, r, x, y, rfl, A, xa, xb, e, q⟩ := h
  unfold divmodR at e
  split at e
  · obtain ⟨hd, rfl⟩ := ifSome e
    cases rx_int xa; cases rx_int xb
    unfold divOk at hd
    simp only [Bool.and_eq_true, decide_eq_true_eq] at hd
    exact call_divmod pins s σ' H _ us Q I rx ⟨_, _, rfl, ⟨hd.1, by omega⟩, fun p hp => A.newTup q hp (RepL.cons (by simp only [Rep]) (RepL.cons (by simp only [Rep]) RepL.nil))⟩
  · cases e
/-! sorted, of ints -/
def insI (n : Int) : List Int → List Int
  | [] => [n]
  | m :: l => if n ≤ m then n :: m :: l else m :: insI n l
def isort : List Int → List Int
  | [] => []
  | n :: l => insI n (isort l)
theorem insI_perm (n : Int) : ∀ l, (insI n l).Perm (n :: l)
  | [] => List.Perm.refl _
  | m :: l => by
    show (if n ≤ m then n :: m :: l else m :: insI n l).Perm _
    split
    · exact List.Perm.refl _
    · exact ((insI_perm n l).cons m).trans (List.Perm.swap n m l)
theorem isort_perm : ∀ l, (isort l).Perm l
  | [] => List.Perm.refl _
  | n :: l => (insI_perm n (isort l)).trans ((isort_perm l).cons n)
theorem insI_sorted (n : Int) : ∀ l : List Int, l.Pairwise (· ≤ ·) → (insI n l).Pairwise (· ≤ ·)
  | [], _ => List.pairwise_singleton _ _
  | m :: l, h => by
    show (if n ≤ m then n :: m :: l else m :: insI n l).Pairwise _
    rw [List.pairwise_cons] at h
    split
    · rename_i z
      refine List.pairwise_cons.mpr ⟨fun y hy => ?_, List.pairwise_cons.mpr h⟩
      rcases List.mem_cons.mp hy with rfl | hy
      · exact z
      · exact Int.le_trans z (h.1 y hy)
    · rename_i z
      refine List.pairwise_cons.mpr ⟨fun y hy => ?_, insI_sorted n l h.2⟩
      rcases List.mem_cons.mp ((insI_perm n l).mem_iff.mp hy) with rfl | hy
      · omega
      · exact h.1 y hy
theorem isort_sorted : ∀ l, (isort l).Pairwise (· ≤ ·)
  | [] => List.Pairwise.nil
  | n :: l => insI_sorted n _ (isort_sorted l)
theorem sorted_one {α : Type} {r : α → α → Prop} (ha : ∀ a b, r a b → r b a → a = b) : ∀ {l m : List α}, l.Perm m → l.Pairwise r → m.Pairwise r → l = m
  | [], m, p, _, _ => by rw [List.nil_perm.mp p]
  | a :: l, [], p, _, _ => absurd p.length_eq (by simp)
  | a :: l, b :: m, p, h1, h2 => by
    rw [List.pairwise_cons] at h1 h2
    have e : a = b := by
      have m1 : a ∈ b :: m := p.mem_iff.mp (by simp)
      have m2 : b ∈ a :: l := p.mem_iff.mpr (by simp)
      rcases List.mem_cons.mp m1 with e | m1
      · exact e
      · rcases List.mem_cons.mp m2 with e | m2
        · exact e.symm
        · exact ha _ _ (h1.1 b m2) (h2.1 a m1)
    subst e
    rw [sorted_one ha (List.Perm.cons_inv p) h1.2 h2.2]
def dsort (l : List Int) : List Int := (isort l).reverse
theorem dsort_sorted (l : List Int) : (dsort l).Pairwise (· ≥ ·) := by
  unfold dsort
  rw [List.pairwise_reverse]
  exact isort_sorted l
def sortedR (r : R) (G : Sto) : Option R := ((itemsG r G).bind intsOf).map fun ns => .tmp (.lst ((isort ns).map .int))
def sortedOnly (r : R) (G : Sto) : Option R := ((seqG r G).bind intsOf).map fun ns => .tmp (.lst ((isort ns).map .int))
def sortedRev (r : R) (G : Sto) : Option R := ((seqG r G).bind intsOf).map fun ns => .tmp (.lst ((dsort ns).map .int))
theorem c_sorted (hK : X.K = M.K) : CallR X (.builtin "sorted") (r1 M sortedOnly) := by
  intro pins s σ' H xs us Q I rx h
  obtain ⟨H0, w0, σ, ρ, w, G, ra, r, x, rfl, A, xa, e, q⟩ := h
  obtain ⟨ns, e1, rfl⟩ := mapSome e
  obtain ⟨l, e2, e3⟩ := bindSome e1
  obtain ⟨p, xs, rfl, h1, r1⟩ := A.seqG xa e2
  have ex := intsOf_rep r1 e3
  subst ex
  refine cr_sortedI pins s σ' H _ us Q I rx ⟨p, ns, rfl, by rw [hK]; exact h1, fun ns' p' hp hs hn => ?_⟩
  have e4 : ns' = isort ns := sorted_one (fun a b h1 h2 => Int.le_antisymm h1 h2) (hp.trans (isort_perm ns).symm) hs (isort_sorted ns)
  subst e4
  exact A.newLst q hn (RepL.ints _)
/-- sorted(xs, reverse=True) -/
theorem x_sortedRev {kp : Pos} {k : Nat} {p2 : Pos} (hK : X.K = M.K) (hg : Gl X "sorted") (hm : X.mg "sorted" = none) (ha : PE X a (tE M cf ca)) (hs : isStar a = false) :
    PE X (.Call (.Name "sorted" p) [a] [⟨some "reverse", .Constant (.bool true) k p2, kp⟩] pos) (tE M cf (cUnG sortedRev ca)) := by
  refine peW (pe_callBK (cr_sortedRev (b := true)) hg hm (by decide +kernel) (pa_cons ha pa_nil (starEach_plain hs)) (pk_cons pe_bl pk_nil) (by decide) (by decide) (by rw [starEach_plain hs]; rfl) (starEach_any (by rw [List.any_cons, hs]; rfl))) fun σ H Q h => ?_
  obtain ⟨ρ, w, G, r, G', sl, st, e, q⟩ := h
  refine (At.start sl st).run e fun ra G1 x H1 w1 e1 L1 A1 x1 => ?_
  obtain ⟨r', e3, e4⟩ := mapSome e1
  cases e4
  obtain ⟨ns, e5, e6⟩ := mapSome e3
  obtain ⟨l, e7, e8⟩ := bindSome e5
  subst e6
  obtain ⟨p, xs, rfl, h1, r1⟩ := A1.seqG x1 e7
  have ex := intsOf_rep r1 e8
  subst ex
  refine ⟨p, ns, rfl, rfl, by rw [hK]; exact h1, fun ns' p' hp hs hn => ?_⟩
  have hs : ns'.Pairwise (· ≥ ·) := hs
  have e4 : ns' = dsort ns := sorted_one (fun a b h1 h2 => Int.le_antisymm h2 h1) (hp.trans ((isort_perm ns).symm.trans (List.reverse_perm _).symm)) hs (dsort_sorted ns)
  subst e4
  exact A1.newLst q hn (RepL.ints _)
end
end Lp

namespace Lp
open PySem PySem.Spec PyProof.Rows L2

/-! ### enumerate(v, k) over a list or a tuple -/
/-- what is walked: a list, a tuple -/
def Sq (K : PySem.W.Frag) (tp : Bool) (H : Hp) (a : Addr) (xs : List V) : Prop := if tp then SqT K H a xs else SqL K H a xs
def IteK (K : PySem.W.Frag) (tp : Bool) (k : Int) (a : Addr) : It :=
  ⟨fun i H => ∃ (xs : List V) (x : V), Sq K tp H a xs ∧ xs[i]? = some x, fun i H v H' => ∃ T x, v = .ref T ∧ H T = none ∧ H' = upd H T (.tup [.int (k + (i : Nat)), x]) ∧ ∀ xs, Sq K tp H a xs → xs[i]? = some x, fun i H => ∃ xs : List V, Sq K tp H a xs ∧ xs.length = i⟩
def SqIt (tp : Bool) (h : Heap) (it a : Addr) (i : Nat) : Prop := if tp then h.IsTupleIter it a i else h.IsListIter it a i
theorem SqIt.at {tp : Bool} {h h' : Heap} {it a : Addr} {i : Nat} (s : SqIt tp h it a i) (k : ∀ o, h.get? it = some o → h'.get? it = some o) : SqIt tp h' it a i := by
  unfold SqIt at s ⊢
  cases tp with
  | true => exact Heap.IsTupleIter.at s k
  | false => exact Heap.IsListIter.at s k
theorem SqIt.there {tp : Bool} {h : Heap} {it a : Addr} {i : Nat} (s : SqIt tp h it a i) : ∃ o, h.get? it = some o ∧ ∀ v, o.data ≠ .cell v := by
  unfold SqIt at s
  cases tp with
  | true => obtain ⟨o, ho, hc, hd⟩ := s; exact ⟨o, ho, fun v q => by rw [hd] at q; cases q⟩
  | false => obtain ⟨o, ho, hc, hd⟩ := s; exact ⟨o, ho, fun v q => by rw [hd] at q; cases q⟩
def SqH (tp : Bool) (h : Heap) (a : Addr) (items : Array Value) : Prop := if tp then h.IsTuple a items else h.IsList a items
theorem sq_draws {P : Program} {w : World} {A : Around} (tp : Bool) (hh : A.handled = none) (it a : Addr) (hne : a ≠ it) (items : Array Value) : Draws P w A it [it, a] items.size (fun i v => items[i]? = some v) (fun i h => SqIt tp h it a i ∧ SqH tp h a items) := by
  cases tp with
  | true => exact Draws.tuple hh it a hne items
  | false => exact Draws.list hh it a hne items
section
variable {X : Cx} {pins : List (Addr × Obj)} {σ : L2.St} {H : Hp} {s : Shared} {a : Addr} {xs ys : List V} {tp : Bool}
theorem sq_of (I : Inv X pins σ H s) (h : Sq X.K tp H a xs) : ∃ its : List Value, Vals xs its ∧ SqH tp s.heap a its.toArray ∧ xs.length ≤ sizeLine := by
  unfold Sq at h
  unfold SqH
  cases tp with
  | true => obtain ⟨its, r, p, z⟩ := I.tuple h; exact ⟨its, r, p, z⟩
  | false => obtain ⟨its, r, p, z⟩ := I.list h; exact ⟨its, r, p.isList, z⟩
theorem sq_inj (I : Inv X pins σ H s) (h : Sq X.K tp H a xs) (h' : Sq X.K tp H a ys) : xs = ys := by
  unfold Sq at h h'
  cases tp with
  | true => exact I.tuple_inj h h'
  | false => exact I.list_inj h h'
end
theorem turn_enumK {P : Program} {w : World} {K : PySem.W.Frag} {elts : List Expr} {kk : Nat} {tpos : Pos} (tp : Bool) (k : Int) (a e it : Addr) :
    Turn P w K (.Tuple elts kk tpos) (IteK K tp k a) [e, it] e (fun i h => (∃ old, IsEnum h e it (k + ((i : Nat) : Int)) old) ∧ SqIt tp h it a i ∧ e ≠ it ∧ a ≠ it ∧ a ≠ e) where
  mem := by simp
  obj := fun i h st b hb => by
    obtain ⟨⟨old, he⟩, hit, _⟩ := st
    have e' : b = e ∨ b = it := by simpa using hb
    rcases e' with z | z
    · rw [z]; exact ⟨_, he, fun v q => nomatch q⟩
    · rw [z]; exact hit.there
  keep := fun i h h' st kp => let ⟨⟨old, he⟩, hi, hne⟩ := st; ⟨⟨old, kp e (by simp) _ he⟩, hi.at fun o q => kp it (by simp) o q, hne⟩
  item := by
    intro X hP hw hK hc i pins s σ H E I hf st hg
    subst hP hw hK
    obtain ⟨⟨old, he⟩, hit, hne, hai, hae⟩ := st
    obtain ⟨xs, x, hq, hx⟩ := hg
    obtain ⟨its, rv, p, hz⟩ := sq_of I hq
    obtain ⟨u, hu, ru⟩ := rv.get hx
    have hel : e < s.heap.objs.size := Heap.lt_size he
    have hil : it < s.heap.objs.size := by obtain ⟨o, q, _⟩ := hit.there; exact Heap.lt_size q
    have hlt : i < its.toArray.size := by
      rw [List.size_toArray]
      exact (List.getElem?_eq_some_iff.mp hu).1
    refine wpAny_pyNext_enum_itemC (sq_draws (A := X.A.in1) tp (show X.A.in1.handled = none from I.ok.hd hc) it a hai its.toArray) he ⟨hit, p⟩ hlt hne (by
      intro hm
      rcases List.mem_cons.mp hm with z | z
      · exact hne z
      · exact hae (List.mem_singleton.mp z).symm) fun x' h' tk hP ho hst hT hsz hk => ?_
    have hxu : x' = u := by
      rw [List.getElem?_toArray, hu] at hP
      exact (Option.some.inj hP).symm
    subst hxu
    refine ⟨_, rfl, wpAny_letOwnedTupleGo_enum (s := { s with heap := h', toks := tk + 1 }) ho fun h'' he' sb => ?_⟩
    have hT2 : h''.get? s.heap.objs.size = some { cls := .type "tuple", data := .seq #[.int (k + (i : Nat)) tk, x'] } := (sb.2 _ (Nat.ne_of_gt hel)).trans hT
    have new : ObjOk X.prog X.w (upd H s.heap.objs.size (.tup [.int (k + (i : Nat)), x])) h'' s.heap.objs.size (.tup [.int (k + (i : Nat)), x]) :=
      ⟨by show 2 ≤ sizeLine; decide, [.int (k + (i : Nat)) tk, x'], .cons ⟨_, rfl⟩ (.cons ru .nil), ⟨_, hT2, rfl, _, rfl⟩⟩
    have I1 : Inv X pins σ (upd H s.heap.objs.size (.tup [.int (k + (i : Nat)), x])) { s with heap := h'', toks := tk + 1 } :=
      I.turnedNew (ch := [e, it]) (fun b ob hb q => (sb.2 b (fun z => hb (by simp [z]))).trans (hk b ob (fun z => hb (by simp [z])) (fun z => hb (by simp [z])) q)) hf (Nat.le_refl _) new
    refine ⟨.ref s.heap.objs.size, _, I1, rfl, ⟨_, x, rfl, I.hok.fresh (Nat.le_refl _), rfl, fun ys hy => by rw [sq_inj I hy hq]; exact hx⟩, ⟨⟨x', ?_⟩, hst.1.at fun o q => (sb.2 it (Ne.symm hne)).trans q, hne, hai, hae⟩, fun b hb => ?_⟩
    · have e1 : k + ((i + 1 : Nat) : Int) = k + (i : Int) + 1 := by omega
      rw [e1]; exact he'
    · have hb' : b < s.heap.objs.size := by
        have e' : b = e ∨ b = it := by simpa using hb
        rcases e' with z | z
        · rw [z]; exact hel
        · rw [z]; exact hil
      rw [upd_ne (Nat.ne_of_lt hb')]
      exact (hf b hb).1
  done := by
    intro X hP hw hK hc i pins s σ H E I hf st hg
    subst hP hw hK
    obtain ⟨⟨old, he⟩, hit, hne, hai, hae⟩ := st
    obtain ⟨xs, hq, hx⟩ := hg
    obtain ⟨its, rv, p, hz⟩ := sq_of I hq
    obtain ⟨f0, f1, f2, f3, f4, f5⟩ := hf it (by simp)
    have hl := rv.length
    have en : i = its.toArray.size := by rw [List.size_toArray]; omega
    subst en
    exact wpAny_pyNext_enum_endD (sq_draws (A := X.A.in1) tp (show X.A.in1.handled = none from I.ok.hd hc) it a hai its.toArray) he ⟨hit, p⟩ fun h' eb => ⟨rfl, I.turned (t' := s.toks) (fun b o hb q => eb b o hb q) f0 f1 f3 f4 f5⟩
  self := fun A i s Q E st h => let ⟨⟨_, he⟩, _⟩ := st; wpAny_pyIter_enum he h
/-- enumerate(v), whatever is walked -/
theorem meets_enumerate_newB1 {v : Value} {o : Obj} {H : Heap → Prop} (B : Begins v o H) :
    Meets (Builtin.«enumerate.__new__» ⟨[.type "enumerate", v], []⟩) (fun _ R s => H s.heap ∧
      R (.ok (.ret (.ref (s.heap.push o).objs.size))) { s with heap := (s.heap.push o).push { cls := .type "enumerate", data := .fields #[.none, .bool false, .ref s.heap.objs.size, rawInt 0, .none, .none] } }) :=
  .of_wp fun prog w A R s h => by
    obtain ⟨hp, g, d, tk, os⟩ := s; obtain ⟨h1, h⟩ := h
    have hsub := sub_enumerate
    have q1 : ∀ {A' : Around} {E : Value → Shared → Prop} {Q : Value → Shared → Prop}, Q (.ref hp.objs.size) ⟨hp.push o, g, d, tk, os⟩ → wpAny (model prog w) A' (pyIter v) Q E ⟨hp, g, d, tk, os⟩ :=
      fun q => B.iter prog w _ _ ⟨hp, g, d, tk, os⟩ _ h1 q
    wp_walk using q1
    refine wpAny_stack_any fun st => wpAny_pure ?_
    split
    · rename_i c _ _ _ _ _
      cases (c == Value.type "enumerate")
      · wp_walk using q1
        exact ⟨_, rfl, h⟩
      · wp_walk using q1
        exact ⟨_, rfl, h⟩
    · wp_walk using q1
      exact ⟨_, rfl, h⟩
theorem enum_begins1 {prog : Program} {w : World} {A : Around} {E : Value → Shared → Prop} {s : Shared} {v : Value} {o : Obj} {H : Heap → Prop} {Q : Value → Shared → Prop} (B : Begins v o H) (h1 : H s.heap)
    (h : ∀ h', IsEnum h' (s.heap.objs.size + 1) s.heap.objs.size 0 .none → h'.get? s.heap.objs.size = some o → h'.objs.size = s.heap.objs.size + 2 →
      (∀ b o, s.heap.get? b = some o → h'.get? b = some o) → Q (.ref (s.heap.objs.size + 1)) { s with heap := h' }) :
    wpAny (model prog w) A (call (.type "enumerate") [v]) Q E s := by
  refine callType_new F.called_enumerate (by decide) (F.typeCall_enumerate_1 _) (F.newCall_enumerate_1 _) (fun obj => F.args_object_init_2 obj _) F.entry_enumerate_new
    (meets_enumerate_newB1 B) ⟨h1, ?_⟩
  have hz : (s.heap.push o).objs.size = s.heap.objs.size + 1 := Heap.size_push ..
  show _ ∧ _
  rw [hz]
  have he : IsEnum ((s.heap.push o).push { cls := .type "enumerate", data := .fields #[.none, .bool false, .ref s.heap.objs.size, rawInt 0, .none, .none] }) (s.heap.objs.size + 1) s.heap.objs.size 0 .none := by
    have := Heap.get?_push_size (s.heap.push o) (o := { cls := .type "enumerate", data := .fields #[.none, .bool false, .ref s.heap.objs.size, rawInt 0, .none, .none] }) rfl
    rw [hz] at this; exact this
  refine ⟨⟨_, he, rfl⟩, h _ he (Heap.get?_push_of_some _ (Heap.get?_push_size _ B.free)) (by rw [Heap.size_push, hz]) fun b o x => Heap.get?_push_of_some _ (Heap.get?_push_of_some _ x)⟩
def iEnumK (K : PySem.W.Frag) (ta : TA) : TI := fun σ H R => ta σ H fun vs H1 => ∃ a xs tp k, vs = [.ref a, .int k] ∧ -(2 ^ 63) ≤ k ∧ k < 2 ^ 63 ∧ Sq K tp H1 a xs ∧ R (IteK K tp k a) H1
def iEnum1 (K : PySem.W.Frag) (ta : TA) : TI := fun σ H R => ta σ H fun vs H1 => ∃ a xs tp, vs = [.ref a] ∧ Sq K tp H1 a xs ∧ R (IteK K tp 0 a) H1
theorem enum_go {X : Cx} {pins : List (Addr × Obj)} {σ : L2.St} {H1 : Hp} {s1 : Shared} {a : Addr} {xs : List V} {tp : Bool} {k : Int} {R : It → Hp → Prop} {elts : List Expr} {kk : Nat} {tpos : Pos} (I1 : Inv X pins σ H1 s1) (hq : Sq X.K tp H1 a xs) (q : R (IteK X.K tp k a) H1)
    {h' : Heap} (he : IsEnum h' (s1.heap.objs.size + 1) s1.heap.objs.size k .none) (hit : SqIt tp h' s1.heap.objs.size a 0) (hk : ∀ b o, s1.heap.get? b = some o → h'.get? b = some o) :
    PIE X pins σ (.Tuple elts kk tpos) R (.ref (s1.heap.objs.size + 1)) { s1 with heap := h' } := by
  have I2 : Inv X pins σ H1 { s1 with heap := h' } := I1.kept (t' := s1.toks) hk
  have al : a < s1.heap.objs.size := by
    obtain ⟨its, rv, p, hz⟩ := sq_of I1 hq
    unfold SqH at p
    cases tp with
    | true => obtain ⟨o, e, _⟩ := p; exact Heap.lt_size e
    | false => obtain ⟨o, e, _⟩ := p; exact Heap.lt_size e
  refine ⟨s1.heap.objs.size + 1, [s1.heap.objs.size + 1, s1.heap.objs.size], _, _, H1, rfl, I2, turn_enumK tp k a (s1.heap.objs.size + 1) s1.heap.objs.size, ⟨⟨.none, by simpa using he⟩, hit, Nat.succ_ne_self _, Nat.ne_of_lt al, Nat.ne_of_lt (Nat.lt_succ_of_lt al)⟩, fun b hb => ?_, q⟩
  have e' : b = s1.heap.objs.size + 1 ∨ b = s1.heap.objs.size := by simpa using hb
  have hle : s1.heap.objs.size ≤ b := by
    rcases e' with z | z
    · rw [z]; exact Nat.le_add_right _ _
    · rw [z]; exact Nat.le_refl _
  exact I1.fpOk hle (I1.hok.fresh hle)
theorem begins_of {X : Cx} {pins : List (Addr × Obj)} {σ : L2.St} {H1 : Hp} {s1 : Shared} {a : Addr} {xs : List V} {tp : Bool} (I1 : Inv X pins σ H1 s1) (hq : Sq X.K tp H1 a xs) :
    ∃ (o : Obj) (P : Heap → Prop), Begins (.ref a) o P ∧ P s1.heap ∧ ∀ (h : Heap) (it : Addr), h.get? it = some o → SqIt tp h it a 0 := by
  obtain ⟨its, rv, p, hz⟩ := sq_of I1 hq
  unfold SqH at p
  cases tp with
  | true => exact ⟨_, _, begins_tuple a its.toArray, p, fun h it e => ⟨_, e, rfl, rfl⟩⟩
  | false => exact ⟨_, _, begins_list a its.toArray, p, fun h it e => ⟨_, e, rfl, rfl⟩⟩
theorem pi_enumK {X : Cx} {a b : Expr} {ta : TA} {p pos tpos : Pos} {elts : List Expr} {kk : Nat} (hg : Gl X "enumerate") (hm : X.mg "enumerate" = none) (ha : PA X [a, b] ta) (h1 : isStar a = false) (h2 : isStar b = false) :
    PI X (.Tuple elts kk tpos) (.Call (.Name "enumerate" p) [a, b] [] pos) (iEnumK X.K ta) := by
  refine ⟨fun pins s σ H R I h => ?_⟩
  refine Call_ (ld_blt I hg hm boot_enumerate (PyProof.Rows.callWith_type1 (thn (ha.run pos pins s σ H _ I h) fun us s1 ⟨vs, H1, I1, r1, q1⟩ => ?_) (starEach_plain h1) (any1 h2)))
  obtain ⟨a, xs, tp, k, ex, k1, k2, hq, q⟩ := q1
  subst ex
  cases r1 with
  | cons r rr =>
    cases rr with
    | cons r' rr =>
      cases rr
      cases r
      obtain ⟨t, rfl⟩ := r'
      obtain ⟨o, P, B, hP, hS⟩ := begins_of I1 hq
      exact enum_begins B hP k1 k2 fun h' he hit hsz hk => wpAny_pyIter_enum he (enum_go I1 hq q he (hS _ _ hit) hk)
theorem pi_enum1 {X : Cx} {a : Expr} {ta : TA} {p pos tpos : Pos} {elts : List Expr} {kk : Nat} (hg : Gl X "enumerate") (hm : X.mg "enumerate" = none) (ha : PA X [a] ta) (h1 : isStar a = false) :
    PI X (.Tuple elts kk tpos) (.Call (.Name "enumerate" p) [a] [] pos) (iEnum1 X.K ta) := by
  refine ⟨fun pins s σ H R I h => ?_⟩
  refine Call_ (ld_blt I hg hm boot_enumerate (PyProof.Rows.callWith_type1 (thn (ha.run pos pins s σ H _ I h) fun us s1 ⟨vs, H1, I1, r1, q1⟩ => ?_) (starEach_plain h1) rfl))
  obtain ⟨a, xs, tp, ex, hq, q⟩ := q1
  subst ex
  cases r1 with
  | cons r rr =>
    cases rr
    cases r
    obtain ⟨o, P, B, hP, hS⟩ := begins_of I1 hq
    exact enum_begins1 B hP fun h' he hit hsz hk => wpAny_pyIter_enum he (enum_go I1 hq q he (hS _ _ hit) hk)
end Lp

namespace Lp
open PySem PySem.Spec PyProof.Rows L2

/-! ### what is walked -/
structure Mono (w w' : Wd) : Prop where
  fz : ∀ a o, w.fz a = some o → w'.fz a = some o
  al : ∀ (n : Nat) (a : Addr), w.al[n]? = some a → w'.al[n]? = some a
theorem Lat.mono {H H' : Hp} {w w' : Wd} (L : Lat H w H' w') : Mono w w' := ⟨L.fz, fun _ _ h => L.al_get h⟩
theorem Mono.refl (w : Wd) : Mono w w := ⟨fun _ _ h => h, fun _ _ h => h⟩
theorem Mono.trans {a b c : Wd} (p : Mono a b) (q : Mono b c) : Mono a c := ⟨fun x o h => q.fz x o (p.fz x o h), fun n x h => q.al n x (p.al n x h)⟩
def FzH (w : Wd) (H : Hp) : Prop := ∀ a o, w.fz a = some o → H a = some o
structure Ylds (M : Md) (J : It) (l : List D) (w1 : Wd) : Prop where
  go : ∀ (i : Nat) (d : D) (H : Hp) (w : Wd), l[i]? = some d → Mono w1 w → FzH w H → J.go i H
  yl : ∀ (i : Nat) (d : D) (H : Hp) (w : Wd) (x : V) (H' : Hp), l[i]? = some d → Mono w1 w → FzH w H → J.yld i H x H' → ∃ w', Lat H w H' w' ∧ (∀ G, StOk M H w G → StOk M H' w' G) ∧ FzH w' H' ∧ Rep M w' d x
  st : ∀ (H : Hp) (w : Wd), Mono w1 w → FzH w H → J.stop l.length H
def tI (M : Md) (cf : CF) (c : FnL) : TI := fun σ H R => ∃ ρ w G l G', SlOk M H w σ ρ ∧ StOk M H w G ∧ c cf ρ G = some (l, G') ∧ ∀ J H' w', Lat H w H' w' → StOk M H' w' G' → Ylds M J l w' → R J H'
def elems : D → Option (List D)
  | .tup l => some l
  | .lst l => some l
  | .scr l => some l
  | .str s => some (s.cps.toList.map fun c => .str ⟨#[c]⟩)
  | _ => none
def cSeqI (a : Fn) : FnL := fun cf ρ G => (a cf ρ G).bind fun p => (frz p.1).bind fun d => (elems d).map (·, p.2)
section
variable {M : Md} {w w1 : Wd} {H : Hp} {l : List D} {xs : List V} {a : Addr}
theorem RepL.mon (r : RepL M w l xs) {w' : Wd} (m : Mono w w') : RepL M w' l xs := RepL.mono m.fz m.al l xs r
theorem Rep.mon {d : D} {x : V} (r : Rep M w d x) {w' : Wd} (m : Mono w w') : Rep M w' d x := Rep.mono m.fz m.al d x r
theorem ylds_sq {J : It} (hs : ∀ H : Hp, (∀ a o, w1.fz a = some o → H a = some o) → (∀ i x, xs[i]? = some x → J.go i H ∧ ∀ y H', J.yld i H y H' → H' = H ∧ y = x) ∧ J.stop xs.length H) (r : RepL M w1 l xs) : Ylds M J l w1 := by
  refine ⟨fun i d H w e m f => ?_, fun i d H w y H' e m f q => ?_, fun H w m f => ?_⟩
  · obtain ⟨x, e1, _⟩ := r.getD e
    exact ((hs H fun a o h => f a o (m.fz a o h)).1 i x e1).1
  · obtain ⟨x, e1, rx⟩ := r.getD e
    obtain ⟨rfl, rfl⟩ := ((hs H fun a o h => f a o (m.fz a o h)).1 i x e1).2 y H' q
    exact ⟨w, Lat.refl _ _, fun _ h => h, f, rx.mon m⟩
  · rw [r.length]
    exact (hs H fun a o h => f a o (m.fz a o h)).2
theorem ylds_list (h : SqL M.K w1.fz a xs) (r : RepL M w1 l xs) : Ylds M (Itl M.K a) l w1 := ylds_sq (fun H f => by
  have q := sqL_mono f h
  exact ⟨fun i x e => ⟨⟨xs, x, q, e⟩, fun y H' ⟨e1, e2⟩ => ⟨e1, by have z := e2 xs q; rw [e] at z; exact (Option.some.inj z).symm⟩⟩, ⟨xs, q, Nat.le_refl _⟩⟩) r
theorem ylds_tup (h : SqT M.K w1.fz a xs) (r : RepL M w1 l xs) : Ylds M (Itt M.K a) l w1 := ylds_sq (fun H f => by
  have q := sqT_mono f h
  exact ⟨fun i x e => ⟨⟨xs, x, q, e⟩, fun y H' ⟨e1, e2⟩ => ⟨e1, by have z := e2 xs q; rw [e] at z; exact (Option.some.inj z).symm⟩⟩, ⟨xs, q, Nat.le_refl _⟩⟩) r
theorem RepL.signs : ∀ cs : List Nat, RepL M w (cs.map fun c => D.str ⟨#[c]⟩) (cs.map fun c => V.str ⟨#[c]⟩)
  | [] => RepL.nil
  | c :: cs => RepL.cons (by simp only [Rep]) (RepL.signs cs)
theorem ylds_str {s : Str} : Ylds M (Its s) (s.cps.toList.map fun c => .str ⟨#[c]⟩) w1 := ylds_sq (xs := s.cps.toList.map fun c => V.str ⟨#[c]⟩) (fun H f => by
  refine ⟨fun i x e => ?_, ?_⟩
  · rw [List.getElem?_map, Array.getElem?_toList] at e
    obtain ⟨c, e1, e2⟩ := mapSome e
    refine ⟨?_, fun y H' q => ?_⟩
    · exact (Array.getElem?_eq_some_iff.mp e1).1
    · obtain ⟨q1, c', q2, q3⟩ := q
      rw [e1] at q2
      cases q2
      exact ⟨q1, by rw [q3, ← e2]⟩
  · show s.cps.size ≤ _
    rw [List.length_map, Array.length_toList]
    exact Nat.le_refl _) (RepL.signs _)
def rangeI : Int → Nat → List D
  | _, 0 => []
  | lo, n + 1 => .int lo :: rangeI (lo + 1) n
theorem rangeI_len : ∀ (n : Nat) (lo : Int), (rangeI lo n).length = n
  | 0, _ => rfl
  | n + 1, lo => by show (rangeI (lo + 1) n).length + 1 = _; rw [rangeI_len n]
theorem rangeI_get : ∀ (n : Nat) (lo : Int) (i : Nat), (rangeI lo n)[i]? = if i < n then some (.int (lo + i)) else none
  | 0, lo, i => by rw [if_neg (Nat.not_lt_zero i)]; rfl
  | n + 1, lo, 0 => by rw [if_pos (Nat.zero_lt_succ n)]; show some _ = some _; simp
  | n + 1, lo, i + 1 => by
    show (rangeI (lo + 1) n)[i]? = _
    rw [rangeI_get n]
    by_cases h : i < n
    · rw [if_pos h, if_pos (by omega)]
      exact congrArg (fun z => some (D.int z)) (by omega)
    · rw [if_neg h, if_neg (by omega)]
theorem ylds_range {lo : Int} {n : Nat} : Ylds M (Itr lo n) (rangeI lo n) w1 := by
  refine ⟨fun i d H w e m f => ?_, fun i d H w y H' e m f q => ?_, fun H w m f => ?_⟩
  · rw [rangeI_get] at e
    by_cases h : i < n
    · exact h
    · rw [if_neg h] at e; cases e
  · rw [rangeI_get] at e
    obtain ⟨rfl, rfl⟩ := q
    by_cases h : i < n
    · rw [if_pos h] at e; cases e
      exact ⟨w, Lat.refl _ _, fun _ h => h, f, by simp only [Rep]⟩
    · rw [if_neg h] at e; cases e
  · show n ≤ _
    rw [rangeI_len]
    exact Nat.le_refl _
def rangeC : Int → Int → Nat → List D
  | _, _, 0 => []
  | lo, c, n + 1 => .int lo :: rangeC (lo + c) c n
theorem rangeC_len : ∀ (n : Nat) (lo c : Int), (rangeC lo c n).length = n
  | 0, _, _ => rfl
  | n + 1, lo, c => by show (rangeC (lo + c) c n).length + 1 = _; rw [rangeC_len n]
theorem rangeC_get : ∀ (n : Nat) (lo c : Int) (i : Nat), (rangeC lo c n)[i]? = if i < n then some (.int (lo + i * c)) else none
  | 0, lo, c, i => by rw [if_neg (Nat.not_lt_zero i)]; rfl
  | n + 1, lo, c, 0 => by rw [if_pos (Nat.zero_lt_succ n)]; show some _ = some _; simp
  | n + 1, lo, c, i + 1 => by
    show (rangeC (lo + c) c n)[i]? = _
    rw [rangeC_get n]
    by_cases h : i < n
    · rw [if_pos h, if_pos (by omega)]
      have e : lo + c + (i : Int) * c = lo + ((i + 1 : Nat) : Int) * c := by
        rw [Int.natCast_add, Int.add_mul]
        omega
      rw [e]
    · rw [if_neg h, if_neg (by omega)]
theorem ylds_rangeC {lo c : Int} {n : Nat} : Ylds M (Itc lo c n) (rangeC lo c n) w1 := by
  refine ⟨fun i d H w e m f => ?_, fun i d H w y H' e m f q => ?_, fun H w m f => ?_⟩
  · rw [rangeC_get] at e
    by_cases h : i < n
    · exact h
    · rw [if_neg h] at e; cases e
  · rw [rangeC_get] at e
    obtain ⟨rfl, rfl⟩ := q
    by_cases h : i < n
    · rw [if_pos h] at e; cases e
      exact ⟨w, Lat.refl _ _, fun _ h => h, f, by simp only [Rep]⟩
    · rw [if_neg h] at e; cases e
  · show n ≤ _
    rw [rangeC_len]
    exact Nat.le_refl _
def enumD : Int → List D → List D
  | _, [] => []
  | k, d :: l => .tup [.int k, d] :: enumD (k + 1) l
theorem enumD_len : ∀ (l : List D) (k : Int), (enumD k l).length = l.length
  | [], _ => rfl
  | d :: l, k => by show (enumD (k + 1) l).length + 1 = _; rw [enumD_len l]; rfl
theorem enumD_get : ∀ (l : List D) (k : Int) (i : Nat), (enumD k l)[i]? = (l[i]?).map fun d => .tup [.int (k + i), d]
  | [], k, i => by simp [enumD]
  | d :: l, k, 0 => by show some _ = some _; simp
  | d :: l, k, i + 1 => by
    show (enumD (k + 1) l)[i]? = (l[i]?).map _
    rw [enumD_get l]
    have e : k + 1 + (i : Int) = k + ((i + 1 : Nat) : Int) := by omega
    rw [e]
theorem pair_put {H : Hp} {w : Wd} {T : Addr} {x y : V} {d e : D} (hT : H T = none) (f : FzH w H) (rd : Rep M w d x) (re : Rep M w e y) :
    ∃ w', Lat H w (upd H T (.tup [x, y])) w' ∧ (∀ G, StOk M H w G → StOk M (upd H T (.tup [x, y])) w' G) ∧ FzH w' (upd H T (.tup [x, y])) ∧ Rep M w' (.tup [d, e]) (.ref T) := by
  have fn : w.fz T = none := by
    cases z : w.fz T with
    | none => rfl
    | some u => rw [f T u z] at hT; cases hT
  refine ⟨w.put T (.tup [x, y]), (Lat.new (M := M) (G := []) hT).freeze (M := M) (G := []) hT fn, fun G st => (st.new hT).freeze upd_same fn (st.aln hT), fun a o h => ?_, ?_⟩
  · have h : upd w.fz T (.tup [x, y]) a = some o := h
    by_cases z : a = T
    · subst z; rw [upd_same] at h ⊢; exact h
    · rw [upd_ne z] at h ⊢; exact f a o h
  · simp only [Rep]
    exact ⟨T, [x, y], rfl, (show upd w.fz T _ T = _ from upd_same), RepL.cons (rd.put fn) (RepL.cons (re.put fn) RepL.nil)⟩
theorem ylds_enum {tp : Bool} {k : Int} (h : Sq M.K tp w1.fz a xs) (r : RepL M w1 l xs) : Ylds M (IteK M.K tp k a) (enumD k l) w1 := by
  have up : ∀ {H : Hp} {w : Wd}, Mono w1 w → FzH w H → Sq M.K tp H a xs := fun {H w} m f => by
    unfold Sq at h ⊢
    cases tp with
    | true => exact sqT_mono (fun a o z => f a o (m.fz a o z)) h
    | false => exact sqL_mono (fun a o z => f a o (m.fz a o z)) h
  refine ⟨fun i d H w e m f => ?_, fun i d H w y H' e m f q => ?_, fun H w m f => ?_⟩
  · rw [enumD_get] at e
    obtain ⟨d', e1, e2⟩ := mapSome e
    obtain ⟨x, e3, _⟩ := r.getD e1
    exact ⟨xs, x, up m f, e3⟩
  · rw [enumD_get] at e
    obtain ⟨d', e1, e2⟩ := mapSome e
    subst e2
    obtain ⟨x, e3, rx⟩ := r.getD e1
    obtain ⟨T, x', rfl, hT, rfl, hx⟩ := q
    have z := hx xs (up m f)
    rw [e3] at z; cases z
    exact pair_put hT f (by simp only [Rep]) (rx.mon m)
  · exact ⟨xs, up m f, by rw [enumD_len, r.length]⟩
end
section
variable {X : Cx} {M : Md} {cf : CF} {e a b c tg : Expr} {es : List Expr} {ca cb cc : Fn} {cl : FnL} {pos p tpos : Pos}
theorem x_seqI (hK : X.K = M.K) (he : PE X e (tE M cf ca)) : PI X tg e (tI M cf (cSeqI ca)) := by
  refine ⟨fun pins s σ H R I h => ?_⟩
  obtain ⟨ρ, w, G, l, G', sl, st, ev, q⟩ := h
  obtain ⟨⟨ra, G1⟩, e1, e2⟩ := bindSome ev
  obtain ⟨d, e3, e4⟩ := bindSome e2
  obtain ⟨l', e5, e6⟩ := mapSome e4
  cases e6
  have go : ∀ K : V → Hp → Prop, (∀ v H1 w1, Lat H w H1 w1 → StOk M H1 w1 G1 → Rep M w1 d v → K v H1) → tE M cf ca σ H K := fun K k => by
    refine ⟨ρ, w, G, ra, G1, sl, st, e1, fun v H1 w1 L s x => ?_⟩
    obtain ⟨w', A, r, L'⟩ := ((At.start sl st).step L s).frz x e3
    exact k v H1 w' L' A.st r
  cases d <;> first | (cases e5; done) | skip
  · cases e5
    refine (pi_str he).run pins s σ H R I (go _ fun v H1 w1 L s r => ?_)
    simp only [Rep] at r
    exact ⟨_, r, q _ H1 w1 L s ylds_str⟩
  · cases e5
    refine (pi_tup he).run pins s σ H R I (go _ fun v H1 w1 L s r => ?_)
    simp only [Rep] at r
    obtain ⟨p, xs, rfl, h, r⟩ := r
    exact ⟨p, rfl, ⟨xs, by rw [hK]; exact .inl (.inl (s.fzH _ _ h))⟩, by rw [hK]; exact q _ H1 w1 L s (ylds_tup (.inl (.inl h)) r)⟩
  · cases e5
    refine (pi_list he).run pins s σ H R I (go _ fun v H1 w1 L s r => ?_)
    simp only [Rep] at r
    obtain ⟨p, xs, rfl, h, r⟩ := r
    exact ⟨p, rfl, ⟨xs, by rw [hK]; exact .inl (.inl (s.fzH _ _ h))⟩, by rw [hK]; exact q _ H1 w1 L s (ylds_list (.inl (.inl h)) r)⟩
  · cases e5
    refine (pi_list he).run pins s σ H R I (go _ fun v H1 w1 L s r => ?_)
    simp only [Rep] at r
    obtain ⟨p, xs, rfl, h, r⟩ := r
    exact ⟨p, rfl, ⟨xs, by rw [hK]; exact sqL_mono s.fzH h⟩, by rw [hK]; exact q _ H1 w1 L s (ylds_list h r)⟩
def rgOk (i : Int) : Bool := decide (i.natAbs < 4611686018427387904)
theorem rgOk_ok {i : Int} (h : rgOk i = true) : -(2 ^ 62) ≤ i ∧ i < 2 ^ 62 := by
  unfold rgOk at h
  simp only [decide_eq_true_eq] at h
  exact ⟨by omega, by omega⟩
def cRng1 (a : FnL) : FnL := fun cf ρ G => (a cf ρ G).bind fun p => match p.1 with
  | [.int j] => if rgOk j = true then some (rangeI 0 j.toNat, p.2) else none
  | _ => none
def cRng2 (a : FnL) : FnL := fun cf ρ G => (a cf ρ G).bind fun p => match p.1 with
  | [.int i, .int j] => if (rgOk i && rgOk j) = true then some (rangeI i (j - i).toNat, p.2) else none
  | _ => none
def rgLen (i j c : Int) : Nat := if 0 < c then ((j - i + c - 1) / c).toNat else ((i - j - c - 1) / (-c)).toNat
def cRng3 (a : FnL) : FnL := fun cf ρ G => (a cf ρ G).bind fun p => match p.1 with
  | [.int i, .int j, .int c] => if (rgOk i && rgOk j && decide (c = -1)) = true then some (rangeC i c (i - j).toNat, p.2) else
      if (decide (c ≠ 0) && decide (c.natAbs < 1073741824) && Builtin.Range.small i j c) = true then some (rangeC i c (Builtin.Range.rangeSize i j c).toNat, p.2) else none
  | _ => none
theorem rep_int1 {w : Wd} {i : Int} {vs : List V} (r : RepL M w [.int i] vs) : vs = [.int i] := intsOf_rep (ns := [i]) r rfl
theorem rep_int2 {w : Wd} {i j : Int} {vs : List V} (r : RepL M w [.int i, .int j] vs) : vs = [.int i, .int j] := intsOf_rep (ns := [i, j]) r rfl
theorem rep_int3 {w : Wd} {i j k : Int} {vs : List V} (r : RepL M w [.int i, .int j, .int k] vs) : vs = [.int i, .int j, .int k] := intsOf_rep (ns := [i, j, k]) r rfl
theorem x_rng1 (hg : Gl X "range") (hm : X.mg "range" = none) (ha : PA X [a] (tA M cf cl)) (hs : isStar a = false) : PI X tg (.Call (.Name "range" p) [a] [] pos) (tI M cf (cRng1 cl)) :=
  ⟨fun pins s σ H R I h => (pi_range1 hg hm ha (by rw [starEach_plain hs]; rfl)).run pins s σ H R I (by
    obtain ⟨ρ, w, G, l, G', sl, st, ev, q⟩ := h
    refine (At.start sl st).runA ev fun l1 G1 vs H1 w1 e1 L1 A1 r1 => ?_
    dsimp only at e1
    split at e1
    · obtain ⟨hj, e2⟩ := ifSome e1
      cases e2
      have hj := rgOk_ok hj
      cases rep_int1 r1
      exact ⟨_, rfl, hj.1, hj.2, q _ H1 w1 L1 A1.st ylds_range⟩
    · cases e1)⟩
theorem x_rng2 (hg : Gl X "range") (hm : X.mg "range" = none) (ha : PA X [a, b] (tA M cf cl)) (hs : isStar a = false) (hs2 : isStar b = false) : PI X tg (.Call (.Name "range" p) [a, b] [] pos) (tI M cf (cRng2 cl)) :=
  ⟨fun pins s σ H R I h => (pi_range2 hg hm ha (by rw [starEach_plain hs, starEach_plain hs2]; rfl) (by rw [starEach_plain hs2]; rfl)).run pins s σ H R I (by
    obtain ⟨ρ, w, G, l, G', sl, st, ev, q⟩ := h
    refine (At.start sl st).runA ev fun l1 G1 vs H1 w1 e1 L1 A1 r1 => ?_
    dsimp only at e1
    split at e1
    · obtain ⟨hj, e2⟩ := ifSome e1
      cases e2
      rw [Bool.and_eq_true] at hj
      have h1 := rgOk_ok hj.1
      have h2 := rgOk_ok hj.2
      cases rep_int2 r1
      exact ⟨_, _, rfl, ⟨h1.1, h1.2, h2.1, h2.2⟩, q _ H1 w1 L1 A1.st ylds_range⟩
    · cases e1)⟩
theorem any2 {env : PySem.Env} (hs : isStar a = false) (hs2 : isStar b = false) : (backTo pos (starEach [a, b] env)).any (·.1) = false := starEach_any (by rw [List.any_cons, List.any_cons, hs, hs2]; rfl)
theorem rangeSize_nn (i j c : Int) : 0 ≤ Builtin.Range.rangeSize i j c := by
  unfold Builtin.Range.rangeSize
  split
  · split
    · have := Int.ediv_nonneg (show 0 ≤ j - i - 1 by omega) (show 0 ≤ c by omega)
      omega
    · exact Int.le_refl _
  · split
    · have := Int.ediv_nonneg (show 0 ≤ i - j - 1 by omega) (show 0 ≤ -c by omega)
      omega
    · exact Int.le_refl _
theorem x_rng3 (hg : Gl X "range") (hm : X.mg "range" = none) (ha : PA X [a, b, c] (tA M cf cl)) (hs : isStar a = false) (hs2 : isStar b = false) (hs3 : isStar c = false) : PI X tg (.Call (.Name "range" p) [a, b, c] [] pos) (tI M cf (cRng3 cl)) :=
  ⟨fun pins s σ H R I h => (pi_range3 hg hm ha (starEach_plain hs) (any2 hs2 hs3)).run pins s σ H R I (by
    obtain ⟨ρ, w, G, l, G', sl, st, ev, q⟩ := h
    refine (At.start sl st).runA ev fun l1 G1 vs H1 w1 e1 L1 A1 r1 => ?_
    dsimp only at e1
    split at e1
    · rename_i i j c
      cases rep_int3 r1
      by_cases hc : (rgOk i && rgOk j && decide (c = -1)) = true
      · rw [if_pos hc] at e1
        cases e1
        simp only [Bool.and_eq_true, decide_eq_true_eq] at hc
        have h1 := rgOk_ok hc.1.1
        have h2 := rgOk_ok hc.1.2
        have e := hc.2
        subst e
        exact ⟨_, _, _, _, rfl, RgC.neg h1.1 h1.2 h2.1 h2.2, q _ H1 w1 L1 A1.st ylds_rangeC⟩
      · rw [if_neg hc] at e1
        obtain ⟨hj, e2⟩ := ifSome e1
        cases e2
        simp only [Bool.and_eq_true, decide_eq_true_eq] at hj
        exact ⟨_, _, _, _, rfl, ⟨hj.1.1, hj.1.2, hj.2, (Int.toNat_of_nonneg (rangeSize_nn i j c)).symm⟩, q _ H1 w1 L1 A1.st ylds_rangeC⟩
    · cases e1)⟩
def seqD : D → Option (List D)
  | .tup l => some l
  | .lst l => some l
  | .scr l => some l
  | _ => none
theorem seqD_ok {w : Wd} {d : D} {v : V} {l : List D} (r : Rep M w d v) (e : seqD d = some l) : ∃ a xs tp, v = .ref a ∧ Sq M.K tp w.fz a xs ∧ RepL M w l xs := by
  cases d <;> first | (cases e; done) | skip
  all_goals (cases e; simp only [Rep] at r; obtain ⟨a, xs, rfl, h, r⟩ := r)
  · exact ⟨a, xs, true, rfl, .inl (.inl h), r⟩
  · exact ⟨a, xs, false, rfl, .inl (.inl h), r⟩
  · exact ⟨a, xs, false, rfl, h, r⟩
theorem Sq.mono {K : PySem.W.Frag} {tp : Bool} {H H' : Hp} {a : Addr} {xs : List V} (f : ∀ a o, H a = some o → H' a = some o) (h : Sq K tp H a xs) : Sq K tp H' a xs := by
  unfold Sq at h ⊢
  cases tp with
  | true => exact sqT_mono f h
  | false => exact sqL_mono f h
def cEnum1 (a : FnL) : FnL := fun cf ρ G => (a cf ρ G).bind fun p => match p.1 with
  | [d] => (seqD d).map fun l => (enumD 0 l, p.2)
  | _ => none
def cEnum2 (a : FnL) : FnL := fun cf ρ G => (a cf ρ G).bind fun p => match p.1 with
  | [d, .int k] => if rgOk k = true then (seqD d).map fun l => (enumD k l, p.2) else none
  | _ => none
theorem x_enum1 {elts : List Expr} {kk : Nat} (hK : X.K = M.K) (hg : Gl X "enumerate") (hm : X.mg "enumerate" = none) (ha : PA X [a] (tA M cf cl)) (hs : isStar a = false) : PI X (.Tuple elts kk tpos) (.Call (.Name "enumerate" p) [a] [] pos) (tI M cf (cEnum1 cl)) :=
  ⟨fun pins s σ H R I h => (pi_enum1 hg hm ha hs).run pins s σ H R I (by
    obtain ⟨ρ, w, G, l, G', sl, st, ev, q⟩ := h
    refine (At.start sl st).runA ev fun l1 G1 vs H1 w1 e1 L1 A1 r1 => ?_
    dsimp only at e1
    split at e1
    · obtain ⟨l', e2, e3⟩ := mapSome e1
      cases e3
      simp only [RepL] at r1
      obtain ⟨x, r, rfl, r2, rfl⟩ := r1
      obtain ⟨a, xs, tp, rfl, h, r3⟩ := seqD_ok r2 e2
      exact ⟨a, xs, tp, rfl, by rw [hK]; exact h.mono A1.st.fzH, by rw [hK]; exact q _ H1 w1 L1 A1.st (ylds_enum h r3)⟩
    · cases e1)⟩
theorem x_enum2 {elts : List Expr} {kk : Nat} (hK : X.K = M.K) (hg : Gl X "enumerate") (hm : X.mg "enumerate" = none) (ha : PA X [a, b] (tA M cf cl)) (hs : isStar a = false) (hs2 : isStar b = false) : PI X (.Tuple elts kk tpos) (.Call (.Name "enumerate" p) [a, b] [] pos) (tI M cf (cEnum2 cl)) :=
  ⟨fun pins s σ H R I h => (pi_enumK hg hm ha hs hs2).run pins s σ H R I (by
    obtain ⟨ρ, w, G, l, G', sl, st, ev, q⟩ := h
    refine (At.start sl st).runA ev fun l1 G1 vs H1 w1 e1 L1 A1 r1 => ?_
    dsimp only at e1
    split at e1
    · rename_i d k
      by_cases hk : rgOk k = true
      · rw [if_pos hk] at e1
        obtain ⟨l', e2, e3⟩ := mapSome e1
        cases e3
        have hk := rgOk_ok hk
        simp only [RepL] at r1
        obtain ⟨x, r, rfl, r2, x2, r', rfl, r4, rfl⟩ := r1
        obtain ⟨a, xs, tp, rfl, h, r3⟩ := seqD_ok r2 e2
        simp only [Rep] at r4
        subst r4
        exact ⟨a, xs, tp, k, rfl, by omega, by omega, by rw [hK]; exact h.mono A1.st.fzH, by rw [hK]; exact q _ H1 w1 L1 A1.st (ylds_enum h r3)⟩
      · rw [if_neg hk] at e1; cases e1
    · cases e1)⟩
end
end Lp

namespace Lp
open PySem PySem.Spec PyProof.Rows L2

/-! ### targets -/
inductive Tg where
  | nm (i : Nat) | tup (l : List Nat)
def setAll : List Nat → List D → Env → Option Env
  | [], [], ρ => some ρ
  | i :: is, d :: ds, ρ => setAll is ds (ρ.set i (.v d))
  | _, _, _ => none
def bindTg : Tg → D → Env → Option Env
  | .nm i, d, ρ => some (ρ.set i (.v d))
  | .tup is, .tup ds, ρ => setAll is ds ρ
  | _, _, _ => none
def gNames : List Nat → TGs
  | [] => gNil
  | i :: is => gCons (gName i) (gNames is)
def tgG (K : PySem.W.Frag) : Tg → TG
  | .nm i => gName i
  | .tup is => gTup K is.length (gNames is)
def tgIx : Tg → List Nat
  | .nm i => [i]
  | .tup is => is
def wipeR (ρ : Env) : List Nat → Env
  | [] => ρ
  | v :: vs => (wipeR ρ vs).set v .no
section
variable {M : Md} {w : Wd} {H : Hp} {σ : L2.St} {ρ : Env} {G : Sto}
theorem SlOk.set {d : D} {v : V} (h : SlOk M H w σ ρ) (r : Rep M w d v) (i : Nat) : SlOk M H w (σ.set i (some v)) (ρ.set i (.v d)) := by
  refine ⟨by simp [h.len], fun j s e => ?_, fun a b o o' x e1 e2 e3 e4 => ?_⟩
  · by_cases z : i = j
    · subst z
      by_cases hi : i < ρ.length
      · rw [List.getElem?_set_self hi] at e; cases e
        exact ⟨v, by rw [List.getElem?_set_self (by rw [h.len]; exact hi)], r⟩
      · rw [List.getElem?_eq_none (by simpa using hi)] at e; cases e
    · rw [List.getElem?_set_ne z] at e
      rw [List.getElem?_set_ne z]
      exact h.at_ j s e
  · have na : i ≠ a := fun z => by
      subst z
      by_cases hi : i < ρ.length
      · rw [List.getElem?_set_self hi] at e1; cases e1
      · rw [List.getElem?_eq_none (by simpa using hi)] at e1; cases e1
    have nb : i ≠ b := fun z => by
      subst z
      by_cases hi : i < ρ.length
      · rw [List.getElem?_set_self hi] at e2; cases e2
      · rw [List.getElem?_eq_none (by simpa using hi)] at e2; cases e2
    rw [List.getElem?_set_ne na] at e1 e3
    rw [List.getElem?_set_ne nb] at e2 e4
    exact h.sep a b o o' x e1 e2 e3 e4
theorem SlOk.forget (h : SlOk M H w σ ρ) (i : Nat) (x : Option V) : SlOk M H w (σ.set i x) (ρ.set i .no) := by
  refine ⟨by simp [h.len], fun j s e => ?_, fun a b o o' y e1 e2 e3 e4 => ?_⟩
  · by_cases z : i = j
    · subst z
      by_cases hi : i < ρ.length
      · rw [List.getElem?_set_self hi] at e; cases e
        trivial
      · rw [List.getElem?_eq_none (by simpa using hi)] at e; cases e
    · rw [List.getElem?_set_ne z] at e
      rw [List.getElem?_set_ne z]
      exact h.at_ j s e
  · have na : i ≠ a := fun z => by
      subst z
      by_cases hi : i < ρ.length
      · rw [List.getElem?_set_self hi] at e1; cases e1
      · rw [List.getElem?_eq_none (by simpa using hi)] at e1; cases e1
    have nb : i ≠ b := fun z => by
      subst z
      by_cases hi : i < ρ.length
      · rw [List.getElem?_set_self hi] at e2; cases e2
      · rw [List.getElem?_eq_none (by simpa using hi)] at e2; cases e2
    rw [List.getElem?_set_ne na] at e1 e3
    rw [List.getElem?_set_ne nb] at e2 e4
    exact h.sep a b o o' y e1 e2 e3 e4
theorem SlOk.wipe (h : SlOk M H w σ ρ) : ∀ vs : List Nat, SlOk M H w (wipe σ vs) (wipeR ρ vs)
  | [] => h
  | v :: vs => (SlOk.wipe h vs).forget v none
theorem wipe_set {σ : L2.St} {i : Nat} {x : Option V} : ∀ {vs : List Nat}, i ∈ vs → wipe (σ.set i x) vs = wipe σ vs
  | v :: vs, h => by
    show (wipe (σ.set i x) vs).set v none = (wipe σ vs).set v none
    by_cases hm : i ∈ vs
    · rw [wipe_set hm]
    · have e : i = v := (List.mem_cons.mp h).elim id fun z => absurd z hm
      subst e
      have out : ∀ (vs : List Nat), i ∉ vs → wipe (σ.set i x) vs = (wipe σ vs).set i x := by
        intro vs
        induction vs with
        | nil => intro _; rfl
        | cons u us ih =>
          intro hn
          rw [List.mem_cons, not_or] at hn
          show (wipe (σ.set i x) us).set u none = ((wipe σ us).set u none).set i x
          rw [ih hn.2, List.set_comm _ _ hn.1]
      rw [out vs hm, List.set_set]
theorem wipe_wipe {σ : L2.St} : ∀ {vs : List Nat} (us : List Nat), (∀ i ∈ vs, i ∈ us) → wipe (wipe σ vs) us = wipe σ us
  | [], _, _ => rfl
  | v :: vs, us, h => by
    show wipe ((wipe σ vs).set v none) us = _
    rw [wipe_set (h v (by simp))]
    exact wipe_wipe us fun i hi => h i (List.mem_cons_of_mem _ hi)
/-- one's own objects are younger than H0 -/
def OwnFr (H0 : Hp) (σ : L2.St) (ρ : Env) : Prop := ∀ (i : Nat) (o : Ob) (a : Addr), ρ[i]? = some (.own o) → σ[i]? = some (some (.ref a)) → H0 a = none
theorem OwnFr.set {H0 : Hp} {σ : L2.St} {ρ : Env} (h : OwnFr H0 σ ρ) (i : Nat) (s : Sl) (x : Option V) (hs : ∀ o a, s = .own o → x = some (.ref a) → H0 a = none) : OwnFr H0 (σ.set i x) (ρ.set i s) := fun j o a e1 e2 => by
  by_cases z : i = j
  · subst z
    by_cases hi : i < ρ.length
    · rw [List.getElem?_set_self hi] at e1
      by_cases hj : i < σ.length
      · rw [List.getElem?_set_self hj] at e2
        exact hs o a (Option.some.inj e1) (Option.some.inj e2)
      · rw [List.getElem?_eq_none (by simpa using hj)] at e2; cases e2
    · rw [List.getElem?_eq_none (by simpa using hi)] at e1; cases e1
  · rw [List.getElem?_set_ne z] at e1 e2
    exact h j o a e1 e2
theorem names_run : ∀ (is : List Nat) (ds : List D) (xs : List V) (σ : L2.St) (ρ ρ1 : Env) (Q : L2.St → Hp → Prop), SlOk M H w σ ρ → RepL M w ds xs → setAll is ds ρ = some ρ1 →
    (∀ σ1, SlOk M H w σ1 ρ1 → (∀ vs, (∀ i ∈ is, i ∈ vs) → wipe σ1 vs = wipe σ vs) → (∀ H0, OwnFr H0 σ ρ → OwnFr H0 σ1 ρ1) → Q σ1 H) → xs.length = is.length ∧ gNames is xs σ H Q
  | [], [], xs, σ, ρ, ρ1, Q, s, r, e, k => by
    simp only [RepL] at r
    subst r
    cases e
    exact ⟨rfl, rfl, k σ s (fun _ _ => rfl) fun _ h => h⟩
  | [], d :: ds, _, _, _, _, _, _, _, e, _ => by cases e
  | i :: is, [], _, _, _, _, _, _, _, e, _ => by cases e
  | i :: is, d :: ds, xs, σ, ρ, ρ1, Q, s, r, e, k => by
    simp only [RepL] at r
    obtain ⟨x, t, rfl, r1, r2⟩ := r
    obtain ⟨h1, h2⟩ := names_run is ds t (σ.set i (some x)) (ρ.set i (.v d)) ρ1 Q (s.set r1 i) r2 e fun σ1 s1 w1 f1 => k σ1 s1 (fun vs hv => by
      rw [w1 vs fun j hj => hv j (List.mem_cons_of_mem _ hj)]
      exact wipe_set (hv i (by simp))) fun H0 h => f1 H0 (h.set i _ _ fun o a e => by cases e)
    exact ⟨by rw [List.length_cons, List.length_cons, h1], x, t, rfl, h2⟩
theorem tg_run {K : PySem.W.Frag} (hK : K = M.K) {tg : Tg} {d : D} {x : V} {ρ1 : Env} {Q : L2.St → Hp → Prop} (s : SlOk M H w σ ρ) (f : FzH w H) (r : Rep M w d x) (e : bindTg tg d ρ = some ρ1)
    (k : ∀ σ1, SlOk M H w σ1 ρ1 → (∀ vs, (∀ i ∈ tgIx tg, i ∈ vs) → wipe σ1 vs = wipe σ vs) → (∀ H0, OwnFr H0 σ ρ → OwnFr H0 σ1 ρ1) → Q σ1 H) : (tgG K tg) x σ H Q := by
  cases tg with
  | nm i =>
    cases e
    exact k _ (s.set r i) (fun vs hv => wipe_set (hv i (by simp [tgIx]))) fun H0 h => h.set i _ _ fun o a e => by cases e
  | tup is =>
    cases d <;> first | (cases e; done) | skip
    simp only [Rep] at r
    obtain ⟨a, xs, rfl, h, r⟩ := r
    obtain ⟨h1, h2⟩ := names_run is _ xs σ ρ ρ1 Q s r e k
    exact ⟨a, xs, rfl, by rw [hK]; exact .inl (.inl (f _ _ h)), h1, h2⟩
end

/-! ### comprehensions -/
def lcL (tg : Tg) (t : FnT) (e : Fn) (cf : CF) (ρ : Env) : List D → Sto → Option (List D × Sto)
  | [], G => some ([], G)
  | d :: l, G => (bindTg tg d ρ).bind fun ρ1 => (t cf ρ1 G).bind fun p => match p.1 with
    | true => (e cf ρ1 p.2).bind fun q => (frz q.1).bind fun y => (lcL tg t e cf ρ l q.2).map fun z => (y :: z.1, z.2)
    | false => lcL tg t e cf ρ l p.2
def cYes : FnT := fun _ _ G => some (true, G)
def cLc (vs : List Nat) (src : FnL) (tg : Tg) (t : FnT) (e : Fn) : Fn := fun cf ρ G => (src cf ρ G).bind fun p => if p.1.length ≤ 1000000 then (lcL tg t e cf (wipeR ρ vs) p.1 p.2).map fun q => (.tmp (.lst q.1), q.2) else none
section
variable {M : Md} {cf : CF}
theorem StOk.updOne {H : Hp} {w : Wd} {G : Sto} {p : Addr} {o : HO} (h : StOk M H w G) (f : w.fz p = none) (n : p ∉ w.al) : StOk M (upd H p o) w G := by
  refine ⟨fun a u e => ?_, h.len, h.nd, fun m ob a e1 e2 => ?_⟩
  · rw [upd_ne (ne_of_none e f)]; exact h.fzH a u e
  · obtain ⟨q, z⟩ := h.at_ m ob a e1 e2
    have ne : a ≠ p := fun z => n (by rw [← z]; exact List.mem_of_getElem? e2)
    refine ⟨?_, z⟩
    cases ob with
    | lst l => obtain ⟨xs, e, r⟩ := q; exact ⟨xs, (upd_ne ne).trans e, r⟩
    | dK ks vs => obtain ⟨xs, e, q, r⟩ := q; exact ⟨xs, (upd_ne ne).trans e, q, r⟩
    | dT ks vs => obtain ⟨xs, e, q, r⟩ := q; exact ⟨xs, (upd_ne ne).trans e, q, r⟩
    | ins c ns l => obtain ⟨dx, fs, e, q, r⟩ := q; exact ⟨dx, fs, (upd_ne ne).trans e, q, r⟩
theorem Lat.updOne {H H' : Hp} {w w' : Wd} {p : Addr} {o : HO} (L : Lat H w H' w') (h : H p = none) : Lat H w (upd H' p o) w' :=
  ⟨L.fz, L.al, L.nw, fun a xs e => by
    by_cases z : a = p
    · subst z; exact .inl h
    · rw [upd_ne z] at e; exact L.tb a xs e, fun a u e n => by rw [upd_ne (ne_of_none e h)]; exact L.kp a u e n, fun a e => by
    by_cases z : a = p
    · subst z; exact absurd h e
    · rw [upd_ne z]; exact L.dm a e⟩
/-- what stays so of one's own object behind a later state -/
theorem Lat.own {H H' : Hp} {w w' : Wd} {p : Addr} {o : HO} (L : Lat H w H' w') (h : H p = some o) (f : w.fz p = none) (n : p ∉ w.al) (nt : ∀ xs, o ≠ .tup xs := by intro _ z; cases z) : H' p = some o ∧ w'.fz p = none ∧ p ∉ w'.al := by
  refine ⟨L.kp p o h n, ?_, fun hm => ?_⟩
  · cases z : w'.fz p with
    | none => rfl
    | some u =>
      rcases L.nw p (by rw [z]; simp) f with this | ⟨xs, this⟩
      · rw [h] at this; cases this
      · rw [h] at this; exact absurd (Option.some.inj this) (nt xs)
  · obtain ⟨t, e, k⟩ := L.al
    rw [e] at hm
    rcases List.mem_append.mp hm with z | z
    · exact n z
    · rw [k p z] at h; cases h
theorem tLc_ok {K : PySem.W.Frag} (hK : K = M.K) {vs : List Nat} {src : FnL} {tg : Tg} {t : FnT} {ce : Fn} (hv : ∀ i ∈ tgIx tg, i ∈ vs) (σ : L2.St) (H00 : Hp) (Q : VK) (h : tE M cf (cLc vs src tg t ce) σ H00 Q) :
    tLc (tI M cf src) (tgG K tg) (tT M cf t) (tE M cf ce) vs σ H00 Q := by
  obtain ⟨ρ, w, G, r, G', sl, st, ev, q⟩ := h
  obtain ⟨⟨l, G1⟩, e1, e2⟩ := bindSome ev
  dsimp only at e2
  have hz : l.length ≤ 1000000 := by
    by_cases z : l.length ≤ 1000000
    · exact z
    · rw [if_neg z] at e2; cases e2
  rw [if_pos hz] at e2
  obtain ⟨⟨tot, G2⟩, e3, e4⟩ := mapSome e2
  cases e4
  clear e2 ev
  refine ⟨ρ, w, G, l, G1, sl, st, e1, fun J H1 w1 L1 s1 Y D hD => ?_⟩
  have sl1 := (sl.lat L1).wipe vs
  have fD := s1.fzn hD
  have nD := s1.aln hD
  refine lc_it (J := J) (n := l.length) (G := fun H => ∃ w, Mono w1 w ∧ FzH w H) (Y := J.yld) ⟨fun i H hi ⟨w, m, f⟩ => Y.go i _ H w (List.getElem?_eq_getElem hi) m f, fun H ⟨w, m, f⟩ => Y.st H w m f, fun _ _ _ _ _ _ y => y⟩
    (fun i H => ∃ w ys Gi zs, Lat H1 w1 H w ∧ StOk M H w Gi ∧ (∃ acc, H D = some (.lst acc) ∧ RepL M w ys acc) ∧ w.fz D = none ∧ D ∉ w.al ∧ ys.length ≤ i ∧ lcL tg t ce cf (wipeR ρ vs) (l.drop i) Gi = some (zs, G2) ∧ ys ++ zs = tot) ?_ ?_ ?_ ?_
  · exact ⟨w1, [], G1, tot, Lat.new (M := M) (G := G1) hD, s1.new hD, ⟨[], upd_same, RepL.nil⟩, fD, nD, Nat.le_refl _, e3, rfl⟩
  · rintro i H _ ⟨w, ys, Gi, zs, L, s, _⟩
    exact ⟨w, L.mono, s.fzH⟩
  · rintro i x H H' hi ⟨w, ys, Gi, zs, L, s, ⟨acc, hacc, racc⟩, f, n, hy, ez, et⟩ y
    have ed : l[i]? = some l[i] := List.getElem?_eq_getElem hi
    generalize l[i] = d at ed
    obtain ⟨w', L', s', f', rd⟩ := Y.yl i d H w x H' ed L.mono s.fzH y
    have edr : l.drop i = d :: l.drop (i + 1) := by
      rw [List.drop_eq_getElem_cons hi]
      rw [List.getElem?_eq_getElem hi] at ed
      rw [Option.some.inj ed]
    rw [edr] at ez
    obtain ⟨ρ1, e5, e6⟩ := bindSome ez
    obtain ⟨⟨b, G3⟩, e7, e8⟩ := bindSome e6
    clear ez e6
    refine tg_run hK (sl1.lat (L.trans L')) f' rd e5 fun σ1 sl2 hw _ => ?_
    refine ⟨by rw [hw vs hv]; exact wipe_wipe vs fun _ h => h, ?_⟩
    obtain ⟨o1, o2, o3⟩ := L'.own hacc f n
    have r1 := racc.lat L'
    refine ⟨ρ1, w', Gi, b, G3, sl2, s' _ s, e7, fun H3 w3 L3 s3 => ?_⟩
    obtain ⟨p1, p2, p3⟩ := L3.own o1 o2 o3
    have r2 := r1.lat L3
    dsimp only at e8
    cases b with
    | false =>
      rw [if_neg Bool.false_ne_true]
      exact ⟨w3, ys, G3, zs, (L.trans L').trans L3, s3, ⟨acc, p1, r2⟩, p2, p3, Nat.le_succ_of_le hy, e8, et⟩
    | true =>
      rw [if_pos rfl]
      obtain ⟨⟨re, G4⟩, e9, e10⟩ := bindSome e8
      obtain ⟨yd, e11, e12⟩ := bindSome e10
      obtain ⟨⟨zs', G5⟩, e13, e14⟩ := mapSome e12
      cases e14
      refine ⟨ρ1, w3, G3, re, G4, sl2.lat L3, s3, e9, fun yv H4 w4 L4 s4 x4 => ?_⟩
      obtain ⟨w5, A5, r5, L5⟩ := ((At.start (sl2.lat L3) s3).step L4 s4).frz x4 e11
      obtain ⟨q1, q2, q3⟩ := L5.own p1 p2 p3
      refine ⟨acc, q1, ?_, w5, ys ++ [yd], G4, zs', ((L.trans L').trans (L3.trans L5)).updOne hD, A5.st.updOne q2 q3, ⟨_, upd_same, (r2.lat L5).append (RepL.cons r5 RepL.nil)⟩, q2, q3, by rw [List.length_append]; exact Nat.succ_le_succ hy, e13, by rw [List.append_assoc]; exact et⟩
      have := racc.length
      exact sz_lineT (by show acc.length < 16777216; omega)
  · rintro H ⟨w', ys, Gi, zs, L, s, ⟨acc, hacc, racc⟩, f, n, hy, ez, et⟩
    rw [List.drop_length] at ez
    cases ez
    rw [List.append_nil] at et
    subst et
    refine q _ H w' (L1.trans L) s ⟨D, rfl, ⟨acc, hacc, racc⟩, f, n, ?_⟩
    cases z : H00 D with
    | none => rfl
    | some u => exact absurd hD (L1.dm D (by rw [z]; simp))
end
end Lp

namespace Lp
open PySem PySem.Spec PyProof.Rows L2

/-! ### statements -/
inductive Out where
  | nx (ρ : Env) (G : Sto) | ret (r : R) (G : Sto) | bk (ρ : Env) (G : Sto) | ct (ρ : Env) (G : Sto)
abbrev SFn := CF → Env → Sto → Option Out
/-- where a def's body stands that began at H0 -/
structure GS (M : Md) (H0 : Hp) (w0 : Wd) (σ : L2.St) (ρ : Env) (H : Hp) (w : Wd) (G : Sto) : Prop where
  lat : Lat H0 w0 H w
  st : StOk M H w G
  sl : SlOk M H w σ ρ
  fr : OwnFr H0 σ ρ
section
variable {M : Md} {cf : CF} {H0 H H1 : Hp} {w0 w w1 : Wd} {σ : L2.St} {ρ : Env} {G G1 : Sto}
theorem GS.at_ (g : GS M H0 w0 σ ρ H w G) : At M H w σ ρ H w G := At.start g.sl g.st
theorem GS.next (g : GS M H0 w0 σ ρ H w G) (a : At M H w σ ρ H1 w1 G1) : GS M H0 w0 σ ρ H1 w1 G1 := ⟨g.lat.trans a.lat, a.st, a.sl, g.fr⟩
/-- what is wanted behind a statement -/
def OutOk (M : Md) (H0 : Hp) (w0 ws : Wd) (D : Ends) : Out → Prop
  | .nx ρ G => ∀ σ H w, GS M H0 w0 σ ρ H w G → Mono ws w → D.nx σ H
  | .bk ρ G => ∀ σ H w, GS M H0 w0 σ ρ H w G → Mono ws w → D.bk σ H
  | .ct ρ G => ∀ σ H w, GS M H0 w0 σ ρ H w G → Mono ws w → D.ct σ H
  | .ret r G => ∀ v H w, Lat H0 w0 H w → StOk M H w G → RX M H0 [] [] H w r v → D.rt v H
theorem OutOk.mono {w2 : Wd} {D : Ends} {o : Out} (k : OutOk M H0 w0 w D o) (m : Mono w w2) : OutOk M H0 w0 w2 D o := by
  cases o with
  | nx ρ G => exact fun σ H w g n => k σ H w g (m.trans n)
  | bk ρ G => exact fun σ H w g n => k σ H w g (m.trans n)
  | ct ρ G => exact fun σ H w g n => k σ H w g (m.trans n)
  | ret r G => exact k
def tS (M : Md) (cf : CF) (H0 : Hp) (w0 : Wd) (c : SFn) : TS := fun D σ H => ∃ ρ w G o, GS M H0 w0 σ ρ H w G ∧ c cf ρ G = some o ∧ OutOk M H0 w0 w D o
end
section
variable {X : Cx} {M : Md} {cf : CF} {H0 : Hp} {w0 : Wd} {e a b tg : Expr} {es : List Expr} {st : Stmt} {ss : List Stmt} {ce ca cb : Fn} {ct : FnT} {cs c1 c2 : SFn} {cl : FnL} {pos : Pos}
def sNext : SFn := fun _ ρ G => some (.nx ρ G)
def sSeq (a b : SFn) : SFn := fun cf ρ G => (a cf ρ G).bind fun o => match o with
  | .nx ρ' G' => b cf ρ' G'
  | o => some o
theorem s_nil : PSs X [] (tS M cf H0 w0 sNext) := pssW pss_nil fun D σ H h => by
  obtain ⟨ρ, w, G, o, g, e, k⟩ := h
  cases e
  exact k σ H w g (Mono.refl w)
theorem s_pass : PS X (.Pass pos) (tS M cf H0 w0 sNext) := psW ps_pass fun D σ H h => by
  obtain ⟨ρ, w, G, o, g, e, k⟩ := h
  cases e
  exact k σ H w g (Mono.refl w)
theorem s_one (h : PS X st (tS M cf H0 w0 cs)) : PSs X [st] (tS M cf H0 w0 cs) := pss_one h
theorem s_cons (h : PS X st (tS M cf H0 w0 c1)) (h2 : PSs X ss (tS M cf H0 w0 c2)) : PSs X (st :: ss) (tS M cf H0 w0 (sSeq c1 c2)) := pssW (pss_cons h h2) fun D σ H h => by
  obtain ⟨ρ, w, G, o, g, e, k⟩ := h
  obtain ⟨o1, e1, e2⟩ := bindSome e
  refine ⟨ρ, w, G, o1, g, e1, ?_⟩
  cases o1 with
  | nx ρ1 G1 => exact fun σ1 H1 w1 g1 m1 => ⟨ρ1, w1, G1, o, g1, e2, k.mono m1⟩
  | ret r G1 => cases e2; exact k
  | bk ρ1 G1 => cases e2; exact k
  | ct ρ1 G1 => cases e2; exact k
def sBreak : SFn := fun _ ρ G => some (.bk ρ G)
def sCont : SFn := fun _ ρ G => some (.ct ρ G)
theorem s_break : PS X (.Break pos) (tS M cf H0 w0 sBreak) := psW ps_break fun D σ H h => by
  obtain ⟨ρ, w, G, o, g, e, k⟩ := h
  cases e
  exact k σ H w g (Mono.refl w)
theorem s_continue : PS X (.Continue pos) (tS M cf H0 w0 sCont) := psW ps_continue fun D σ H h => by
  obtain ⟨ρ, w, G, o, g, e, k⟩ := h
  cases e
  exact k σ H w g (Mono.refl w)
/-- a row that is never come to -/
def sNever : SFn := fun _ _ _ => none
theorem s_never : PS X st (tS M cf H0 w0 sNever) := psW ps_never fun D σ H h => by
  obtain ⟨ρ, w, G, o, g, e, k⟩ := h
  cases e
def sIf (t : FnT) (a b : SFn) : SFn := fun cf ρ G => (t cf ρ G).bind fun p => match p.1 with
  | true => a cf ρ p.2
  | false => b cf ρ p.2
theorem s_if {A B : List Stmt} (ht : PT X e (tT M cf ct)) (ha : PSs X A (tS M cf H0 w0 c1)) (hb : PSs X B (tS M cf H0 w0 c2)) : PS X (.If e A B pos) (tS M cf H0 w0 (sIf ct c1 c2)) := psW (ps_if ht ha hb) fun D σ H h => by
  obtain ⟨ρ, w, G, o, g, e, k⟩ := h
  refine g.at_.runT e fun b G1 H1 w1 e1 L1 A1 => ?_
  dsimp only at e1
  cases b with
  | true => exact iteT ⟨ρ, w1, G1, o, g.next A1, e1, k.mono L1.mono⟩
  | false => exact iteF ⟨ρ, w1, G1, o, g.next A1, e1, k.mono L1.mono⟩
/-- return -/
def retR : R → R
  | .bor _ o => .tmp o
  | r => r
def sRet (c : Fn) : SFn := fun cf ρ G => (c cf ρ G).map fun p => .ret (retR p.1) p.2
theorem rx_ret {H H1 : Hp} {w w1 : Wd} {σ : L2.St} {ρ : Env} {G G1 : Sto} {r : R} {v : V} (g : GS M H0 w0 σ ρ H w G) (a : At M H w σ ρ H1 w1 G1) (x : RX M H σ ρ H1 w1 r v) : RX M H0 [] [] H1 w1 (retR r) v := by
  cases r with
  | d y => exact x
  | tmp o => exact RX.back (M := M) (H := H0) (σ := []) (ρ := []) (r := .tmp o) x g.lat
  | bor i o =>
    obtain ⟨e1, e2⟩ := x
    obtain ⟨p, e3, ob, n1, n2⟩ := a.sl.at_ i _ e1
    rw [e2] at e3; cases e3
    exact ⟨p, rfl, ob, n1, n2, g.fr i o p e1 e2⟩
theorem s_ret (h : PE X e (tE M cf ce)) : PS X (.Return (some e) pos) (tS M cf H0 w0 (sRet ce)) := psW (ps_ret h) fun D σ H h => by
  obtain ⟨ρ, w, G, o, g, e, k⟩ := h
  obtain ⟨⟨r, G1⟩, e1, e2⟩ := mapSome e
  subst e2
  exact ⟨ρ, w, G, r, G1, g.sl, g.st, e1, fun v H1 w1 L s x => k v H1 w1 (g.lat.trans L) s (rx_ret g (g.at_.step L s) x)⟩
def sRetN : SFn := fun _ _ G => some (.ret (.d .non) G)
theorem s_retN : PS X (.Return none pos) (tS M cf H0 w0 sRetN) := psW ps_retN fun D σ H h => by
  obtain ⟨ρ, w, G, o, g, e, k⟩ := h
  cases e
  exact k .non H w g.lat g.st of_non
/-- freezing one's own objects (no row of the text) -/
def frzSl : Sl → Sl
  | .own (.lst l) => .v (.lst l)
  | .own (.ins c ns l) => .v (.ins c ns l)
  | s => s
def sFrz (i : Nat) (s : SFn) : SFn := fun cf ρ G => match ρ[i]? with
  | some x => s cf (ρ.set i (frzSl x)) G
  | none => none
theorem GS.freeze {H : Hp} {w : Wd} {σ : L2.St} {ρ : Env} {G : Sto} {i : Nat} {x : Sl} (g : GS M H0 w0 σ ρ H w G) (e : ρ[i]? = some x) : ∃ w', GS M H0 w0 σ (ρ.set i (frzSl x)) H w' G ∧ Mono w w' := by
  have same : ρ.set i x = ρ := by
    obtain ⟨hi, e1⟩ := List.getElem?_eq_some_iff.mp e
    rw [← e1]
    exact List.set_getElem_self hi
  cases x with
  | no => exact ⟨w, by rw [show frzSl .no = .no from rfl, same]; exact g, Mono.refl w⟩
  | v d => exact ⟨w, by rw [show frzSl (.v d) = .v d from rfl, same]; exact g, Mono.refl w⟩
  | own o =>
    obtain ⟨p, e3, ob, n1, n2⟩ := g.sl.at_ i _ e
    have go : ∀ (ho : HO) (d : D), H p = some ho → Rep M (w.put p ho) d (.ref p) → GS M H0 w0 σ (ρ.set i (.v d)) H (w.put p ho) G := fun ho d hh rd => by
      have n0 := g.fr i o p e e3
      have hs : σ.set i (some (.ref p)) = σ := by
        obtain ⟨hi, e1⟩ := List.getElem?_eq_some_iff.mp e3
        rw [← e1]
        exact List.set_getElem_self hi
      have keep : ∀ {j : Nat} {s : Sl}, j ≠ i → ρ[j]? = some s → SlAt M (w.put p ho) H s σ[j]? := fun {j s} hj ej => by
        have q := g.sl.at_ j s ej
        cases s with
        | no => trivial
        | v d => obtain ⟨v, e1, r⟩ := q; exact ⟨v, e1, r.put n1⟩
        | own ob2 =>
          obtain ⟨b, e1, r, m1, m2⟩ := q
          have nb : b ≠ p := fun z => hj (g.sl.sep j i ob2 o b ej e e1 (by rw [z]; exact e3))
          refine ⟨b, e1, ?_, by show upd w.fz p ho b = none; rw [upd_ne nb]; exact m1, m2⟩
          cases ob2 with
          | lst l => obtain ⟨xs, e, r⟩ := r; exact ⟨xs, e, r.put n1⟩
          | dK ks vs => obtain ⟨xs, e, q, r⟩ := r; exact ⟨xs, e, q, r.put n1⟩
          | dT ks vs => obtain ⟨xs, e, q, r⟩ := r; exact ⟨xs, e, q, r.put n1⟩
          | ins c ns l => obtain ⟨dx, fs, e, q, r⟩ := r; exact ⟨dx, fs, e, q, r.put n1⟩
      refine ⟨g.lat.freeze (M := M) (G := G) n0 n1, g.st.freeze hh n1 n2, ⟨by simp [g.sl.len], fun j s ej => ?_, fun j k o1 o2 x a1 a2 a3 a4 => ?_⟩, fun j ob b e1 e2 => ?_⟩
      · by_cases z : i = j
        · subst z
          rw [List.getElem?_set_self (List.getElem?_eq_some_iff.mp e).1] at ej
          cases ej
          exact ⟨.ref p, e3, rd⟩
        · rw [List.getElem?_set_ne z] at ej
          exact keep (Ne.symm z) ej
      · have nj : i ≠ j := fun z => by subst z; rw [List.getElem?_set_self (List.getElem?_eq_some_iff.mp e).1] at a1; cases a1
        have nk : i ≠ k := fun z => by subst z; rw [List.getElem?_set_self (List.getElem?_eq_some_iff.mp e).1] at a2; cases a2
        rw [List.getElem?_set_ne nj] at a1
        rw [List.getElem?_set_ne nk] at a2
        exact g.sl.sep j k o1 o2 x a1 a2 a3 a4
      · have nj : i ≠ j := fun z => by subst z; rw [List.getElem?_set_self (List.getElem?_eq_some_iff.mp e).1] at e1; cases e1
        rw [List.getElem?_set_ne nj] at e1
        exact g.fr j ob b e1 e2
    cases o with
    | lst l =>
      obtain ⟨xs, hx, rr⟩ := ob
      refine ⟨_, go _ (.lst l) hx ?_, ⟨(Wd.put_lat (H := H) n1).1, (Wd.put_lat (H := H) n1).2⟩⟩
      simp only [Rep]
      exact ⟨p, xs, rfl, (show upd w.fz p (.lst xs) p = _ from upd_same), rr.put n1⟩
    | ins c ns l =>
      obtain ⟨dx, fs, hx, hn, rr⟩ := ob
      refine ⟨_, go _ (.ins c ns l) hx ?_, ⟨(Wd.put_lat (H := H) n1).1, (Wd.put_lat (H := H) n1).2⟩⟩
      simp only [Rep]
      exact ⟨p, dx, fs, rfl, (show upd w.fz p (.ins (M.ca c) dx fs) p = _ from upd_same), hn, rr.put n1⟩
    | dK ks vs => exact ⟨w, by rw [show frzSl (.own (.dK ks vs)) = .own (.dK ks vs) from rfl, same]; exact g, Mono.refl w⟩
    | dT ks vs => exact ⟨w, by rw [show frzSl (.own (.dT ks vs)) = .own (.dT ks vs) from rfl, same]; exact g, Mono.refl w⟩
theorem s_frz {i : Nat} (h : PS X st (tS M cf H0 w0 cs)) : PS X st (tS M cf H0 w0 (sFrz i cs)) := psW h fun D σ H h => by
  obtain ⟨ρ, w, G, o, g, e, k⟩ := h
  unfold sFrz at e
  cases z : ρ[i]? with
  | none => rw [z] at e; cases e
  | some x =>
    rw [z] at e
    obtain ⟨w', g', m'⟩ := g.freeze z
    exact ⟨_, w', G, o, g', e, k.mono m'⟩

/-! ### storing -/
inductive Mo where
  | val | own | ref
def putN (m : Mo) (i : Nat) (r : R) (ρ : Env) (G : Sto) : Option (Env × Sto) := match m, r with
  | .val, r => (frz r).map fun d => (ρ.set i (.v d), G)
  | .own, .tmp o => some (ρ.set i (.own o), G)
  | .ref, .tmp o => some (ρ.set i (.v (.ref G.length)), G ++ [o])
  | _, _ => none
/-- what has been made and waits to be stored; Hs: where the row began; N: addresses that it is not -/
def Pend (M : Md) (Hs H : Hp) (w : Wd) (r : R) (v : V) : Prop := RX M Hs [] [] H w r v
def tmpAt : R → V → Option Addr
  | .tmp _, .ref a => some a
  | _, _ => none
theorem Pend.ne_own {Hs H : Hp} {w ws : Wd} {σ : L2.St} {ρ : Env} {o : Ob} {p : Addr} (hs : SlOk M Hs ws σ ρ) (x : Pend M Hs H w (.tmp o) (.ref p)) {i : Nat} {o' : Ob} (e : ρ[i]? = some (.own o')) : σ[i]? ≠ some (some (.ref p)) := fun e2 => by
  obtain ⟨a, e3, ob, _⟩ := hs.at_ i _ e
  rw [e2] at e3; cases e3
  obtain ⟨q, eq, _, _, _, n⟩ := x
  cases eq
  exact ob.there n
/-- one's own objects keep off some addresses -/
def OffOwn (σ : L2.St) (ρ : Env) (p : Addr) : Prop := ∀ (i : Nat) (o : Ob), ρ[i]? = some (.own o) → σ[i]? ≠ some (some (.ref p))
theorem OffOwn.set {σ : L2.St} {ρ : Env} {p : Addr} (h : OffOwn σ ρ p) (i : Nat) (s : Sl) (x : Option V) (hs : ∀ o, s = .own o → x ≠ some (.ref p)) : OffOwn (σ.set i x) (ρ.set i s) p := fun j o e1 e2 => by
  by_cases z : i = j
  · subst z
    by_cases hi : i < ρ.length
    · rw [List.getElem?_set_self hi] at e1
      by_cases hj : i < σ.length
      · rw [List.getElem?_set_self hj] at e2
        exact hs o (Option.some.inj e1) (Option.some.inj e2)
      · rw [List.getElem?_eq_none (by simpa using hj)] at e2; cases e2
    · rw [List.getElem?_eq_none (by simpa using hi)] at e1; cases e1
  · rw [List.getElem?_set_ne z] at e1 e2
    exact h j o e1 e2
theorem ObAt.mon {w w' : Wd} {H : Hp} {a : Addr} {o : Ob} (h : ObAt M w H a o) (m : Mono w w') : ObAt M w' H a o := by
  cases o with
  | lst l => obtain ⟨xs, e, r⟩ := h; exact ⟨xs, e, r.mon m⟩
  | dK ks vs => obtain ⟨xs, e, q, r⟩ := h; exact ⟨xs, e, q, r.mon m⟩
  | dT ks vs => obtain ⟨xs, e, q, r⟩ := h; exact ⟨xs, e, q, r.mon m⟩
  | ins c ns l => obtain ⟨dx, fs, e, q, r⟩ := h; exact ⟨dx, fs, e, q, r.mon m⟩
theorem SlOk.world {H : Hp} {w w' : Wd} {σ : L2.St} {ρ : Env} (h : SlOk M H w σ ρ) (m : Mono w w') (k : ∀ (i : Nat) (o : Ob) (a : Addr), ρ[i]? = some (.own o) → σ[i]? = some (some (.ref a)) → w.fz a = none → a ∉ w.al → w'.fz a = none ∧ a ∉ w'.al) : SlOk M H w' σ ρ := by
  refine ⟨h.len, fun i s e => ?_, h.sep⟩
  have q := h.at_ i s e
  cases s with
  | no => trivial
  | v d => obtain ⟨v, e1, r⟩ := q; exact ⟨v, e1, r.mon m⟩
  | own o =>
    obtain ⟨a, e1, ob, n1, n2⟩ := q
    obtain ⟨m1, m2⟩ := k i o a e e1 n1 n2
    exact ⟨a, e1, ob.mon m, m1, m2⟩
theorem SlOk.setOwn {H : Hp} {w : Wd} {σ : L2.St} {ρ : Env} {o : Ob} {p : Addr} (h : SlOk M H w σ ρ) (ob : ObAt M w H p o) (n1 : w.fz p = none) (n2 : p ∉ w.al) (off : OffOwn σ ρ p) (i : Nat) : SlOk M H w (σ.set i (some (.ref p))) (ρ.set i (.own o)) := by
  have ix : ∀ {j : Nat} {s : Sl}, (ρ.set i (.own o))[j]? = some s → (j = i ∧ i < ρ.length ∧ s = .own o) ∨ (j ≠ i ∧ ρ[j]? = some s) := fun {j s} e => by
    by_cases z : i = j
    · subst z
      by_cases hi : i < ρ.length
      · rw [List.getElem?_set_self hi] at e; cases e; exact .inl ⟨rfl, hi, rfl⟩
      · rw [List.getElem?_eq_none (by simpa using hi)] at e; cases e
    · rw [List.getElem?_set_ne z] at e; exact .inr ⟨Ne.symm z, e⟩
  refine ⟨by simp [h.len], fun j s e => ?_, fun a b o1 o2 x e1 e2 e3 e4 => ?_⟩
  · rcases ix e with ⟨rfl, hi, rfl⟩ | ⟨ne, e⟩
    · exact ⟨p, by rw [List.getElem?_set_self (by rw [h.len]; exact hi)], ob, n1, n2⟩
    · rw [List.getElem?_set_ne (Ne.symm ne)]
      exact h.at_ j s e
  · rcases ix e1 with ⟨rfl, hi, z1⟩ | ⟨ne1, e11⟩
    · rw [List.getElem?_set_self (by rw [h.len]; exact hi)] at e3
      cases e3
      rcases ix e2 with ⟨rfl, _, _⟩ | ⟨ne2, e2⟩
      · rfl
      · rw [List.getElem?_set_ne (Ne.symm ne2)] at e4
        exact absurd e4 (off b o2 e2)
    · rw [List.getElem?_set_ne (Ne.symm ne1)] at e3
      rcases ix e2 with ⟨rfl, hi, _⟩ | ⟨ne2, e22⟩
      · rw [List.getElem?_set_self (by rw [h.len]; exact hi)] at e4
        cases e4
        exact absurd e3 (off a o1 e11)
      · rw [List.getElem?_set_ne (Ne.symm ne2)] at e4
        exact h.sep a b o1 o2 x e11 e22 e3 e4
theorem put_ok {Hs H : Hp} {w : Wd} {σ : L2.St} {ρ ρ' : Env} {G G' : Sto} {m : Mo} {i : Nat} {r : R} {v : V} (g : GS M H0 w0 σ ρ H w G) (ls : ∀ a, Hs a = none → H0 a = none) (x : Pend M Hs H w r v) (off : ∀ p, tmpAt r v = some p → OffOwn σ ρ p) (e : putN m i r ρ G = some (ρ', G')) :
    ∃ w', GS M H0 w0 (σ.set i (some v)) ρ' H w' G' ∧ (∀ r2 v2, (∀ p, tmpAt r v = some p → tmpAt r2 v2 ≠ some p) → Pend M Hs H w r2 v2 → Pend M Hs H w' r2 v2) ∧
      (∀ p, (tmpAt r v ≠ some p) → OffOwn σ ρ p → OffOwn (σ.set i (some v)) ρ' p) ∧ Mono w w' := by
  have pend : ∀ {w' : Wd} {p : Addr}, Mono w w' → (∀ a, a ≠ p → w.fz a = none → w'.fz a = none) → (∀ a, a ≠ p → a ∉ w.al → a ∉ w'.al) → ∀ r2 v2, tmpAt r2 v2 ≠ some p → Pend M Hs H w r2 v2 → Pend M Hs H w' r2 v2 := fun {w' p} mo h1 h2 r2 v2 hn hx => by
    cases r2 with
    | d y => exact Rep.mon hx mo
    | tmp o =>
      obtain ⟨a, rfl, ob, n1, n2, n3⟩ := hx
      have ne : a ≠ p := fun z => hn (by rw [z]; rfl)
      exact ⟨a, rfl, ob.mon mo, h1 a ne n1, h2 a ne n2, n3⟩
    | bor _ _ => exact hx
  cases m with
  | val =>
    obtain ⟨d, e1, e2⟩ := mapSome e
    cases e2
    cases r with
    | bor _ _ => cases e1
    | d y =>
      cases e1
      exact ⟨w, ⟨g.lat, g.st, g.sl.set x i, g.fr.set i _ _ fun o a e => by cases e⟩, fun r2 v2 _ h => h, fun p _ h => h.set i _ _ fun o e => (by cases e), Mono.refl w⟩
    | tmp o =>
      obtain ⟨p, rfl, ob, n1, n2, n3⟩ := x
      have go : ∀ (ho : HO) (d : D), H p = some ho → Rep M (w.put p ho) d (.ref p) →
          ∃ w', GS M H0 w0 (σ.set i (some (.ref p))) (ρ.set i (.v d)) H w' G ∧ (∀ r2 v2, (∀ q, tmpAt (.tmp o) (.ref p) = some q → tmpAt r2 v2 ≠ some q) → Pend M Hs H w r2 v2 → Pend M Hs H w' r2 v2) ∧
            (∀ q, (tmpAt (.tmp o) (.ref p) ≠ some q) → OffOwn σ ρ q → OffOwn (σ.set i (some (.ref p))) (ρ.set i (.v d)) q) ∧ Mono w w' := fun ho d hh rd => by
        have mo : Mono w (w.put p ho) := ⟨(Wd.put_lat (H := H) n1).1, (Wd.put_lat (H := H) (o := ho) n1).2⟩
        have fne : ∀ a, a ≠ p → w.fz a = none → (w.put p ho).fz a = none := fun a na h => by show upd w.fz p ho a = none; rw [upd_ne na]; exact h
        refine ⟨w.put p ho, ⟨g.lat.freeze (M := M) (G := G) (ls p n3) n1, g.st.freeze hh n1 n2, SlOk.set (SlOk.world g.sl mo fun j o' a e1 e2 m1 m2 => ⟨fne a (fun z => off p rfl j o' e1 (by rw [← z]; exact e2)) m1, m2⟩) rd i, g.fr.set i _ _ fun o a e => by cases e⟩,
          fun r2 v2 hn => pend mo fne (fun _ _ h => h) r2 v2 (hn p rfl), fun q _ h => h.set i _ _ fun o e => (by cases e), mo⟩
      cases o with
      | lst l =>
        cases e1
        obtain ⟨xs, hx, rr⟩ := ob
        refine go (.lst xs) _ hx ?_
        simp only [Rep]
        exact ⟨p, xs, rfl, (show upd w.fz p (.lst xs) p = _ from upd_same), rr.put n1⟩
      | ins c ns l =>
        cases e1
        obtain ⟨dx, fs, hx, hn, rr⟩ := ob
        refine go (.ins (M.ca c) dx fs) _ hx ?_
        simp only [Rep]
        exact ⟨p, dx, fs, rfl, (show upd w.fz p (.ins (M.ca c) dx fs) p = _ from upd_same), hn, rr.put n1⟩
      | dK _ _ => cases e1
      | dT _ _ => cases e1
  | own =>
    cases r with
    | bor _ _ => cases e
    | d y => cases e
    | tmp o =>
      cases e
      obtain ⟨p, rfl, ob, n1, n2, n3⟩ := x
      exact ⟨w, ⟨g.lat, g.st, g.sl.setOwn ob n1 n2 (off p rfl) i, g.fr.set i _ _ fun o' a e e2 => by cases e2; exact ls p n3⟩, fun r2 v2 _ h => h,
        fun q hq h => h.set i _ _ fun o' e z => (by cases z; exact hq rfl), Mono.refl w⟩
  | ref =>
    cases r with
    | bor _ _ => cases e
    | d y => cases e
    | tmp o =>
      cases e
      obtain ⟨p, rfl, ob, n1, n2, n3⟩ := x
      have mo : Mono w ⟨w.fz, w.al ++ [p]⟩ := ⟨fun _ _ h => h, fun n a h => by
        show (w.al ++ [p])[n]? = some a
        rw [List.getElem?_append_left (List.getElem?_eq_some_iff.mp h).1]; exact h⟩
      have ane : ∀ a, a ≠ p → a ∉ w.al → a ∉ w.al ++ [p] := fun a na h hm => by
        rcases List.mem_append.mp hm with z | z
        · exact h z
        · exact na (List.mem_singleton.mp z)
      obtain ⟨t, et, nt⟩ := g.lat.al
      refine ⟨⟨w.fz, w.al ++ [p]⟩, ⟨⟨g.lat.fz, ⟨t ++ [p], by show w.al ++ [p] = _; rw [et, List.append_assoc], fun a ha => ?_⟩, g.lat.nw, g.lat.tb, g.lat.kp, g.lat.dm⟩, ⟨g.st.fzH, by show (w.al ++ [p]).length = (G ++ [o]).length; rw [List.length_append, List.length_append, g.st.len]; rfl, ?_, fun n ob2 a e1 e2 => ?_⟩,
        SlOk.set (SlOk.world g.sl mo fun j o' a e1 e2 m1 m2 => ⟨m1, ane a (fun z => off p rfl j o' e1 (by rw [← z]; exact e2)) m2⟩) ?_ i, g.fr.set i _ _ fun o' a e e2 => by cases e⟩,
        fun r2 v2 hn => pend mo (fun _ _ h => h) ane r2 v2 (hn p rfl), fun q hq h => h.set i _ _ fun o' e => (by cases e), mo⟩
      · rcases List.mem_append.mp ha with z | z
        · exact nt a z
        · rw [List.mem_singleton.mp z]; exact ls p n3
      · show (w.al ++ [p]).Nodup
        rw [List.nodup_append]
        exact ⟨g.st.nd, by simp, fun a ha b hb z => n2 (by rw [List.mem_singleton.mp hb] at z; rw [← z]; exact ha)⟩
      · have e2 : (w.al ++ [p])[n]? = some a := e2
        by_cases hn : n < G.length
        · rw [List.getElem?_append_left hn] at e1
          rw [List.getElem?_append_left (by rw [g.st.len]; exact hn)] at e2
          obtain ⟨q, z⟩ := g.st.at_ n ob2 a e1 e2
          exact ⟨q.mon mo, z⟩
        · rw [List.getElem?_append_right (by omega)] at e1
          rw [List.getElem?_append_right (by rw [g.st.len]; omega)] at e2
          rw [g.st.len] at e2
          cases hk : n - G.length with
          | zero =>
            rw [hk] at e1 e2
            cases e1; cases e2
            exact ⟨ob.mon mo, n1⟩
          | succ k => rw [hk] at e1; simp at e1
      · simp only [Rep]
        exact ⟨p, rfl, by show (w.al ++ [p])[G.length]? = some p; rw [← g.st.len]; simp⟩
/-- x = e -/
def sAsg (m : Mo) (i : Nat) (c : Fn) : SFn := fun cf ρ G => (c cf ρ G).bind fun p => (putN m i p.1 ρ p.2).map fun q => .nx q.1 q.2
theorem pend_of {H H1 : Hp} {w1 : Wd} {σ : L2.St} {ρ : Env} {G1 : Sto} {r : R} {v : V} {m : Mo} {i : Nat} {z : Env × Sto} (x : RX M H σ ρ H1 w1 r v) (e : putN m i r ρ G1 = some z) : Pend M H H1 w1 r v := by
  cases r with
  | d y => exact x
  | tmp o => exact x
  | bor i o => cases m <;> cases e
theorem off_of {H H1 : Hp} {w w1 : Wd} {σ : L2.St} {ρ : Env} {r : R} {v : V} (sl : SlOk M H w σ ρ) (x : Pend M H H1 w1 r v) : ∀ p, tmpAt r v = some p → OffOwn σ ρ p := fun p hp => by
  cases r with
  | d y => cases hp
  | bor _ _ => cases hp
  | tmp o =>
    obtain ⟨a, rfl, _⟩ := id x
    cases hp
    exact fun j o' e1 => Pend.ne_own sl x e1
theorem nn_of {H : Hp} {w : Wd} (L : Lat H0 w0 H w) : ∀ a, H a = none → H0 a = none := fun a h => by
  cases z : H0 a with
  | none => rfl
  | some u => exact absurd h (L.dm a (by rw [z]; simp))
theorem s_asg {m : Mo} {i : Nat} (h : PS X st (tAsg (tE M cf ce) (gName i))) : PS X st (tS M cf H0 w0 (sAsg m i ce)) := psW h fun D σ H h => by
  obtain ⟨ρ, w, G, o, g, e, k⟩ := h
  refine g.at_.run e fun r G1 v H1 w1 e1 L1 A1 x1 => ?_
  obtain ⟨⟨ρ', G2⟩, e2, e3⟩ := mapSome e1
  cases e3
  have pd := pend_of x1 e2
  obtain ⟨w', g', _, _, m'⟩ := put_ok (g.next A1) (nn_of g.lat) pd (off_of g.sl pd) e2
  exact k _ H1 w' g' (L1.mono.trans m')
end
end Lp

namespace Lp
open PySem PySem.Spec PyProof.Rows L2

/-! ### loops -/
def forL (tg : Tg) (body : SFn) (cf : CF) : List D → Env → Sto → Option Out
  | [], ρ, G => some (.nx ρ G)
  | d :: l, ρ, G => (bindTg tg d ρ).bind fun ρ1 => (body cf ρ1 G).bind fun o => match o with
    | .nx ρ2 G2 => forL tg body cf l ρ2 G2
    | .ct ρ2 G2 => forL tg body cf l ρ2 G2
    | .bk ρ2 G2 => some (.nx ρ2 G2)
    | .ret r G2 => some (.ret r G2)
def sFor (src : FnL) (tg : Tg) (body : SFn) : SFn := fun cf ρ G => (src cf ρ G).bind fun p => forL tg body cf p.1 ρ p.2
def whileL (c : FnT) (b : SFn) (cf : CF) : Nat → Env → Sto → Option Out
  | 0, _, _ => none
  | n + 1, ρ, G => (c cf ρ G).bind fun p => match p.1 with
    | false => some (.nx ρ p.2)
    | true => (b cf ρ p.2).bind fun o => match o with
      | .nx ρ2 G2 => whileL c b cf n ρ2 G2
      | .ct ρ2 G2 => whileL c b cf n ρ2 G2
      | .bk ρ2 G2 => some (.nx ρ2 G2)
      | .ret r G2 => some (.ret r G2)
def sWhile (n : Nat) (c : FnT) (b : SFn) : SFn := fun cf ρ G => whileL c b cf n ρ G
section
variable {X : Cx} {M : Md} {cf : CF} {H0 : Hp} {w0 : Wd} {e a b tg iter : Expr} {es : List Expr} {st : Stmt} {ss : List Stmt} {ce ca cb : Fn} {ct : FnT} {cs c1 c2 : SFn} {cl : FnL} {pos : Pos}
theorem tFor_ok {K : PySem.W.Frag} (hK : K = M.K) {src : FnL} {tg : Tg} (D : Ends) (σ : L2.St) (H : Hp) (h : tS M cf H0 w0 (sFor src tg cs) D σ H) : tFor (tI M cf src) (tgG K tg) (tS M cf H0 w0 cs) D σ H := by
  obtain ⟨ρ, w, G, o, g, e, k⟩ := h
  obtain ⟨⟨l, G1⟩, e1, e2⟩ := bindSome e
  refine ⟨ρ, w, G, l, G1, g.sl, g.st, e1, fun J H1 w1 L1 s1 Y => ?_⟩
  refine for_it (J := J) (n := l.length) (G := fun H => ∃ w, Mono w1 w ∧ FzH w H) (Y := J.yld) ⟨fun i H hi ⟨w, m, f⟩ => Y.go i _ H w (List.getElem?_eq_getElem hi) m f, fun H ⟨w, m, f⟩ => Y.st H w m f, fun _ _ _ _ _ _ y => y⟩
    (fun i σ H => ∃ ρ w G, GS M H0 w0 σ ρ H w G ∧ Mono w1 w ∧ forL tg cs cf (l.drop i) ρ G = some o) ?_ ?_ ?_ ?_
  · exact ⟨ρ, w1, G1, g.next (g.at_.step L1 s1), Mono.refl _, e2⟩
  · rintro i σ H _ ⟨ρ, w, G, g, m, _⟩
    exact ⟨w, m, g.st.fzH⟩
  · rintro i x σ H H' hi ⟨ρ, w, G, g, m, ef⟩ y
    have ed : l[i]? = some l[i] := List.getElem?_eq_getElem hi
    generalize l[i] = d at ed
    obtain ⟨w', L', s', f', rd⟩ := Y.yl i d H w x H' ed m g.st.fzH y
    have edr : l.drop i = d :: l.drop (i + 1) := by
      rw [List.drop_eq_getElem_cons hi]
      rw [List.getElem?_eq_getElem hi] at ed
      rw [Option.some.inj ed]
    rw [edr] at ef
    obtain ⟨ρ1, e5, e6⟩ := bindSome ef
    obtain ⟨o2, e7, e8⟩ := bindSome e6
    refine tg_run hK (g.sl.lat L') f' rd e5 fun σ1 sl2 _ fr => ?_
    refine ⟨ρ1, w', G, o2, ⟨g.lat.trans L', s' _ g.st, sl2, fr H0 g.fr⟩, e7, ?_⟩
    have mm := m.trans L'.mono
    cases o2 with
    | nx ρ2 G2 => exact fun σ3 H3 w3 g3 m3 => ⟨ρ2, w3, G2, g3, mm.trans m3, e8⟩
    | ct ρ2 G2 => exact fun σ3 H3 w3 g3 m3 => ⟨ρ2, w3, G2, g3, mm.trans m3, e8⟩
    | bk ρ2 G2 => cases e8; exact OutOk.mono (o := .nx ρ2 G2) k (L1.mono.trans mm)
    | ret r G2 => cases e8; exact k
  · rintro σ H ⟨ρ, w, G, g, m, ef⟩
    rw [List.drop_length] at ef
    cases ef
    exact k σ H w g (L1.mono.trans m)
theorem s_for {src : FnL} {T : Tg} (hK : X.K = M.K) (hp : PassesOwn (model X.prog X.w) X.A X.env X.xe) (hc : X.calm = true) (hi : PI X tg iter (tI M cf src)) (hg : PG X tg (tgG M.K T)) (hb : PSs X ss (tS M cf H0 w0 cs)) (hs : ∀ x, foldedSetIterable iter X.env x = pure x) :
    PS X (.For tg iter ss [] pos) (tS M cf H0 w0 (sFor src T cs)) := psW (ps_for hp hc hi hg hb hs) (tFor_ok rfl)
theorem s_while {n : Nat} (hp : PassesOwn (model X.prog X.w) X.A X.env X.xe) (ht : PT X e (tT M cf ct)) (hb : PSs X ss (tS M cf H0 w0 cs)) : PS X (.While e ss [] pos) (tS M cf H0 w0 (sWhile n ct cs)) := psW (ps_while hp ht hb) fun D σ H h => by
  obtain ⟨ρ, w, G, o, g, e, k⟩ := h
  refine ⟨fun m σ H => ∃ ρ w1 G, GS M H0 w0 σ ρ H w1 G ∧ Mono w w1 ∧ whileL ct cs cf m ρ G = some o, ⟨n, ρ, w, G, g, Mono.refl w, e⟩, ?_⟩
  rintro m σ H ⟨ρ, w1, G, g, mo, e⟩
  cases m with
  | zero => cases e
  | succ m =>
    refine g.at_.runT e fun b G1 H1 w2 e1 L1 A1 => ?_
    dsimp only at e1
    cases b with
    | false =>
      cases e1
      exact iteF (k σ H1 w2 (g.next A1) (mo.trans L1.mono))
    | true =>
      refine iteT ?_
      obtain ⟨o2, e2, e3⟩ := bindSome e1
      have m2 := mo.trans L1.mono
      refine ⟨fun σ H => ∃ ρ w1 G, GS M H0 w0 σ ρ H w1 G ∧ Mono w w1 ∧ whileL ct cs cf m ρ G = some o, fun σ' H' q => ⟨m, Nat.lt_succ_self m, q⟩, ρ, w2, G1, o2, g.next A1, e2, ?_⟩
      cases o2 with
      | nx ρ2 G2 => exact fun σ3 H3 w3 g3 m3 => ⟨ρ2, w3, G2, g3, m2.trans m3, e3⟩
      | ct ρ2 G2 => exact fun σ3 H3 w3 g3 m3 => ⟨ρ2, w3, G2, g3, m2.trans m3, e3⟩
      | bk ρ2 G2 => cases e3; exact OutOk.mono (o := .nx ρ2 G2) k m2
      | ret r G2 => cases e3; exact k

/-! ### several values at once -/
abbrev FnRs := CF → Env → Sto → Option (List R × Sto)
def rNil : FnRs := fun _ _ G => some ([], G)
def rCons (a : Fn) (r : FnRs) : FnRs := fun cf ρ G => (a cf ρ G).bind fun p => (r cf ρ p.2).map fun q => (p.1 :: q.1, q.2)
def RXs (M : Md) (H : Hp) (σ : L2.St) (ρ : Env) (H' : Hp) (w' : Wd) : List R → List V → Prop
  | [], [] => True
  | r :: l, v :: vs => RX M H σ ρ H' w' r v ∧ RXs M H σ ρ H' w' l vs
  | _, _ => False
def NotAt (p : Addr) : List R → List V → Prop
  | r :: l, v :: vs => tmpAt r v ≠ some p ∧ NotAt p l vs
  | _, _ => True
def Sep : List R → List V → Prop
  | r :: l, v :: vs => (∀ p, tmpAt r v = some p → NotAt p l vs) ∧ Sep l vs
  | _, _ => True
theorem RXs.lat {H H1 H2 : Hp} {w1 w2 : Wd} {σ : L2.St} {ρ : Env} (L : Lat H1 w1 H2 w2) : ∀ {l : List R} {vs : List V}, RXs M H σ ρ H1 w1 l vs → RXs M H σ ρ H2 w2 l vs
  | [], [], _ => True.intro
  | [], _ :: _, h => h
  | _ :: _, [], h => h
  | r :: l, v :: vs, h => ⟨RX.lat h.1 L, RXs.lat L h.2⟩
theorem RXs.back {H H1 H2 : Hp} {w w1 w2 : Wd} {σ : L2.St} {ρ : Env} (L : Lat H w H1 w1) : ∀ {l : List R} {vs : List V}, RXs M H1 σ ρ H2 w2 l vs → RXs M H σ ρ H2 w2 l vs
  | [], [], _ => True.intro
  | [], _ :: _, h => h
  | _ :: _, [], h => h
  | r :: l, v :: vs, h => ⟨RX.back h.1 L, RXs.back L h.2⟩
theorem RXs.notAt {H1 H2 : Hp} {w2 : Wd} {σ : L2.St} {ρ : Env} {p : Addr} (hp : H1 p ≠ none) : ∀ {l : List R} {vs : List V}, RXs M H1 σ ρ H2 w2 l vs → NotAt p l vs
  | [], [], _ => True.intro
  | [], _ :: _, h => h.elim
  | _ :: _, [], h => h.elim
  | r :: l, v :: vs, h => ⟨fun e => by
      cases r with
      | d _ => cases e
      | bor _ _ => cases e
      | tmp o =>
        obtain ⟨a, rfl, _, _, _, n⟩ := h.1
        cases e
        exact hp n, RXs.notAt hp h.2⟩
def tR (M : Md) (cf : CF) (c : FnRs) : TA := fun σ H Q => ∃ ρ w G l G', SlOk M H w σ ρ ∧ StOk M H w G ∧ c cf ρ G = some (l, G') ∧ ∀ vs H' w', Lat H w H' w' → StOk M H' w' G' → RXs M H σ ρ H' w' l vs → Sep l vs → Q vs H'
theorem r_nil : PA X [] (tR M cf rNil) := paW pa_nil fun σ H Q h => by
  obtain ⟨ρ, w, G, l, G', sl, st, e, q⟩ := h
  cases e
  exact q [] H w (Lat.refl H w) st True.intro True.intro
theorem r_cons {cr : FnRs} (ha : PE X a (tE M cf ca)) (hr : PA X es (tR M cf cr)) (hs : isStar a = false) : PA X (a :: es) (tR M cf (rCons ca cr)) := paW (pa_cons ha hr (starEach_plain hs)) fun σ H Q h => by
  obtain ⟨ρ, w, G, l, G', sl, st, e, q⟩ := h
  refine (At.start sl st).run e fun ra G1 x H1 w1 e1 L1 A1 x1 => ?_
  obtain ⟨⟨l2, G2⟩, e2, e3⟩ := mapSome e1
  cases e3
  refine ⟨ρ, w1, G1, l2, G2, A1.sl, A1.st, e2, fun vs H2 w2 L2 s2 xs sp => q _ H2 w2 (L1.trans L2) s2 ⟨x1.lat L2, xs.back L1⟩ ⟨fun p hp => ?_, sp⟩⟩
  cases ra with
  | d _ => cases hp
  | bor _ _ => cases hp
  | tmp o =>
    obtain ⟨a, rfl, ob, _⟩ := x1
    cases hp
    exact xs.notAt ob.there
def putAll : List (Mo × Nat) → List R → Env → Sto → Option (Env × Sto)
  | [], [], ρ, G => some (ρ, G)
  | m :: ms, r :: rs, ρ, G => (putN m.1 m.2 r ρ G).bind fun p => putAll ms rs p.1 p.2
  | _, _, _, _ => none
def setV : List Nat → List V → L2.St → L2.St
  | i :: is, v :: vs, σ => setV is vs (σ.set i (some v))
  | _, _, σ => σ
def Pends (M : Md) (Hs H : Hp) (w : Wd) : List R → List V → Prop
  | [], [] => True
  | r :: l, v :: vs => Pend M Hs H w r v ∧ Pends M Hs H w l vs
  | _, _ => False
def OffAll (σ : L2.St) (ρ : Env) : List R → List V → Prop
  | r :: l, v :: vs => (∀ p, tmpAt r v = some p → OffOwn σ ρ p) ∧ OffAll σ ρ l vs
  | _, _ => True
theorem Pends.map {Hs H : Hp} {w w' : Wd} {r : R} {v : V} (k : ∀ r2 v2, (∀ p, tmpAt r v = some p → tmpAt r2 v2 ≠ some p) → Pend M Hs H w r2 v2 → Pend M Hs H w' r2 v2) : ∀ {l : List R} {vs : List V}, (∀ p, tmpAt r v = some p → NotAt p l vs) → Pends M Hs H w l vs → Pends M Hs H w' l vs
  | [], [], _, _ => True.intro
  | [], _ :: _, _, h => h.elim
  | _ :: _, [], _, h => h.elim
  | r2 :: l, v2 :: vs, n, h => ⟨k r2 v2 (fun p hp => (n p hp).1) h.1, Pends.map k (fun p hp => (n p hp).2) h.2⟩
theorem OffAll.map {σ σ' : L2.St} {ρ ρ' : Env} {r : R} {v : V} (k : ∀ p, tmpAt r v ≠ some p → OffOwn σ ρ p → OffOwn σ' ρ' p) : ∀ {l : List R} {vs : List V}, (∀ p, tmpAt r v = some p → NotAt p l vs) → OffAll σ ρ l vs → OffAll σ' ρ' l vs
  | [], _, _, _ => True.intro
  | _ :: _, [], _, _ => True.intro
  | r2 :: l, v2 :: vs, n, h => ⟨fun p hp => k p (fun e => (n p e).1 hp) (h.1 p hp), OffAll.map k (fun p hp => (n p hp).2) h.2⟩
theorem putAll_ok {Hs : Hp} (ls : ∀ a, Hs a = none → H0 a = none) {H : Hp} : ∀ (ms : List (Mo × Nat)) (rs : List R) (vs : List V) (w : Wd) (σ : L2.St) (ρ ρ' : Env) (G G' : Sto), GS M H0 w0 σ ρ H w G → Pends M Hs H w rs vs → OffAll σ ρ rs vs → Sep rs vs → putAll ms rs ρ G = some (ρ', G') →
    vs.length = ms.length ∧ ∃ w', GS M H0 w0 (setV (ms.map (·.2)) vs σ) ρ' H w' G' ∧ Mono w w'
  | [], [], [], w, σ, ρ, ρ', G, G', g, _, _, _, e => by cases e; exact ⟨rfl, w, g, Mono.refl w⟩
  | [], [], _ :: _, _, _, _, _, _, _, _, h, _, _, _ => h.elim
  | [], _ :: _, _, _, _, _, _, _, _, _, _, _, _, e => by cases e
  | _ :: _, [], _, _, _, _, _, _, _, _, _, _, _, e => by cases e
  | _ :: _, _ :: _, [], _, _, _, _, _, _, _, h, _, _, _ => h.elim
  | m :: ms, r :: rs, v :: vs, w, σ, ρ, ρ', G, G', g, hp, ho, hs, e => by
    obtain ⟨⟨ρ1, G1⟩, e1, e2⟩ := bindSome e
    obtain ⟨w1, g1, k1, k2, m1⟩ := put_ok (v := v) g ls hp.1 ho.1 e1
    obtain ⟨h1, w2, g2, m2⟩ := putAll_ok ls ms rs vs w1 _ ρ1 ρ' G1 G' g1 (hp.2.map k1 hs.1) (ho.2.map k2 hs.1) hs.2 e2
    exact ⟨by rw [List.length_cons, List.length_cons, h1], w2, g2, m1.trans m2⟩
theorem pends_of {H H1 : Hp} {w1 : Wd} {σ : L2.St} {ρ : Env} : ∀ {ms : List (Mo × Nat)} {rs : List R} {vs : List V} {ρ2 : Env} {G1 : Sto} {z : Env × Sto}, RXs M H σ ρ H1 w1 rs vs → putAll ms rs ρ2 G1 = some z → Pends M H H1 w1 rs vs
  | _, [], [], _, _, _, _, _ => True.intro
  | _, [], _ :: _, _, _, _, x, _ => x.elim
  | _, _ :: _, [], _, _, _, x, _ => x.elim
  | [], _ :: _, _ :: _, _, _, _, _, e => by cases e
  | m :: ms, r :: rs, v :: vs, ρ2, G1, z, x, e => by
    obtain ⟨⟨ρ1, G2⟩, e1, e2⟩ := bindSome e
    refine ⟨?_, pends_of x.2 e2⟩
    have x1 := x.1
    cases r with
    | d y => exact x1
    | tmp o => exact x1
    | bor i o => obtain ⟨m, i⟩ := m; cases m <;> cases e1
theorem offAll_of {H H1 : Hp} {w w1 : Wd} {σ : L2.St} {ρ : Env} (sl : SlOk M H w σ ρ) : ∀ {rs : List R} {vs : List V}, Pends M H H1 w1 rs vs → OffAll σ ρ rs vs
  | [], _, _ => True.intro
  | _ :: _, [], _ => True.intro
  | _ :: _, _ :: _, h => ⟨off_of sl h.1, offAll_of sl h.2⟩
/-- a, b, .. = e1, e2, .. -/
def sPar (ms : List (Mo × Nat)) (c : FnRs) : SFn := fun cf ρ G => (c cf ρ G).bind fun p => (putAll ms p.1 ρ p.2).map fun q => .nx q.1 q.2
theorem sPar_ok {ms : List (Mo × Nat)} {c : FnRs} {D : Ends} {σ : L2.St} {H : Hp} {K : List V → Hp → Prop} (h : tS M cf H0 w0 (sPar ms c) D σ H)
    (k : ∀ vs H1, vs.length = ms.length → (∀ H2, (∀ a o, H1 a = some o → H2 a = some o) → (∀ p ho, H1 p = none → H2 = upd H1 p ho → D.nx (setV (ms.map (·.2)) vs σ) H2)) → D.nx (setV (ms.map (·.2)) vs σ) H1 → K vs H1) : tR M cf c σ H K := by
  obtain ⟨ρ, w, G, o, g, e, kk⟩ := h
  obtain ⟨⟨l, G1⟩, e1, e2⟩ := bindSome e
  obtain ⟨⟨ρ', G2⟩, e3, e4⟩ := mapSome e2
  subst e4
  refine ⟨ρ, w, G, l, G1, g.sl, g.st, e1, fun vs H1 w1 L1 s1 xs sp => ?_⟩
  have A1 := g.at_.step L1 s1
  have pd := pends_of xs e3
  obtain ⟨h1, w', g', m'⟩ := putAll_ok (nn_of g.lat) ms l vs w1 σ ρ ρ' G1 G2 (g.next A1) pd (offAll_of g.sl pd) sp e3
  refine k vs H1 h1 (fun H2 _ p ho hp e => ?_) (kk _ H1 w' g' (L1.mono.trans m'))
  subst e
  have Ln : Lat H1 w1 (upd H1 p ho) w1 := Lat.new (M := M) (G := G1) hp
  have A2 := A1.step Ln (s1.new hp)
  have pd2 := pends_of (xs.lat Ln) e3
  obtain ⟨_, w2, g2, m2⟩ := putAll_ok (nn_of g.lat) ms l vs w1 σ ρ ρ' G1 G2 (g.next A2) pd2 (offAll_of g.sl pd2) sp e3
  exact kk _ _ w2 g2 (L1.mono.trans m2)
theorem gNames_run {H : Hp} {Q : L2.St → Hp → Prop} : ∀ (is : List Nat) (vs : List V) (σ : L2.St), vs.length = is.length → Q (setV is vs σ) H → gNames is vs σ H Q
  | [], [], σ, _, h => ⟨rfl, h⟩
  | [], _ :: _, _, h, _ => by cases h
  | _ :: _, [], _, h, _ => by cases h
  | i :: is, v :: vs, σ, h, q => ⟨v, vs, rfl, gNames_run is vs _ (by simpa using h) q⟩
theorem s_par2 {m1 m2 : Mo} {i j : Nat} {c : FnRs} (h : PS X st (tPar i j (tR M cf c))) : PS X st (tS M cf H0 w0 (sPar [(m1, i), (m2, j)] c)) := psW h fun D σ H h => sPar_ok h fun vs H1 hl _ q => by
  match vs, hl with
  | [v, u], _ => exact ⟨v, u, rfl, q⟩
theorem s_par3 {m1 m2 m3 : Mo} {i j l : Nat} {c : FnRs} (h : PS X st (tPar3 i j l (tR M cf c))) : PS X st (tS M cf H0 w0 (sPar [(m1, i), (m2, j), (m3, l)] c)) := psW h fun D σ H h => sPar_ok h fun vs H1 hl _ q => by
  match vs, hl with
  | [v, u, z], _ => exact ⟨v, u, z, rfl, q⟩
theorem s_parT {K : PySem.W.Frag} {ms : List (Mo × Nat)} {c : FnRs} (hm : ms.length ≤ 100) (h : PS X st (tAsg (tTup (tR M cf c)) (gTup K ms.length (gNames (ms.map (·.2)))))) : PS X st (tS M cf H0 w0 (sPar ms c)) := psW h fun D σ H h => by
  show tR M cf c σ H _
  exact sPar_ok h fun vs H1 hl q _ => by
    refine ⟨?_, fun p hp => ⟨p, vs, rfl, .inl (.inl upd_same), hl, gNames_run _ vs σ (by rw [List.length_map]; exact hl) (q _ ?_ p _ hp rfl)⟩⟩
    · rw [sizeLine_eq]; omega
    · exact fun a o e => by rw [upd_ne (ne_of_none e hp)]; exact e
end
end Lp

namespace Lp
open PySem PySem.Spec PyProof.Rows L2

/-! ### dicts -/
section
variable {κ : Type} [DecidableEq κ]
def getD : List κ → List D → κ → Option D
  | k' :: ks, v :: vs, k => if k' = k then some v else getD ks vs k
  | _, _, _ => none
def putV : List κ → List D → κ → D → List D
  | k' :: ks, v :: vs, k, d => (if k' = k then d else v) :: putV ks vs k d
  | _, _, _, _ => []
def putD (ks : List κ) (vs : List D) (k : κ) (d : D) : List κ × List D := match getD ks vs k with
  | some _ => (ks, putV ks vs k d)
  | none => (ks ++ [k], vs ++ [d])
theorem getD_rep {M : Md} {w : Wd} {k : κ} : ∀ {kvs : List (κ × V)} {vs : List D}, RepL M w vs (kvs.map (·.2)) → (∀ d, getD (kvs.map (·.1)) vs k = some d → ∃ x, valV kvs k = some x ∧ Rep M w d x) ∧ (getD (kvs.map (·.1)) vs k = none → valV kvs k = none)
  | [], [], r => ⟨fun d e => (by cases e), fun _ => rfl⟩
  | [], _ :: _, r => ⟨fun d e => (by cases e), fun _ => rfl⟩
  | p :: kvs, [], r => by simp only [RepL, List.map_cons] at r; cases r
  | p :: kvs, v :: vs, r => by
      simp only [RepL, List.map_cons] at r
      obtain ⟨x, t, e, r1, r2⟩ := r
      cases e
      have ih := getD_rep (k := k) (kvs := kvs) r2
      show (∀ d, (if p.1 = k then some v else getD (kvs.map (·.1)) vs k) = some d → _) ∧ ((if p.1 = k then some v else getD (kvs.map (·.1)) vs k) = none → _)
      by_cases h : p.1 = k
      · rw [if_pos h, valV_pos h]
        exact ⟨fun d e => by cases e; exact ⟨_, rfl, r1⟩, fun e => by cases e⟩
      · rw [if_neg h, valV_neg h]
        exact ih
theorem putV_rep {M : Md} {w : Wd} {k : κ} {d : D} {x : V} (rd : Rep M w d x) : ∀ {kvs : List (κ × V)} {vs : List D}, RepL M w vs (kvs.map (·.2)) → RepL M w (putV (kvs.map (·.1)) vs k d) ((kvs.map fun kv => if kv.1 = k then (kv.1, x) else kv).map (·.2))
  | [], [], r => RepL.nil
  | [], _ :: _, r => RepL.nil
  | p :: kvs, [], r => by simp only [RepL, List.map_cons] at r; cases r
  | p :: kvs, v :: vs, r => by
      simp only [RepL, List.map_cons] at r
      obtain ⟨y, t, e, r1, r2⟩ := r
      cases e
      have ih := putV_rep (k := k) rd (kvs := kvs) r2
      show RepL M w ((if p.1 = k then d else v) :: putV (kvs.map (·.1)) vs k d) ((if p.1 = k then (p.1, x) else p).2 :: _)
      refine RepL.cons ?_ ih
      by_cases h : p.1 = k
      · rw [if_pos h, if_pos h]; exact rd
      · rw [if_neg h, if_neg h]; exact r1
theorem keys_map {k : κ} {x : V} : ∀ kvs : List (κ × V), (kvs.map fun kv => if kv.1 = k then (kv.1, x) else kv).map (·.1) = kvs.map (·.1)
  | [] => rfl
  | p :: kvs => by
    rw [List.map_cons, List.map_cons, List.map_cons, keys_map kvs]
    congr 1
    by_cases h : p.1 = k
    · rw [if_pos h]
    · rw [if_neg h]
theorem putD_rep {M : Md} {w : Wd} {k : κ} {d : D} {x : V} {kvs : List (κ × V)} {vs : List D} (rd : Rep M w d x) (r : RepL M w vs (kvs.map (·.2))) :
    (putK kvs k x).map (·.1) = (putD (kvs.map (·.1)) vs k d).1 ∧ RepL M w (putD (kvs.map (·.1)) vs k d).2 ((putK kvs k x).map (·.2)) := by
  unfold putK putD
  have g := getD_rep (k := k) r
  rw [valV_any]
  cases z : getD (kvs.map (·.1)) vs k with
  | some y =>
    obtain ⟨y2, e, _⟩ := g.1 y z
    rw [e]
    rw [if_pos (show (some y2).isSome = true from rfl)]
    exact ⟨keys_map kvs, putV_rep rd r⟩
  | none =>
    rw [g.2 z, if_neg (by simp)]
    refine ⟨by simp, ?_⟩
    rw [List.map_append]
    exact r.append (RepL.cons rd RepL.nil)
end
def keyOf : D → Option Key
  | .int i => some (.inl i)
  | .str s => some (.inr s)
  | _ => none
def keysOf : List D → Option (List Key)
  | [] => some []
  | d :: l => (keyOf d).bind fun k => (keysOf l).map (k :: ·)
theorem keyOf_rep {M : Md} {w : Wd} {d : D} {v : V} {k : Key} (e : keyOf d = some k) (r : Rep M w d v) : v = kV k := by
  cases d <;> first | (cases e; done) | skip
  · cases e; simp only [Rep] at r; exact r
  · cases e; simp only [Rep] at r; exact r
theorem keysOf_rep {M : Md} {w : Wd} : ∀ {l : List D} {xs : List V} {ks : List Key}, keysOf l = some ks → RepL M w l xs → xs = ks.map kV
  | [], xs, ks, e, r => by cases e; simp only [RepL] at r; exact r
  | d :: l, xs, ks, e, r => by
    obtain ⟨k, e1, e2⟩ := bindSome e
    obtain ⟨ks', e3, e4⟩ := mapSome e2
    subst e4
    simp only [RepL] at r
    obtain ⟨x, t, rfl, r1, r2⟩ := r
    rw [keyOf_rep e1 r1, keysOf_rep e3 r2]
    rfl
def kD : Key → D
  | .inl i => .int i
  | .inr s => .str s
/-- the dict that is read -/
def dicG (r : R) (G : Sto) : Option Ob := match r with
  | .d (.dK ks vs) => some (.dK ks vs)
  | .d (.dT ks vs) => some (.dT ks vs)
  | .d (.ref n) => match G[n]? with
    | some (.dK ks vs) => some (.dK ks vs)
    | some (.dT ks vs) => some (.dT ks vs)
    | _ => none
  | .bor _ (.dK ks vs) => some (.dK ks vs)
  | .bor _ (.dT ks vs) => some (.dT ks vs)
  | .tmp (.dK ks vs) => some (.dK ks vs)
  | .tmp (.dT ks vs) => some (.dT ks vs)
  | _ => none
def DicAt (M : Md) (w : Wd) (H : Hp) (a : Addr) : Ob → Prop
  | .dK ks vs => ∃ kvs, Rd H a (.dK kvs) ∧ kvs.map (·.1) = ks ∧ RepL M w vs (kvs.map (·.2))
  | .dT ks vs => ∃ kvs, Rd H a (.dT kvs) ∧ kvs.map (·.1) = ks ∧ RepL M w vs (kvs.map (·.2))
  | _ => False
theorem ObAt.dic {M : Md} {w : Wd} {H : Hp} {a : Addr} {o : Ob} (h : ObAt M w H a o) (d : (∃ ks vs, o = .dK ks vs) ∨ ∃ ks vs, o = .dT ks vs) : DicAt M w H a o := by
  rcases d with ⟨ks, vs, rfl⟩ | ⟨ks, vs, rfl⟩
  · obtain ⟨kvs, e, q, r⟩ := h; exact ⟨kvs, .inl e, q, r⟩
  · obtain ⟨kvs, e, q, r⟩ := h; exact ⟨kvs, .inl e, q, r⟩
section
variable {M : Md} {cf : CF} {H0 H : Hp} {w0 w : Wd} {σ : L2.St} {ρ : Env} {G : Sto}
theorem At.dic {r : R} {v : V} {o : Ob} (A : At M H0 w0 σ ρ H w G) (x : RX M H0 σ ρ H w r v) (e : dicG r G = some o) : ∃ a, v = .ref a ∧ DicAt M w H a o := by
  unfold dicG at e
  split at e <;> first | (cases e; done) | skip
  · cases e
    have x : Rep M w (.dK _ _) v := x
    simp only [Rep] at x
    obtain ⟨a, od, kvs, rfl, h, q, r⟩ := x
    exact ⟨a, rfl, kvs, .inr ⟨od, A.st.fzH _ _ h⟩, q, r⟩
  · cases e
    have x : Rep M w (.dT _ _) v := x
    simp only [Rep] at x
    obtain ⟨a, od, kvs, rfl, h, q, r⟩ := x
    exact ⟨a, rfl, kvs, .inr ⟨od, A.st.fzH _ _ h⟩, q, r⟩
  · split at e <;> first | (cases e; done) | skip
    · rename_i z
      cases e
      obtain ⟨a, rfl, _, q, _⟩ := A.ref x z
      exact ⟨a, rfl, q.dic (.inl ⟨_, _, rfl⟩)⟩
    · rename_i z
      cases e
      obtain ⟨a, rfl, _, q, _⟩ := A.ref x z
      exact ⟨a, rfl, q.dic (.inr ⟨_, _, rfl⟩)⟩
  · cases e
    obtain ⟨e1, e2⟩ := x
    obtain ⟨p, e3, q, _⟩ := A.sl.at_ _ _ e1
    rw [e2] at e3; cases e3
    exact ⟨p, rfl, q.dic (.inl ⟨_, _, rfl⟩)⟩
  · cases e
    obtain ⟨e1, e2⟩ := x
    obtain ⟨p, e3, q, _⟩ := A.sl.at_ _ _ e1
    rw [e2] at e3; cases e3
    exact ⟨p, rfl, q.dic (.inr ⟨_, _, rfl⟩)⟩
  · cases e
    obtain ⟨p, rfl, q, _⟩ := x
    exact ⟨p, rfl, q.dic (.inl ⟨_, _, rfl⟩)⟩
  · cases e
    obtain ⟨p, rfl, q, _⟩ := x
    exact ⟨p, rfl, q.dic (.inr ⟨_, _, rfl⟩)⟩
/-- none: no such key can be asked; some none: not there -/
def obGet (o : Ob) (y : D) : Option (Option D) := match o with
  | .dK ks vs => (keyOf y).map fun k => getD ks vs k
  | .dT ks vs => match y with
    | .tup l => (keysOf l).map fun k => getD ks vs k
    | _ => none
  | _ => none
theorem At.dget {a : Addr} {o : Ob} {y : D} {v : V} {z : Option D} (A : At M H0 w0 σ ρ H w G) (x : DicAt M w H a o) (ry : Rep M w y v) (e : obGet o y = some z) :
    ∃ u, DGet H a v u ∧ (∀ d, z = some d → ∃ x, u = some x ∧ Rep M w d x) ∧ (z = none → u = none) := by
  cases o <;> first | (cases e; done) | skip
  · rename_i ks vs
    obtain ⟨k, e1, rfl⟩ := mapSome e
    obtain ⟨kvs, h, rfl, r⟩ := x
    have g := getD_rep (k := k) r
    refine ⟨valV kvs k, .inl ⟨kvs, k, h, keyOf_rep e1 ry, rfl⟩, g.1, g.2⟩
  · rename_i ks vs
    unfold obGet at e
    cases y <;> first | (cases e; done) | skip
    obtain ⟨k, e1, rfl⟩ := mapSome e
    obtain ⟨kvs, h, rfl, r⟩ := x
    have g := getD_rep (k := k) r
    simp only [Rep] at ry
    obtain ⟨b, xs, rfl, hb, ry⟩ := ry
    exact ⟨valV kvs k, .inr ⟨kvs, k, b, h, rfl, by rw [← keysOf_rep e1 ry]; exact A.st.fzH _ _ hb, rfl⟩, g.1, g.2⟩
end
section
variable {X : Cx} {M : Md} {cf : CF} {H0 : Hp} {w0 : Wd} {e a b tg oe ie : Expr} {es : List Expr} {st : Stmt} {ss : List Stmt} {ce ca cb co ci cd : Fn} {ct : FnT} {cs c1 c2 : SFn} {cl : FnL} {pos pos' apos : Pos}
def rIxD : R2 := fun x y H Q => ∃ a v, x = .ref a ∧ DGet H a y (some v) ∧ Q v H
theorem ix_dict (hu : X.A.units + 1 < cLine) : IxR X rIxD := by
  intro value slice pins s σ H x y v u Q I rx ry h hs
  obtain ⟨a, z, rfl, g, q⟩ := h
  cases (show v = Value.ref a from rx)
  have hT := dict_typeIs I g
  unfold subscriptTail
  refine wpAny_bind ?_
  rw [getitemInPython_of_ne hT.not_modules]
  refine wpAny_bind (wpAny_specialOf hT PySem.F.slot_dict_getitem.lookup ?_)
  have fin : wpAny (model X.prog X.w) X.A (subscripted slice false (.ref a) u) (fun r s₃ => wpAny (model X.prog X.w) X.A (letTemporaryGo value (.ref a) r >>= fun _ => pure r) (EP X pins σ Q) X.xe s₃) X.xe s := by
    rw [hs]
    exact wpAny_operating (wpAny_mono (d_getItem (Q := EP X pins σ Q) hu I g ry fun w' s3 I3 rw' => ⟨z, H, I3, rw', q⟩) (fun r s₃ h₃ => wpAny_bind (wpAny_letTemporaryGo (wpAny_pure h₃))) fun _ _ x => x)
  first
    | exact wpAny_pure (wpAny_bind fin)
    | exact fin
def dOf : R → Option D
  | .d y => some y
  | _ => none
/-- o[i], also of dicts -/
def ixG (x y : R) (G : Sto) : Option R := match dicG x G with
  | some o => (dOf y).bind fun k => (obGet o k).bind fun z => z.map .d
  | none => ixR x y G
theorem o_ixG (hK : X.K = M.K) (hu : X.A.units + 64 < cLine) : IxR X (rG M ixG) := by
  intro va sc pins s σ' H x y v u Q I rx ry h hs
  obtain ⟨H0, w0, σ, ρ, w, G, ra, rb, r, A, xa, xb, e, q⟩ := h
  unfold ixG at e
  split at e
  · rename_i o e0
    obtain ⟨k, e1, e2⟩ := bindSome e
    obtain ⟨z, e3, e4⟩ := bindSome e2
    obtain ⟨d, e5, rfl⟩ := mapSome e4
    cases rb <;> first | (cases e1; done) | skip
    cases e1
    obtain ⟨p, rfl, dd⟩ := A.dic xa e0
    obtain ⟨u', g, g1, _⟩ := A.dget dd xb e3
    obtain ⟨x', e6, rx'⟩ := g1 d e5
    subst e6
    exact ix_dict (by omega) va sc pins s σ' H _ _ v u Q I rx ry ⟨p, x', rfl, g, A.fin q rx'⟩ hs
  · exact o_ix hK va sc pins s σ' H _ _ v u Q I rx ry ⟨H0, w0, σ, ρ, w, G, ra, rb, r, A, xa, xb, e, q⟩ hs
theorem x_ixG (hK : X.K = M.K) (hu : X.A.units + 64 < cLine) (ha : PE X a (tE M cf ca)) (hb : PE X b (tE M cf cb)) (hs : isSlice b = false) : PE X (.Subscript a b pos) (tE M cf (cBinG ixG ca cb)) :=
  peW (pe_ix (o_ixG hK hu) ha hb (plainIx hs)) tE_binG
/-- d.get(k, x) -/
def cGet2 (a b c : Fn) : Fn := fun cf ρ G => (a cf ρ G).bind fun p => match dicG p.1 p.2 with
  | none => none
  | some _ => (b cf ρ p.2).bind fun q => (c cf ρ q.2).bind fun z => (dicG p.1 z.2).bind fun o => (dOf q.1).bind fun k => (dOf z.1).bind fun x => (obGet o k).map fun u => (.d (u.getD x), z.2)
theorem DicAt.isD {M : Md} {w : Wd} {H : Hp} {a : Addr} {o : Ob} (h : DicAt M w H a o) : IsD H a := by
  cases o with
  | dK ks vs => obtain ⟨kvs, h, _⟩ := h; exact .inl ⟨kvs, h⟩
  | dT ks vs => obtain ⟨kvs, h, _⟩ := h; exact .inr ⟨kvs, h⟩
  | lst _ => exact h.elim
  | ins _ _ _ => exact h.elim
theorem x_get2 (hu : X.A.units + 64 < cLine) (ha : PE X oe (tE M cf co)) (hb : PE X ie (tE M cf ci)) (hc : PE X e (tE M cf ce)) (m : M2 X oe "get" apos ie e pos) : PE X (.Call (.Attribute oe "get" apos) [ie, e] [] pos) (tE M cf (cGet2 co ci ce)) :=
  peW (pe_dget2 (by omega) ha hb hc m) fun σ H Q h => by
    obtain ⟨ρ, w, G, r, G', sl, st, ev, q⟩ := h
    refine (At.start sl st).run ev fun ra G1 x H1 w1 e1 L1 A1 x1 => ?_
    dsimp only at e1
    split at e1
    · cases e1
    · rename_i o0 e0
      obtain ⟨p, rfl, dd⟩ := A1.dic x1 e0
      refine ⟨p, rfl, dd.isD, ?_⟩
      refine A1.run e1 fun rb G2 y H2 w2 e2 L2 A2 x2 => ?_
      refine A2.run e2 fun rc G3 z H3 w3 e3 L3 A3 x3 => ?_
      obtain ⟨o, e4, e5⟩ := bindSome e3
      obtain ⟨k, e6, e7⟩ := bindSome e5
      obtain ⟨d, e8, e9⟩ := bindSome e7
      obtain ⟨u, e10, e11⟩ := mapSome e9
      cases e11
      cases rb <;> first | (cases e6; done) | skip
      cases e6
      cases rc <;> first | (cases e8; done) | skip
      cases e8
      obtain ⟨p', ep, dd3⟩ := A3.dic ((x1.lat L2).lat L3) e4
      cases ep
      obtain ⟨u', g, g1, g2⟩ := A3.dget dd3 (x2.lat L3) e10
      refine ⟨u', g, ?_⟩
      cases u with
      | none => rw [g2 rfl]; exact A3.fin q x3
      | some d' =>
        obtain ⟨x', e12, rx'⟩ := g1 d' rfl
        subst e12
        exact A3.fin q rx'
/-- k in d, k not in d, of dicts -/
def cInD (neg : Bool) (a b : Fn) : FnT := fun cf ρ G => (a cf ρ G).bind fun p => (b cf ρ p.2).bind fun q => (dicG q.1 q.2).bind fun o => (dOf p.1).bind fun k => (obGet o k).map fun u => (u.isSome != neg, q.2)
theorem new_dK {w : Wd} {H : Hp} {p : Addr} : ObAt M w (upd H p (.dK [])) p (.dK [] []) := ⟨[], upd_same, rfl, RepL.nil⟩
theorem new_dT {w : Wd} {H : Hp} {p : Addr} : ObAt M w (upd H p (.dT [])) p (.dT [] []) := ⟨[], upd_same, rfl, RepL.nil⟩
def cNewK : Fn := fun _ _ G => some (.tmp (.dK [] []), G)
def cNewT : Fn := fun _ _ G => some (.tmp (.dT [] []), G)
theorem x_newK : PE X (.Dict [] [] pos) (tE M cf cNewK) := peW pe_dnewK fun σ H Q h => by
  obtain ⟨ρ, w, G, r, G', sl, st, e, q⟩ := h
  cases e
  exact fun p hp => (At.start sl st).newTmp q hp new_dK
theorem x_newT : PE X (.Dict [] [] pos) (tE M cf cNewT) := peW pe_dnewT fun σ H Q h => by
  obtain ⟨ρ, w, G, r, G', sl, st, e, q⟩ := h
  cases e
  exact fun p hp => (At.start sl st).newTmp q hp new_dT

/-! ### objects that change -/
/-- the object that is changed -/
def objG (r : R) (G : Sto) : Option Ob := match r with
  | .d (.ref n) => G[n]?
  | .bor _ o => some o
  | _ => none
def setG (r : R) (o : Ob) (ρ : Env) (G : Sto) : Env × Sto := match r with
  | .d (.ref n) => (ρ, G.set n o)
  | .bor i _ => (ρ.set i (.own o), G)
  | _ => (ρ, G)
theorem GS.mut {H0 H : Hp} {w0 w : Wd} {σ : L2.St} {ρ : Env} {G : Sto} {r : R} {v : V} {o : Ob} {Hs : Hp} (g : GS M H0 w0 σ ρ H w G) (x : RX M Hs σ ρ H w r v) (e : objG r G = some o) : ∃ a, v = .ref a ∧ ObAt M w H a o ∧
    ∀ (ho : HO) (o' : Ob), (∀ xs, ho ≠ .tup xs) → ObAt M w (upd H a ho) a o' → GS M H0 w0 σ (setG r o' ρ G).1 (upd H a ho) w (setG r o' ρ G).2 := by
  have main : ∀ (a : Addr) (ho : HO), H a ≠ none → w.fz a = none → (a ∈ w0.al ∨ H0 a = none) → (∀ xs, ho ≠ .tup xs) → Lat H0 w0 (upd H a ho) w ∧ (∀ b u, w.fz b = some u → upd H a ho b = some u) := fun a ho ha fa hd nt => by
    refine ⟨⟨g.lat.fz, g.lat.al, g.lat.nw, fun b xs h => ?_, fun b u h n => ?_, fun b h => ?_⟩, fun b u h => ?_⟩
    · by_cases z : b = a
      · subst z; rw [upd_same] at h; exact absurd (Option.some.inj h) (nt xs)
      · rw [upd_ne z] at h; exact g.lat.tb b xs h
    · by_cases z : b = a
      · subst z
        rcases hd with hd | hd
        · exact absurd hd n
        · rw [hd] at h; cases h
      · rw [upd_ne z]; exact g.lat.kp b u h n
    · by_cases z : b = a
      · subst z; rw [upd_same]; simp
      · rw [upd_ne z]; exact g.lat.dm b h
    · by_cases z : b = a
      · subst z; rw [fa] at h; cases h
      · rw [upd_ne z]; exact g.st.fzH b u h
  have obne : ∀ {b a : Addr} {ho : HO} {ob : Ob}, b ≠ a → ObAt M w H b ob → ObAt M w (upd H a ho) b ob := fun {b a ho ob} ne q => by
    cases ob with
    | lst l => obtain ⟨xs, e, r⟩ := q; exact ⟨xs, (upd_ne ne).trans e, r⟩
    | dK ks vs => obtain ⟨xs, e, q, r⟩ := q; exact ⟨xs, (upd_ne ne).trans e, q, r⟩
    | dT ks vs => obtain ⟨xs, e, q, r⟩ := q; exact ⟨xs, (upd_ne ne).trans e, q, r⟩
    | ins c ns l => obtain ⟨dx, fs, e, q, r⟩ := q; exact ⟨dx, fs, (upd_ne ne).trans e, q, r⟩
  unfold objG at e
  split at e
  · rename_i n
    have x : Rep M w (.ref n) v := x
    simp only [Rep] at x
    obtain ⟨a, rfl, ha⟩ := x
    obtain ⟨q, z⟩ := g.st.at_ n o a e ha
    refine ⟨a, rfl, q, fun ho o' nt ob => ?_⟩
    obtain ⟨t, et, nt'⟩ := g.lat.al
    have am : a ∈ w.al := List.mem_of_getElem? ha
    obtain ⟨L, F⟩ := main a ho q.there z (by
      rw [et] at am
      exact (List.mem_append.mp am).imp id fun h => nt' a h) nt
    refine ⟨L, ⟨F, by show w.al.length = (G.set n o').length; rw [List.length_set]; exact g.st.len, g.st.nd, fun m ob' b e1 e2 => ?_⟩, ⟨g.sl.len, fun i s e1 => ?_, g.sl.sep⟩, g.fr⟩
    · by_cases hm : n = m
      · subst hm
        rw [ha] at e2; cases e2
        have e1 : (G.set n o')[n]? = some ob' := e1
        rw [List.getElem?_set_self (List.getElem?_eq_some_iff.mp e).1] at e1
        cases e1
        exact ⟨ob, z⟩
      · have e1 : (G.set n o')[m]? = some ob' := e1
        rw [List.getElem?_set_ne hm] at e1
        obtain ⟨q2, z2⟩ := g.st.at_ m ob' b e1 e2
        refine ⟨obne (fun eb => hm ?_) q2, z2⟩
        subst eb
        exact (List.getElem?_inj (List.getElem?_eq_some_iff.mp ha).1 g.st.nd).mp (ha.trans e2.symm)
    · have k := g.sl.at_ i s e1
      cases s with
      | no => trivial
      | v d => exact k
      | own ob2 =>
        obtain ⟨b, e2, q2, n1, n2⟩ := k
        exact ⟨b, e2, obne (fun eb => n2 (by rw [eb]; exact am)) q2, n1, n2⟩
  · rename_i i ob0
    cases e
    obtain ⟨e1, e2⟩ := x
    obtain ⟨a, e3, q, n1, n2⟩ := g.sl.at_ _ _ e1
    rw [e2] at e3; cases e3
    refine ⟨a, rfl, q, fun ho o' nt ob => ?_⟩
    obtain ⟨L, F⟩ := main a ho q.there n1 (.inr (g.fr i _ a e1 e2)) nt
    have ix : ∀ {j : Nat} {s : Sl}, (ρ.set i (.own o'))[j]? = some s → (j = i ∧ s = .own o') ∨ (j ≠ i ∧ ρ[j]? = some s) := fun {j s} e => by
      by_cases z : i = j
      · subst z
        rw [List.getElem?_set_self (List.getElem?_eq_some_iff.mp e1).1] at e; cases e; exact .inl ⟨rfl, rfl⟩
      · rw [List.getElem?_set_ne z] at e; exact .inr ⟨Ne.symm z, e⟩
    refine ⟨L, ⟨F, g.st.len, g.st.nd, fun m ob' b e1 e2 => ?_⟩, ⟨by show σ.length = (ρ.set i (.own o')).length; rw [List.length_set]; exact g.sl.len, fun j s ej => ?_, fun j k o1 o2 x a1 a2 a3 a4 => ?_⟩, fun j ob' b ej ek => ?_⟩
    · obtain ⟨q2, z2⟩ := g.st.at_ m ob' b e1 e2
      exact ⟨obne (fun eb => n2 (by rw [← eb]; exact List.mem_of_getElem? e2)) q2, z2⟩
    · rcases ix ej with ⟨rfl, rfl⟩ | ⟨ne, ej⟩
      · exact ⟨a, e2, ob, n1, n2⟩
      · have k := g.sl.at_ j s ej
        cases s with
        | no => trivial
        | v d => exact k
        | own ob2 =>
          obtain ⟨b, e4, q2, m1, m2⟩ := k
          exact ⟨b, e4, obne (fun eb => ne (g.sl.sep j i ob2 _ b ej e1 e4 (by rw [eb]; exact e2))) q2, m1, m2⟩
    · have old : ∀ {j : Nat} {o1 : Ob}, (ρ.set i (.own o'))[j]? = some (.own o1) → ∃ o3, ρ[j]? = some (.own o3) := fun {j o1} h => by
        rcases ix h with ⟨rfl, _⟩ | ⟨_, h⟩
        · exact ⟨_, e1⟩
        · exact ⟨_, h⟩
      obtain ⟨o3, b1⟩ := old a1
      obtain ⟨o4, b2⟩ := old a2
      exact g.sl.sep j k o3 o4 x b1 b2 a3 a4
    · rcases ix ej with ⟨rfl, _⟩ | ⟨_, ej⟩
      · exact g.fr _ _ b e1 ek
      · exact g.fr j ob' b ej ek
  · cases e
end
end Lp

namespace Lp
open PySem PySem.Spec PyProof.Rows L2

/-! ### storing into names and things -/
abbrev GFn := CF → D → Env → Sto → Option (Env × Sto)
abbrev GFns := CF → List D → Env → Sto → Option (Env × Sto)
def tG (M : Md) (cf : CF) (H0 : Hp) (w0 : Wd) (g : GFn) : TG := fun v σ H Q => ∃ ρ w G d ρ' G', GS M H0 w0 σ ρ H w G ∧ Rep M w d v ∧ g cf d ρ G = some (ρ', G') ∧ ∀ σ' H' w', GS M H0 w0 σ' ρ' H' w' G' → Mono w w' → Q σ' H'
def tGs (M : Md) (cf : CF) (H0 : Hp) (w0 : Wd) (g : GFns) : TGs := fun vs σ H Q => ∃ ρ w G d ρ' G', GS M H0 w0 σ ρ H w G ∧ RepL M w d vs ∧ g cf d ρ G = some (ρ', G') ∧ ∀ σ' H' w', GS M H0 w0 σ' ρ' H' w' G' → Mono w w' → Q σ' H'
theorem pgW {X : Cx} {e : Expr} {t t' : TG} (h : PG X e t) (k : ∀ v σ H Q, t' v σ H Q → t v σ H Q) : PG X e t' := ⟨fun pins s σ H v u Q I r q => h.run pins s σ H v u Q I r (k v σ H Q q)⟩
theorem pgsW {X : Cx} {e : List Expr} {t t' : TGs} (h : PGs X e t) (k : ∀ v σ H Q, t' v σ H Q → t v σ H Q) : PGs X e t' := ⟨fun pins s σ H v u Q I r q => h.run pins s σ H v u Q I r (k v σ H Q q)⟩
def gNm (i : Nat) : GFn := fun _ d ρ G => some (ρ.set i (.v d), G)
def gN0 : GFns := fun _ l ρ G => match l with
  | [] => some (ρ, G)
  | _ => none
def gC1 (g : GFn) (gs : GFns) : GFns := fun cf l ρ G => match l with
  | d :: l => (g cf d ρ G).bind fun p => gs cf l p.1 p.2
  | _ => none
def gTp (gs : GFns) (n : Nat) : GFn := fun cf d ρ G => match d with
  | .tup l => if l.length = n then gs cf l ρ G else none
  | _ => none
def obPut (o : Ob) (y d : D) : Option Ob := match o with
  | .lst l => match y with
    | .int k => (ixN l.length k).map fun j => .lst (l.set j d)
    | _ => none
  | .dK ks vs => if ks.length < sz then (keyOf y).map fun k => .dK (putD ks vs k d).1 (putD ks vs k d).2 else none
  | .dT ks vs => if ks.length < sz then match y with
    | .tup l => (keysOf l).map fun k => .dT (putD ks vs k d).1 (putD ks vs k d).2
    | _ => none else none
  | _ => none
/-- o[i] = .. -/
def gSb (co ci : Fn) : GFn := fun cf d ρ G => (co cf ρ G).bind fun p => (ci cf ρ p.2).bind fun q => (dOf q.1).bind fun k => (objG p.1 q.2).bind fun o => (obPut o k d).map fun o' => setG p.1 o' ρ q.2
section
variable {X : Cx} {M : Md} {cf : CF} {H0 : Hp} {w0 : Wd} {e a b tg oe ie : Expr} {es : List Expr} {st : Stmt} {ss : List Stmt} {ce ca cb co ci cd : Fn} {ct : FnT} {cs c1 c2 : SFn} {cl : FnL} {pos pos' apos : Pos} {g : GFn} {gs : GFns}
theorem GS.setV {H : Hp} {w : Wd} {σ : L2.St} {ρ : Env} {G : Sto} {d : D} {v : V} (g : GS M H0 w0 σ ρ H w G) (r : Rep M w d v) (i : Nat) : GS M H0 w0 (σ.set i (some v)) (ρ.set i (.v d)) H w G :=
  ⟨g.lat, g.st, g.sl.set r i, g.fr.set i _ _ fun o a e => by cases e⟩
theorem g_nm {i : Nat} (h : PG X tg (gName i)) : PG X tg (tG M cf H0 w0 (gNm i)) := pgW h fun v σ H Q h => by
  obtain ⟨ρ, w, G, d, ρ', G', g, r, e, k⟩ := h
  cases e
  exact k _ H w (g.setV r i) (Mono.refl w)
theorem g_nil (h : PGs X [] gNil) : PGs X [] (tGs M cf H0 w0 gN0) := pgsW h fun v σ H Q h => by
  obtain ⟨ρ, w, G, d, ρ', G', g, r, e, k⟩ := h
  cases d with
  | nil =>
    cases e
    simp only [RepL] at r
    exact ⟨r, k σ H w g (Mono.refl w)⟩
  | cons _ _ => cases e
theorem g_cons (h1 : PG X tg (tG M cf H0 w0 g)) (h2 : PGs X es (tGs M cf H0 w0 gs)) (hs : (assignEach (tg :: es) X.env).map (·.2) = assign tg X.env :: (assignEach es X.env).map (·.2)) : PGs X (tg :: es) (tGs M cf H0 w0 (gC1 g gs)) := pgsW (pgs_cons h1 h2 hs) fun v σ H Q h => by
  obtain ⟨ρ, w, G, d, ρ', G', gg, r, e, k⟩ := h
  cases d with
  | nil => cases e
  | cons d l =>
    simp only [RepL] at r
    obtain ⟨x, t, rfl, r1, r2⟩ := r
    obtain ⟨⟨ρ1, G1⟩, e1, e2⟩ := bindSome e
    exact ⟨x, t, rfl, ρ, w, G, d, ρ1, G1, gg, r1, e1, fun σ1 H1 w1 g1 m1 => ⟨ρ1, w1, G1, l, ρ', G', g1, r2.mon m1, e2, fun σ2 H2 w2 g2 m2 => k σ2 H2 w2 g2 (m1.trans m2)⟩⟩
theorem g_tup {kk n : Nat} (hK : X.K = M.K) (hc : X.calm = true) (h : PGs X es (tGs M cf H0 w0 gs)) (hn : (assignEach es X.env).length = n) (hst : (assignEach es X.env).findIdx? (·.1) = none) : PG X (.Tuple es kk pos) (tG M cf H0 w0 (gTp gs n)) := pgW (pg_tup hc h hn hst) fun v σ H Q h => by
  obtain ⟨ρ, w, G, d, ρ', G', g, r, e, k⟩ := h
  cases d <;> first | (cases e; done) | skip
  rename_i l
  simp only [gTp] at e
  by_cases hl : l.length = n
  · rw [if_pos hl] at e
    simp only [Rep] at r
    obtain ⟨a, xs, rfl, h1, r⟩ := r
    exact ⟨a, xs, rfl, by rw [hK]; exact .inl (.inl (g.st.fzH _ _ h1)), by rw [← r.length]; exact hl, ρ, w, G, l, ρ', G', g, r, e, k⟩
  · rw [if_neg hl] at e; cases e
theorem At.frzM {H00 H : Hp} {w00 w : Wd} {σ : L2.St} {ρ : Env} {G : Sto} {r : R} {d : D} {v : V} (a : At M H00 w00 σ ρ H w G) (x : RX M H00 σ ρ H w r v) (e : Lp.frz r = some d) : ∃ w', At M H00 w00 σ ρ H w' G ∧ Rep M w' d v ∧ Lat H00 w00 H w' ∧ Mono w w' := by
  cases r with
  | d y => cases e; exact ⟨w, a, x, a.lat, Mono.refl w⟩
  | bor i o => cases e
  | tmp o =>
    obtain ⟨p, rfl, ob, n1, n2, n3⟩ := x
    have go : ∀ ho, H p = some ho → At M H00 w00 σ ρ H (w.put p ho) G := fun ho hh => by
      have s := a.st.freeze hh n1 n2
      exact ⟨a.lat.freeze (M := M) (G := G) n3 n1, s, a.sl0⟩
    have mo : ∀ ho, Mono w (w.put p ho) := fun ho => ⟨(Wd.put_lat (H := H) n1).1, (Wd.put_lat (H := H) (o := ho) n1).2⟩
    cases o with
    | lst l =>
      cases e
      obtain ⟨xs, hx, rr⟩ := ob
      refine ⟨_, go _ hx, ?_, (go _ hx).lat, mo _⟩
      simp only [Rep]
      exact ⟨p, xs, rfl, (show upd w.fz p (.lst xs) p = _ from upd_same), rr.put n1⟩
    | ins c ns l =>
      cases e
      obtain ⟨dx, fs, hx, hn, rr⟩ := ob
      refine ⟨_, go _ hx, ?_, (go _ hx).lat, mo _⟩
      simp only [Rep]
      exact ⟨p, dx, fs, rfl, (show upd w.fz p (.ins (M.ca c) dx fs) p = _ from upd_same), hn, rr.put n1⟩
    | dK _ _ => cases e
    | dT _ _ => cases e
def rSetA : TSet := fun o i v H Q => rSetL o i v H Q ∨ rSetD o i v H Q
theorem set_any (hu : X.A.units + 64 < cLine) : PSet X rSetA := by
  intro pins s σ H o i v ov iv u Q I ro ri rv h
  rcases h with h | h
  · exact set_list pins s σ H o i v ov iv u Q I ro ri rv h
  · exact set_dict (by omega) pins s σ H o i v ov iv u Q I ro ri rv h
theorem obPut_ok {H : Hp} {w : Wd} {a : Addr} {o o' : Ob} {y d : D} {v x : V} {Q : Hp → Prop} (ob : ObAt M w H a o) (f : ∀ a o, w.fz a = some o → H a = some o) (ry : Rep M w y v) (rd : Rep M w d x) (e : obPut o y d = some o') (k : ∀ ho, (∀ xs, ho ≠ .tup xs) → ObAt M w (upd H a ho) a o' → Q (upd H a ho)) : rSetA (.ref a) v x H Q := by
  cases o with
  | lst l =>
    cases y <;> first | (cases e; done) | skip
    obtain ⟨j, e1, rfl⟩ := mapSome e
    simp only [Rep] at ry
    obtain ⟨xs, h, r⟩ := ob
    rw [r.length] at e1
    exact .inl ⟨a, xs, _, j, rfl, ry, h, e1, k _ (by intro _ z; cases z) ⟨_, upd_same, r.set j rd⟩⟩
  | dK ks vs =>
    dsimp only [obPut] at e
    by_cases hz : ks.length < sz
    · rw [if_pos hz] at e
      obtain ⟨kk, e1, rfl⟩ := mapSome e
      obtain ⟨kvs, h, rfl, r⟩ := ob
      have p := putD_rep (k := kk) rd r
      refine .inr ⟨a, _, rfl, .inl ⟨kvs, kk, h, keyOf_rep e1 ry, ?_, rfl⟩, k _ (by intro _ z; cases z) ⟨_, upd_same, p.1, p.2⟩⟩
      rw [List.length_map] at hz
      exact sz_lineT hz
    · rw [if_neg hz] at e; cases e
  | dT ks vs =>
    dsimp only [obPut] at e
    by_cases hz : ks.length < sz
    · rw [if_pos hz] at e
      cases y <;> first | (cases e; done) | skip
      obtain ⟨kk, e1, rfl⟩ := mapSome e
      obtain ⟨kvs, h, rfl, r⟩ := ob
      have p := putD_rep (k := kk) rd r
      simp only [Rep] at ry
      obtain ⟨b, xs, rfl, hb, ry⟩ := ry
      refine .inr ⟨a, _, rfl, .inr ⟨kvs, kk, b, h, rfl, by rw [← keysOf_rep e1 ry]; exact f _ _ hb, ?_, rfl⟩, k _ (by intro _ z; cases z) ⟨_, upd_same, p.1, p.2⟩⟩
      rw [List.length_map] at hz
      exact sz_lineT hz
    · rw [if_neg hz] at e; cases e
  | ins c ns l => cases e
theorem g_sub (hu : X.A.units + 64 < cLine) (ho : PE X oe (tE M cf co)) (hi : PE X ie (tE M cf ci)) (ha : ∀ v, assign (.Subscript oe ie pos) X.env v = (do
      let ov ← holding [v] (eval oe X.env)
      let iv ← holding [v, ov] (eval ie X.env)
      standAt pos
      holding [v, ov, iv] (setItem ov iv v)
      release [v, ov, iv] [])) : PG X (.Subscript oe ie pos) (tG M cf H0 w0 (gSb co ci)) := pgW (pg_sub ho hi (set_any hu) ha) fun v σ H Q h => by
  obtain ⟨ρ, w, G, d, ρ', G', g, r, e, k⟩ := h
  refine g.at_.run e fun ra G1 x H1 w1 e1 L1 A1 x1 => ?_
  refine A1.run e1 fun rb G2 y H2 w2 e2 L2 A2 x2 => ?_
  obtain ⟨kk, e3, e4⟩ := bindSome e2
  obtain ⟨o, e5, e6⟩ := bindSome e4
  obtain ⟨o', e7, e8⟩ := mapSome e6
  cases rb <;> first | (cases e3; done) | skip
  cases e3
  have g2 := g.next A2
  obtain ⟨a, rfl, ob, mk⟩ := g2.mut (x1.lat L2) e5
  refine obPut_ok ob g2.st.fzH x2 (r.lat (L1.trans L2)) e7 fun ho nt ob' => ?_
  have g3 := mk ho o' nt ob'
  rw [e8] at g3
  exact k σ _ w2 g3 (L1.trans L2).mono
/-- target = value -/
def sAsgG (g : GFn) (c : Fn) : SFn := fun cf ρ G => (c cf ρ G).bind fun p => (frz p.1).bind fun d => (g cf d ρ p.2).map fun q => .nx q.1 q.2
theorem s_asgG (h : PS X st (tAsg (tE M cf ce) (tG M cf H0 w0 g))) : PS X st (tS M cf H0 w0 (sAsgG g ce)) := psW h fun D σ H h => by
  obtain ⟨ρ, w, G, o, gg, e, k⟩ := h
  refine gg.at_.run e fun r G1 v H1 w1 e1 L1 A1 x1 => ?_
  obtain ⟨d, e2, e3⟩ := bindSome e1
  obtain ⟨⟨ρ', G2⟩, e4, e5⟩ := mapSome e3
  subst e5
  obtain ⟨w', A', rd, L'⟩ := A1.frz x1 e2
  exact ⟨ρ, w', G1, d, ρ', G2, gg.next A', rd, e4, fun σ' H' w2 g2 m2 => k σ' H' w2 g2 (L'.mono.trans m2)⟩
/-- an expression as a row -/
def sDrop (c : Fn) : SFn := fun cf ρ G => (c cf ρ G).map fun p => .nx ρ p.2
theorem s_drop (h : PS X st (tDrop (tE M cf ce))) : PS X st (tS M cf H0 w0 (sDrop ce)) := psW h fun D σ H h => by
  obtain ⟨ρ, w, G, o, g, e, k⟩ := h
  obtain ⟨⟨r, G1⟩, e1, e2⟩ := mapSome e
  subst e2
  exact ⟨ρ, w, G, r, G1, g.sl, g.st, e1, fun v H1 w1 L s x => k σ H1 w1 (g.next (g.at_.step L s)) L.mono⟩
/-- xs.append(e) -/
def sApp (co : Fn) (ce : Fn) : SFn := fun cf ρ G => (co cf ρ G).bind fun p => (objG p.1 p.2).bind fun o1 => match o1 with
  | .lst _ => (ce cf ρ p.2).bind fun q => (frz q.1).bind fun d => (objG p.1 q.2).bind fun o => match o with
    | .lst l => if l.length < sz then some (.nx (setG p.1 (.lst (l ++ [d])) ρ q.2).1 (setG p.1 (.lst (l ++ [d])) ρ q.2).2) else none
    | _ => none
  | _ => none
theorem s_app (h : PS X st (tDrop (tBM X.K "list" rAppend (tE M cf co) (tCons (tE M cf ce) tNil)))) : PS X st (tS M cf H0 w0 (sApp co ce)) := psW h fun D σ H h => by
  obtain ⟨ρ, w, G, o, g, e, k⟩ := h
  refine g.at_.run e fun ra G1 x H1 w1 e1 L1 A1 x1 => ?_
  obtain ⟨o1, e2, e3⟩ := bindSome e1
  cases o1 <;> first | (cases e3; done) | skip
  dsimp only at e3
  have g1 := g.next A1
  obtain ⟨a, rfl, ⟨xs, hx, _⟩, _⟩ := g1.mut x1 e2
  refine ⟨.inl ⟨rfl, xs, .inl (.inl hx)⟩, ?_⟩
  refine A1.run e3 fun rb G2 y H2 w2 e4 L2 A2 x2 => ?_
  obtain ⟨d, e5, e6⟩ := bindSome e4
  obtain ⟨o2, e7, e8⟩ := bindSome e6
  cases o2 <;> first | (cases e8; done) | skip
  rename_i l
  dsimp only at e8
  by_cases hz : l.length < sz
  · rw [if_pos hz] at e8
    cases e8
    obtain ⟨w', A', rd, L', m'⟩ := A2.frzM x2 e5
    have g2 := g.next A'
    have x1' : RX M H σ ρ H2 w' ra (.ref a) := by
      cases ra with
      | d z =>
        have x1 : Rep M w1 z (.ref a) := x1
        exact Rep.mon x1 (L2.mono.trans m')
      | tmp _ => cases e7
      | bor _ _ => exact x1
    obtain ⟨a', ea, ⟨ys, hy, ry⟩, mk⟩ := g2.mut x1' e7
    cases ea
    refine ⟨a, ys, y, rfl, rfl, hy, by rw [← ry.length]; exact sz_lineT hz, ?_⟩
    exact k σ _ w' (mk (.lst (ys ++ [y])) _ (by intro _ z; cases z) ⟨_, upd_same, ry.append (RepL.cons rd RepL.nil)⟩) L'.mono
  · rw [if_neg hz] at e8; cases e8
end
end Lp

namespace Lp
open PySem PySem.Spec PyProof.Rows L2

/-! ### own defs called -/
def spD (M : Md) (cf : CF) (fi np : Nat) : Sp := fun vs H Q _ => ∃ w G l r G', StOk M H w G ∧ RepL M w l vs ∧ l.length = np ∧ cf fi l G = some (r, G') ∧ ∀ v H' w', Lat H w H' w' → StOk M H' w' G' → RX M H [] [] H' w' r v → Q v H'
theorem spD_len {M : Md} {cf : CF} {fi np : Nat} (vs : List V) (H : Hp) (Q : VK) (E : XK) (h : spD M cf fi np vs H Q E) : vs.length = np := by
  obtain ⟨w, G, l, r, G', _, rl, e, _⟩ := h
  rw [← rl.length]; exact e
def cCall (fi : Nat) (a : FnL) (ds : List D) : Fn := fun cf ρ G => (a cf ρ G).bind fun p => cf fi (p.1 ++ ds) p.2
/-- a def that may be called by its name -/
structure CalD (P : Program) (w : World) (K : PySem.W.Frag) (mg : Str → Option Value) (base : Heap) (k : Nat) (M : Md) (cf : CF) (x : Str) (fi np : Nat) (ds : List D) : Prop where
  ex : ∃ (f : Addr) (fd : FuncData) (ps : List Str) (us : List Value) (dvs : List V), FnOk P w K mg base CX0 k f fd ps (spD M cf fi np) ∧ mg x = some (.ref f) ∧ PySem.W.keepIn K (.ref f) = true ∧ Binds K fd ps us ∧ Vals dvs us ∧ ∀ w, RepL M w ds dvs
section
variable {X : Cx} {M : Md} {cf : CF} {H0 : Hp} {w0 : Wd} {e a b tg oe ie : Expr} {es : List Expr} {st : Stmt} {ss : List Stmt} {ce ca cb co ci cd : Fn} {ct : FnT} {cs c1 c2 : SFn} {cl : FnL} {pos pos' apos p : Pos} {k j fi np : Nat} {ds : List D} {x : Str}
theorem RX.called {H H1 H2 : Hp} {w w1 w2 : Wd} {σ : L2.St} {ρ : Env} {r : R} {v : V} (h : RX M H1 [] [] H2 w2 r v) (L : Lat H w H1 w1) : RX M H σ ρ H2 w2 r v := by
  cases r with
  | d y => exact h
  | tmp o => exact RX.back (M := M) (H := H) (σ := σ) (ρ := ρ) (r := .tmp o) h L
  | bor i o => obtain ⟨e, _⟩ := h; cases e
theorem call_ok {dvs : List V} (hd : ∀ w, RepL M w ds dvs) {E : XK} (σ : L2.St) (H : Hp) (Q : VK) (h : tE M cf (cCall fi cl ds) σ H Q) (hn : ∀ l ρ G, ∀ z, cl cf ρ G = some (l, z) → (l ++ ds).length = np) : tCall (spD M cf fi np) dvs E (tA M cf cl) σ H Q := by
  obtain ⟨ρ, w, G, r, G', sl, st, e, q⟩ := h
  obtain ⟨⟨l, G1⟩, e1, e2⟩ := bindSome e
  refine ⟨ρ, w, G, l, G1, sl, st, e1, fun vs H1 w1 L1 s1 rl => ?_⟩
  exact ⟨w1, G1, l ++ ds, r, G', s1, rl.append (hd w1), hn _ _ _ _ e1, e2, fun v H2 w2 L2 s2 x => q v H2 w2 (L1.trans L2) s2 (x.called L1)⟩
/-- lists of a known length -/
def Len (c : FnL) (n : Nat) : Prop := ∀ cf l ρ G z, c cf ρ G = some (l, z) → l.length = n
theorem len_nil : Len cNil 0 := fun cf l ρ G z e => by cases e; rfl
theorem len_cons {n : Nat} (h : Len cl n) : Len (cCons ca cl) (n + 1) := fun cf l ρ G z e => by
  obtain ⟨p, _, e⟩ := bindSome e
  obtain ⟨d, _, e⟩ := bindSome e
  obtain ⟨⟨q, G2⟩, e1, e2⟩ := bindSome e
  cases e2
  rw [List.length_cons, h _ _ _ _ _ e1]
theorem x_call {n : Nat} (c : CalD X.prog X.w X.K X.mg X.base k M cf x fi np ds) (hr : Room j X.A) (hk : k ≤ j) (hg : Gl X x) (ha : PA X (a :: es) (tA M cf cl)) (hs : isStar a = false) (hs2 : es.any isStar = false) (hl : Len cl n) (hn : n + ds.length = np)
    (hdb : (x == ("__debug__" : Str)) = false := by decide) : PE X (.Call (.Name x p) (a :: es) [] pos) (tE M cf (cCall fi cl ds)) := by
  obtain ⟨f, fd, ps, us, dvs, F, hm, kp, b, d, hd⟩ := c.ex
  exact peW (pe_call F (hr.mono hk) hg hm kp b d pass0 ha hdb (starEach_plain hs) (starEach_any hs2)) fun σ H Q h => call_ok hd σ H Q h fun l ρ G z e => by
    rw [List.length_append, hl _ _ _ _ _ e]; exact hn
theorem x_call0 (c : CalD X.prog X.w X.K X.mg X.base k M cf x fi np ds) (hr : Room j X.A) (hk : k ≤ j) (hg : Gl X x) (hn : ds.length = np)
    (hdb : (x == ("__debug__" : Str)) = false := by decide) : PE X (.Call (.Name x p) [] [] pos) (tE M cf (cCall fi cNil ds)) := by
  obtain ⟨f, fd, ps, us, dvs, F, hm, kp, b, d, hd⟩ := c.ex
  refine peW (pe_call0 F (hr.mono hk) hg hm kp b d pass0 hdb) fun σ H Q h => ?_
  have := call_ok (E := E0) hd σ H Q h fun l ρ G z e => by cases e; exact hn
  obtain ⟨ρ, w, G, l, G1, sl, st, e1, q⟩ := this
  cases e1
  exact q [] H w (Lat.refl H w) st RepL.nil
end

/-! ### a def by its body -/
def startE (n : Nat) (l : List D) : Env := l.map .v ++ List.replicate (n - l.length) .no
def outR : Out → Option (R × Sto)
  | .ret r G => some (r, G)
  | .nx _ G => some (.d .non, G)
  | _ => none
def runB (n : Nat) (c : SFn) (cf : CF) (l : List D) (G : Sto) : Option (R × Sto) := (c cf (startE n l) G).bind outR
theorem start_ok {M : Md} {H : Hp} {w : Wd} {l : List D} {vs : List V} (r : RepL M w l vs) (N : List Str) : SlOk M H w (L2.start N vs) (startE N.length l) := by
  have hl := r.length
  refine ⟨by unfold L2.start startE; simp [hl], fun i s e => ?_, fun i j o o' a e1 _ _ _ => ?_⟩
  · unfold startE at e
    by_cases hi : i < l.length
    · rw [List.getElem?_append_left (by simpa using hi), List.getElem?_map] at e
      obtain ⟨d, e1, rfl⟩ := mapSome e
      obtain ⟨v, e2, rv⟩ := r.getD e1
      refine ⟨v, ?_, rv⟩
      unfold L2.start
      rw [List.getElem?_append_left (by rw [List.length_map, ← hl]; exact hi), List.getElem?_map, e2]
      rfl
    · rw [List.getElem?_append_right (by simp; omega)] at e
      have := List.mem_of_getElem? e
      rw [List.mem_replicate] at this
      rw [this.2]; trivial
  · exfalso
    unfold startE at e1
    by_cases hi : i < l.length
    · rw [List.getElem?_append_left (by simpa using hi), List.getElem?_map] at e1
      obtain ⟨d, _, z⟩ := mapSome e1
      cases z
    · rw [List.getElem?_append_right (by simp; omega)] at e1
      have := List.mem_of_getElem? e1
      rw [List.mem_replicate] at this
      cases this.2
theorem start_fr {H0 : Hp} {l : List D} {vs : List V} {n : Nat} {N : List Str} : OwnFr H0 (L2.start N vs) (startE n l) := fun i o a e1 _ => by
  exfalso
  unfold startE at e1
  by_cases hi : i < l.length
  · rw [List.getElem?_append_left (by simpa using hi), List.getElem?_map] at e1
    obtain ⟨d, _, z⟩ := mapSome e1
    cases z
  · rw [List.getElem?_append_right (by simp; omega)] at e1
    have := List.mem_of_getElem? e1
    rw [List.mem_replicate] at this
    cases this.2
section
variable {P : Program} {w : World} {K : PySem.W.Frag} {mg : Str → Option Value} {base : Heap} {x qual : Str} {params : Arguments} {body : List Stmt} {scope : Scope} {dvs : List V} {kws : List (Str × V)} {f : Addr} {fd : FuncData}
theorem fn_ok {N ps : List Str} {k fi : Nat} {M : Md} {cf cf' : CF} {c : SFn} (F : FunD K x qual params body scope dvs kws f fd) (S : FnScope N ps scope)
    (hb : ∀ (cdv : Value) (A : Around) (outer : List PySem.Env) (s : Shared) (H : Hp) (w0 : Wd) (E : XK), Room k (A.deeper (envOfC qual scope s.heap.objs.size f cdv)) → PSs (cxOf CX0 P w K mg base N qual scope f cdv A outer s H E).nox body (tS M cf H w0 c))
    (hk : ∀ l G z, l.length = ps.length → cf' fi l G = some z → runB N.length c cf l G = some z) : FnOk P w K mg base CX0 (k + 1) f fd ps (spD M cf' fi ps.length) := by
  refine F.ok S spD_len fun cdv A outer s H vs Q E hr h => ?_
  obtain ⟨w0, G, l, r, G', st, rl, hlen, e, q⟩ := h
  refine ⟨_, (hb cdv A outer s H w0 E hr).nox, ?_⟩
  obtain ⟨o, e1, e2⟩ := bindSome (hk l G _ hlen e)
  refine ⟨startE N.length l, w0, G, o, ⟨Lat.refl H w0, st, start_ok rl N, start_fr⟩, e1, ?_⟩
  cases o with
  | nx ρ G1 =>
    cases e2
    exact fun σ H1 w1 g _ => q .non H1 w1 g.lat g.st of_non
  | ret r1 G1 =>
    cases e2
    exact fun v H1 w1 L s1 x => q v H1 w1 L s1 x
  | bk _ _ => cases e2
  | ct _ _ => cases e2
end
end Lp

namespace Lp
open PySem PySem.Spec PyProof.Rows L2

/-! ### the rules, as the printed proofs use them -/
section
variable {X : Cx} {M : Md} {cf : CF} {H0 : Hp} {w0 : Wd} {e a b c tg oe ie lo hi iter elt : Expr} {es rest ifs : List Expr} {st : Stmt} {ss A B : List Stmt} {ce ca cb cc co ci cd : Fn} {ct ta tb : FnT} {cs c1 c2 : SFn} {cl src : FnL} {pos pos' apos p p2 kp : Pos} {k j fi np : Nat} {ds : List D} {x : Str}
theorem n_var {i : Nat} (hN : X.N[i]? = some x := by rfl) (hv : Vis X.env.scope x := by first | exact Or.inl rfl | exact Or.inr (Or.inl rfl) | exact Or.inr (Or.inr rfl)) (hd : (x == ("__debug__" : Str)) = false := by decide) (hcd : (x == ("__classdict__" : Str)) = false := by decide) : PE X (.Name x pos) (tE M cf (cVar i)) := x_var hN hv hd hcd
theorem n_gi {i : Int} (h : ∃ t, X.mg x = some (.int i t)) (hg : Gl X x := by rfl) (hd : (x == ("__debug__" : Str)) = false := by decide) : PE X (.Name x pos) (tE M cf (cC (.int i))) := by
  obtain ⟨t, h⟩ := h
  exact x_glob (v := .int i) hg h ⟨t, rfl⟩ hd fun w => by simp only [Rep]
theorem n_gs {i : Str} (h : ∃ t, X.mg x = some (.str i t)) (hg : Gl X x := by rfl) (hd : (x == ("__debug__" : Str)) = false := by decide) : PE X (.Name x pos) (tE M cf (cC (.str i))) := by
  obtain ⟨t, h⟩ := h
  exact x_glob (v := .str i) hg h ⟨t, rfl⟩ hd fun w => by simp only [Rep]
theorem n_ty {t : Ty} (hm : X.mg x = none) (hv : bootBuiltins x = some (.type t.nm)) (hg : Gl X x := by rfl) (hn : x ≠ "__name__" := by decide) (hd : (x == ("__debug__" : Str)) = false := by decide) : PE X (.Name x pos) (tE M cf (cC (.ty t))) :=
  x_cst (pe_bltn (v := .ty t.nm) hg hm hv rfl hn hd) fun w => by simp only [Rep]
theorem n_bin {op : Operator} {f : R → R → Option R} (hM : X.K = M.K) (ha : PE X a (tE M cf ca)) (hb : PE X b (tE M cf cb)) (hf : opF op = some f := by rfl) : PE X (.BinOp a op b pos) (tE M cf (cBin f ca cb)) := x_bin (opF_ok hM hf) ha hb
theorem n_cmp {op : CmpOp} {f : R → R → Option Bool} (hM : X.K = M.K) (hu : X.A.units + 64 < cLine) (ha : PE X a (tE M cf ca)) (hb : PE X b (tE M cf cb)) (hf : cmpF op = some f := by rfl) : PE X (.Compare a [op] [b] pos) (tE M cf (cBin (vb f) ca cb)) := x_cmp (cmpF_ok hM hu hf) ha hb (cmpF_mark hf b)
theorem n_tcmp {op : CmpOp} {f : R → R → Option Bool} (hM : X.K = M.K) (hu : X.A.units + 64 < cLine) (ha : PE X a (tE M cf ca)) (hb : PE X b (tE M cf cb)) (hf : cmpF op = some f := by rfl) : PT X (.Compare a [op] [b] pos) (tT M cf (cTv (cBin (vb f) ca cb))) := t_cmp (cmpF_ok hM hu hf) ha hb (cmpF_mark hf b)
theorem n_chain {op op' : CmpOp} {p p' : Int → Int → Bool} (ha : PE X a (tE M cf ca)) (hb : PE X b (tE M cf cb)) (hc : PE X c (tE M cf cc)) (h1 : ordF op = some p := by rfl) (h2 : ordF op' = some p' := by rfl) : PE X (.Compare a [op, op'] [b, c] pos) (tE M cf (cVt (cChain (cmpI p) (cmpI p') ca cb cc))) := x_chain (ordF_ok h1) (ordF_ok h2) ha hb hc (ordF_mark h1 h2 b c)
theorem n_tchain {op op' : CmpOp} {p p' : Int → Int → Bool} (ha : PE X a (tE M cf ca)) (hb : PE X b (tE M cf cb)) (hc : PE X c (tE M cf cc)) (h1 : ordF op = some p := by rfl) (h2 : ordF op' = some p' := by rfl) : PT X (.Compare a [op, op'] [b, c] pos) (tT M cf (cChain (cmpI p) (cmpI p') ca cb cc)) := t_chain (ordF_ok h1) (ordF_ok h2) ha hb hc (ordF_mark h1 h2 b c)
theorem n_tval (ha : PE X a (tE M cf ca)) (he : ∀ whole, isTrue a X.env whole = (do let v ← whole; standAt a.pos; holding [v] (truthy v)) := by intro _; rfl) : PT X a (tT M cf (cTv ca)) := t_val ha he
theorem n_tand1 (ha : PT X a (tT M cf ta)) : PW X (.BoolOp .And [a] pos) (tT M cf ta) := pw_and1 ha
theorem n_tor1 (ha : PT X a (tT M cf ta)) : PW X (.BoolOp .Or [a] pos) (tT M cf ta) := pw_or1 ha
theorem n_tand (ha : PT X a (tT M cf ta)) (hb : PW X (.BoolOp .And (b :: rest) pos) (tT M cf tb)) : PW X (.BoolOp .And (a :: b :: rest) pos) (tT M cf (cAnd ta tb)) := pwW (pw_and ha hb) t_and
theorem n_tor (ha : PT X a (tT M cf ta)) (hb : PW X (.BoolOp .Or (b :: rest) pos) (tT M cf tb)) : PW X (.BoolOp .Or (a :: b :: rest) pos) (tT M cf (cOr ta tb)) := pwW (pw_or ha hb) t_or
theorem n_tnot (ha : PT X a (tT M cf ta)) : PT X (.UnaryOp .Not a pos) (tT M cf (cNot ta)) := ptW (pt_not ha) t_not
theorem n_ix (hM : X.K = M.K) (hu : X.A.units + 64 < cLine) (ha : PE X a (tE M cf ca)) (hb : PE X b (tE M cf cb)) (hs : isSlice b = false := by rfl) : PE X (.Subscript a b pos) (tE M cf (cBinG ixG ca cb)) := x_ixG hM hu ha hb hs
theorem n_sl {lo hi : Option Expr} {cl ch : FnO} (hM : X.K = M.K) (ha : PE X a (tE M cf ca)) (hl : PO X lo (tO M cf cl)) (hh : PO X hi (tO M cf ch)) : PE X (.Subscript a (.Slice lo hi none p2) pos) (tE M cf (cSl ca cl ch)) := x_sl hM ha hl hh
theorem n_cons (ha : PE X a (tE M cf ca)) (hr : PA X es (tA M cf cl)) (hs : isStar a = false := by rfl) : PA X (a :: es) (tA M cf (cCons ca cl)) := x_cons ha hr hs
theorem n_rcons {cr : FnRs} (ha : PE X a (tE M cf ca)) (hr : PA X es (tR M cf cr)) (hs : isStar a = false := by rfl) : PA X (a :: es) (tR M cf (rCons ca cr)) := r_cons ha hr hs
/-! built-in functions: the names must be the built-in's (hm) -/
theorem n_len (hM : X.K = M.K) (hm : X.mg "len" = none) (ha : PE X a (tE M cf ca)) (hg : Gl X "len" := by rfl) (hs : isStar a = false := by rfl) : PE X (.Call (.Name "len" p) [a] [] pos) (tE M cf (cUnG lenR ca)) := x_b1 (c_len hM) hg hm boot_len ha hs (by decide) (by decide)
theorem n_sum (hM : X.K = M.K) (hc : X.calm = true) (hm : X.mg "sum" = none) (ha : PE X a (tE M cf ca)) (hg : Gl X "sum" := by rfl) (hs : isStar a = false := by rfl) : PE X (.Call (.Name "sum" p) [a] [] pos) (tE M cf (cUnG sumR ca)) := x_b1 (c_sum hM hc) hg hm PyProof.Rows.boot_sum ha hs (by decide) (by decide)
theorem n_all (hM : X.K = M.K) (hc : X.calm = true) (hm : X.mg "all" = none) (ha : PE X a (tE M cf ca)) (hg : Gl X "all" := by rfl) (hs : isStar a = false := by rfl) : PE X (.Call (.Name "all" p) [a] [] pos) (tE M cf (cUnG allR ca)) := x_b1 (c_all hM hc) hg hm PyProof.Rows.boot_all ha hs (by decide) (by decide)
theorem n_any (hM : X.K = M.K) (hc : X.calm = true) (hm : X.mg "any" = none) (ha : PE X a (tE M cf ca)) (hg : Gl X "any" := by rfl) (hs : isStar a = false := by rfl) : PE X (.Call (.Name "any" p) [a] [] pos) (tE M cf (cUnG anyR ca)) := x_b1 (c_any hM hc) hg hm PyProof.Rows.boot_any ha hs (by decide) (by decide)
theorem n_list (hM : X.K = M.K) (hm : X.mg "list" = none) (ha : PE X a (tE M cf ca)) (hg : Gl X "list" := by rfl) (hs : isStar a = false := by rfl) : PE X (.Call (.Name "list" p) [a] [] pos) (tE M cf (cUnG listR ca)) := x_t1 (c_list hM) hg hm PyProof.Rows.boot_list ha hs (by decide) (by decide)
theorem n_tuple (hM : X.K = M.K) (hm : X.mg "tuple" = none) (ha : PE X a (tE M cf ca)) (hg : Gl X "tuple" := by rfl) (hs : isStar a = false := by rfl) : PE X (.Call (.Name "tuple" p) [a] [] pos) (tE M cf (cUnG tupleR ca)) := x_t1 (c_tuple hM) hg hm PyProof.Rows.boot_tuple ha hs (by decide) (by decide)
theorem n_abs (hm : X.mg "abs" = none) (ha : PE X a (tE M cf ca)) (hg : Gl X "abs" := by rfl) (hs : isStar a = false := by rfl) : PE X (.Call (.Name "abs" p) [a] [] pos) (tE M cf (cUnG absR ca)) := x_b1 c_abs hg hm PyProof.Rows.boot_abs ha hs (by decide) (by decide)
theorem n_int (hm : X.mg "int" = none) (ha : PE X a (tE M cf ca)) (hg : Gl X "int" := by rfl) (hs : isStar a = false := by rfl) : PE X (.Call (.Name "int" p) [a] [] pos) (tE M cf (cUnG intR ca)) := x_t1 c_int hg hm PyProof.Rows.boot_int ha hs (by decide) (by decide)
theorem n_max (hM : X.K = M.K) (hc : X.calm = true) (hm : X.mg "max" = none) (ha : PE X a (tE M cf ca)) (hg : Gl X "max" := by rfl) (hs : isStar a = false := by rfl) : PE X (.Call (.Name "max" p) [a] [] pos) (tE M cf (cUnG maxR ca)) := x_b1 (c_max hM hc) hg hm PyProof.Rows.boot_max ha hs (by decide) (by decide)
theorem n_min (hM : X.K = M.K) (hc : X.calm = true) (hm : X.mg "min" = none) (ha : PE X a (tE M cf ca)) (hg : Gl X "min" := by rfl) (hs : isStar a = false := by rfl) : PE X (.Call (.Name "min" p) [a] [] pos) (tE M cf (cUnG minR ca)) := x_b1 (c_min hM hc) hg hm PyProof.Rows.boot_min ha hs (by decide) (by decide)
theorem n_sorted (hM : X.K = M.K) (hm : X.mg "sorted" = none) (ha : PE X a (tE M cf ca)) (hg : Gl X "sorted" := by rfl) (hs : isStar a = false := by rfl) : PE X (.Call (.Name "sorted" p) [a] [] pos) (tE M cf (cUnG sortedOnly ca)) := x_b1 (c_sorted hM) hg hm PyProof.Rows.boot_sorted ha hs (by decide) (by decide)
theorem n_sortedRev (hM : X.K = M.K) (hm : X.mg "sorted" = none) (ha : PE X a (tE M cf ca)) (hg : Gl X "sorted" := by rfl) (hs : isStar a = false := by rfl) : PE X (.Call (.Name "sorted" p) [a] [⟨some "reverse", .Constant (.bool true) k p2, kp⟩] pos) (tE M cf (cUnG sortedRev ca)) := x_sortedRev hM hg hm ha hs
theorem n_max2 (hc : X.calm = true) (hm : X.mg "max" = none) (ha : PE X a (tE M cf ca)) (hb : PE X b (tE M cf cb)) (hg : Gl X "max" := by rfl) (hs : isStar a = false := by rfl) (hs2 : isStar b = false := by rfl) : PE X (.Call (.Name "max" p) [a, b] [] pos) (tE M cf (cBinG max2R ca cb)) := x_b2 (c_max2 hc) hg hm PyProof.Rows.boot_max ha hb hs hs2 (by decide) (by decide)
theorem n_min2 (hc : X.calm = true) (hm : X.mg "min" = none) (ha : PE X a (tE M cf ca)) (hb : PE X b (tE M cf cb)) (hg : Gl X "min" := by rfl) (hs : isStar a = false := by rfl) (hs2 : isStar b = false := by rfl) : PE X (.Call (.Name "min" p) [a, b] [] pos) (tE M cf (cBinG min2R ca cb)) := x_b2 (c_min2 hc) hg hm PyProof.Rows.boot_min ha hb hs hs2 (by decide) (by decide)
theorem n_divmod (hm : X.mg "divmod" = none) (ha : PE X a (tE M cf ca)) (hb : PE X b (tE M cf cb)) (hg : Gl X "divmod" := by rfl) (hs : isStar a = false := by rfl) (hs2 : isStar b = false := by rfl) : PE X (.Call (.Name "divmod" p) [a, b] [] pos) (tE M cf (cBinG divmodR ca cb)) := x_b2 c_divmod hg hm PyProof.Rows.boot_divmod ha hb hs hs2 (by decide) (by decide)
/-! what is walked -/
theorem n_rng1 (hm : X.mg "range" = none) (ha : PE X a (tE M cf ca)) (hg : Gl X "range" := by rfl) (hs : isStar a = false := by rfl) : PI X tg (.Call (.Name "range" p) [a] [] pos) (tI M cf (cRng1 (cCons ca cNil))) := x_rng1 hg hm (n_cons ha x_nil hs) hs
theorem n_rng2 (hm : X.mg "range" = none) (ha : PE X a (tE M cf ca)) (hb : PE X b (tE M cf cb)) (hg : Gl X "range" := by rfl) (hs : isStar a = false := by rfl) (hs2 : isStar b = false := by rfl) : PI X tg (.Call (.Name "range" p) [a, b] [] pos) (tI M cf (cRng2 (cCons ca (cCons cb cNil)))) := x_rng2 hg hm (n_cons ha (n_cons hb x_nil hs2) hs) hs hs2
theorem n_rng3 (hm : X.mg "range" = none) (ha : PE X a (tE M cf ca)) (hb : PE X b (tE M cf cb)) (hc : PE X c (tE M cf cc)) (hg : Gl X "range" := by rfl) (hs : isStar a = false := by rfl) (hs2 : isStar b = false := by rfl) (hs3 : isStar c = false := by rfl) : PI X tg (.Call (.Name "range" p) [a, b, c] [] pos) (tI M cf (cRng3 (cCons ca (cCons cb (cCons cc cNil))))) := x_rng3 hg hm (n_cons ha (n_cons hb (n_cons hc x_nil hs3) hs2) hs) hs hs2 hs3
theorem n_enum1 {elts : List Expr} {kk : Nat} {tpos : Pos} (hM : X.K = M.K) (hm : X.mg "enumerate" = none) (ha : PE X a (tE M cf ca)) (hg : Gl X "enumerate" := by rfl) (hs : isStar a = false := by rfl) : PI X (.Tuple elts kk tpos) (.Call (.Name "enumerate" p) [a] [] pos) (tI M cf (cEnum1 (cCons ca cNil))) := x_enum1 hM hg hm (n_cons ha x_nil hs) hs
theorem n_enum2 {elts : List Expr} {kk : Nat} {tpos : Pos} (hM : X.K = M.K) (hm : X.mg "enumerate" = none) (ha : PE X a (tE M cf ca)) (hb : PE X b (tE M cf cb)) (hg : Gl X "enumerate" := by rfl) (hs : isStar a = false := by rfl) (hs2 : isStar b = false := by rfl) : PI X (.Tuple elts kk tpos) (.Call (.Name "enumerate" p) [a, b] [] pos) (tI M cf (cEnum2 (cCons ca (cCons cb cNil)))) := x_enum2 hM hg hm (n_cons ha (n_cons hb x_nil hs2) hs) hs hs2
/-! keys of a dict that stands for good -/
def cKeysI (a : Fn) : FnL := fun cf ρ G => (a cf ρ G).bind fun p => match p.1 with
  | .d (.dK ks _) => some (ks.map kD, p.2)
  | .d (.dT ks _) => some (ks.map fun k => .tup (k.map kD), p.2)
  | _ => none
theorem kD_rep {w : Wd} : ∀ k : Key, Rep M w (kD k) (kV k)
  | .inl i => by simp only [kD, kV, Rep]
  | .inr s => by simp only [kD, kV, Rep]
theorem kDs_rep {w : Wd} : ∀ k : List Key, RepL M w (k.map kD) (k.map kV)
  | [] => RepL.nil
  | k :: l => RepL.cons (kD_rep k) (kDs_rep l)
theorem ylds_keys {w1 : Wd} {a : Addr} {od : Obj} {kvs : List (Key × V)} (h : w1.fz a = some (.frz od (.dK kvs))) : Ylds M (Itk a od kvs) ((kvs.map (·.1)).map kD) w1 := by
  have hH : ∀ {H : Hp} {w : Wd}, Mono w1 w → FzH w H → H a = some (.frz od (.dK kvs)) := fun m f => f _ _ (m.fz _ _ h)
  refine ⟨fun i d H w e m f => ⟨hH m f, ?_⟩, fun i d H w y H' e m f q => ?_, fun H w m f => ⟨hH m f, ?_⟩⟩
  · have := (List.getElem?_eq_some_iff.mp e).1
    simpa using this
  · obtain ⟨rfl, k, v, e1, rfl⟩ := q
    rw [List.map_map, List.getElem?_map, e1] at e
    cases e
    exact ⟨w, Lat.refl _ _, fun _ h => h, f, kD_rep k⟩
  · simp
theorem ylds_keysT {w1 : Wd} {a : Addr} {od : Obj} {kvs : List (List Key × V)} (h : w1.fz a = some (.frz od (.dT kvs))) : Ylds M (Itkt a od kvs) ((kvs.map (·.1)).map fun k => .tup (k.map kD)) w1 := by
  have hH : ∀ {H : Hp} {w : Wd}, Mono w1 w → FzH w H → H a = some (.frz od (.dT kvs)) := fun m f => f _ _ (m.fz _ _ h)
  refine ⟨fun i d H w e m f => ⟨hH m f, ?_⟩, fun i d H w y H' e m f q => ?_, fun H w m f => ⟨hH m f, ?_⟩⟩
  · have := (List.getElem?_eq_some_iff.mp e).1
    simpa using this
  · obtain ⟨rfl, k, v, p, e1, rfl, e2⟩ := q
    rw [List.map_map, List.getElem?_map, e1] at e
    cases e
    cases z : w.fz p with
    | some o =>
      have e3 := f p o z
      rw [e2] at e3
      cases e3
      exact ⟨w, Lat.refl _ _, fun _ h => h, f, by
        simp only [Function.comp, Rep]
        exact ⟨p, _, rfl, z, kDs_rep k⟩⟩
    | none =>
      refine ⟨w.put p (.tup (k.map kV)), ⟨(Wd.put_lat (H := H') z).1, ⟨[], by simp [Wd.put], fun _ h => absurd h (by simp)⟩, fun b h1 h2 => ?_, fun _ _ h => .inr h, fun _ _ h _ => h, fun _ h => h⟩, fun G s => s.freeze e2 z fun hm => ?_, fun b o h => ?_, ?_⟩
      · by_cases hb : b = p
        · subst hb; exact .inr ⟨_, e2⟩
        · have h1 : upd w.fz p (.tup (k.map kV)) b ≠ none := h1
          rw [upd_ne hb] at h1; exact absurd h2 h1
      · obtain ⟨n, hn, e⟩ := List.getElem_of_mem hm
        have hn' : n < G.length := by rw [← s.len]; exact hn
        obtain ⟨q, _⟩ := s.at_ n G[n] p (List.getElem?_eq_getElem hn') (by rw [List.getElem?_eq_getElem hn, e])
        exact q.nt (.inr ⟨_, e2⟩)
      · have h : upd w.fz p (.tup (k.map kV)) b = some o := h
        by_cases hb : b = p
        · subst hb; rw [upd_same] at h; cases h; exact e2
        · rw [upd_ne hb] at h; exact f b o h
      · simp only [Function.comp, Rep]
        exact ⟨p, _, rfl, (show upd w.fz p _ p = _ from upd_same), kDs_rep k⟩
  · simp
theorem n_keys (he : PE X e (tE M cf ce)) : PI X tg e (tI M cf (cKeysI ce)) := ⟨fun pins s σ H R I h => (pi_keys he).run pins s σ H R I (by
  obtain ⟨ρ, w, G, l, G', sl, st, ev, q⟩ := h
  refine (At.start sl st).run ev fun ra G1 v H1 w1 e1 L1 A1 x1 => ?_
  dsimp only at e1
  split at e1
  · cases e1
    have x1 : Rep M w1 (.dK _ _) v := x1
    simp only [Rep] at x1
    obtain ⟨a, od, kvs, rfl, hh, rfl, _⟩ := x1
    exact ⟨a, od, rfl, .inl ⟨kvs, A1.st.fzH _ _ hh, q _ H1 w1 L1 A1.st (ylds_keys hh)⟩⟩
  · cases e1
    have x1 : Rep M w1 (.dT _ _) v := x1
    simp only [Rep] at x1
    obtain ⟨a, od, kvs, rfl, hh, rfl, _⟩ := x1
    exact ⟨a, od, rfl, .inr ⟨kvs, A1.st.fzH _ _ hh, q _ H1 w1 L1 A1.st (ylds_keysT hh)⟩⟩
  · cases e1)⟩
end
end Lp

namespace Lp
open PySem PySem.Spec PyProof.Rows L2

/-! ### isinstance -/
def tyD : D → Sto → Option Ty
  | .non, _ => some .non | .bl _, _ => some .bool | .int _, _ => some .int | .str _, _ => some .str
  | .tup _, _ => some .tuple | .lst _, _ => some .list | .scr _, _ => some .list | .dK _ _, _ => some .dict
  | .ref n, G => match G[n]? with
    | some (.lst _) => some .list
    | some (.dK _ _) => some .dict
    | some (.dT _ _) => some .dict
    | _ => none
  | _, _ => none
def isiT (a b : Ty) : Bool := decide (a = b) || (decide (a = .bool) && decide (b = .int))
theorem kit_ok (a b : Ty) : kitB a.nm b.nm = some (isiT a b) := by
  cases a <;> cases b <;> decide +kernel
def cIsi (a : Fn) (t : Ty) : Fn := fun cf ρ G => (a cf ρ G).bind fun p => (dOf p.1).bind fun d => (tyD d p.2).map fun s => (.d (.bl (isiT s t)), p.2)
section
variable {X : Cx} {M : Md} {cf : CF} {H0 : Hp} {w0 : Wd} {e a b c tg oe ie lo hi iter elt : Expr} {es rest ifs : List Expr} {st : Stmt} {ss A B : List Stmt} {ce ca cb cc co ci cd : Fn} {ct ta tb : FnT} {cs c1 c2 : SFn} {cl src : FnL} {pos pos' apos p p2 kp : Pos} {k j fi np : Nat} {ds : List D} {x : Str}
theorem tyD_ok {K : PySem.W.Frag} (hM : K = M.K) {H00 H : Hp} {w00 w : Wd} {σ : L2.St} {ρ : Env} {G : Sto} {d : D} {v : V} {t : Ty} (A : At M H00 w00 σ ρ H w G) (x : Rep M w d v) (e : tyD d G = some t) : TyX K H v (.type t.nm) := by
  cases d with
  | non => cases e; simp only [Rep] at x; subst x; exact .base .non
  | bl b => cases e; simp only [Rep] at x; subst x; exact .base (.bl b)
  | int i => cases e; simp only [Rep] at x; subst x; exact .base (.int i)
  | str i => cases e; simp only [Rep] at x; subst x; exact .base (.str i)
  | tup l => cases e; simp only [Rep] at x; obtain ⟨p, xs, rfl, h, _⟩ := x; exact .base (.tup (A.st.fzH _ _ h))
  | lst l => cases e; simp only [Rep] at x; obtain ⟨p, xs, rfl, h, _⟩ := x; exact .base (.lst (A.st.fzH _ _ h))
  | scr l =>
    cases e
    simp only [Rep] at x
    obtain ⟨p, xs, rfl, h, _⟩ := x
    rcases sqL_mono A.st.fzH h with (h | ⟨o, h⟩) | ⟨o, its, n, h, c, _⟩
    · exact .base (.lst h)
    · exact .base (.frz h)
    · exact .kList (by rw [hM]; exact h) c
  | dK ks vs => cases e; simp only [Rep] at x; obtain ⟨p, od, kvs, rfl, h, _⟩ := x; exact .fDict (A.st.fzH _ _ h)
  | ref n =>
    have x : RX M H00 σ ρ H w (.d (.ref n)) v := x
    simp only [tyD] at e
    split at e <;> first | (cases e; done) | skip
    · rename_i z; cases e; obtain ⟨p, rfl, _, ⟨xs, h, _⟩, _⟩ := A.ref x z; exact .base (.lst h)
    · rename_i z; cases e; obtain ⟨p, rfl, _, ⟨xs, h, _⟩, _⟩ := A.ref x z; exact .base (.dK h)
    · rename_i z; cases e; obtain ⟨p, rfl, _, ⟨xs, h, _⟩, _⟩ := A.ref x z; exact .base (.dT h)
  | _ => cases e
theorem n_isi {t : Ty} (hM : X.K = M.K) (hm : X.mg "isinstance" = none) (ha : PE X a (tE M cf ca)) (hb : PE X b (tE M cf (cC (.ty t)))) (hg : Gl X "isinstance" := by rfl) (hs : isStar a = false := by rfl) (hs2 : isStar b = false := by rfl) : PE X (.Call (.Name "isinstance" p) [a, b] [] pos) (tE M cf (cIsi ca t)) :=
  peW (pe_callB call_isi hg hm PyProof.Rows.boot_isinstance (pa_cons ha (pa_cons hb pa_nil (starEach_plain hs2)) (starEach_plain hs)) (by decide) (by decide) (starEach_plain hs) (any1 hs2)) fun σ H Q h => by
    obtain ⟨ρ, w, G, r, G', sl, st, e, q⟩ := h
    refine (At.start sl st).run e fun ra G1 x H1 w1 e1 L1 A1 x1 => ?_
    obtain ⟨d, e2, e3⟩ := bindSome e1
    obtain ⟨s, e4, e5⟩ := mapSome e3
    cases e5
    cases ra <;> first | (cases e2; done) | skip
    cases e2
    refine ⟨ρ, w1, G1, _, G1, A1.sl, A1.st, rfl, fun v H2 w2 L2 s2 x2 => ?_⟩
    have A2 := A1.step L2 s2
    have x2 : Rep M w2 (.ty t) v := x2
    simp only [Rep] at x2
    subst x2
    exact ⟨x, .ty t.nm, _, _, isiT s t, rfl, .ty _, tyD_ok hM A2 (Rep.lat x1 L2) e4, kit_ty (kit_ok s t), A2.fin q of_bl⟩

/-! ### comprehensions -/
theorem pts1 (ht : PT X c (tT M cf ta)) : PTs X [c] (tT M cf ta) := pts_one ht
theorem pts0 : PTs X [] (tT M cf cYes) := ⟨fun pins s σ H Q I h => pts_nil.run pins s σ H Q I (by
  obtain ⟨ρ, w, G, b, G', sl, st, e, q⟩ := h
  cases e
  exact q H w (Lat.refl H w) st)⟩
theorem gnm {i : Nat} (hN : X.N.Nodup) (hi : X.N[i]? = some x := by rfl) (hx : Loc X.env.scope x := by first | exact Or.inl rfl | exact Or.inr rfl) (hf : X.fn x = true ∨ X.env.scope.names.lookup x = some .local := by first | exact .inl rfl | exact .inr rfl) : PG X (.Name x pos) (tgG M.K (.nm i)) := pg_name hN hi hx hf
theorem pgs0 : PGs X [] (gNames []) := pgs_nil
theorem pgs1 {i : Nat} {is : List Nat} {px : Pos} (hN : X.N.Nodup) (h : PGs X es (gNames is)) (hi : X.N[i]? = some x := by rfl) (hx : Loc X.env.scope x := by first | exact Or.inl rfl | exact Or.inr rfl) (hf : X.fn x = true ∨ X.env.scope.names.lookup x = some .local := by first | exact .inl rfl | exact .inr rfl)
    (hs : (assignEach (.Name x px :: es) X.env).map (·.2) = assign (.Name x px) X.env :: (assignEach es X.env).map (·.2) := by rfl) : PGs X (.Name x px :: es) (gNames (i :: is)) := pgs_cons (pg_name hN hi hx hf) h hs
theorem gtp {is : List Nat} {kk : Nat} (hM : X.K = M.K) (hc : X.calm = true) (h : PGs X es (gNames is)) (hn : (assignEach es X.env).length = is.length := by rfl) (hst : (assignEach es X.env).findIdx? (·.1) = none := by rfl) : PG X (.Tuple es kk pos) (tgG M.K (.tup is)) := by
  have := pg_tup (X := X) (pos := pos) (k := kk) hc h hn hst
  rw [hM] at this
  exact this
theorem n_lc {scope : Scope} {own : List (Str × Nat)} {T : Tg} {vs : List Nat} (hM : X.K = M.K) (hc : X.calm = true) (hN : X.N.Nodup) (hi : PI X tg iter (tI M cf src)) (ok : blkC X.N X.env.scope scope own = true) (hvs : vs = own.map (·.2))
    (hv : ∀ i ∈ tgIx T, i ∈ vs)
    (hg : ∀ (s : Shared) (H : Hp) (C : Addr) (cl : List (Str × Addr)) (fp : List Addr), PG (X.blk s H scope (compEnvC scope cl C X.env) fp) tg (tgG M.K T)) (ht : ∀ (s : Shared) (H : Hp) (C : Addr) (cl : List (Str × Addr)) (fp : List Addr), PTs (X.blk s H scope (compEnvC scope cl C X.env) fp) ifs (tT M cf ct))
    (he : ∀ (s : Shared) (H : Hp) (C : Addr) (cl : List (Str × Addr)) (fp : List Addr), PE (X.blk s H scope (compEnvC scope cl C X.env) fp) elt (tE M cf ce)) (hs : ∀ x, foldedSetIterable iter X.env x = pure x := by intro _; rfl) :
    PE X (.ListComp elt [⟨tg, iter, ifs, 0⟩] scope pos) (tE M cf (cLc vs src T ct ce)) := by
  subst hvs
  exact peW (pe_lc hc hN hi (blkOk_by ok) hg ht he hs) (tLc_ok rfl hv)
/-- x = [..] on one line -/
theorem n_setLc {m : Mo} {i : Nat} {y : Str} {py spos : Pos} {scope : Scope} {own : List (Str × Nat)} {T : Tg} {vs : List Nat} (hM : X.K = M.K) (hc : X.calm = true) (hN : X.N.Nodup) (hi : PI X tg iter (tI M cf src)) (ok : blkC X.N X.env.scope scope own = true) (hvs : vs = own.map (·.2))
    (hv : ∀ i ∈ tgIx T, i ∈ vs)
    (hg : ∀ (s : Shared) (H : Hp) (C : Addr) (cl : List (Str × Addr)) (fp : List Addr), PG (X.blk s H scope (compEnvC scope cl C X.env) fp) tg (tgG M.K T)) (ht : ∀ (s : Shared) (H : Hp) (C : Addr) (cl : List (Str × Addr)) (fp : List Addr), PTs (X.blk s H scope (compEnvC scope cl C X.env) fp) ifs (tT M cf ct))
    (he : ∀ (s : Shared) (H : Hp) (C : Addr) (cl : List (Str × Addr)) (fp : List Addr), PE (X.blk s H scope (compEnvC scope cl C X.env) fp) elt (tE M cf ce)) (hs : ∀ x, foldedSetIterable iter X.env x = pure x := by intro _; rfl)
    (hy : X.N[i]? = some y := by rfl) (hyl : X.env.scope.names.lookup y = some .local := by rfl) (hk : X.env.scope.kind = .function := by rfl) (hl : (py.line == pos.line) = true := by rfl) (hsn : (scope.names.any fun (n, k) => n == y && (k == .local || k == .cell)) = false := by rfl) :
    PS X (.Assign [.Name y py] (.ListComp elt [⟨tg, iter, ifs, 0⟩] scope pos) spos) (tS M cf H0 w0 (sAsg m i (cLc vs src T ct ce))) := by
  subst hvs
  exact s_asg (psW (ps_setLc hc hN hy hyl (sw_true hk hyl hl hsn) hi (blkOk_by ok) hg ht he hs) fun D σ H h => tLc_ok rfl hv σ H _ h)

/-! ### statements -/
theorem n_asg {m : Mo} {i : Nat} {px : Pos} (hN : X.N.Nodup) (he : PE X e (tE M cf ce)) (hi : X.N[i]? = some x := by rfl) (hx : Loc X.env.scope x := by first | exact Or.inl rfl | exact Or.inr rfl) (hf : X.fn x = true ∨ X.env.scope.names.lookup x = some .local := by first | exact .inl rfl | exact .inr rfl)
    (hs : swapsWithSole [.Name x px] e pos.line X.env = pure false := by rfl) (hw : swappedStores [.Name x px] e X.env = pure none := by rfl) (h1 : (assignEach [.Name x px] X.env).map (·.2) = [assign (.Name x px) X.env] := by rfl) : PS X (.Assign [.Name x px] e pos) (tS M cf H0 w0 (sAsg m i ce)) :=
  s_asg (ps_asg he (pg_name hN hi hx hf) hs hw h1)
theorem n_asgG {g : GFn} (he : PE X e (tE M cf ce)) (hg : PG X tg (tG M cf H0 w0 g)) (hs : swapsWithSole [tg] e pos.line X.env = pure false := by rfl) (hw : swappedStores [tg] e X.env = pure none := by rfl) (h1 : (assignEach [tg] X.env).map (·.2) = [assign tg X.env] := by rfl) : PS X (.Assign [tg] e pos) (tS M cf H0 w0 (sAsgG g ce)) :=
  s_asgG (ps_asg he hg hs hw h1)
theorem n_gnm {i : Nat} (hN : X.N.Nodup) (hi : X.N[i]? = some x := by rfl) (hx : Loc X.env.scope x := by first | exact Or.inl rfl | exact Or.inr rfl) (hf : X.fn x = true ∨ X.env.scope.names.lookup x = some .local := by first | exact .inl rfl | exact .inr rfl) : PG X (.Name x pos) (tG M cf H0 w0 (gNm i)) := g_nm (pg_name hN hi hx hf)
theorem n_gn0 : PGs X [] (tGs M cf H0 w0 gN0) := g_nil pgs_nil
theorem n_gc {g : GFn} {gs : GFns} (h1 : PG X tg (tG M cf H0 w0 g)) (h2 : PGs X es (tGs M cf H0 w0 gs)) (hs : (assignEach (tg :: es) X.env).map (·.2) = assign tg X.env :: (assignEach es X.env).map (·.2) := by rfl) : PGs X (tg :: es) (tGs M cf H0 w0 (gC1 g gs)) := g_cons h1 h2 hs
theorem n_gtp {gs : GFns} {kk n : Nat} (hM : X.K = M.K) (hc : X.calm = true) (h : PGs X es (tGs M cf H0 w0 gs)) (hn : (assignEach es X.env).length = n := by rfl) (hst : (assignEach es X.env).findIdx? (·.1) = none := by rfl) : PG X (.Tuple es kk pos) (tG M cf H0 w0 (gTp gs n)) := g_tup hM hc h hn hst
theorem n_gsb (hu : X.A.units + 64 < cLine) (ho : PE X oe (tE M cf co)) (hi : PE X ie (tE M cf ci)) (ha : ∀ v, assign (.Subscript oe ie pos) X.env v = (do
      let ov ← holding [v] (eval oe X.env)
      let iv ← holding [v, ov] (eval ie X.env)
      standAt pos
      holding [v, ov, iv] (setItem ov iv v)
      release [v, ov, iv] []) := by intro _; rfl) : PG X (.Subscript oe ie pos) (tG M cf H0 w0 (gSb co ci)) := g_sub hu ho hi ha
theorem n_drop (he : PE X e (tE M cf ce)) (hs : swapsWith e none pos.line X.env = pure false := by rfl) : PS X (.Expr e pos) (tS M cf H0 w0 (sDrop ce)) := s_drop (ps_expr he hs)
theorem n_app {cpos : Pos} (ho : PE X oe (tE M cf co)) (he : PE X e (tE M cf ce)) (hs1 : isStar e = false := by rfl) (hbase : attributeBase oe "append" X.env (eval oe X.env) = eval oe X.env := by rfl)
    (hfew : ((backTo cpos (starEach [e] X.env)).all (fun x => !x.1) && (backToKw cpos (keywordEach [] X.env)).all (fun x => x.1.isSome) && decide ([e].length + ([] : List Keyword).length + (if ([] : List Keyword).isEmpty then 0 else 1) < 30)) = true := by rfl)
    (hline : (apos.endLine == cpos.line) = true := by rfl)
    (hs : swapsWith (.Call (.Attribute oe "append" apos) [e] [] cpos) none pos.line X.env = pure false := by rfl) : PS X (.Expr (.Call (.Attribute oe "append" apos) [e] [] cpos) pos) (tS M cf H0 w0 (sApp co ce)) :=
  s_app (ps_expr (pe_bm PySem.F.plainAttrs_list PySem.F.slot_list_append PySem.F.type_list_append mt_append ho (pa_cons he pa_nil (starEach_plain hs1)) hbase hfew hline (starEach_plain hs1) rfl) hs)
theorem n_par2 {m1 m2 : Mo} {i j : Nat} {y : Str} {c : FnRs} {px py pt pt2 : Pos} {kt k2 : Nat} (hc : X.calm = true) (hN : X.N.Nodup) (ha : PA X [a, b] (tR M cf c)) (hi : X.N[i]? = some x := by rfl) (hj : X.N[j]? = some y := by rfl) (hij : i ≠ j := by decide)
    (hx : X.env.scope.names.lookup x = some .local := by rfl) (hy : X.env.scope.names.lookup y = some .local := by rfl)
    (hw : swappedStores [.Tuple [.Name x px, .Name y py] kt pt] (.Tuple [a, b] k2 pt2) X.env = pure (some [x, y]) := by rfl)
    (hs : swapsWithSole [.Tuple [.Name x px, .Name y py] kt pt] (.Tuple [a, b] k2 pt2) pos.line X.env = pure false := by rfl) :
    PS X (.Assign [.Tuple [.Name x px, .Name y py] kt pt] (.Tuple [a, b] k2 pt2) pos) (tS M cf H0 w0 (sPar [(m1, i), (m2, j)] c)) := s_par2 (ps_par hc hN hi hj hij hx hy ha hw hs)
theorem n_parT {ms : List (Mo × Nat)} {c : FnRs} {kk k2 : Nat} {pt2 : Pos} {es2 : List Expr} (hM : X.K = M.K) (hc : X.calm = true) (ha : PA X es2 (tR M cf c)) (hg : PGs X es (gNames (ms.map (·.2)))) (hm : ms.length ≤ 100 := by decide) (hn : (assignEach es X.env).length = ms.length := by rfl) (hst : (assignEach es X.env).findIdx? (·.1) = none := by rfl)
    (hs : swapsWithSole [.Tuple es kk pos'] (.Tuple es2 k2 pt2) pos.line X.env = pure false := by rfl) (hw : swappedStores [.Tuple es kk pos'] (.Tuple es2 k2 pt2) X.env = pure none := by rfl) (h1 : (assignEach [.Tuple es kk pos'] X.env).map (·.2) = [assign (.Tuple es kk pos') X.env] := by rfl) :
    PS X (.Assign [.Tuple es kk pos'] (.Tuple es2 k2 pt2) pos) (tS M cf H0 w0 (sPar ms c)) := s_parT hm (ps_asg (pe_tup ha) (pg_tup hc hg hn hst) hs hw h1)
theorem n_if (ht : PT X e (tT M cf ct)) (ha : PSs X A (tS M cf H0 w0 c1)) (hb : PSs X B (tS M cf H0 w0 c2)) : PS X (.If e A B pos) (tS M cf H0 w0 (sIf ct c1 c2)) := s_if ht ha hb
theorem n_for {T : Tg} (hM : X.K = M.K) (hc : X.calm = true) (hi : PI X tg iter (tI M cf src)) (hg : PG X tg (tgG M.K T)) (hb : PSs X ss (tS M cf H0 w0 cs)) (hp : PassesOwn (model X.prog X.w) X.A X.env X.xe := by exact PySem.PassesOwn.never) (hs : ∀ x, foldedSetIterable iter X.env x = pure x := by intro _; rfl) :
    PS X (.For tg iter ss [] pos) (tS M cf H0 w0 (sFor src T cs)) := s_for hM hp hc hi hg hb hs
theorem n_while {n : Nat} (ht : PT X e (tT M cf ct)) (hb : PSs X ss (tS M cf H0 w0 cs)) (hp : PassesOwn (model X.prog X.w) X.A X.env X.xe := by exact PySem.PassesOwn.never) : PS X (.While e ss [] pos) (tS M cf H0 w0 (sWhile n ct cs)) := s_while hp ht hb

/-! ### one's own dict stands for good -/
def frzDSl : Sl → Sl
  | .own (.dK ks vs) => .v (.dK ks vs)
  | .own (.dT ks vs) => .v (.dT ks vs)
  | s => s
def sFrzD (i : Nat) (s : SFn) : SFn := fun cf ρ G => match ρ[i]? with
  | some x => s cf (ρ.set i (frzDSl x)) G
  | none => none
theorem GS.lockD {H : Hp} {w : Wd} {σ : L2.St} {ρ : Env} {G : Sto} {i : Nat} {o : Ob} {p : Addr} {d : D} {ho : HO} (g : GS M H0 w0 σ ρ H w G) (e : ρ[i]? = some (.own o)) (e3 : σ[i]? = some (some (.ref p))) (n1 : w.fz p = none) (n2 : p ∉ w.al) (hp : H p ≠ none) (nt : ∀ xs, ho ≠ .tup xs)
    (rd : Rep M (w.put p ho) d (.ref p)) : GS M H0 w0 σ (ρ.set i (.v d)) (upd H p ho) (w.put p ho) G ∧ Mono w (w.put p ho) := by
  have n0 := g.fr i o p e e3
  have hs : σ.set i (some (.ref p)) = σ := by
    obtain ⟨hi, e1⟩ := List.getElem?_eq_some_iff.mp e3
    rw [← e1]
    exact List.set_getElem_self hi
  have mo : Mono w (w.put p ho) := ⟨(Wd.put_lat (H := H) n1).1, (Wd.put_lat (H := H) (o := ho) n1).2⟩
  have obne : ∀ {b : Addr} {ob : Ob}, b ≠ p → ObAt M w H b ob → ObAt M (w.put p ho) (upd H p ho) b ob := fun {b ob} ne q => by
    have q := q.mon mo
    cases ob with
    | lst l => obtain ⟨xs, e, r⟩ := q; exact ⟨xs, (upd_ne ne).trans e, r⟩
    | dK ks vs => obtain ⟨xs, e, q, r⟩ := q; exact ⟨xs, (upd_ne ne).trans e, q, r⟩
    | dT ks vs => obtain ⟨xs, e, q, r⟩ := q; exact ⟨xs, (upd_ne ne).trans e, q, r⟩
    | ins c ns l => obtain ⟨dx, fs, e, q, r⟩ := q; exact ⟨dx, fs, (upd_ne ne).trans e, q, r⟩
  refine ⟨⟨⟨fun b u h => mo.fz b u (g.lat.fz b u h), g.lat.al, fun b h1 h2 => ?_, fun b xs h => ?_, fun b u h n => ?_, fun b h => ?_⟩, ⟨fun b u h => ?_, g.st.len, g.st.nd, fun m ob b e1 e2 => ?_⟩, ⟨by rw [List.length_set]; exact g.sl.len, fun j s ej => ?_, fun j k o1 o2 x a1 a2 a3 a4 => ?_⟩, fun j ob b ej ek => ?_⟩, mo⟩
  · by_cases hb : b = p
    · subst hb; exact .inl n0
    · have h1 : upd w.fz p ho b ≠ none := h1
      rw [upd_ne hb] at h1; exact g.lat.nw b h1 h2
  · by_cases hb : b = p
    · subst hb; exact .inl n0
    · rw [upd_ne hb] at h; exact g.lat.tb b xs h
  · rw [upd_ne (ne_of_none h n0)]; exact g.lat.kp b u h n
  · by_cases hb : b = p
    · subst hb; rw [upd_same]; simp
    · rw [upd_ne hb]; exact g.lat.dm b h
  · have h : upd w.fz p ho b = some u := h
    by_cases hb : b = p
    · subst hb; rw [upd_same] at h ⊢; exact h
    · rw [upd_ne hb] at h ⊢; exact g.st.fzH b u h
  · obtain ⟨q, z⟩ := g.st.at_ m ob b e1 e2
    have ne : b ≠ p := fun z => n2 (by rw [← z]; exact List.mem_of_getElem? e2)
    exact ⟨obne ne q, by show upd w.fz p ho b = none; rw [upd_ne ne]; exact z⟩
  · by_cases z : i = j
    · subst z
      rw [List.getElem?_set_self (List.getElem?_eq_some_iff.mp e).1] at ej
      cases ej
      exact ⟨.ref p, e3, rd⟩
    · rw [List.getElem?_set_ne z] at ej
      have q := g.sl.at_ j s ej
      cases s with
      | no => trivial
      | v d => obtain ⟨v, e1, r⟩ := q; exact ⟨v, e1, r.mon mo⟩
      | own ob2 =>
        obtain ⟨b, e1, r, m1, m2⟩ := q
        have nb : b ≠ p := fun zz => z (g.sl.sep j i ob2 o b ej e e1 (by rw [zz]; exact e3)).symm
        exact ⟨b, e1, obne nb r, by show upd w.fz p ho b = none; rw [upd_ne nb]; exact m1, m2⟩
  · have nj : i ≠ j := fun z => by subst z; rw [List.getElem?_set_self (List.getElem?_eq_some_iff.mp e).1] at a1; cases a1
    have nk : i ≠ k := fun z => by subst z; rw [List.getElem?_set_self (List.getElem?_eq_some_iff.mp e).1] at a2; cases a2
    rw [List.getElem?_set_ne nj] at a1
    rw [List.getElem?_set_ne nk] at a2
    exact g.sl.sep j k o1 o2 x a1 a2 a3 a4
  · have nj : i ≠ j := fun z => by subst z; rw [List.getElem?_set_self (List.getElem?_eq_some_iff.mp e).1] at ej; cases ej
    rw [List.getElem?_set_ne nj] at ej
    exact g.fr j ob b ej ek
theorem n_frzD {i : Nat} (h : PS X st (tS M cf H0 w0 cs)) : PS X st (tS M cf H0 w0 (sFrzD i cs)) := ⟨fun pins s σ H D I hh => by
  obtain ⟨ρ, w, G, o, g, e, k⟩ := hh
  unfold sFrzD at e
  cases z : ρ[i]? with
  | none => rw [z] at e; cases e
  | some x =>
    rw [z] at e
    have same : ρ.set i x = ρ := by
      obtain ⟨hi, e1⟩ := List.getElem?_eq_some_iff.mp z
      rw [← e1]
      exact List.set_getElem_self hi
    have stay : frzDSl x = x → wpAny (model X.prog X.w) X.A (exec st X.env) (SP X pins D) X.xe s := fun hx => h.run pins s σ H D I ⟨ρ, w, G, o, g, by dsimp only at e; rwa [hx, same] at e, k⟩
    cases x with
    | no => exact stay rfl
    | v d => exact stay rfl
    | own ob =>
      obtain ⟨p, e3, q, n1, n2⟩ := g.sl.at_ i _ z
      cases ob with
      | lst l => exact stay rfl
      | ins c ns l => exact stay rfl
      | dK ks vs =>
        obtain ⟨kvs, hp, hk, r⟩ := q
        obtain ⟨od, I2⟩ := I.lock hp trivial
        obtain ⟨g2, m2⟩ := g.lockD (d := .dK ks vs) (ho := .frz od (.dK kvs)) z e3 n1 n2 (by rw [hp]; simp) (by intro _ z; cases z) (by
          simp only [Rep]
          exact ⟨p, od, kvs, rfl, (show upd w.fz p _ p = _ from upd_same), hk, r.put n1⟩)
        exact h.run pins s σ _ D I2 ⟨_, _, G, o, g2, e, k.mono m2⟩
      | dT ks vs =>
        obtain ⟨kvs, hp, hk, r⟩ := q
        obtain ⟨od, I2⟩ := I.lock hp trivial
        obtain ⟨g2, m2⟩ := g.lockD (d := .dT ks vs) (ho := .frz od (.dT kvs)) z e3 n1 n2 (by rw [hp]; simp) (by intro _ z; cases z) (by
          simp only [Rep]
          exact ⟨p, od, kvs, rfl, (show upd w.fz p _ p = _ from upd_same), hk, r.put n1⟩)
        exact h.run pins s σ _ D I2 ⟨_, _, G, o, g2, e, k.mono m2⟩⟩
end
end Lp

namespace Lp
open PySem PySem.Spec PyProof.Rows L2

def ltP (i j : Int) : Bool := decide (i < j)
def leP (i j : Int) : Bool := decide (i ≤ j)
def gtP (i j : Int) : Bool := decide (j < i)
def geP (i j : Int) : Bool := decide (j ≤ i)
def ltI : R → R → Option Bool := cmpI ltP
def leI : R → R → Option Bool := cmpI leP
def gtI : R → R → Option Bool := cmpI gtP
def geI : R → R → Option Bool := cmpI geP
/-! ### an argument that is shared from now on -/
def shr (r : R) (G : Sto) : Option (D × Sto) := match r with
  | .d x => some (x, G)
  | .tmp o => some (.ref G.length, G ++ [o])
  | .bor _ _ => none
section
variable {X : Cx} {M : Md} {cf : CF} {a : Expr} {es : List Expr} {ca : Fn} {cl : FnL}
theorem At.shr {H0 H : Hp} {w0 w : Wd} {σ : L2.St} {ρ : Env} {G G' : Sto} {r : R} {d : D} {v : V} (A : At M H0 w0 σ ρ H w G) (x : RX M H0 σ ρ H w r v) (e : Lp.shr r G = some (d, G')) : ∃ w', At M H0 w0 σ ρ H w' G' ∧ Rep M w' d v ∧ Mono w w' := by
  cases r with
  | d y => cases e; exact ⟨w, A, x, Mono.refl w⟩
  | bor i o => cases e
  | tmp o =>
    cases e
    obtain ⟨p, rfl, ob, n1, n2, n3⟩ := x
    have mo : Mono w ⟨w.fz, w.al ++ [p]⟩ := ⟨fun _ _ h => h, fun n a h => by
      show (w.al ++ [p])[n]? = some a
      rw [List.getElem?_append_left (List.getElem?_eq_some_iff.mp h).1]; exact h⟩
    obtain ⟨t, et, nt⟩ := A.lat.al
    refine ⟨⟨w.fz, w.al ++ [p]⟩, ⟨⟨A.lat.fz, ⟨t ++ [p], by show w.al ++ [p] = _; rw [et, List.append_assoc], fun a ha => ?_⟩, A.lat.nw, A.lat.tb, A.lat.kp, A.lat.dm⟩, ⟨A.st.fzH, by show (w.al ++ [p]).length = (G ++ [o]).length; rw [List.length_append, List.length_append, A.st.len]; rfl, ?_, fun n ob2 a e1 e2 => ?_⟩, A.sl0⟩, ?_, mo⟩
    · rcases List.mem_append.mp ha with z | z
      · exact nt a z
      · rw [List.mem_singleton.mp z]; exact n3
    · show (w.al ++ [p]).Nodup
      rw [List.nodup_append]
      exact ⟨A.st.nd, by simp, fun a ha b hb z => n2 (by rw [List.mem_singleton.mp hb] at z; rw [← z]; exact ha)⟩
    · have e2 : (w.al ++ [p])[n]? = some a := e2
      by_cases hn : n < G.length
      · rw [List.getElem?_append_left hn] at e1
        rw [List.getElem?_append_left (by rw [A.st.len]; exact hn)] at e2
        obtain ⟨q, z⟩ := A.st.at_ n ob2 a e1 e2
        exact ⟨q.mon mo, z⟩
      · rw [List.getElem?_append_right (by omega)] at e1
        rw [List.getElem?_append_right (by rw [A.st.len]; omega)] at e2
        rw [A.st.len] at e2
        cases hk : n - G.length with
        | zero =>
          rw [hk] at e1 e2
          cases e1; cases e2
          exact ⟨ob.mon mo, n1⟩
        | succ k => rw [hk] at e1; simp at e1
    · simp only [Rep]
      exact ⟨p, rfl, by show (w.al ++ [p])[G.length]? = some p; rw [← A.st.len]; simp⟩
def cConsR (a : Fn) (r : FnL) : FnL := fun cf ρ G => (a cf ρ G).bind fun p => (shr p.1 p.2).bind fun z => (r cf ρ z.2).bind fun q => some (z.1 :: q.1, q.2)
theorem n_consR (ha : PE X a (tE M cf ca)) (hr : PA X es (tA M cf cl)) (hs : isStar a = false := by rfl) : PA X (a :: es) (tA M cf (cConsR ca cl)) := paW (pa_cons ha hr (starEach_plain hs)) fun σ H Q h => by
  obtain ⟨ρ, w, G, l, G', sl, st, e, q⟩ := h
  refine (At.start sl st).run e fun ra G1 x H1 w1 e1 L1 A1 x1 => ?_
  obtain ⟨⟨d, G2⟩, e2, e3⟩ := bindSome e1
  obtain ⟨w1', A1', r1, _⟩ := A1.shr x1 e2
  refine A1'.runA e3 fun l2 G3 vs H2 w2 e4 L2 A2 r2 => ?_
  cases e4
  exact q _ H2 w2 A2.lat A2.st (RepL.cons (r1.lat L2) r2)
theorem len_consR {n : Nat} (h : Len cl n) : Len (cConsR ca cl) (n + 1) := fun cf l ρ G z e => by
  obtain ⟨p, _, e⟩ := bindSome e
  obtain ⟨d, _, e⟩ := bindSome e
  obtain ⟨⟨q, G2⟩, e1, e2⟩ := bindSome e
  cases e2
  rw [List.length_cons, h _ _ _ _ _ e1]
end
end Lp
namespace Lp
/-- the defs by number: how many names, what the body does -/
abbrev Tb := Nat → Option (Nat × SFn)
def runT (T : Tb) : Nat → CF
  | 0 => fun _ _ _ => none
  | k + 1 => fun fi l G => match T fi with
    | some p => runB p.1 p.2 (runT T k) l G
    | none => none
theorem runT_succ (T : Tb) (k fi n : Nat) (d : SFn) (l : List D) (G : Sto) (h : T fi = some (n, d)) : runT T (k + 1) fi l G = (d (runT T k) (startE n l) G).bind outR := by
  show (match T fi with
    | some p => runB p.1 p.2 (runT T k) l G
    | none => none) = _
  rw [h]
  rfl
end Lp

namespace Lp
open PySem PySem.Spec PyProof.Rows L2

/-! ### reckoning with denotations: lazily, from the left -/
theorem bind_lazy {α β : Type} {a a' : Option α} {f : α → Option β} (h : a = a') : a.bind f = a'.bind f := by rw [h]
theorem map_lazy {α β : Type} {a a' : Option α} {f : α → β} (h : a = a') : a.map f = a'.map f := by rw [h]
section
variable (cf : CF) (ρ : Env) (G : Sto)
@[simp] theorem ap_cVar (i : Nat) : cVar i cf ρ G = (match ρ[i]? with | some (.v d) => some (.d d, G) | some (.own o) => some (.bor i o, G) | _ => none) := Eq.trans rfl rfl
@[simp] theorem ap_cC (d : D) : cC d cf ρ G = some (.d d, G) := Eq.trans rfl rfl
@[simp] theorem ap_cBin (f a b) : cBin f a b cf ρ G = (a cf ρ G).bind fun p => (b cf ρ p.2).bind fun q => (f p.1 q.1).map (·, q.2) := Eq.trans rfl rfl
@[simp] theorem ap_cBinG (f a b) : cBinG f a b cf ρ G = (a cf ρ G).bind fun p => (b cf ρ p.2).bind fun q => (f p.1 q.1 q.2).map (·, q.2) := Eq.trans rfl rfl
@[simp] theorem ap_cUn (f a) : cUn f a cf ρ G = (a cf ρ G).bind fun p => (f p.1).map (·, p.2) := Eq.trans rfl rfl
@[simp] theorem ap_cUnG (f a) : cUnG f a cf ρ G = (a cf ρ G).bind fun p => (f p.1 p.2).map (·, p.2) := Eq.trans rfl rfl
@[simp] theorem ap_cTv (c) : cTv c cf ρ G = (c cf ρ G).bind fun p => match p.1 with | .d (.bl b) => some (b, p.2) | _ => none := Eq.trans rfl rfl
@[simp] theorem ap_cVt (c) : cVt c cf ρ G = (c cf ρ G).map fun p => (.d (.bl p.1), p.2) := Eq.trans rfl rfl
@[simp] theorem ap_cAnd (a b) : cAnd a b cf ρ G = (a cf ρ G).bind fun p => if p.1 = true then b cf ρ p.2 else some (false, p.2) := Eq.trans rfl rfl
@[simp] theorem ap_cOr (a b) : cOr a b cf ρ G = (a cf ρ G).bind fun p => if p.1 = true then some (true, p.2) else b cf ρ p.2 := Eq.trans rfl rfl
@[simp] theorem ap_cNot (a) : cNot a cf ρ G = (a cf ρ G).map fun p => (!p.1, p.2) := Eq.trans rfl rfl
@[simp] theorem ap_cIf (t a b) : cIf t a b cf ρ G = (t cf ρ G).bind fun p => if p.1 = true then a cf ρ p.2 else b cf ρ p.2 := Eq.trans rfl rfl
@[simp] theorem ap_cChain (f g a b c) : cChain f g a b c cf ρ G = (a cf ρ G).bind fun p => (b cf ρ p.2).bind fun q => (f p.1 q.1).bind fun k => if k = true then (c cf ρ q.2).bind fun r => (g q.1 r.1).map (·, r.2) else some (false, q.2) := Eq.trans rfl rfl
@[simp] theorem ap_cNil : cNil cf ρ G = some ([], G) := Eq.trans rfl rfl
@[simp] theorem ap_cCons (a r) : cCons a r cf ρ G = (a cf ρ G).bind fun p => (frz p.1).bind fun d => (r cf ρ p.2).bind fun q => some (d :: q.1, q.2) := Eq.trans rfl rfl
@[simp] theorem ap_cConsR (a r) : cConsR a r cf ρ G = (a cf ρ G).bind fun p => (shr p.1 p.2).bind fun z => (r cf ρ z.2).bind fun q => some (z.1 :: q.1, q.2) := Eq.trans rfl rfl
@[simp] theorem ap_cStar (a r) : cStar a r cf ρ G = (a cf ρ G).bind fun p => (itemsOf p.1).bind fun l => (r cf ρ p.2).bind fun q => some (l ++ q.1, q.2) := Eq.trans rfl rfl
@[simp] theorem ap_cTup (c) : cTup c cf ρ G = (c cf ρ G).bind fun p => if p.1.length ≤ sz then some (.d (.tup p.1), p.2) else none := Eq.trans rfl rfl
@[simp] theorem ap_cLst (c) : cLst c cf ρ G = (c cf ρ G).bind fun p => if p.1.length ≤ sz then some (.tmp (.lst p.1), p.2) else none := Eq.trans rfl rfl
@[simp] theorem ap_cNo : cNo cf ρ G = some (none, G) := Eq.trans rfl rfl
@[simp] theorem ap_cPart (a) : cPart a cf ρ G = (a cf ρ G).bind fun p => match p.1 with | .d (.int i) => some (some i, p.2) | _ => none := Eq.trans rfl rfl
@[simp] theorem ap_cSl (a lo hi) : cSl a lo hi cf ρ G = (a cf ρ G).bind fun p => (lo cf ρ p.2).bind fun l => (hi cf ρ l.2).bind fun h => (slR p.1 l.1 h.1).map (·, h.2) := Eq.trans rfl rfl
@[simp] theorem ap_cSeqI (a) : cSeqI a cf ρ G = (a cf ρ G).bind fun p => (frz p.1).bind fun d => (elems d).map (·, p.2) := Eq.trans rfl rfl
@[simp] theorem ap_cRng1 (a) : cRng1 a cf ρ G = (a cf ρ G).bind fun p => match p.1 with | [.int j] => if rgOk j = true then some (rangeI 0 j.toNat, p.2) else none | _ => none := Eq.trans rfl rfl
@[simp] theorem ap_cRng2 (a) : cRng2 a cf ρ G = (a cf ρ G).bind fun p => match p.1 with | [.int i, .int j] => if (rgOk i && rgOk j) = true then some (rangeI i (j - i).toNat, p.2) else none | _ => none := Eq.trans rfl rfl
@[simp] theorem ap_cRng3 (a) : cRng3 a cf ρ G = (a cf ρ G).bind fun p => match p.1 with
  | [.int i, .int j, .int c] => if (rgOk i && rgOk j && decide (c = -1)) = true then some (rangeC i c (i - j).toNat, p.2) else
      if (decide (c ≠ 0) && decide (c.natAbs < 1073741824) && Builtin.Range.small i j c) = true then some (rangeC i c (Builtin.Range.rangeSize i j c).toNat, p.2) else none
  | _ => none := Eq.trans rfl rfl
@[simp] theorem ap_cEnum1 (a) : cEnum1 a cf ρ G = (a cf ρ G).bind fun p => match p.1 with | [d] => (seqD d).map fun l => (enumD 0 l, p.2) | _ => none := Eq.trans rfl rfl
@[simp] theorem ap_cEnum2 (a) : cEnum2 a cf ρ G = (a cf ρ G).bind fun p => match p.1 with | [d, .int k] => if rgOk k = true then (seqD d).map fun l => (enumD k l, p.2) else none | _ => none := Eq.trans rfl rfl
@[simp] theorem ap_cKeysI (a) : cKeysI a cf ρ G = (a cf ρ G).bind fun p => match p.1 with | .d (.dK ks _) => some (ks.map kD, p.2) | .d (.dT ks _) => some (ks.map fun k => .tup (k.map kD), p.2) | _ => none := Eq.trans rfl rfl
@[simp] theorem ap_cYes : cYes cf ρ G = some (true, G) := Eq.trans rfl rfl
@[simp] theorem ap_cLc (vs src tg t e) : cLc vs src tg t e cf ρ G = (src cf ρ G).bind fun p => if p.1.length ≤ 1000000 then (lcL tg t e cf (wipeR ρ vs) p.1 p.2).map fun q => (.tmp (.lst q.1), q.2) else none := Eq.trans rfl rfl
@[simp] theorem ap_cCall (fi a ds) : cCall fi a ds cf ρ G = (a cf ρ G).bind fun p => cf fi (p.1 ++ ds) p.2 := Eq.trans rfl rfl
@[simp] theorem ap_cIsi (a t) : cIsi a t cf ρ G = (a cf ρ G).bind fun p => (dOf p.1).bind fun d => (tyD d p.2).map fun s => (.d (.bl (isiT s t)), p.2) := Eq.trans rfl rfl
@[simp] theorem ap_cGet2 (a b c) : cGet2 a b c cf ρ G = (a cf ρ G).bind fun p => match dicG p.1 p.2 with
  | none => none
  | some _ => (b cf ρ p.2).bind fun q => (c cf ρ q.2).bind fun z => (dicG p.1 z.2).bind fun o => (dOf q.1).bind fun k => (dOf z.1).bind fun x => (obGet o k).map fun u => (.d (u.getD x), z.2) := Eq.trans rfl rfl
@[simp] theorem ap_cNewT : cNewT cf ρ G = some (.tmp (.dT [] []), G) := Eq.trans rfl rfl
@[simp] theorem ap_cNewK : cNewK cf ρ G = some (.tmp (.dK [] []), G) := Eq.trans rfl rfl
@[simp] theorem ap_rNil : rNil cf ρ G = some ([], G) := Eq.trans rfl rfl
@[simp] theorem ap_rCons (a r) : rCons a r cf ρ G = (a cf ρ G).bind fun p => (r cf ρ p.2).map fun q => (p.1 :: q.1, q.2) := Eq.trans rfl rfl
@[simp] theorem ap_sNext : sNext cf ρ G = some (.nx ρ G) := Eq.trans rfl rfl
@[simp] theorem ap_sSeq (a b) : sSeq a b cf ρ G = (a cf ρ G).bind fun o => match o with | .nx ρ' G' => b cf ρ' G' | o => some o := Eq.trans rfl rfl
@[simp] theorem ap_sBreak : sBreak cf ρ G = some (.bk ρ G) := Eq.trans rfl rfl
@[simp] theorem ap_sCont : sCont cf ρ G = some (.ct ρ G) := Eq.trans rfl rfl
@[simp] theorem ap_sNever : sNever cf ρ G = none := Eq.trans rfl rfl
@[simp] theorem ap_sIf (t a b) : sIf t a b cf ρ G = (t cf ρ G).bind fun p => match p.1 with | true => a cf ρ p.2 | false => b cf ρ p.2 := Eq.trans rfl rfl
@[simp] theorem ap_sRet (c) : sRet c cf ρ G = (c cf ρ G).map fun p => .ret (retR p.1) p.2 := Eq.trans rfl rfl
@[simp] theorem ap_sRetN : sRetN cf ρ G = some (.ret (.d .non) G) := Eq.trans rfl rfl
@[simp] theorem ap_sFrz (i s) : sFrz i s cf ρ G = (match ρ[i]? with | some x => s cf (ρ.set i (frzSl x)) G | none => none) := Eq.trans rfl rfl
@[simp] theorem ap_sFrzD (i s) : sFrzD i s cf ρ G = (match ρ[i]? with | some x => s cf (ρ.set i (frzDSl x)) G | none => none) := Eq.trans rfl rfl
@[simp] theorem ap_sAsg (m i c) : sAsg m i c cf ρ G = (c cf ρ G).bind fun p => (putN m i p.1 ρ p.2).map fun q => .nx q.1 q.2 := Eq.trans rfl rfl
@[simp] theorem ap_sFor (src tg body) : sFor src tg body cf ρ G = (src cf ρ G).bind fun p => forL tg body cf p.1 ρ p.2 := Eq.trans rfl rfl
@[simp] theorem ap_sWhile (n c b) : sWhile n c b cf ρ G = whileL c b cf n ρ G := Eq.trans rfl rfl
@[simp] theorem ap_sPar (ms c) : sPar ms c cf ρ G = (c cf ρ G).bind fun p => (putAll ms p.1 ρ p.2).map fun q => .nx q.1 q.2 := Eq.trans rfl rfl
@[simp] theorem ap_sAsgG (g c) : sAsgG g c cf ρ G = (c cf ρ G).bind fun p => (frz p.1).bind fun d => (g cf d ρ p.2).map fun q => .nx q.1 q.2 := Eq.trans rfl rfl
@[simp] theorem ap_sDrop (c) : sDrop c cf ρ G = (c cf ρ G).map fun p => .nx ρ p.2 := Eq.trans rfl rfl
@[simp] theorem ap_sApp (co ce) : sApp co ce cf ρ G = (co cf ρ G).bind fun p => (objG p.1 p.2).bind fun o1 => match o1 with
  | .lst _ => (ce cf ρ p.2).bind fun q => (frz q.1).bind fun d => (objG p.1 q.2).bind fun o => match o with
    | .lst l => if l.length < sz then some (.nx (setG p.1 (.lst (l ++ [d])) ρ q.2).1 (setG p.1 (.lst (l ++ [d])) ρ q.2).2) else none
    | _ => none
  | _ => none := Eq.trans rfl rfl
variable (d : D) (l : List D)
@[simp] theorem ap_gNm (i) : gNm i cf d ρ G = some (ρ.set i (.v d), G) := Eq.trans rfl rfl
@[simp] theorem ap_gN0 : gN0 cf [] ρ G = some (ρ, G) := Eq.trans rfl rfl
@[simp] theorem ap_gC1 (g gs) : gC1 g gs cf (d :: l) ρ G = (g cf d ρ G).bind fun p => gs cf l p.1 p.2 := Eq.trans rfl rfl
@[simp] theorem ap_gTp (gs n) : gTp gs n cf (.tup l) ρ G = if l.length = n then gs cf l ρ G else none := Eq.trans rfl rfl
@[simp] theorem ap_gSb (co ci) : gSb co ci cf d ρ G = (co cf ρ G).bind fun p => (ci cf ρ p.2).bind fun q => (dOf q.1).bind fun k => (objG p.1 q.2).bind fun o => (obPut o k d).map fun o' => setG p.1 o' ρ q.2 := Eq.trans rfl rfl
end
@[simp] theorem outR_ret (r : R) (G : Sto) : outR (.ret r G) = some (r, G) := Eq.trans rfl rfl
@[simp] theorem outR_nx (ρ : Env) (G : Sto) : outR (.nx ρ G) = some (.d .non, G) := Eq.trans rfl rfl
@[simp] theorem retR_d (x : D) : retR (.d x) = .d x := Eq.trans rfl rfl
@[simp] theorem retR_tmp (o : Ob) : retR (.tmp o) = .tmp o := Eq.trans rfl rfl
@[simp] theorem retR_bor (i : Nat) (o : Ob) : retR (.bor i o) = .tmp o := Eq.trans rfl rfl
@[simp] theorem frz_d (x : D) : frz (.d x) = some x := Eq.trans rfl rfl
@[simp] theorem frz_lst (l : List D) : frz (.tmp (.lst l)) = some (.lst l) := Eq.trans rfl rfl
@[simp] theorem dOf_d (x : D) : dOf (.d x) = some x := Eq.trans rfl rfl
@[simp] theorem shr_d (x : D) (G : Sto) : shr (.d x) G = some (x, G) := Eq.trans rfl rfl
@[simp] theorem shr_tmp (o : Ob) (G : Sto) : shr (.tmp o) G = some (.ref G.length, G ++ [o]) := Eq.trans rfl rfl
@[simp] theorem vb_ap (f : R → R → Option Bool) (a b : R) : vb f a b = (f a b).map fun k => .d (.bl k) := Eq.trans rfl rfl
@[simp] theorem nb_ap (f : R → R → Option Bool) (a b : R) : nb f a b = (f a b).map (! ·) := Eq.trans rfl rfl
@[simp] theorem eqR_i (i j : Int) : eqR (.d (.int i)) (.d (.int j)) = some (decide (i = j)) := Eq.trans rfl rfl
@[simp] theorem cmpI_i (p : Int → Int → Bool) (i j : Int) : cmpI p (.d (.int i)) (.d (.int j)) = some (p i j) := Eq.trans rfl rfl
@[simp] theorem ltI_i (i j : Int) : ltI (.d (.int i)) (.d (.int j)) = some (decide (i < j)) := Eq.trans rfl rfl
@[simp] theorem leI_i (i j : Int) : leI (.d (.int i)) (.d (.int j)) = some (decide (i ≤ j)) := Eq.trans rfl rfl
@[simp] theorem gtI_i (i j : Int) : gtI (.d (.int i)) (.d (.int j)) = some (decide (j < i)) := Eq.trans rfl rfl
@[simp] theorem geI_i (i j : Int) : geI (.d (.int i)) (.d (.int j)) = some (decide (j ≤ i)) := Eq.trans rfl rfl
@[simp] theorem ltP_i (i j : Int) : ltP i j = decide (i < j) := Eq.trans rfl rfl
@[simp] theorem leP_i (i j : Int) : leP i j = decide (i ≤ j) := Eq.trans rfl rfl
@[simp] theorem gtP_i (i j : Int) : gtP i j = decide (j < i) := Eq.trans rfl rfl
@[simp] theorem geP_i (i j : Int) : geP i j = decide (j ≤ i) := Eq.trans rfl rfl
@[simp] theorem addR_i (i j : Int) : addR (.d (.int i)) (.d (.int j)) = some (.d (.int (i + j))) := Eq.trans rfl rfl
@[simp] theorem subR_i (i j : Int) : subR (.d (.int i)) (.d (.int j)) = some (.d (.int (i - j))) := Eq.trans rfl rfl
@[simp] theorem mulR_i (i j : Int) : mulR (.d (.int i)) (.d (.int j)) = if mulOkI i j = true then some (.d (.int (i * j))) else none := Eq.trans rfl rfl
@[simp] theorem fdivR_i (i j : Int) : fdivR (.d (.int i)) (.d (.int j)) = if divOk j = true then some (.d (.int (i / j))) else none := Eq.trans rfl rfl
@[simp] theorem modR_i (i j : Int) : modR (.d (.int i)) (.d (.int j)) = if 0 < j then some (.d (.int (i % j))) else none := Eq.trans rfl rfl
@[simp] theorem intR_i (i : Int) (G : Sto) : intR (.d (.int i)) G = some (.d (.int i)) := Eq.trans rfl rfl
@[simp] theorem putN_val (i : Nat) (r : R) (ρ : Env) (G : Sto) : putN .val i r ρ G = (frz r).map fun d => (ρ.set i (.v d), G) := Eq.trans rfl rfl
@[simp] theorem putN_own (i : Nat) (o : Ob) (ρ : Env) (G : Sto) : putN .own i (.tmp o) ρ G = some (ρ.set i (.own o), G) := Eq.trans rfl rfl
@[simp] theorem putAll_nil (ρ : Env) (G : Sto) : putAll [] [] ρ G = some (ρ, G) := Eq.trans rfl rfl
@[simp] theorem putAll_cons (m : Mo × Nat) (ms : List (Mo × Nat)) (r : R) (rs : List R) (ρ : Env) (G : Sto) : putAll (m :: ms) (r :: rs) ρ G = (putN m.1 m.2 r ρ G).bind fun p => putAll ms rs p.1 p.2 := Eq.trans rfl rfl
@[simp] theorem sz_eq : sz = 16777216 := Eq.trans rfl rfl
/-- whole numbers as data -/
def iD (l : List Int) : List D := l.map .int
@[simp] theorem intsOf_iD : ∀ l : List Int, intsOf (iD l) = some l
  | [] => rfl
  | i :: l => by show (intsOf (iD l)).map (i :: ·) = _; rw [intsOf_iD l]; rfl
@[simp] theorem iD_len (l : List Int) : (iD l).length = l.length := List.length_map _
@[simp] theorem bsOf_map {α : Type} (p : α → Bool) : ∀ l : List α, bsOf (l.map fun x => D.bl (p x)) = some (l.map p)
  | [] => rfl
  | i :: l => by show (bsOf (l.map fun x => D.bl (p x))).map (p i :: ·) = _; rw [bsOf_map p l]; rfl
theorem iD_app (l m : List Int) : iD l ++ iD m = iD (l ++ m) := by simp [iD]
theorem iD_rep (i : Int) (n : Nat) : (List.replicate n [D.int i]).flatten = iD (List.replicate n i) := by
  induction n with
  | zero => rfl
  | succ n ih => rw [List.replicate_succ, List.flatten_cons, ih]; rfl
theorem rangeI_map : ∀ (n : Nat) (lo : Int), rangeI lo n = (List.range n).map fun k => D.int (lo + (k : Nat))
  | 0, _ => rfl
  | n + 1, lo => by
    show D.int lo :: rangeI (lo + 1) n = _
    rw [rangeI_map n, List.range_succ_eq_map, List.map_cons, List.map_map]
    congr 1
    · simp
    · apply List.map_congr_left
      intro k _
      simp only [Function.comp, D.int.injEq]
      omega
section
variable (l : List D) (i : Nat) (o : Ob) (ρ : Env) (G : Sto) (d : D) (n : Nat) (zs : List Int)
@[simp] theorem elems_lst : elems (.lst l) = some l := Eq.trans rfl rfl
@[simp] theorem elems_tup : elems (.tup l) = some l := Eq.trans rfl rfl
@[simp] theorem elems_scr : elems (.scr l) = some l := Eq.trans rfl rfl
@[simp] theorem itemsOf_tup : itemsOf (.d (.tup l)) = some l := Eq.trans rfl rfl
@[simp] theorem itemsOf_lst : itemsOf (.d (.lst l)) = some l := Eq.trans rfl rfl
@[simp] theorem itemsOf_tmp : itemsOf (.tmp (.lst l)) = some l := Eq.trans rfl rfl
@[simp] theorem itemsOf_bor : itemsOf (.bor i (.lst l)) = some l := Eq.trans rfl rfl
@[simp] theorem itemsOf_scr : itemsOf (.d (.scr l)) = some l := Eq.trans rfl rfl
@[simp] theorem objG_bor : objG (.bor i o) G = some o := Eq.trans rfl rfl
@[simp] theorem objG_ref : objG (.d (.ref n)) G = G[n]? := Eq.trans rfl rfl
@[simp] theorem setG_bor (o' : Ob) : setG (.bor i o) o' ρ G = (ρ.set i (.own o'), G) := Eq.trans rfl rfl
@[simp] theorem setG_ref : setG (.d (.ref n)) o ρ G = (ρ, G.set n o) := Eq.trans rfl rfl
@[simp] theorem lenR_tup : lenR (.d (.tup l)) G = some (.d (.int l.length)) := Eq.trans rfl rfl
@[simp] theorem lenR_lst : lenR (.d (.lst l)) G = some (.d (.int l.length)) := Eq.trans rfl rfl
@[simp] theorem lenR_scr : lenR (.d (.scr l)) G = some (.d (.int l.length)) := Eq.trans rfl rfl
@[simp] theorem lenR_tmp : lenR (.tmp (.lst l)) G = some (.d (.int l.length)) := Eq.trans rfl rfl
@[simp] theorem lenR_bor : lenR (.bor i (.lst l)) G = some (.d (.int l.length)) := Eq.trans rfl rfl
@[simp] theorem sumR_lst : sumR (.d (.lst l)) G = (intsOf l).map fun ns => .d (.int ns.sum) := Eq.trans rfl rfl
@[simp] theorem sumR_scr : sumR (.d (.scr l)) G = (intsOf l).map fun ns => .d (.int ns.sum) := Eq.trans rfl rfl
@[simp] theorem sumR_tmp : sumR (.tmp (.lst l)) G = (intsOf l).map fun ns => .d (.int ns.sum) := Eq.trans rfl rfl
@[simp] theorem sumR_bor : sumR (.bor i (.lst l)) G = (intsOf l).map fun ns => .d (.int ns.sum) := Eq.trans rfl rfl
@[simp] theorem allR_tmp : allR (.tmp (.lst l)) G = (bsOf l).map fun ns => .d (.bl (ns.all id)) := Eq.trans rfl rfl
@[simp] theorem anyR_tmp : anyR (.tmp (.lst l)) G = (bsOf l).map fun ns => .d (.bl (ns.any id)) := Eq.trans rfl rfl
@[simp] theorem listR_tup : listR (.d (.tup l)) G = some (.tmp (.lst l)) := Eq.trans rfl rfl
@[simp] theorem listR_lst : listR (.d (.lst l)) G = some (.tmp (.lst l)) := Eq.trans rfl rfl
@[simp] theorem listR_tmp : listR (.tmp (.lst l)) G = some (.tmp (.lst l)) := Eq.trans rfl rfl
@[simp] theorem listR_scr : listR (.d (.scr l)) G = some (.tmp (.lst l)) := Eq.trans rfl rfl
@[simp] theorem tupleR_tmp : tupleR (.tmp (.lst l)) G = some (.d (.tup l)) := Eq.trans rfl rfl
@[simp] theorem tupleR_lst : tupleR (.d (.lst l)) G = some (.d (.tup l)) := Eq.trans rfl rfl
@[simp] theorem revR_lst : revR (.d (.lst l)) = some (.tmp (.lst l.reverse)) := Eq.trans rfl rfl
@[simp] theorem revR_tmp : revR (.tmp (.lst l)) = some (.tmp (.lst l.reverse)) := Eq.trans rfl rfl
@[simp] theorem slR_scr (a b : Option Int) : slR (.d (.scr l)) a b = some (.tmp (.lst (cutD l a b))) := Eq.trans rfl rfl
@[simp] theorem slR_lst (a b : Option Int) : slR (.d (.lst l)) a b = some (.tmp (.lst (cutD l a b))) := Eq.trans rfl rfl
@[simp] theorem slR_tup (a b : Option Int) : slR (.d (.tup l)) a b = some (.d (.tup (cutD l a b))) := Eq.trans rfl rfl
@[simp] theorem sorted_tmp : sortedOnly (.tmp (.lst l)) G = (intsOf l).map fun ns => .tmp (.lst (iD (isort ns))) := Eq.trans rfl rfl
@[simp] theorem sorted_lst : sortedOnly (.d (.lst l)) G = (intsOf l).map fun ns => .tmp (.lst (iD (isort ns))) := Eq.trans rfl rfl
@[simp] theorem sortedRev_tmp : sortedRev (.tmp (.lst l)) G = (intsOf l).map fun ns => .tmp (.lst (iD (dsort ns))) := Eq.trans rfl rfl
@[simp] theorem sortedRev_lst : sortedRev (.d (.lst l)) G = (intsOf l).map fun ns => .tmp (.lst (iD (dsort ns))) := Eq.trans rfl rfl
@[simp] theorem seqD_lst : seqD (.lst l) = some l := Eq.trans rfl rfl
@[simp] theorem seqD_tup : seqD (.tup l) = some l := Eq.trans rfl rfl
@[simp] theorem bindTg_nm : bindTg (.nm i) d ρ = some (ρ.set i (.v d)) := Eq.trans rfl rfl
@[simp] theorem bindTg_t2 (j : Nat) (a b : D) : bindTg (.tup [i, j]) (.tup [a, b]) ρ = some ((ρ.set i (.v a)).set j (.v b)) := Eq.trans rfl rfl
@[simp] theorem addR_tmp (m : List D) : addR (.tmp (.lst l)) (.tmp (.lst m)) = if l.length + m.length ≤ sz then some (.tmp (.lst (l ++ m))) else none := Eq.trans rfl rfl
@[simp] theorem addR_lst (m : List D) : addR (.d (.lst l)) (.tmp (.lst m)) = if l.length + m.length ≤ sz then some (.tmp (.lst (l ++ m))) else none := Eq.trans rfl rfl
@[simp] theorem mulR_tmp (k : Int) : mulR (.tmp (.lst l)) (.d (.int k)) = if repOk l.length k = true then some (.tmp (.lst (List.replicate k.toNat l).flatten)) else none := Eq.trans rfl rfl
@[simp] theorem obPut_lst (k : Int) : obPut (.lst l) (.int k) d = (ixN l.length k).map fun j => .lst (l.set j d) := Eq.trans rfl rfl
@[simp] theorem min2R_i (i j : Int) : min2R (.d (.int i)) (.d (.int j)) G = some (.d (.int (if j < i then j else i))) := Eq.trans rfl rfl
@[simp] theorem max2R_i (i j : Int) : max2R (.d (.int i)) (.d (.int j)) G = some (.d (.int (if i < j then j else i))) := Eq.trans rfl rfl
@[simp] theorem divmodR_i (i j : Int) : divmodR (.d (.int i)) (.d (.int j)) G = if divOk j = true then some (.d (.tup [.int (i / j), .int (i % j)])) else none := Eq.trans rfl rfl
@[simp] theorem absR_i (i : Int) : absR (.d (.int i)) G = some (.d (.int (if i < 0 then -i else i))) := Eq.trans rfl rfl
end
/-! ### loops -/
section
variable {α : Type} {cf : CF} {tg : Tg}
theorem lcL_map {e : Fn} {ρ : Env} {G : Sto} {f g : α → D} : ∀ xs : List α, (∀ x ∈ xs, ∃ ρ1 r, bindTg tg (f x) ρ = some ρ1 ∧ e cf ρ1 G = some (r, G) ∧ frz r = some (g x)) → lcL tg cYes e cf ρ (xs.map f) G = some (xs.map g, G)
  | [], _ => rfl
  | x :: xs, h => by
    obtain ⟨ρ1, r, h1, h2, h3⟩ := h x (by simp)
    rw [List.map_cons]
    unfold lcL
    rw [h1]
    simp only [Option.bind_some, ap_cYes]
    rw [h2]
    simp only [Option.bind_some]
    rw [h3]
    simp only [Option.bind_some]
    rw [lcL_map xs fun y hy => h y (List.mem_cons_of_mem _ hy)]
    rfl
theorem lcL_filter {t : FnT} {e : Fn} {ρ : Env} {G : Sto} {f g : α → D} {p : α → Bool} : ∀ xs : List α, (∀ x ∈ xs, ∃ ρ1, bindTg tg (f x) ρ = some ρ1 ∧ t cf ρ1 G = some (p x, G) ∧ (p x = true → ∃ r, e cf ρ1 G = some (r, G) ∧ frz r = some (g x))) → lcL tg t e cf ρ (xs.map f) G = some ((xs.filter p).map g, G)
  | [], _ => rfl
  | x :: xs, h => by
    obtain ⟨ρ1, h1, h2, h3⟩ := h x (by simp)
    rw [List.map_cons]
    unfold lcL
    rw [h1]
    simp only [Option.bind_some]
    rw [h2]
    simp only [Option.bind_some]
    have ih := lcL_filter xs fun y hy => h y (List.mem_cons_of_mem _ hy)
    cases hp : p x with
    | false =>
      rw [List.filter_cons_of_neg (by rw [hp]; simp)]
      exact ih
    | true =>
      obtain ⟨r, h4, h5⟩ := h3 hp
      rw [List.filter_cons_of_pos hp]
      dsimp only
      rw [h4]
      simp only [Option.bind_some]
      rw [h5]
      simp only [Option.bind_some]
      rw [ih]
      rfl
/-- a loop that always goes on -/
theorem forL_inv {body : SFn} {f : α → D} (I : Nat → Env → Sto → Prop) : ∀ (xs : List α) (n : Nat) (ρ : Env) (G : Sto), I n ρ G →
    (∀ (j : Nat) (x : α) (ρ : Env) (G : Sto), xs[j]? = some x → I (n + j) ρ G → ∃ ρ1 ρ2 G2, bindTg tg (f x) ρ = some ρ1 ∧ (body cf ρ1 G = some (.nx ρ2 G2) ∨ body cf ρ1 G = some (.ct ρ2 G2)) ∧ I (n + j + 1) ρ2 G2) →
    ∃ ρ' G', forL tg body cf (xs.map f) ρ G = some (.nx ρ' G') ∧ I (n + xs.length) ρ' G'
  | [], n, ρ, G, h, _ => ⟨ρ, G, rfl, h⟩
  | x :: xs, n, ρ, G, h, hs => by
    obtain ⟨ρ1, ρ2, G2, h1, h2, h3⟩ := hs 0 x ρ G rfl h
    obtain ⟨ρ', G', h4, h5⟩ := forL_inv I xs (n + 1) ρ2 G2 h3 fun j y ρ G hj hI => by
      have := hs (j + 1) y ρ G (by simpa using hj) (by rw [show n + (j + 1) = n + 1 + j by omega]; exact hI)
      rw [show n + (j + 1) + 1 = n + 1 + j + 1 by omega] at this
      exact this
    refine ⟨ρ', G', ?_, by rw [List.length_cons, show n + (xs.length + 1) = n + 1 + xs.length by omega]; exact h5⟩
    rw [List.map_cons]
    unfold forL
    rw [h1]
    simp only [Option.bind_some]
    rcases h2 with h2 | h2
    · rw [h2]; exact h4
    · rw [h2]; exact h4
/-- a while loop that goes on m times, then ends -/
theorem whileL_inv {c : FnT} {b : SFn} (I : Nat → Env → Sto → Prop) (m : Nat) (hs : ∀ j ρ G, j < m → I j ρ G → ∃ G1 ρ2 G2, c cf ρ G = some (true, G1) ∧ (b cf ρ G1 = some (.nx ρ2 G2) ∨ b cf ρ G1 = some (.ct ρ2 G2)) ∧ I (j + 1) ρ2 G2)
    (he : ∀ ρ G, I m ρ G → c cf ρ G = some (false, G)) : ∀ (k n : Nat) (ρ : Env) (G : Sto), k ≤ m → m - k < n → I k ρ G → ∃ ρ' G', whileL c b cf n ρ G = some (.nx ρ' G') ∧ I m ρ' G' := by
  intro k n
  induction n generalizing k with
  | zero => intro ρ G _ h; omega
  | succ n ih =>
    intro ρ G hk hn hI
    by_cases e : k = m
    · subst e
      refine ⟨ρ, G, ?_, hI⟩
      unfold whileL
      rw [he ρ G hI]
      rfl
    · obtain ⟨G1, ρ2, G2, h1, h2, h3⟩ := hs k ρ G (by omega) hI
      obtain ⟨ρ', G', h4, h5⟩ := ih (k + 1) ρ2 G2 (by omega) (by omega) h3
      refine ⟨ρ', G', ?_, h5⟩
      unfold whileL
      rw [h1]
      simp only [Option.bind_some]
      rcases h2 with h2 | h2
      · rw [h2]; exact h4
      · rw [h2]; exact h4
end
/-! ### subscripts -/
theorem ixN_nat {n k : Nat} (h : k < n) : ixN n (k : Int) = some k := by
  unfold ixN
  rw [if_pos (Int.natCast_nonneg k), if_pos (by omega)]
  simp
theorem atI_nat {α : Type} {l : List α} {k : Nat} {i : Int} (hi : i = k) (h : k < l.length) : atI l i = l[k]? := by
  subst hi
  unfold atI
  rw [ixN_nat h]
  rfl
theorem atI_iD (l : List Int) (k : Nat) {i : Int} (hi : i = k) (h : k < l.length) : atI (iD l) i = some (.int (l.getD k 0)) := by
  rw [atI_nat hi (by rw [iD_len]; exact h)]
  unfold iD
  rw [List.getElem?_map, List.getElem?_eq_getElem h]
  simp [List.getD, List.getElem?_eq_getElem h]
theorem ixG_lst {r : R} {l : List Int} {G : Sto} {i : Int} (k : Nat) (hl : r = .d (.lst (iD l)) ∨ (∃ j, r = .bor j (.lst (iD l))) ∨ r = .tmp (.lst (iD l))) (hi : i = k) (h : k < l.length) : ixG r (.d (.int i)) G = some (.d (.int (l.getD k 0))) := by
  have e := atI_iD l k hi h
  rcases hl with rfl | ⟨j, rfl⟩ | rfl
  all_goals
    show (some (iD l)).bind (fun l => (atI l i).map R.d) = _
    rw [Option.bind_some, e]
    rfl
end Lp
namespace Lp
theorem callT {T : Tb} {k fi n : Nat} {d : SFn} {l : List D} {G : Sto} {z : Option (R × Sto)} (hk : 1 ≤ k) (h : T fi = some (n, d)) (hb : ∀ j, k = j + 1 → (d (runT T j) (startE n l) G).bind outR = z) : runT T k fi l G = z := by
  obtain ⟨j, rfl⟩ : ∃ j, k = j + 1 := ⟨k - 1, by omega⟩
  rw [runT_succ T j fi n d l G h]
  exact hb j rfl
end Lp
namespace Lp
@[simp] theorem ite_and (p : Prop) [Decidable p] (b : Bool) (G : Sto) : (if p then some (b, G) else some (false, G)) = some (decide p && b, G) := by
  by_cases h : p <;> simp [h]
@[simp] theorem ite_or (p : Prop) [Decidable p] (b : Bool) (G : Sto) : (if p then some (true, G) else some (b, G)) = some (decide p || b, G) := by
  by_cases h : p <;> simp [h]
/-- one step of reckoning: all of it -/
def lz := And.intro @ap_cVar ( And.intro @ap_cC ( And.intro @ap_cBin ( And.intro @ap_cBinG ( And.intro @ap_cUn ( And.intro @ap_cUnG ( And.intro @ap_cTv ( And.intro @ap_cVt ( And.intro @ap_cAnd ( And.intro @ap_cOr ( And.intro @ap_cNot ( And.intro @ap_cIf ( And.intro @ap_cChain ( And.intro @ap_cNil ( And.intro @ap_cCons ( And.intro @ap_cConsR ( And.intro @ap_cStar ( And.intro @ap_cTup ( And.intro @ap_cLst ( And.intro @ap_cNo ( And.intro @ap_cPart ( And.intro @ap_cSl ( And.intro @ap_cSeqI ( And.intro @ap_cRng1 ( And.intro @ap_cRng2 ( And.intro @ap_cRng3 ( And.intro @ap_cEnum1 ( And.intro @ap_cEnum2 ( And.intro @ap_cKeysI ( And.intro @ap_cYes ( And.intro @ap_cLc ( And.intro @ap_cCall ( And.intro @ap_cIsi ( And.intro @ap_cGet2 ( And.intro @ap_cNewT ( And.intro @ap_cNewK ( And.intro @ap_rNil ( And.intro @ap_rCons ( And.intro @ap_sNext ( And.intro @ap_sSeq ( And.intro @ap_sBreak ( And.intro @ap_sCont ( And.intro @ap_sNever ( And.intro @ap_sIf ( And.intro @ap_sRet ( And.intro @ap_sRetN ( And.intro @ap_sFrz ( And.intro @ap_sFrzD ( And.intro @ap_sAsg ( And.intro @ap_sFor ( And.intro @ap_sWhile ( And.intro @ap_sPar ( And.intro @ap_sAsgG ( And.intro @ap_sDrop ( And.intro @ap_sApp ( And.intro @ap_gNm ( And.intro @ap_gN0 ( And.intro @ap_gC1 ( And.intro @ap_gTp ( And.intro @ap_gSb ( And.intro @outR_ret ( And.intro @outR_nx ( And.intro @retR_d ( And.intro @retR_tmp ( And.intro @retR_bor ( And.intro @frz_d ( And.intro @frz_lst ( And.intro @dOf_d ( And.intro @shr_d ( And.intro @shr_tmp ( And.intro @vb_ap ( And.intro @nb_ap ( And.intro @eqR_i ( And.intro @cmpI_i ( And.intro @ltI_i ( And.intro @leI_i ( And.intro @gtI_i ( And.intro @geI_i ( And.intro @ltP_i ( And.intro @leP_i ( And.intro @gtP_i ( And.intro @geP_i ( And.intro @addR_i ( And.intro @subR_i ( And.intro @mulR_i ( And.intro @fdivR_i ( And.intro @modR_i ( And.intro @intR_i ( And.intro @putN_val ( And.intro @putN_own ( And.intro @putAll_nil ( And.intro @putAll_cons ( And.intro @intsOf_iD ( And.intro @iD_len ( And.intro @elems_lst ( And.intro @elems_tup ( And.intro @elems_scr ( And.intro @itemsOf_tup ( And.intro @itemsOf_lst ( And.intro @itemsOf_tmp ( And.intro @itemsOf_bor ( And.intro @itemsOf_scr ( And.intro @objG_bor ( And.intro @objG_ref ( And.intro @setG_bor ( And.intro @setG_ref ( And.intro @lenR_tup ( And.intro @lenR_lst ( And.intro @lenR_scr ( And.intro @lenR_tmp ( And.intro @lenR_bor ( And.intro @sumR_lst ( And.intro @sumR_scr ( And.intro @sumR_tmp ( And.intro @sumR_bor ( And.intro @allR_tmp ( And.intro @anyR_tmp ( And.intro @listR_tup ( And.intro @listR_lst ( And.intro @listR_tmp ( And.intro @listR_scr ( And.intro @tupleR_tmp ( And.intro @tupleR_lst ( And.intro @revR_lst ( And.intro @revR_tmp ( And.intro @slR_scr ( And.intro @slR_lst ( And.intro @slR_tup ( And.intro @sorted_tmp ( And.intro @sorted_lst ( And.intro @sortedRev_tmp ( And.intro @sortedRev_lst ( And.intro @seqD_lst ( And.intro @seqD_tup ( And.intro @bindTg_nm ( And.intro @bindTg_t2 ( And.intro @addR_tmp ( And.intro @addR_lst ( And.intro @mulR_tmp ( And.intro @obPut_lst ( And.intro @min2R_i ( And.intro @max2R_i ( And.intro @divmodR_i (@absR_i)))))))))))))))))))))))))))))))))))))))))))))))))))))))))))))))))))))))))))))))))))))))))))))))))))))))))))))))))))))))))))))))))))))))))))))))
theorem take_next {α : Type} {l : List α} {j : Nat} {x : α} (h : l[j]? = some x) : l.take (j + 1) = l.take j ++ [x] := by
  obtain ⟨hj, e⟩ := List.getElem?_eq_some_iff.mp h
  rw [List.take_succ, h]
  rfl
theorem rgOk_of {i : Int} (h : -1000000000 ≤ i ∧ i ≤ 1000000000) : rgOk i = true := by
  unfold rgOk
  simp only [decide_eq_true_eq]
  omega
theorem divOk_of {i : Int} (h : 0 < i ∧ i ≤ 1000000000) : divOk i = true := by
  unfold divOk
  simp only [Bool.and_eq_true, decide_eq_true_eq]
  omega
theorem mulOk_of {i j : Int} (h : -1000000000 ≤ i ∧ i ≤ 1000000000) : mulOkI i j = true := by
  unfold mulOkI smallI
  simp only [Bool.or_eq_true, decide_eq_true_eq]
  exact .inl (by omega)
theorem mulOk_of' {i j : Int} (h : -1000000000 ≤ j ∧ j ≤ 1000000000) : mulOkI i j = true := by
  unfold mulOkI smallI
  simp only [Bool.or_eq_true, decide_eq_true_eq]
  exact .inr (by omega)
def tups (l : List (List Int)) : List D := l.map fun r => .tup (iD r)
end Lp
namespace Lp
section
variable {α β : Type}
theorem z_g0 (a : α) (l : List α) : (a :: l)[0]? = some a := by simp
theorem z_gs (a : α) (l : List α) (i : Nat) : (a :: l)[i + 1]? = l[i]? := by simp
theorem z_s0 (a b : α) (l : List α) : (a :: l).set 0 b = b :: l := by simp
theorem z_ss (a b : α) (l : List α) (i : Nat) : (a :: l).set (i + 1) b = a :: l.set i b := by simp
theorem z_lc (a : α) (l : List α) : (a :: l).length = l.length + 1 := by simp
theorem z_ln : ([] : List α).length = 0 := by simp
theorem z_an (l : List α) : l ++ [] = l := by simp
theorem z_na (l : List α) : [] ++ l = l := by simp
theorem z_ca (a : α) (l m : List α) : (a :: l) ++ m = a :: (l ++ m) := by simp
theorem z_bs (a : α) (f : α → Option β) : (some a).bind f = f a := by simp
theorem z_ms (a : α) (f : α → β) : (some a).map f = some (f a) := by simp
theorem z_bn (f : α → Option β) : none.bind f = none := by simp
theorem z_mn (f : α → β) : none.map f = none := by simp
theorem z_gn (i : Nat) : ([] : List α)[i]? = none := by simp
end
theorem z_n0 : (0 ≤ sz) = True := by simp
theorem z_n1 : (0 + 1 ≤ sz) = True := by simp
theorem z_n2 : (0 + 1 + 1 ≤ sz) = True := by simp
theorem z_n3 : (0 + 1 + 1 + 1 ≤ sz) = True := by simp
theorem z_iT {γ : Type} (i : Decidable True) (a b : γ) : (@ite γ True i a b) = a := if_pos trivial
theorem z_iF {γ : Type} (i : Decidable False) (a b : γ) : (@ite γ False i a b) = b := if_neg id
theorem z_tt : (true = true) = True := by simp
theorem z_ft : (false = true) = False := by simp
theorem z_dT (i : Decidable True) : @decide True i = true := decide_eq_true trivial
theorem z_dF (i : Decidable False) : @decide False i = false := decide_eq_false id
theorem z_dd (p : Prop) [Decidable p] : (decide p = true) = p := by simp
theorem z_w0 (ρ : Env) : wipeR ρ [] = ρ := Eq.trans rfl rfl
theorem z_ws (ρ : Env) (v : Nat) (vs : List Nat) : wipeR ρ (v :: vs) = (wipeR ρ vs).set v .no := Eq.trans rfl rfl
theorem z_e0 : startE 0 [] = [] := Eq.trans rfl rfl
theorem z_e1 (n : Nat) : startE (n + 1) [] = .no :: startE n [] := by unfold startE; simp [List.replicate_succ]
theorem z_e2 (n : Nat) (d : D) (l : List D) : startE (n + 1) (d :: l) = .v d :: startE n l := by unfold startE; simp
theorem z_nt : (!true) = false := rfl
theorem z_nf : (!false) = true := rfl
theorem z_at (b : Bool) : (true && b) = b := by simp
theorem z_af (b : Bool) : (false && b) = false := by simp
theorem z_ta (b : Bool) : (b && true) = b := by simp
def cz := And.intro @z_n0 (And.intro @z_n1 (And.intro @z_n2 (And.intro @z_n3 (And.intro @enumD_len (And.intro @z_g0 ( And.intro @z_gs ( And.intro @z_s0 ( And.intro @z_ss ( And.intro @z_lc ( And.intro @z_ln ( And.intro @z_an ( And.intro @z_na ( And.intro @z_ca ( And.intro @z_bs ( And.intro @z_ms ( And.intro @z_bn ( And.intro @z_mn ( And.intro @z_gn ( And.intro @z_iT ( And.intro @z_iF ( And.intro @z_tt ( And.intro @z_ft ( And.intro @z_dT ( And.intro @z_dF ( And.intro @z_dd ( And.intro @z_w0 ( And.intro @z_ws ( And.intro @z_e0 ( And.intro @z_e1 ( And.intro @z_e2 ( And.intro @z_nt ( And.intro @z_nf ( And.intro @z_at ( And.intro @z_af (@z_ta)))))))))))))))))))))))))))))))))))
end Lp
namespace Lp
section
variable {α : Type} {cf : CF} {tg : Tg}
theorem map_iD (f : α → Int) (l : List α) : (l.map fun p => D.int (f p)) = iD (l.map f) := by simp [iD]
theorem lcL_mapI {e : Fn} {ρ : Env} {G : Sto} {f : α → D} {g : α → Int} (xs : List α) (h : ∀ x ∈ xs, ∃ ρ1, bindTg tg (f x) ρ = some ρ1 ∧ e cf ρ1 G = some (.d (.int (g x)), G)) : lcL tg cYes e cf ρ (xs.map f) G = some (iD (xs.map g), G) := by
  rw [← map_iD]
  exact lcL_map xs fun x hx => by
    obtain ⟨ρ1, h1, h2⟩ := h x hx
    exact ⟨ρ1, _, h1, h2, rfl⟩
theorem lcL_filterI {t : FnT} {e : Fn} {ρ : Env} {G : Sto} {f : α → D} {g : α → Int} {p : α → Bool} (xs : List α) (h : ∀ x ∈ xs, ∃ ρ1, bindTg tg (f x) ρ = some ρ1 ∧ t cf ρ1 G = some (p x, G) ∧ (p x = true → e cf ρ1 G = some (.d (.int (g x)), G))) : lcL tg t e cf ρ (xs.map f) G = some (iD ((xs.filter p).map g), G) := by
  rw [← map_iD]
  exact lcL_filter xs fun x hx => by
    obtain ⟨ρ1, h1, h2, h3⟩ := h x hx
    exact ⟨ρ1, h1, h2, fun hp => ⟨_, h3 hp, rfl⟩⟩
/-- enumerate -/
theorem enumD_iD : ∀ (l : List Int) (k : Int), enumD k (iD l) = (l.zipIdx.map fun p => D.tup [.int (k + (p.2 : Nat)), .int p.1]) := by
  intro l
  have : ∀ (l : List Int) (k : Int) (n : Nat), enumD (k + (n : Nat)) (iD l) = ((l.zipIdx n).map fun p => D.tup [.int (k + (p.2 : Nat)), .int p.1]) := by
    intro l
    induction l with
    | nil => intro k n; rfl
    | cons x l ih =>
      intro k n
      show D.tup [.int (k + n), .int x] :: enumD (k + n + 1) (iD l) = _
      rw [show k + (n : Int) + 1 = k + ((n + 1 : Nat) : Int) by omega, ih]
      rfl
  intro k
  have := this l k 0
  simpa using this
end
end Lp
namespace Lp
theorem lcL_mapB {α : Type} {cf : CF} {tg : Tg} {e : Fn} {ρ : Env} {G : Sto} {f : α → D} {g : α → Bool} (xs : List α) (h : ∀ x ∈ xs, ∃ ρ1, bindTg tg (f x) ρ = some ρ1 ∧ e cf ρ1 G = some (.d (.bl (g x)), G)) : lcL tg cYes e cf ρ (xs.map f) G = some (xs.map fun x => .bl (g x), G) :=
  lcL_map xs fun x hx => by
    obtain ⟨ρ1, h1, h2⟩ := h x hx
    exact ⟨ρ1, _, h1, h2, rfl⟩
/-- one's own comprehension of values for good -/
theorem lcL_mapD {α : Type} {cf : CF} {tg : Tg} {e : Fn} {ρ : Env} {G : Sto} {f g : α → D} (xs : List α) (h : ∀ x ∈ xs, ∃ ρ1, bindTg tg (f x) ρ = some ρ1 ∧ e cf ρ1 G = some (.d (g x), G)) : lcL tg cYes e cf ρ (xs.map f) G = some (xs.map g, G) :=
  lcL_map xs fun x hx => by
    obtain ⟨ρ1, h1, h2⟩ := h x hx
    exact ⟨ρ1, _, h1, h2, rfl⟩
end Lp
namespace Lp
/-- a loop over a name, by the state behind each turn; s: what stands in the name's slot -/
theorem forL_st {α : Type} {cf : CF} {body : SFn} {i : Nat} {f : α → D} (env : Nat → Sl → Env) (st : Nat → Sto) (xs : List α) (s0 : Sl)
    (h : ∀ (j : Nat) (x : α) (s : Sl), xs[j]? = some x → body cf ((env j s).set i (.v (f x))) (st j) = some (.nx (env (j + 1) (.v (f x))) (st (j + 1)))) : ∃ s, forL (.nm i) body cf (xs.map f) (env 0 s0) (st 0) = some (.nx (env xs.length s) (st xs.length)) := by
  obtain ⟨ρ', G', e1, ⟨s, rfl⟩, rfl⟩ := forL_inv (cf := cf) (tg := .nm i) (f := f) (body := body) (I := fun j ρ G => (∃ s, ρ = env j s) ∧ G = st j) xs 0 (env 0 s0) (st 0) ⟨⟨s0, rfl⟩, rfl⟩ (fun j x ρ G hj hI => by
    obtain ⟨⟨s, rfl⟩, rfl⟩ := hI
    rw [Nat.zero_add]
    exact ⟨_, _, _, rfl, .inl (h j x s hj), ⟨_, rfl⟩, rfl⟩)
  rw [Nat.zero_add] at e1
  exact ⟨s, e1⟩
end Lp

namespace Lp
open PySem PySem.Spec PyProof.Rows L2

/-! ### instances of own classes -/
def insG (r : R) (G : Sto) : Option (Nat × List Str × List D) := match r with
  | .d (.ins c ns l) => some (c, ns, l)
  | .d (.ref n) => match G[n]? with
    | some (.ins c ns l) => some (c, ns, l)
    | _ => none
  | .bor _ (.ins c ns l) => some (c, ns, l)
  | .tmp (.ins c ns l) => some (c, ns, l)
  | _ => none
theorem lookup_rep {M : Md} {w : Wd} {f : Str} : ∀ {fs : List (Str × V)} {l : List D}, RepL M w l (fs.map (·.2)) → (∀ d, getD (fs.map (·.1)) l f = some d → ∃ x, fs.lookup f = some x ∧ Rep M w d x) ∧ (getD (fs.map (·.1)) l f = none → fs.lookup f = none)
  | [], [], r => ⟨fun d e => (by cases e), fun _ => rfl⟩
  | [], _ :: _, r => ⟨fun d e => (by cases e), fun _ => rfl⟩
  | p :: fs, [], r => by simp only [RepL, List.map_cons] at r; cases r
  | p :: fs, v :: l, r => by
    simp only [RepL, List.map_cons] at r
    obtain ⟨x, t, e, r1, r2⟩ := r
    cases e
    have ih := lookup_rep (f := f) (fs := fs) r2
    show (∀ d, (if p.1 = f then some v else getD (fs.map (·.1)) l f) = some d → _) ∧ ((if p.1 = f then some v else getD (fs.map (·.1)) l f) = none → _)
    rw [List.lookup_cons]
    by_cases h : p.1 = f
    · have e : (f == p.1) = true := by rw [h]; simp
      rw [if_pos h, e]
      exact ⟨fun d e => by cases e; exact ⟨_, rfl, r1⟩, fun e => by cases e⟩
    · have e : (f == p.1) = false := by
        rw [beq_eq_false_iff_ne]
        exact fun z => h z.symm
      rw [if_neg h, e]
      exact ih
/-- the field f set -/
def putFD (ns : List Str) (l : List D) (f : Str) (d : D) : List Str × List D := match ns, l with
  | n :: ns, v :: l => if n = f then (n :: ns, d :: l) else (n :: (putFD ns l f d).1, v :: (putFD ns l f d).2)
  | _, _ => ([f], [d])
theorem putF_rep {M : Md} {w : Wd} {f : Str} {d : D} {x : V} (rd : Rep M w d x) : ∀ {fs : List (Str × V)} {l : List D}, RepL M w l (fs.map (·.2)) → (putF f x fs).map (·.1) = (putFD (fs.map (·.1)) l f d).1 ∧ RepL M w (putFD (fs.map (·.1)) l f d).2 ((putF f x fs).map (·.2))
  | [], [], r => ⟨rfl, RepL.cons rd RepL.nil⟩
  | [], _ :: _, r => by simp only [RepL, List.map_nil] at r; obtain ⟨_, _, e, _⟩ := r; cases e
  | p :: fs, [], r => by simp only [RepL, List.map_cons] at r; cases r
  | p :: fs, v :: l, r => by
    simp only [RepL, List.map_cons] at r
    obtain ⟨y, t, e, r1, r2⟩ := r
    cases e
    have ih := putF_rep (f := f) rd (fs := fs) r2
    obtain ⟨g, y⟩ := p
    show (if g = f then (g, x) :: fs else (g, y) :: putF f x fs).map (·.1) = (if g = f then (g :: fs.map (·.1), d :: l) else (g :: (putFD (fs.map (·.1)) l f d).1, v :: (putFD (fs.map (·.1)) l f d).2)).1 ∧
      RepL M w (if g = f then (g :: fs.map (·.1), d :: l) else (g :: (putFD (fs.map (·.1)) l f d).1, v :: (putFD (fs.map (·.1)) l f d).2)).2 ((if g = f then (g, x) :: fs else (g, y) :: putF f x fs).map (·.2))
    by_cases h : g = f
    · rw [if_pos h, if_pos h]
      exact ⟨rfl, RepL.cons rd r2⟩
    · rw [if_neg h, if_neg h]
      exact ⟨by rw [List.map_cons, ih.1], RepL.cons r1 ih.2⟩
section
variable {M : Md} {cf : CF} {H0 H : Hp} {w0 w : Wd} {σ : L2.St} {ρ : Env} {G : Sto}
theorem At.ins {r : R} {v : V} {c : Nat} {ns : List Str} {l : List D} (A : At M H0 w0 σ ρ H w G) (x : RX M H0 σ ρ H w r v) (e : insG r G = some (c, ns, l)) : ∃ a dx fs, v = .ref a ∧ H a = some (.ins (M.ca c) dx fs) ∧ fs.map (·.1) = ns ∧ RepL M w l (fs.map (·.2)) := by
  unfold insG at e
  split at e <;> first | (cases e; done) | skip
  · cases e
    have x : Rep M w (.ins _ _ _) v := x
    simp only [Rep] at x
    obtain ⟨a, dx, fs, rfl, h, q, r⟩ := x
    exact ⟨a, dx, fs, rfl, A.st.fzH _ _ h, q, r⟩
  · split at e
    · rename_i z
      cases e
      obtain ⟨a, rfl, _, ⟨dx, fs, h, q, r⟩, _⟩ := A.ref x z
      exact ⟨a, dx, fs, rfl, h, q, r⟩
    · cases e
  · cases e
    obtain ⟨e1, e2⟩ := x
    obtain ⟨p, e3, ⟨dx, fs, h, q, r⟩, _⟩ := A.sl.at_ _ _ e1
    rw [e2] at e3; cases e3
    exact ⟨p, dx, fs, rfl, h, q, r⟩
  · cases e
    obtain ⟨p, rfl, ⟨dx, fs, h, q, r⟩, _⟩ := x
    exact ⟨p, dx, fs, rfl, h, q, r⟩
end
def cFld (cs : List Nat) (f : Str) (a : Fn) : Fn := fun cf ρ G => (a cf ρ G).bind fun p => (insG p.1 p.2).bind fun o => if o.1 ∈ cs then (getD o.2.1 o.2.2 f).map fun d => (.d d, p.2) else none
/-- o.f = e -/
def sFldS (cs : List Nat) (f : Str) (co ce : Fn) : SFn := fun cf ρ G => (ce cf ρ G).bind fun p => (frz p.1).bind fun d => (co cf ρ p.2).bind fun q => (objG q.1 q.2).bind fun o => match o with
  | .ins c ns l => if c ∈ cs ∧ ns.length < 1000 then some (.nx (setG q.1 (.ins c (putFD ns l f d).1 (putFD ns l f d).2) ρ q.2).1 (setG q.1 (.ins c (putFD ns l f d).1 (putFD ns l f d).2) ρ q.2).2) else none
  | _ => none
/-- a def by its address -/
structure FnD (P : Program) (w : World) (K : PySem.W.Frag) (mg : Str → Option Value) (base : Heap) (k : Nat) (M : Md) (cf : CF) (g : Addr) (fi np : Nat) : Prop where
  ex : ∃ (fd : FuncData) (ps : List Str), FnOk P w K mg base CX0 k g fd ps (spD M cf fi np) ∧ Binds K fd ps []
def cProp (c fi : Nat) (a : Fn) : Fn := fun cf ρ G => (a cf ρ G).bind fun p => (insG p.1 p.2).bind fun o => if o.1 = c then (dOf p.1).bind fun d => cf fi [d] p.2 else none
def cMake (c fi : Nat) (a : FnL) : Fn := fun cf ρ G => (a cf ρ G).bind fun p => (cf fi (.ref p.2.length :: p.1) (p.2 ++ [.ins c [] []])).bind fun q => match q.1 with
  | .d .non => some (.d (.ref p.2.length), q.2)
  | _ => none
section
variable {X : Cx} {M : Md} {cf : CF} {H0 : Hp} {w0 : Wd} {e a b oe : Expr} {es : List Expr} {ce ca co : Fn} {cl : FnL} {pos pos' apos p : Pos} {k j fi np c : Nat} {x f : Str} {cs : List Nat} {g pa : Addr}
theorem x_fld (hC : ∀ c ∈ cs, Cls X.K (M.ca c) ∧ NoAttr X.K (M.ca c) f) (ha : PE X a (tE M cf ca)) (hab : attributeBase a f X.env (eval a X.env) = eval a X.env := by rfl) : PE X (.Attribute a f pos) (tE M cf (cFld cs f ca)) :=
  peW (pe_fld ha hab) fun σ H Q h => by
    obtain ⟨ρ, w, G, r, G', sl, st, ev, q⟩ := h
    refine (At.start sl st).run ev fun ra G1 v H1 w1 e1 L1 A1 x1 => ?_
    obtain ⟨⟨c, ns, l⟩, e2, e3⟩ := bindSome e1
    dsimp only at e3
    by_cases hc : c ∈ cs
    · rw [if_pos hc] at e3
      obtain ⟨d, e4, e5⟩ := mapSome e3
      cases e5
      obtain ⟨p, dx, fs, rfl, hp, rfl, r1⟩ := A1.ins x1 e2
      obtain ⟨x, e6, rx⟩ := (lookup_rep r1).1 d e4
      exact ⟨p, _, dx, fs, x, rfl, hp, (hC c hc).1, (hC c hc).2, e6, A1.fin q rx⟩
    · rw [if_neg hc] at e3; cases e3
theorem x_prop (c1 : Cls X.K (M.ca c)) (hp : PropOf X.K (M.ca c) f pa g) (F : FnD X.prog X.w X.K X.mg X.base k M cf g fi 1) (hr : Room (k + 1) X.A) (ha : PE X a (tE M cf ca)) (hab : attributeBase a f X.env (eval a X.env) = eval a X.env := by rfl) : PE X (.Attribute a f pos) (tE M cf (cProp c fi ca)) := by
  obtain ⟨fd, ps, F, hb⟩ := F.ex
  exact peW (pe_prop ha c1 hp F hr hb .nil pass0 hab) fun σ H Q h => by
    obtain ⟨ρ, w, G, r, G', sl, st, ev, q⟩ := h
    refine (At.start sl st).run ev fun ra G1 v H1 w1 e1 L1 A1 x1 => ?_
    obtain ⟨⟨c', ns, l⟩, e2, e3⟩ := bindSome e1
    dsimp only at e3
    by_cases hc : c' = c
    · subst hc
      rw [if_pos rfl] at e3
      obtain ⟨d, e4, e5⟩ := bindSome e3
      cases ra <;> first | (cases e4; done) | skip
      cases e4
      obtain ⟨p, dx, fs, rfl, hp, rfl, r1⟩ := A1.ins x1 e2
      exact ⟨p, dx, fs, rfl, hp, w1, G1, [d], r, G', A1.st, RepL.cons x1 RepL.nil, rfl, e5, fun v H2 w2 L2 s2 x2 => q v H2 w2 (L1.trans L2) s2 (x2.called L1)⟩
    · rw [if_neg hc] at e3; cases e3
theorem fs_len {fs : List (Str × V)} : (fs.map (·.1)).length = fs.length := List.length_map _
theorem s_fld (hC : ∀ c ∈ cs, Cls X.K (M.ca c) ∧ NoAttr X.K (M.ca c) f) (ho : PE X oe (tE M cf co)) (he : PE X e (tE M cf ce)) (hs : swapsWith e (some (.Attribute oe f pos')) pos.line X.env = pure false := by rfl) : PS X (.Assign [.Attribute oe f pos'] e pos) (tS M cf H0 w0 (sFldS cs f co ce)) :=
  psW (ps_fld ho he hs) fun D σ H h => by
    obtain ⟨ρ, w, G, o, g, ev, k⟩ := h
    refine g.at_.run ev fun ra G1 v H1 w1 e1 L1 A1 x1 => ?_
    obtain ⟨d, e2, e3⟩ := bindSome e1
    obtain ⟨w1', A1', rd, L1', m1⟩ := A1.frzM x1 e2
    refine A1'.run e3 fun rb G2 y H2 w2 e4 L2 A2 x2 => ?_
    obtain ⟨ob, e5, e6⟩ := bindSome e4
    cases ob <;> first | (cases e6; done) | skip
    rename_i c ns l
    dsimp only at e6
    obtain ⟨hc, e7⟩ := ifSome e6
    subst e7
    have g2 := g.next A2
    obtain ⟨a, rfl, ⟨dx, fs, hp, hn, r1⟩, mk⟩ := g2.mut x2 e5
    subst hn
    have pf := putF_rep (f := f) (rd.lat L2) r1
    refine ⟨a, _, dx, fs, rfl, hp, (hC c hc.1).1, (hC c hc.1).2, by rw [← fs_len]; exact hc.2, ?_⟩
    exact k σ _ w2 (mk (.ins (M.ca c) dx (putF f v fs)) _ (by intro _ z; cases z) ⟨dx, _, upd_same, pf.1, pf.2⟩) (L1'.trans L2).mono
/-- C(e, ..): made, then __init__ -/
theorem x_make {n : Nat} {fa : Addr} (Mk_ : Mk X.K (M.ca c) fa) (hm : X.mg x = some (.ref (M.ca c))) (F : FnD X.prog X.w X.K X.mg X.base k M cf fa fi np) (hr : Room (k + 1) X.A) (ha : PA X (a :: es) (tA M cf cl)) (hl : Len cl n) (hn : n + 1 = np) (hg : Gl X x := by rfl) (hs : isStar a = false := by rfl) (hs2 : es.any isStar = false := by rfl)
    (hdb : (x == ("__debug__" : Str)) = false := by decide) : PE X (.Call (.Name x p) (a :: es) [] pos) (tE M cf (cMake c fi cl)) := by
  obtain ⟨fd, ps, F, hb⟩ := F.ex
  exact peW (pe_make Mk_ F hr hg hm hb .nil pass0 ha hdb (starEach_plain hs) (starEach_any hs2)) fun σ H Q h => by
    obtain ⟨ρ, w, G, r, G', sl, st, ev, q⟩ := h
    obtain ⟨⟨l, G1⟩, e0, e1⟩ := bindSome ev
    refine ⟨ρ, w, G, l, G1, sl, st, e0, fun vs H1 w1 L1 s1 rl => ?_⟩
    have A1 := (At.start sl st).step L1 s1
    intro y dx hy hdx hne
    obtain ⟨⟨r2, G2⟩, e2, e3⟩ := bindSome e1
    have n0 : H y = none := by
      cases z : H y with
      | none => rfl
      | some u => exact absurd hy (L1.dm y (by rw [z]; simp))
    have la : Lat H1 w1 (upd H1 dx (.own y)) w1 := Lat.new (M := M) (G := G1) hdx
    have sa := A1.st.new (o := .own y) hdx
    have hy2 : upd H1 dx (.own y) y = none := by rw [upd_ne (Ne.symm hne)]; exact hy
    have lb : Lat (upd H1 dx (.own y)) w1 (upd (upd H1 dx (.own y)) y (.ins (M.ca c) dx [])) w1 := Lat.new (M := M) (G := G1) hy2
    have sb := sa.new (o := .ins (M.ca c) dx []) hy2
    have Lc := (L1.trans la).trans lb
    have A3 : At M H w σ ρ (upd (upd H1 dx (.own y)) y (.ins (M.ca c) dx [])) w1 G1 := ⟨Lc, sb, sl⟩
    obtain ⟨w3, A4, rr, m3⟩ := A3.shr (r := .tmp (.ins c [] [])) (v := .ref y) (d := .ref G1.length) (G' := G1 ++ [.ins c [] []]) ⟨y, rfl, ⟨dx, [], upd_same, rfl, RepL.nil⟩, A1.st.fzn hy, A1.st.aln hy, n0⟩ rfl
    refine ⟨w3, G1 ++ [.ins c [] []], .ref G1.length :: l, r2, G2, A4.st, RepL.cons rr (by rw [List.append_nil]; exact rl.mon m3), by rw [List.length_cons, hl _ _ _ _ _ e0]; exact hn, e2, fun v H3 w4 L3 s3 x3 => ?_⟩
    dsimp only at e3
    split at e3
    · cases e3
      refine ⟨rx_non x3, q (.ref y) H3 w4 (A4.lat.trans L3) s3 ?_⟩
      exact Rep.lat rr L3
    · cases e3
end
end Lp

namespace Lp
open PySem PySem.Spec PyProof.Rows L2

/-! ### in, not in -/
def flatD : D → Bool
  | .non => true | .bl _ => true | .int _ => true | .str _ => true
  | _ => false
def eqvD : D → D → Bool
  | .non, .non => true
  | .bl a, .bl b => a == b
  | .bl a, .int b => (if a then 1 else 0) == b
  | .int a, .bl b => a == (if b then 1 else 0)
  | .int a, .int b => a == b
  | .str a, .str b => a == b
  | _, _ => false
def signOf (z : Str) : Option Nat := match z.cps.toList with
  | [c] => some c
  | _ => none
theorem signOf_ok {z : Str} {c : Nat} (h : signOf z = some c) : z = ⟨#[c]⟩ := by
  obtain ⟨cps⟩ := z
  unfold signOf at h
  split at h
  · rename_i e
    cases h
    have : cps = #[c] := by
      apply Array.toList_inj.mp
      exact e
    rw [this]
  · cases h
def inR (neg : Bool) (a b : R) (G : Sto) : Option R := match dOf a with
  | none => none
  | some x => match b with
    | .d (.str z) => match x with
      | .str y => (signOf y).map fun c => .d (.bl (decide (c ∈ z.cps.toList) != neg))
      | _ => none
    | .d (.tup l) => if (flatD x && l.all flatD) = true then some (.d (.bl ((l.any fun y => eqvD y x) != neg))) else none
    | b => (seqG b G).bind fun l => if (flatD x && l.all flatD) = true then some (.d (.bl ((l.any fun y => eqvD y x) != neg))) else none
section
variable {X : Cx} {M : Md} {cf : CF} {H0 : Hp} {w0 : Wd} {e a b oe : Expr} {es : List Expr} {ce ca cb co : Fn} {cl : FnL} {pos pos' apos p : Pos} {k j fi np c : Nat} {x f : Str} {cs : List Nat} {g pa : Addr}
theorem flatD_rep {w : Wd} {d : D} {v : V} (h : flatD d = true) (r : Rep M w d v) : flatV v = true := by
  cases d <;> first | (cases h; done) | (simp only [Rep] at r; subst r; rfl)
theorem flatL_rep {w : Wd} : ∀ {l : List D} {xs : List V}, l.all flatD = true → RepL M w l xs → xs.all flatV = true
  | [], xs, _, r => by simp only [RepL] at r; subst r; rfl
  | d :: l, xs, h, r => by
    rw [List.all_cons, Bool.and_eq_true] at h
    simp only [RepL] at r
    obtain ⟨x, t, rfl, r1, r2⟩ := r
    rw [List.all_cons, flatD_rep h.1 r1, flatL_rep h.2 r2]
    rfl
theorem eqvD_rep {w : Wd} {d e : D} {v u : V} (h : flatD d = true) (h2 : flatD e = true) (r : Rep M w d v) (q : Rep M w e u) : eqV v u = eqvD d e := by
  cases d <;> first | (cases h; done) | skip
  all_goals (simp only [Rep] at r; subst r)
  all_goals (cases e <;> first | (cases h2; done) | (simp only [Rep] at q; subst q; rfl))
theorem inV_rep {w : Wd} {d : D} {v : V} (h : flatD d = true) (r : Rep M w d v) : ∀ {l : List D} {xs : List V}, l.all flatD = true → RepL M w l xs → inV v xs = l.any fun y => eqvD y d
  | [], xs, _, q => by simp only [RepL] at q; subst q; rfl
  | e :: l, xs, h2, q => by
    rw [List.all_cons, Bool.and_eq_true] at h2
    simp only [RepL] at q
    obtain ⟨x, t, rfl, q1, q2⟩ := q
    have ih := inV_rep h r h2.2 q2
    unfold inV at ih ⊢
    rw [List.any_cons, List.any_cons, ih, eqvD_rep h2.1 h q1 r]
theorem o_in (hM : X.K = M.K) : OpR X (compareOp .In) (rG M (inR false)) := by
  intro pins s σ' H x y v u Q I rx ry h
  obtain ⟨H0, w0, σ, ρ, w, G, ra, rb, r, A, xa, xb, e, q⟩ := h
  unfold inR at e
  cases ra <;> first | (cases e; done) | skip
  rename_i d
  dsimp only [dOf] at e
  split at e
  · split at e
    · obtain ⟨c, e1, rfl⟩ := mapSome e
      have ey := signOf_ok e1
      subst ey
      have ea : x = .str _ := rx_str xa
      subst ea
      cases rx_str xb
      exact op_in_sign pins s σ' H _ _ v u Q I rx ry ⟨_, _, rfl, rfl, A.fin q (by rw [Bool.bne_false]; exact of_bl)⟩
    · cases e
  · obtain ⟨hf, rfl⟩ := ifSome e
    rw [Bool.and_eq_true] at hf
    obtain ⟨p, xs, rfl, h1, f1, r1⟩ := A.tup xb rfl
    exact op_in_seq pins s σ' H _ _ v u Q I rx ry ⟨p, xs, rfl, .inr (by rw [hM]; exact h1), flatD_rep hf.1 xa, flatL_rep hf.2 r1, A.fin q (by
      rw [if_neg Bool.false_ne_true, inV_rep hf.1 xa hf.2 r1, Bool.bne_false]; exact of_bl)⟩
  · obtain ⟨l, e1, e2⟩ := bindSome e
    obtain ⟨hf, rfl⟩ := ifSome e2
    rw [Bool.and_eq_true] at hf
    obtain ⟨p, xs, rfl, h1, r1⟩ := A.seqG xb e1
    exact op_in_seq pins s σ' H _ _ v u Q I rx ry ⟨p, xs, rfl, .inl (by rw [hM]; exact h1), flatD_rep hf.1 xa, flatL_rep hf.2 r1, A.fin q (by
      rw [if_neg Bool.false_ne_true, inV_rep hf.1 xa hf.2 r1, Bool.bne_false]; exact of_bl)⟩
theorem o_notin (hM : X.K = M.K) : OpR X (compareOp .NotIn) (rG M (inR true)) := by
  intro pins s σ' H x y v u Q I rx ry h
  obtain ⟨H0, w0, σ, ρ, w, G, ra, rb, r, A, xa, xb, e, q⟩ := h
  unfold inR at e
  cases ra <;> first | (cases e; done) | skip
  rename_i d
  dsimp only [dOf] at e
  split at e
  · split at e
    · obtain ⟨c, e1, rfl⟩ := mapSome e
      have ey := signOf_ok e1
      subst ey
      have ea : x = .str _ := rx_str xa
      subst ea
      cases rx_str xb
      exact op_notIn_sign pins s σ' H _ _ v u Q I rx ry ⟨_, _, rfl, rfl, A.fin q (by rw [Bool.bne_true]; exact of_bl)⟩
    · cases e
  · obtain ⟨hf, rfl⟩ := ifSome e
    rw [Bool.and_eq_true] at hf
    obtain ⟨p, xs, rfl, h1, f1, r1⟩ := A.tup xb rfl
    exact op_notIn_seq pins s σ' H _ _ v u Q I rx ry ⟨p, xs, rfl, .inr (by rw [hM]; exact h1), flatD_rep hf.1 xa, flatL_rep hf.2 r1, A.fin q (by
      rw [if_pos rfl, inV_rep hf.1 xa hf.2 r1, Bool.bne_true]; exact of_bl)⟩
  · obtain ⟨l, e1, e2⟩ := bindSome e
    obtain ⟨hf, rfl⟩ := ifSome e2
    rw [Bool.and_eq_true] at hf
    obtain ⟨p, xs, rfl, h1, r1⟩ := A.seqG xb e1
    exact op_notIn_seq pins s σ' H _ _ v u Q I rx ry ⟨p, xs, rfl, .inl (by rw [hM]; exact h1), flatD_rep hf.1 xa, flatL_rep hf.2 r1, A.fin q (by
      rw [if_pos rfl, inV_rep hf.1 xa hf.2 r1, Bool.bne_true]; exact of_bl)⟩
theorem n_in (hM : X.K = M.K) (ha : PE X a (tE M cf ca)) (hb : PE X b (tE M cf cb)) (hm : behindInMarks .In b = false := by rfl) : PE X (.Compare a [.In] [b] pos) (tE M cf (cBinG (inR false) ca cb)) := peW (pe_cmpR (o_in hM) ha hb hm) tE_binG
theorem n_notin (hM : X.K = M.K) (ha : PE X a (tE M cf ca)) (hb : PE X b (tE M cf cb)) (hm : behindInMarks .NotIn b = false := by rfl) : PE X (.Compare a [.NotIn] [b] pos) (tE M cf (cBinG (inR true) ca cb)) := peW (pe_cmpR (o_notin hM) ha hb hm) tE_binG
/-! ### class methods -/
def cCM (c fi : Nat) (a : FnL) : Fn := fun cf ρ G => (a cf ρ G).bind fun p => cf fi (.cls c :: p.1) p.2
theorem n_cls (hm : X.mg x = some (.ref (M.ca c))) (hg : Gl X x := by rfl) (hd : (x == ("__debug__" : Str)) = false := by decide) : PE X (.Name x pos) (tE M cf (cC (.cls c))) := x_glob (v := .ref (M.ca c)) hg hm rfl hd fun w => by simp only [Rep]
theorem x_cmeth {n : Nat} {mc : Value} {q : Addr} {pl : Sem Bool} {m : Str} (ho : PE X oe (tE M cf (cC (.cls c)))) (r : ClX.CRead X.K (M.ca c) mc) (cm : ClX.CMet X.K (M.ca c) mc m q g) (F : FnD X.prog X.w X.K X.mg X.base k M cf g fi np) (hr : Room k X.A) (ha : PA X (a :: es) (tA M cf cl)) (hl : Len cl n) (hn : n + 1 = np) (hs : isStar a = false := by rfl) (hs2 : es.any isStar = false := by rfl)
    (ht : eval (.Call (.Attribute oe m apos) (a :: es) [] pos) X.env = (do
      let ov ← eval oe X.env
      standAt apos.atName
      let (f, first) ← holding [ov] (getMethod ov m pl)
      callWith pos f first (backTo pos (starEach (a :: es) X.env)) (backToKw pos (keywordEach [] X.env))) := by rfl) : PE X (.Call (.Attribute oe m apos) (a :: es) [] pos) (tE M cf (cCM c fi cl)) := by
  obtain ⟨fd, ps, F, hb⟩ := F.ex
  refine peW (ClX.pe_cmeth (pl := pl) ho r cm (F.raw hb .nil) hr (pass0) ha (starEach_plain hs) (starEach_any hs2) ht) fun σ H Q h => ?_
  obtain ⟨ρ, w, G, r', G', sl, st, ev, q'⟩ := h
  refine ⟨ρ, w, G, _, G, sl, st, rfl, fun v H1 w1 L1 s1 x1 => ⟨by have x1 : Rep M w1 (.cls c) v := x1; simpa only [Rep] using x1, ?_⟩⟩
  obtain ⟨⟨l, G1⟩, e0, e1⟩ := bindSome ev
  have A1 := (At.start sl st).step L1 s1
  refine ⟨ρ, w1, G, l, G1, A1.sl, A1.st, e0, fun vs H2 w2 L2 s2 rl => ?_⟩
  refine ⟨w2, G1, .cls c :: l, r', G', s2, ?_, by rw [List.length_cons, hl _ _ _ _ _ e0]; exact hn, e1, fun v H3 w3 L3 s3 x3 => q' v H3 w3 ((L1.trans L2).trans L3) s3 (x3.called (L1.trans L2))⟩
  rw [List.append_nil]
  exact RepL.cons (by simp only [Rep]) rl
/-! ### texts -/
theorem repS {w : Wd} : ∀ l : List Str, RepL M w (l.map D.str) (l.map V.str)
  | [] => RepL.nil
  | x :: l => RepL.cons (by simp only [Rep]) (repS l)
def strsOf : List D → Option (List Str)
  | [] => some []
  | .str x :: l => (strsOf l).map (x :: ·)
  | _ => none
theorem strsOf_rep {w : Wd} : ∀ {l : List D} {xs : List V} {ys : List Str}, strsOf l = some ys → RepL M w l xs → xs = ys.map V.str
  | [], xs, ys, e, r => by cases e; simp only [RepL] at r; exact r
  | d :: l, xs, ys, e, r => by
    cases d <;> first | (cases e; done) | skip
    obtain ⟨zs, e1, rfl⟩ := mapSome e
    simp only [RepL] at r
    obtain ⟨x, t, rfl, r1, r2⟩ := r
    simp only [Rep] at r1
    rw [r1, strsOf_rep e1 r2]
    rfl
def splitR (a b : R) (G : Sto) : Option R := match a, b with
  | .d (.str x), .d (.str y) => if (y.length ≠ 0 ∧ x.length + 2 ≤ sz) then some (.tmp (.lst ((Txt.split x y).map .str))) else none
  | _, _ => none
/-- x.split(y) -/
theorem n_split (ho : PE X oe (tE M cf co)) (he : PE X e (tE M cf ce)) (hs1 : isStar e = false := by rfl) (hbase : attributeBase oe "split" X.env (eval oe X.env) = eval oe X.env := by rfl)
    (hfew : ((backTo pos (starEach [e] X.env)).all (fun x => !x.1) && (backToKw pos (keywordEach [] X.env)).all (fun x => x.1.isSome) && decide ([e].length + ([] : List Keyword).length + (if ([] : List Keyword).isEmpty then 0 else 1) < 30)) = true := by rfl)
    (hline : (apos.endLine == pos.line) = true := by rfl) : PE X (.Call (.Attribute oe "split" apos) [e] [] pos) (tE M cf (cBinG splitR co ce)) :=
  peW (pe_bm PySem.F.plainAttrs_str PySem.F.slot_str_split PySem.F.type_str_split mt_split ho (pa_cons he pa_nil (starEach_plain hs1)) hbase hfew hline (starEach_plain hs1) rfl) fun σ H Q h => by
    obtain ⟨ρ, w, G, r, G', sl, st, e, q⟩ := h
    refine (At.start sl st).run e fun ra G1 x H1 w1 e1 L1 A1 x1 => ?_
    obtain ⟨⟨rb, G2⟩, e2, e3⟩ := bindSome e1
    obtain ⟨r', e4, e5⟩ := mapSome e3
    cases e5
    dsimp only at e4
    unfold splitR at e4
    split at e4
    · obtain ⟨hz, rfl⟩ := ifSome e4
      cases rx_str x1
      refine ⟨rfl, ρ, w1, G1, _, G2, A1.sl, A1.st, e2, fun y H2 w2 L2 s2 x2 => ?_⟩
      have A2 := A1.step L2 s2
      cases rx_str x2
      refine ⟨_, _, rfl, rfl, ?_, sz_line hz.2, fun p hp => A2.newLst q hp (repS _)⟩
      rw [beq_eq_false_iff_ne]
      exact hz.1
    · cases e4
/-- sep.join(list of texts) -/
def joinR (a b : R) (G : Sto) : Option R := match a with
  | .d (.str x) => (seqG b G).bind fun l => (strsOf l).bind fun ys => if ((ys.map (·.length)).sum + ys.length * x.length ≤ 16777216) then some (.d (.str (Txt.join x ys))) else none
  | _ => none
theorem n_join (hM : X.K = M.K) (ho : PE X oe (tE M cf co)) (he : PE X e (tE M cf ce)) (hs1 : isStar e = false := by rfl) (hbase : attributeBase oe "join" X.env (eval oe X.env) = eval oe X.env := by rfl)
    (hfew : ((backTo pos (starEach [e] X.env)).all (fun x => !x.1) && (backToKw pos (keywordEach [] X.env)).all (fun x => x.1.isSome) && decide ([e].length + ([] : List Keyword).length + (if ([] : List Keyword).isEmpty then 0 else 1) < 30)) = true := by rfl)
    (hline : (apos.endLine == pos.line) = true := by rfl) : PE X (.Call (.Attribute oe "join" apos) [e] [] pos) (tE M cf (cBinG joinR co ce)) :=
  peW (pe_bm PySem.F.plainAttrs_str PySem.F.slot_str_join PySem.F.type_str_join mt_join ho (pa_cons he pa_nil (starEach_plain hs1)) hbase hfew hline (starEach_plain hs1) rfl) fun σ H Q h => by
    obtain ⟨ρ, w, G, r, G', sl, st, e, q⟩ := h
    refine (At.start sl st).run e fun ra G1 x H1 w1 e1 L1 A1 x1 => ?_
    obtain ⟨⟨rb, G2⟩, e2, e3⟩ := bindSome e1
    obtain ⟨r', e4, e5⟩ := mapSome e3
    cases e5
    dsimp only at e4
    unfold joinR at e4
    split at e4
    · obtain ⟨l, e6, e7⟩ := bindSome e4
      obtain ⟨ys, e8, e9⟩ := bindSome e7
      obtain ⟨hz, rfl⟩ := ifSome e9
      cases rx_str x1
      refine ⟨rfl, ρ, w1, G1, _, G2, A1.sl, A1.st, e2, fun y H2 w2 L2 s2 x2 => ?_⟩
      have A2 := A1.step L2 s2
      obtain ⟨p, xs, rfl, h1, r1⟩ := A2.seqG (x2.back L1) e6
      have ex := strsOf_rep e8 r1
      subst ex
      exact ⟨_, p, ys, rfl, rfl, .inl (by rw [hM]; exact h1), hz, q _ H2 w2 (L1.trans L2) s2 of_str⟩
    · cases e4
/-- int(x) of a text too; str(x) of ints and texts -/
def intSR (r : R) (G : Sto) : Option R := match r with
  | .d (.str x) => if x.length ≤ 640 then (PySem.intText? x).map fun n => .d (.int n) else none
  | r => intR r G
def strR (r : R) (G : Sto) : Option R := match r with
  | .d (.int i) => if i.natAbs.log2 < 1920 then some (.d (.str (toString i))) else none
  | .d (.str x) => some (.d (.str x))
  | _ => none
theorem c_intS : CallR X (.type "int") (r1 M intSR) := by
  intro pins s σ' H xs us Q I rx h
  obtain ⟨H0, w0, σ, ρ, w, G, ra, r, x, rfl, A, xa, e, q⟩ := h
  unfold intSR at e
  split at e
  · split at e
    · rename_i hz
      obtain ⟨n, e1, rfl⟩ := mapSome e
      cases rx_str xa
      exact call_int_str pins s σ' H _ us Q I rx ⟨_, n, rfl, e1, hz, A.fin q of_int⟩
    · cases e
  · exact c_int pins s σ' H _ us Q I rx ⟨H0, w0, σ, ρ, w, G, ra, r, x, rfl, A, xa, e, q⟩
theorem c_str : CallR X (.type "str") (r1 M strR) := by
  intro pins s σ' H xs us Q I rx h
  obtain ⟨H0, w0, σ, ρ, w, G, ra, r, x, rfl, A, xa, e, q⟩ := h
  unfold strR at e
  split at e
  · obtain ⟨hz, rfl⟩ := ifSome e
    cases rx_int xa
    exact call_str_int pins s σ' H _ us Q I rx ⟨_, rfl, hz, A.fin q of_str⟩
  · cases e
    cases rx_str xa
    exact SkE.call_str_str pins s σ' H _ us Q I rx ⟨_, rfl, A.fin q of_str⟩
  · cases e
theorem n_intS (hm : X.mg "int" = none) (ha : PE X a (tE M cf ca)) (hg : Gl X "int" := by rfl) (hs : isStar a = false := by rfl) : PE X (.Call (.Name "int" p) [a] [] pos) (tE M cf (cUnG intSR ca)) := x_t1 c_intS hg hm PyProof.Rows.boot_int ha hs (by decide) (by decide)
theorem n_str (hm : X.mg "str" = none) (ha : PE X a (tE M cf ca)) (hg : Gl X "str" := by rfl) (hs : isStar a = false := by rfl) : PE X (.Call (.Name "str" p) [a] [] pos) (tE M cf (cUnG strR ca)) := x_t1 c_str hg hm PyProof.Rows.boot_str ha hs (by decide) (by decide)
end
end Lp

namespace Lp
open PySem PySem.Spec PyProof.Rows L2

/-! ### tuple * int, at most once -/
theorem tuple_mulSame (l : Addr) (items : Array Value) (n : Nat) (dd : Option Addr) (sl : Array (Option Value)) (x : Int) (u : Tok) (c0 : (decide (x < -(2 ^ 63)) || decide (x ≥ 2 ^ 63)) = false) (c1 : (items.isEmpty || x == 1) = true) :
    Meets (Builtin.«tuple.__mul__» ⟨[.ref l, .int x u], []⟩) (fun _ R s => s.heap.get? l = some { cls := .type "tuple", dict := dd, data := .seq items n, slots := sl } ∧
      R (.ok (.ret (Value.ref l))) s) :=
  .of_wp fun prog w A R s h => by
    obtain ⟨hp, g, d, tk, os⟩ := s
    obtain ⟨hl, h⟩ := h
    have f1 := AutoSeq1.idx_int
    wp_walk using wpAny_loadPart' hl
    repeat (first
      | (refine wpAny_ite_false (decide_eq_false (by rw [c0]; exact Bool.false_ne_true)) ?_; wp_walk using wpAny_loadPart' hl)
      | (refine wpAny_ite_true (decide_eq_true c1) ?_; wp_walk using wpAny_loadPart' hl))
    all_goals exact ⟨_, rfl, h⟩
theorem tuple_mulNone (l : Addr) (items : Array Value) (n : Nat) (dd : Option Addr) (sl : Array (Option Value)) (x : Int) (u : Tok) (c0 : (decide (x < -(2 ^ 63)) || decide (x ≥ 2 ^ 63)) = false) (c1 : (items.isEmpty || x == 1) = false) (c2 : (decide (x ≤ 0) || items.isEmpty) = true) :
    Meets (Builtin.«tuple.__mul__» ⟨[.ref l, .int x u], []⟩) (fun _ R s => s.heap.get? l = some { cls := .type "tuple", dict := dd, data := .seq items n, slots := sl } ∧
      R (.ok (.ret (Value.ref s.heap.objs.size))) { s with heap := s.heap.push { cls := Value.type "tuple", data := Data.seq #[] }, toks := s.toks }) :=
  .of_wp fun prog w A R s h => by
    obtain ⟨hp, g, d, tk, os⟩ := s
    obtain ⟨hl, h⟩ := h
    have f1 := AutoSeq1.idx_int
    wp_walk using wpAny_loadPart' hl
    repeat (first
      | (refine wpAny_ite_false (decide_eq_false (by rw [c0]; exact Bool.false_ne_true)) ?_; wp_walk using wpAny_loadPart' hl)
      | (refine wpAny_ite_false (decide_eq_false (by rw [c1]; exact Bool.false_ne_true)) ?_; wp_walk using wpAny_loadPart' hl)
      | (refine wpAny_ite_true (decide_eq_true c2) ?_; wp_walk using wpAny_loadPart' hl))
    all_goals exact ⟨_, rfl, h⟩
def rRepS (K : PySem.W.Frag) : R2 := fun x y H Q => ∃ l k xs, x = .ref l ∧ y = .int k ∧ SqT K H l xs ∧ -(2 ^ 63) ≤ k ∧ k < 2 ^ 63 ∧ ((xs = [] ∨ k = 1) ∧ Q (.ref l) H ∨ (xs ≠ [] ∧ k ≤ 0) ∧ ∀ p, H p = none → Q (.ref p) (upd H p (.tup [])))
theorem op_repS {X : Cx} : OpR X (binaryOp .Mult) (rRepS X.K) := by
  intro pins s σ H x y v u Q I rx ry h
  obtain ⟨l, k, xs, rfl, rfl, hT, h1, h2, q⟩ := h
  cases rx
  obtain ⟨t, rfl⟩ := ry
  obtain ⟨its, r, ⟨⟨cls, dd, data, sl⟩, ho, hc, n, hd⟩, hs⟩ := I.tuple hT
  simp only at hc hd
  subst hc hd
  have hle : its.length = xs.length := r.length.symm
  have c0 : (decide (k < -(2 ^ 63)) || decide (k ≥ 2 ^ 63)) = false := by
    rw [decide_eq_false (by omega), decide_eq_false (by omega)] <;> rfl
  rcases q with ⟨hk, q⟩ | ⟨⟨hne, hk⟩, q⟩
  · have c1 : (its.toArray.isEmpty || k == 1) = true := by
      rcases hk with rfl | rfl
      · have : its = [] := List.eq_nil_of_length_eq_zero hle
        subst this
        rfl
      · simp
    refine wpAny_binaryOp_repeat_ref (T := "tuple") (U := "int") (by decide) ⟨_, ho, rfl⟩ (fun s' => typeIs_int s' k t) noFill_tuple_mul F.fills_int_mul F.slot_int_rmul repeat_tuple F.slot_int_index.lookup
      (call_meets F.slot_int_rmul (typeIs_int s k t) F.entry_int_rmul (F.args_int_rmul_2 _ _) (int_rmul_tuple k t l its.toArray n dd sl)
        ⟨ho, rfl, ⟨_, ho, rfl⟩, call_meets F.slot_tuple_mul ⟨_, ho, rfl⟩ F.entry_tuple_mul (F.args_tuple_mul_2 _ _) (tuple_mulSame l its.toArray n dd sl k t c0 c1) ⟨ho, ?_⟩⟩)
    exact ⟨.ref l, H, I, rfl, q⟩
  · have hn : its ≠ [] := fun e => hne (by
      rw [e] at hle
      exact List.eq_nil_of_length_eq_zero hle.symm)
    have hi : its.toArray.isEmpty = false := by
      cases its with
      | nil => exact absurd rfl hn
      | cons a b => rfl
    have c1 : (its.toArray.isEmpty || k == 1) = false := by
      rw [hi, Bool.false_or]
      exact beq_eq_false_iff_ne.mpr (by omega)
    have c2 : (decide (k ≤ 0) || its.toArray.isEmpty) = true := by rw [decide_eq_true hk]; rfl
    refine wpAny_binaryOp_repeat_ref (T := "tuple") (U := "int") (by decide) ⟨_, ho, rfl⟩ (fun s' => typeIs_int s' k t) noFill_tuple_mul F.fills_int_mul F.slot_int_rmul repeat_tuple F.slot_int_index.lookup
      (call_meets F.slot_int_rmul (typeIs_int s k t) F.entry_int_rmul (F.args_int_rmul_2 _ _) (int_rmul_tuple k t l its.toArray n dd sl)
        ⟨ho, rfl, ⟨_, ho, rfl⟩, call_meets F.slot_tuple_mul ⟨_, ho, rfl⟩ F.entry_tuple_mul (F.args_tuple_mul_2 _ _) (tuple_mulNone l its.toArray n dd sl k t c0 c1 c2) ⟨ho, ?_⟩⟩)
    refine ⟨.ref s.heap.objs.size, _, I.laid (t' := s.toks) (o := .tup []) (fun b ob q => Heap.get?_push_of_some _ q) (Nat.le_refl _) ?_, rfl, q _ (I.hok.fresh (Nat.le_refl _))⟩
    exact ⟨Nat.zero_le _, [], .nil, IsTup.new _ _⟩
/-- also of tuples -/
def mulT (a b : R) : Option R := match a, b with
  | .d (.tup l), .d (.int k) => if (l.length ≤ 1000 ∧ k.natAbs ≤ 1000) then some (.d (.tup (List.replicate k.toNat l).flatten)) else none
  | a, b => mulR a b
theorem o_mulT {X : Cx} {M : Md} (hM : X.K = M.K) : OpR X (binaryOp .Mult) (rB M mulT) := by
  intro pins s σ' H x y v u Q I rx ry h
  obtain ⟨H0, w0, σ, ρ, w, G, ra, rb, r, A, xa, xb, e, q⟩ := h
  unfold mulT at e
  split at e
  · rename_i l k
    obtain ⟨hz, rfl⟩ := ifSome e
    cases rx_int xb
    obtain ⟨p, xs, rfl, h1, f1, r1⟩ := A.tup xa rfl
    have rr := r1.rep k.toNat
    by_cases hn : xs = []
    · subst hn
      have hl : l = [] := List.eq_nil_of_length_eq_zero r1.length
      subst hl
      refine op_repS pins s σ' H _ _ v u Q I rx ry ⟨p, k, [], rfl, rfl, by rw [hM]; exact h1, by omega, by omega, .inl ⟨.inl rfl, A.fin q (of_tup f1 ?_)⟩⟩
      have e0 : (List.replicate k.toNat ([] : List D)).flatten = [] := by simp
      rw [e0]
      exact RepL.nil
    · by_cases h1k : k = 1
      · subst h1k
        refine op_repS pins s σ' H _ _ v u Q I rx ry ⟨p, 1, xs, rfl, rfl, by rw [hM]; exact h1, by omega, by omega, .inl ⟨.inr rfl, A.fin q (of_tup f1 ?_)⟩⟩
        have e0 : (List.replicate (1 : Int).toNat l).flatten = l := by simp
        rw [e0]
        exact r1
      · by_cases h0 : k ≤ 0
        · refine op_repS pins s σ' H _ _ v u Q I rx ry ⟨p, k, xs, rfl, rfl, by rw [hM]; exact h1, by omega, by omega, .inr ⟨⟨hn, h0⟩, fun p' hp => A.newTup q hp ?_⟩⟩
          have e0 : (List.replicate k.toNat l).flatten = [] := by rw [show k.toNat = 0 by omega]; rfl
          rw [e0]
          exact RepL.nil
        · exact op_repT pins s σ' H _ _ v u Q I rx ry ⟨p, k, xs, rfl, rfl, by rw [hM]; exact h1, hn, by omega, by omega, by rw [← r1.length]; exact hz.1, fun p' hp => A.newTup q hp rr⟩
  · exact o_mul pins s σ' H _ _ v u Q I rx ry ⟨H0, w0, σ, ρ, w, G, ra, rb, r, A, xa, xb, e, q⟩
end Lp

namespace Lp
open PySem PySem.Spec PyProof.Rows L2

/-! ### isinstance, own classes too -/
structure InsT (K : PySem.W.Frag) (C : Addr) : Prop where
  cl : Cls K C
  ha : PySem.W.findIn K (.ref C) "__class__" = some (some (.builtin "object.__class__"))
  hn : PySem.W.specialIn K (.builtin "object.__class__") "__get__" = some (some (.builtin "getset_descriptor.__get__"))
  htk : PySem.W.takesIn K (.builtin "object.__class__") = some true
  hm : PySem.W.mroIn K C (.type "object") = some true
structure IsiF (K : PySem.W.Frag) (M : Md) (cs : List Nat) (inst : Nat → Nat → Bool) : Prop where
  f1 : ∀ (t : Ty) (c : Nat), c ∈ cs → PySem.W.kitOne K (.type t.nm) (.ref (M.ca c)) = some false
  f2 : ∀ (c : Nat) (t : Ty), c ∈ cs → PySem.W.kitOne K (.ref (M.ca c)) (.type t.nm) = some false
  f3 : ∀ c' c : Nat, c' ∈ cs → c ∈ cs → PySem.W.kitOne K (.ref (M.ca c')) (.ref (M.ca c)) = some (inst c' c)
  f4 : ∀ c : Nat, c ∈ cs → InsT K (M.ca c)
inductive Tx where
  | b (t : Ty) | c (n : Nat)
def Tx.v (M : Md) : Tx → Value
  | .b t => .type t.nm
  | .c n => .ref (M.ca n)
def tyX (cs : List Nat) (d : D) (G : Sto) : Option Tx := match tyD d G with
  | some t => some (.b t)
  | none => match insG (.d d) G with
    | some o => if o.1 ∈ cs then some (.c o.1) else none
    | none => none
def isiOne (cs : List Nat) (inst : Nat → Nat → Bool) (s : Tx) (k : D) : Option Bool := match s, k with
  | .b s, .ty t => some (isiT s t)
  | .c _, .ty _ => some false
  | .b _, .cls c => if c ∈ cs then some false else none
  | .c c', .cls c => if c ∈ cs then some (inst c' c) else none
  | _, _ => none
def isiAll (cs : List Nat) (inst : Nat → Nat → Bool) (s : Tx) : List D → Option Bool
  | [] => some false
  | k :: l => (isiOne cs inst s k).bind fun b => (isiAll cs inst s l).map fun c => b || c
def isiX (cs : List Nat) (inst : Nat → Nat → Bool) (a b : R) (G : Sto) : Option R := (dOf a).bind fun d => (tyX cs d G).bind fun s => match b with
  | .d (.tup l) => (isiAll cs inst s l).map fun b => .d (.bl b)
  | .d k => (isiOne cs inst s k).map fun b => .d (.bl b)
  | _ => none
def clsV? : D → Bool
  | .ty _ => true
  | .cls _ => true
  | _ => false
def valOf (M : Md) : D → Value
  | .ty t => .type t.nm
  | .cls c => .ref (M.ca c)
  | _ => .none
section
variable {X : Cx} {M : Md} {cf : CF} {a b : Expr} {ca cb : Fn} {p pos : Pos} {cs : List Nat} {inst : Nat → Nat → Bool}
theorem tyX_ok {K : PySem.W.Frag} (hM : K = M.K) (F : IsiF K M cs inst) {H00 H : Hp} {w00 w : Wd} {σ : L2.St} {ρ : Env} {G : Sto} {d : D} {v : V} {t : Tx} (A : At M H00 w00 σ ρ H w G) (x : Rep M w d v) (e : tyX cs d G = some t) : TyX K H v (t.v M) ∧ (∀ n, t = .c n → n ∈ cs) := by
  unfold tyX at e
  split at e
  · rename_i s es
    cases e
    exact ⟨tyD_ok hM A x es, fun n z => by cases z⟩
  · split at e
    · rename_i o eo
      obtain ⟨hc, rfl⟩ := ifSome e
      obtain ⟨c, ns, l⟩ := o
      obtain ⟨q, dx, fs, rfl, hq, _, _⟩ := A.ins (r := .d d) x eo
      have f := F.f4 c hc
      exact ⟨.base (.ins hq f.cl f.ha f.hn f.htk f.hm), fun n z => by cases z; exact hc⟩
    · cases e
theorem isiOne_ok {K : PySem.W.Frag} (F : IsiF K M cs inst) {s : Tx} {k : D} {b : Bool} (hs : ∀ n, s = .c n → n ∈ cs) (e : isiOne cs inst s k = some b) : PySem.W.kitOne K (s.v M) (valOf M k) = some b ∧ ∀ (w : Wd) (v : V), Rep M w k v → ClsV v (valOf M k) := by
  cases s with
  | b s =>
    cases k <;> first | (cases e; done) | skip
    · cases e
      exact ⟨kit_ty (kit_ok s _), fun w v r => by simp only [Rep] at r; subst r; exact .ty _⟩
    · obtain ⟨hc, rfl⟩ := ifSome e
      exact ⟨F.f1 s _ hc, fun w v r => by simp only [Rep] at r; subst r; exact .own _⟩
  | c n =>
    cases k <;> first | (cases e; done) | skip
    · cases e
      exact ⟨F.f2 n _ (hs n rfl), fun w v r => by simp only [Rep] at r; subst r; exact .ty _⟩
    · obtain ⟨hc, rfl⟩ := ifSome e
      exact ⟨F.f3 n _ (hs n rfl) hc, fun w v r => by simp only [Rep] at r; subst r; exact .own _⟩
theorem isiAll_ok {K : PySem.W.Frag} (F : IsiF K M cs inst) {w : Wd} {s : Tx} (hs : ∀ n, s = .c n → n ∈ cs) : ∀ {l : List D} {xs : List V} {b : Bool}, isiAll cs inst s l = some b → RepL M w l xs → Paired ClsV xs (l.map (valOf M)) ∧ PySem.W.kitAny K (s.v M) (l.map (valOf M)) = some b
  | [], xs, b, e, r => by
    cases e
    simp only [RepL] at r
    subst r
    exact ⟨.nil, kitAny_nil⟩
  | k :: l, xs, b, e, r => by
    obtain ⟨b1, e1, e2⟩ := bindSome e
    obtain ⟨b2, e3, rfl⟩ := mapSome e2
    simp only [RepL] at r
    obtain ⟨x, t, rfl, r1, r2⟩ := r
    obtain ⟨p, q⟩ := isiAll_ok F hs e3 r2
    obtain ⟨k1, k2⟩ := isiOne_ok F hs e1
    refine ⟨.cons (k2 w x r1) p, kitAny_cons k1 (fun h => ?_) (fun h => ?_)⟩
    · subst h; rw [Bool.false_or]; exact q
    · subst h; rfl
theorem c_isi (hM : X.K = M.K) (F : IsiF X.K M cs inst) : CallR X (.builtin "isinstance") (r2 M (isiX cs inst)) := by
  intro pins s σ' H xs us Q I rx h
  obtain ⟨H0, w0, σ, ρ, w, G, ra, rb, r, x, y, rfl, A, xa, xb, e, q⟩ := h
  obtain ⟨d, e1, e2⟩ := bindSome e
  obtain ⟨t, e3, e4⟩ := bindSome e2
  cases ra <;> first | (cases e1; done) | skip
  cases e1
  obtain ⟨ty, hs⟩ := tyX_ok hM F A xa e3
  split at e4
  · obtain ⟨b, e5, rfl⟩ := mapSome e4
    obtain ⟨p, zs, rfl, h1, f1, r1⟩ := A.tup xb rfl
    obtain ⟨pp, kk⟩ := isiAll_ok F hs e5 r1
    exact call_isiT pins s σ' H _ us Q I rx ⟨x, p, zs, _, _, b, rfl, A.st.fzH _ _ f1, pp, ty, kk, A.fin q of_bl⟩
  · rename_i k _
    obtain ⟨b, e5, rfl⟩ := mapSome e4
    obtain ⟨k1, k2⟩ := isiOne_ok F hs e5
    exact call_isi pins s σ' H _ us Q I rx ⟨x, y, _, _, b, rfl, k2 w y xb, ty, k1, A.fin q of_bl⟩
  · cases e4
theorem n_isiX (hM : X.K = M.K) (F : IsiF X.K M cs inst) (hm : X.mg "isinstance" = none) (ha : PE X a (tE M cf ca)) (hb : PE X b (tE M cf cb)) (hg : Gl X "isinstance" := by rfl) (hs : isStar a = false := by rfl) (hs2 : isStar b = false := by rfl) : PE X (.Call (.Name "isinstance" p) [a, b] [] pos) (tE M cf (cBinG (isiX cs inst) ca cb)) :=
  x_b2 (c_isi hM F) hg hm PyProof.Rows.boot_isinstance ha hb hs hs2 (by decide) (by decide)
end
end Lp

namespace Lp
open PySem PySem.Spec PyProof.Rows L2

/-! ### a head's hook with more checks -/
def obsX (n : Nat) (fa : List He.Fa) (fn : List He.DefD) (ex : PySem.W.Frag → Bool) (g : Addr → Option Obj) : He.AlD × Bool := (He.obsD fa fn (He.frG g (He.asD g n)), ex (He.frG g (He.asD g n)))
def hookX (n : Nat) (fa : List He.Fa) (fn : List He.DefD) (ex : PySem.W.Frag → Bool) : PySem.W.Hook where
  α := He.AlD × Bool
  obs := fun s => obsX n fa fn ex s.heap.get?
  val := fun _ => (He.valD fn, true)
  says := fun _ h => ∃ K : PySem.W.Frag, K.In h ∧ He.SaysD fa fn K ∧ ex K = true
  of := fun _ _ e => ⟨_, He.frG_in, congrArg (fun z : He.AlD × Bool => z.1) e, congrArg (fun z : He.AlD × Bool => z.2) e⟩
  keeps := fun _ _ _ ⟨K, hK, c, d⟩ k => ⟨K, PySem.W.Frag.In.keeps hK k, c, d⟩
theorem obsX_eq {n : Nat} {fa : List He.Fa} {fn : List He.DefD} {ex : PySem.W.Frag → Bool} {g : Addr → Option Obj} {s : Shared} (h : ∀ a, g a = s.heap.get? a) : obsX n fa fn ex g = (hookX n fa fn ex).obs s := by
  have e : g = s.heap.get? := funext h
  rw [e] <;> rfl
/-! checks of classes -/
def okO {α : Type} [DecidableEq α] (a b : α) : Bool := decide (a = b)
def insTB (K : PySem.W.Frag) (C : Addr) : Bool := He.eqO (PySem.W.findIn K (.ref C) "__class__") (some (some (.builtin "object.__class__"))) && (He.eqO (PySem.W.specialIn K (.builtin "object.__class__") "__get__") (some (some (.builtin "getset_descriptor.__get__"))) &&
  (decide (PySem.W.takesIn K (.builtin "object.__class__") = some true) && decide (PySem.W.mroIn K C (.type "object") = some true)))
theorem insTB_ok {K : PySem.W.Frag} {C : Addr} (c : Cls K C) (h : insTB K C = true) : InsT K C := by
  unfold insTB at h
  obtain ⟨h1, h⟩ := He.ba h
  obtain ⟨h2, h⟩ := He.ba h
  obtain ⟨h3, h4⟩ := He.ba h
  exact ⟨c, He.eqO_ok h1, He.eqO_ok h2, of_decide_eq_true h3, of_decide_eq_true h4⟩
def tys : List Ty := [.non, .bool, .int, .str, .tuple, .list, .dict, .set]
theorem tys_all (t : Ty) : t ∈ tys := by cases t <;> decide
def isiFB (K : PySem.W.Frag) (ca : Nat → Addr) (cs : List Nat) (inst : Nat → Nat → Bool) : Bool :=
  (tys.all fun t => cs.all fun c => decide (PySem.W.kitOne K (.type t.nm) (.ref (ca c)) = some false) && decide (PySem.W.kitOne K (.ref (ca c)) (.type t.nm) = some false)) &&
  ((cs.all fun c' => cs.all fun c => decide (PySem.W.kitOne K (.ref (ca c')) (.ref (ca c)) = some (inst c' c))) && cs.all fun c => insTB K (ca c))
theorem isiFB_ok {K : PySem.W.Frag} {M : Md} {cs : List Nat} {inst : Nat → Nat → Bool} (hc : ∀ c ∈ cs, Cls K (M.ca c)) (h : isiFB K M.ca cs inst = true) : IsiF K M cs inst := by
  unfold isiFB at h
  obtain ⟨h1, h⟩ := He.ba h
  obtain ⟨h2, h3⟩ := He.ba h
  simp only [List.all_eq_true, Bool.and_eq_true, decide_eq_true_eq] at h1 h2 h3
  exact ⟨fun t c hm => (h1 t (tys_all t) c hm).1, fun c t hm => (h1 t (tys_all t) c hm).2, fun c' c hm' hm => h2 c' hm' c hm, fun c hm => insTB_ok (hc c hm) (h3 c hm)⟩
/-- the property f of C, its getter -/
def propB (K : PySem.W.Frag) (C : Addr) (f : Str) (p g : Addr) : Bool := He.eqO (PySem.W.findIn K (.ref C) f) (some (some (.ref p))) && (He.eqO (PySem.W.specialIn K (.ref p) "__get__") (some (some (.builtin "property.__get__"))) &&
  (decide (PySem.W.takesIn K (.ref p) = some true) && (match PySem.W.recIn K p "property" with
    | some (.ref g' :: _) => decide (g' = g)
    | _ => false)))
theorem propB_ok {K : PySem.W.Frag} {C : Addr} {f : Str} {p g : Addr} (h : propB K C f p g = true) : PropOf K C f p g := by
  unfold propB at h
  obtain ⟨h1, h⟩ := He.ba h
  obtain ⟨h2, h⟩ := He.ba h
  obtain ⟨h3, h4⟩ := He.ba h
  refine ⟨He.eqO_ok h1, He.eqO_ok h2, of_decide_eq_true h3, ?_⟩
  split at h4
  · rename_i g' rest e
    rw [of_decide_eq_true h4] at e
    exact ⟨rest, e⟩
  · cases h4
/-- class methods -/
def crB (K : PySem.W.Frag) (C : Addr) : Bool := PySem.W.readsIn K C (.type "type") && He.eqO (PySem.W.specialIn K (.ref C) "__getattribute__") (some (some (.builtin "type.__getattribute__")))
theorem crB_ok {K : PySem.W.Frag} {C : Addr} (h : crB K C = true) : ClX.CRead K C (.type "type") := by
  unfold crB at h
  obtain ⟨h1, h2⟩ := He.ba h
  exact ⟨h1, He.eqO_ok h2⟩
def cmB (K : PySem.W.Frag) (C : Addr) (m : Str) (p g : Addr) : Bool := (match PySem.W.findCls K (.ref C) (.type "type") m with
  | some (.get (.builtin b) (.ref p') .none (.ref C')) => decide (b = "classmethod.__get__") && (decide (p' = p) && decide (C' = C))
  | _ => false) && ((match PySem.W.recIn K p "classmethod" with
  | some (.ref g' :: _) => decide (g' = g)
  | _ => false) && PySem.W.fnIn K g)
theorem cmB_ok {K : PySem.W.Frag} {C : Addr} {m : Str} {p g : Addr} (h : cmB K C m p g = true) : ClX.CMet K C (.type "type") m p g := by
  unfold cmB at h
  obtain ⟨h1, h⟩ := He.ba h
  obtain ⟨h2, h3⟩ := He.ba h
  refine ⟨?_, ?_, h3⟩
  · split at h1
    · rename_i b p' C' e
      obtain ⟨a1, h1⟩ := He.ba h1
      obtain ⟨a2, a3⟩ := He.ba h1
      have b1 := of_decide_eq_true a1
      have b2 := of_decide_eq_true a2
      have b3 := of_decide_eq_true a3
      subst b1 b2 b3
      exact e
    · cases h1
  · split at h2
    · rename_i g' rest e
      rw [of_decide_eq_true h2] at e
      exact ⟨rest, e⟩
    · cases h2
end Lp

namespace Lp
open PySem PySem.Spec PyProof.Rows L2

/-! ### defs at addresses -/
def recA (K : PySem.W.Frag) (p : Addr) (nm : String) : Addr := match PySem.W.recIn K p nm with
  | some (.ref g :: _) => g
  | _ => 0
def fnAt (K : PySem.W.Frag) (a : Addr) : He.FnW := match K.lookup a with
  | some ⟨_, _, .func q, _⟩ => some (q.name, q.qualname, q.params, q.body, q.scope, q.globals, q.closure, q.builtins)
  | _ => none
def fnAtOk (K : PySem.W.Frag) (a : Addr) (qual : Str) : Bool := PySem.W.keepIn K (.ref a) && (match K.lookup a with
  | some ⟨_, _, .func q, _⟩ => PySem.W.codeIn K q.code qual && (He.dflB K q.defaults [] && He.kwdB K q.kwdefaults [])
  | _ => false)
theorem fnAt_ok {K : PySem.W.Frag} {a : Addr} {d : He.DefD} (hd : d.dfl = []) (hw : d.kwd = []) (e : fnAt K a = d.val) (c : fnAtOk K a d.qual = true) : ∃ fd, FunD K d.name d.qual d.params d.body d.scope [] [] a fd := by
  obtain ⟨kp, c2⟩ := He.ba c
  unfold fnAt at e
  cases q : K.lookup a with
  | none => rw [q] at c2; cases c2
  | some o =>
    obtain ⟨o1, o2, o3, o4⟩ := o
    rw [q] at c2 e
    cases o3 with
    | func fd =>
      obtain ⟨m1, m2, m3, m4, m5, m6, m7, m8, m9, m10, m11, m12, m13, m14, m15⟩ := fd
      have e1 : (some (m1, m2, m3, m4, m5, m6, m7, m15) : He.FnW) = some (d.name, d.qual, d.params, .stmts d.body, d.scope, mainGlobals, [], builtinsNs) := e
      simp only [Option.some.injEq, Prod.mk.injEq] at e1
      obtain ⟨r1, r2, r3, r4, r5, r6, r7, r8⟩ := e1
      subst r1 r2 r3 r4 r5 r6 r7 r8
      obtain ⟨s1, s2⟩ := He.ba (show (PySem.W.codeIn K m13 d.qual && (He.dflB K m8 [] && He.kwdB K m9 [])) = true from c2)
      obtain ⟨s3, s4⟩ := He.ba s2
      exact ⟨_, ⟨o1, o2, m8, m9, m10, m11, m12, m13, m14, o4, rfl, q, s1, He.dflB_ok s3, He.kwdB_ok s4⟩, kp⟩
    | _ => cases c2
/-- what is looked at: also where the statics stand -/
def frY (g : Addr → Option Obj) (n : Nat) : PySem.W.Frag := He.frG g (PySem.cStatics :: He.asD g n)
/-- a hook that also knows defs at addresses -/
abbrev FxL := List ((PySem.W.Frag → Addr) × He.DefD)
def obsY (n : Nat) (fa : List He.Fa) (fn : List He.DefD) (ex : PySem.W.Frag → Bool) (fx : FxL) (g : Addr → Option Obj) : He.AlD × Bool × List He.FnW :=
  (He.obsD fa fn (frY g n), (ex (frY g n) && fx.all fun q => fnAtOk (frY g n) (q.1 (frY g n)) q.2.qual), fx.map fun q => fnAt (frY g n) (q.1 (frY g n)))
structure SaysY (fa : List He.Fa) (fn : List He.DefD) (ex : PySem.W.Frag → Bool) (fx : FxL) (K : PySem.W.Frag) : Prop where
  says : He.SaysD fa fn K
  ex : ex K = true
  ok : ∀ q ∈ fx, fnAtOk K (q.1 K) q.2.qual = true
  fx : fx.map (fun q => fnAt K (q.1 K)) = fx.map fun q => q.2.val
def hookY (n : Nat) (fa : List He.Fa) (fn : List He.DefD) (ex : PySem.W.Frag → Bool) (fx : FxL) : PySem.W.Hook where
  α := He.AlD × Bool × List He.FnW
  obs := fun s => obsY n fa fn ex fx s.heap.get?
  val := fun _ => (He.valD fn, true, fx.map fun q => q.2.val)
  says := fun _ h => ∃ K : PySem.W.Frag, K.In h ∧ SaysY fa fn ex fx K
  of := fun _ _ e => by
    refine ⟨_, He.frG_in, congrArg (fun z : He.AlD × Bool × List He.FnW => z.1) e, ?_, ?_, congrArg (fun z : He.AlD × Bool × List He.FnW => z.2.2) e⟩
    · exact (He.ba (congrArg (fun z : He.AlD × Bool × List He.FnW => z.2.1) e)).1
    · exact List.all_eq_true.mp (He.ba (congrArg (fun z : He.AlD × Bool × List He.FnW => z.2.1) e)).2
  keeps := fun _ _ _ ⟨K, hK, c⟩ k => ⟨K, PySem.W.Frag.In.keeps hK k, c⟩
theorem obsY_eq {n : Nat} {fa : List He.Fa} {fn : List He.DefD} {ex : PySem.W.Frag → Bool} {fx : FxL} {g : Addr → Option Obj} {s : Shared} (h : ∀ a, g a = s.heap.get? a) : obsY n fa fn ex fx g = (hookY n fa fn ex fx).obs s := by
  have e : g = s.heap.get? := funext h
  rw [e] <;> rfl
theorem SaysY.at_ {fa : List He.Fa} {fn : List He.DefD} {ex : PySem.W.Frag → Bool} {fx : FxL} {K : PySem.W.Frag} (c : SaysY fa fn ex fx K) (i : Nat) {q : (PySem.W.Frag → Addr) × He.DefD} (h : fx[i]? = some q := by rfl) (hd : q.2.dfl = [] := by rfl) (hw : q.2.kwd = [] := by rfl) : ∃ fd, FunD K q.2.name q.2.qual q.2.params q.2.body q.2.scope [] [] (q.1 K) fd := by
  have e := c.fx
  have e2 : (fx.map (fun q => fnAt K (q.1 K)))[i]? = (fx.map fun q => q.2.val)[i]? := by rw [e]
  rw [List.getElem?_map, List.getElem?_map, h] at e2
  exact fnAt_ok hd hw (Option.some.inj e2) (c.ok q (List.mem_of_getElem? h))
end Lp

namespace Lp
open PySem PySem.Spec PyProof.Rows L2

/-! ### the tower, two of the kit's levels a call -/
section
variable {P : Program} {w : World} {K : PySem.W.Frag} {mg : Str → Option Value} {base : Heap} {M : Md} {n fi : Nat} {T : Tb} {x qual : Str} {N ps : List Str} {c : SFn} {params : Arguments} {body : List Stmt} {scope : Scope} {kws : List (Str × V)} {dvs : List V} {f : Addr} {fd : FuncData}
theorem fn2_zero : FnOk P w K mg base CX0 (2 * 0) f fd ps (spD M (runT T 0) fi ps.length) := ⟨spD_len, fun A outer s H args us vs Q E hr he hbd hv hs => by
    obtain ⟨w0, G, l, r, G', _, _, _, e, _⟩ := hs
    cases e⟩
theorem fn2_succ (F : FunD K x qual params body scope dvs kws f fd) (S : FnScope N ps scope) (hT : T fi = some (N.length, c))
    (h : ∀ (cdv : Value) (A : Around) (outer : List PySem.Env) (s : Shared) (H : Hp) (w0 : Wd) (E : XK), Room (2 * n + 1) (A.deeper (envOfC qual scope s.heap.objs.size f cdv)) → PSs (cxOf CX0 P w K mg base N qual scope f cdv A outer s H E).nox body (tS M (runT T n) H w0 c)) : FnOk P w K mg base CX0 (2 * (n + 1)) f fd ps (spD M (runT T (n + 1)) fi ps.length) :=
  fn_ok F S h fun l G z _ e => by
    rw [runT_succ T n fi _ _ _ _ hT] at e
    exact e
theorem calD2 {k : Nat} {us : List Value} {ds : List D} (F : FunD K x qual params body scope dvs kws f fd) (hm : mg x = some (.ref f)) (hb : Binds K fd ps us) {vs : List V} (hv : Vals vs us) (hd : ∀ w, RepL M w ds vs) {cf : CF} (ok : FnOk P w K mg base CX0 k f fd ps (spD M cf fi ps.length)) : CalD P w K mg base k M cf x fi ps.length ds :=
  ⟨f, fd, ps, us, vs, ok, hm, F.kp, hb, hv, hd⟩
theorem fnD2 {k : Nat} (hb : Binds K fd ps []) {cf : CF} (ok : FnOk P w K mg base CX0 k f fd ps (spD M cf fi ps.length)) : FnD P w K mg base k M cf f fi ps.length := ⟨fd, ps, ok, hb⟩
end
end Lp

namespace Lp
open PySem PySem.Spec PyProof.Rows L2
section
variable {X : Cx} {M : Md} {cf : CF} {H0 : Hp} {w0 : Wd} {a b c : Expr} {ca cb : Fn} {pos : Pos} {x y z : Str}
theorem n_mulT (hM : X.K = M.K) (ha : PE X a (tE M cf ca)) (hb : PE X b (tE M cf cb)) : PE X (.BinOp a .Mult b pos) (tE M cf (cBin mulT ca cb)) := x_bin (o_mulT hM) ha hb
theorem n_par3 {m1 m2 m3 : Mo} {i j l : Nat} {d : FnRs} {px py pz pt pt2 : Pos} {kt k2 : Nat} (hc : X.calm = true) (hN : X.N.Nodup) (ha : PA X [a, b, c] (tR M cf d)) (hi : X.N[i]? = some x := by rfl) (hj : X.N[j]? = some y := by rfl) (hl : X.N[l]? = some z := by rfl) (hij : i ≠ j := by decide) (hil : i ≠ l := by decide) (hjl : j ≠ l := by decide)
    (hx : X.env.scope.names.lookup x = some .local := by rfl) (hy : X.env.scope.names.lookup y = some .local := by rfl) (hz : X.env.scope.names.lookup z = some .local := by rfl)
    (hw : swappedStores [.Tuple [.Name x px, .Name y py, .Name z pz] kt pt] (.Tuple [a, b, c] k2 pt2) X.env = pure (some [x, y, z]) := by rfl)
    (hs : swapsWithSole [.Tuple [.Name x px, .Name y py, .Name z pz] kt pt] (.Tuple [a, b, c] k2 pt2) pos.line X.env = pure false := by rfl) :
    PS X (.Assign [.Tuple [.Name x px, .Name y py, .Name z pz] kt pt] (.Tuple [a, b, c] k2 pt2) pos) (tS M cf H0 w0 (sPar [(m1, i), (m2, j), (m3, l)] d)) := s_par3 (ps_par3 hc hN hi hj hl hij hil hjl hx hy hz ha hw hs)
end
end Lp
namespace Lp
open PySem PySem.Spec PyProof.Rows L2
/-- an expression that is never come to -/
def cNever : Fn := fun _ _ _ => none
theorem x_never {X : Cx} {M : Md} {cf : CF} {e : Expr} : PE X e (tE M cf cNever) := ⟨fun pins s σ H Q I h => by
  obtain ⟨ρ, w, G, r, G', sl, st, ev, q⟩ := h
  cases ev⟩
end Lp

namespace Lp
open PySem PySem.Spec PyProof.Rows L2

/-! ### instances that stand for good as soon as they are made -/
mutual
/-- no shared object from number n on -/
def bdD (n : Nat) : D → Prop
  | .tup l => bdDs n l
  | .lst l => bdDs n l
  | .scr l => bdDs n l
  | .ins _ _ l => bdDs n l
  | .dK _ l => bdDs n l
  | .dT _ l => bdDs n l
  | .ref k => k < n
  | _ => True
def bdDs (n : Nat) : List D → Prop
  | [] => True
  | d :: l => bdD n d ∧ bdDs n l
end
mutual
def noRef : D → Bool
  | .tup l => noRefs l
  | .lst l => noRefs l
  | .scr l => noRefs l
  | .ins _ _ l => noRefs l
  | .dK _ l => noRefs l
  | .dT _ l => noRefs l
  | .ref _ => false
  | _ => true
def noRefs : List D → Bool
  | [] => true
  | d :: l => noRef d && noRefs l
end
mutual
theorem noRef_bd {n : Nat} : ∀ d : D, noRef d = true → bdD n d
  | .tup l, h => by simp only [noRef] at h; simp only [bdD]; exact noRefs_bd l h
  | .lst l, h => by simp only [noRef] at h; simp only [bdD]; exact noRefs_bd l h
  | .scr l, h => by simp only [noRef] at h; simp only [bdD]; exact noRefs_bd l h
  | .ins _ _ l, h => by simp only [noRef] at h; simp only [bdD]; exact noRefs_bd l h
  | .dK _ l, h => by simp only [noRef] at h; simp only [bdD]; exact noRefs_bd l h
  | .dT _ l, h => by simp only [noRef] at h; simp only [bdD]; exact noRefs_bd l h
  | .ref _, h => by simp only [noRef] at h; cases h
  | .non, _ => by simp only [bdD]
  | .bl _, _ => by simp only [bdD]
  | .int _, _ => by simp only [bdD]
  | .str _, _ => by simp only [bdD]
  | .ty _, _ => by simp only [bdD]
  | .cls _, _ => by simp only [bdD]
  | .fn _, _ => by simp only [bdD]
theorem noRefs_bd {n : Nat} : ∀ l : List D, noRefs l = true → bdDs n l
  | [], _ => by simp only [bdDs]
  | d :: l, h => by
    simp only [noRefs, Bool.and_eq_true] at h
    simp only [bdDs]
    exact ⟨noRef_bd d h.1, noRefs_bd l h.2⟩
end
mutual
theorem rep_bd {M : Md} {w : Wd} : ∀ (d : D) (v : V), Rep M w d v → bdD w.al.length d
  | .tup l, _, h => by simp only [Rep] at h; obtain ⟨a, xs, e, s, r⟩ := h; simp only [bdD]; exact repL_bd l _ r
  | .lst l, _, h => by simp only [Rep] at h; obtain ⟨a, xs, e, s, r⟩ := h; simp only [bdD]; exact repL_bd l _ r
  | .scr l, _, h => by simp only [Rep] at h; obtain ⟨a, xs, e, s, r⟩ := h; simp only [bdD]; exact repL_bd l _ r
  | .ins _ _ l, _, h => by simp only [Rep] at h; obtain ⟨a, dx, fs, e, s, q, r⟩ := h; simp only [bdD]; exact repL_bd l _ r
  | .dK _ l, _, h => by simp only [Rep] at h; obtain ⟨a, dx, fs, e, s, q, r⟩ := h; simp only [bdD]; exact repL_bd l _ r
  | .dT _ l, _, h => by simp only [Rep] at h; obtain ⟨a, dx, fs, e, s, q, r⟩ := h; simp only [bdD]; exact repL_bd l _ r
  | .ref _, _, h => by simp only [Rep] at h; obtain ⟨a, e, s⟩ := h; simp only [bdD]; exact (List.getElem?_eq_some_iff.mp s).1
  | .non, _, _ => by simp only [bdD]
  | .bl _, _, _ => by simp only [bdD]
  | .int _, _, _ => by simp only [bdD]
  | .str _, _, _ => by simp only [bdD]
  | .ty _, _, _ => by simp only [bdD]
  | .cls _, _, _ => by simp only [bdD]
  | .fn _, _, _ => by simp only [bdD]
theorem repL_bd {M : Md} {w : Wd} : ∀ (l : List D) (xs : List V), RepL M w l xs → bdDs w.al.length l
  | [], _, _ => by simp only [bdDs]
  | d :: l, _, h => by
    simp only [RepL] at h
    obtain ⟨x, r, e, h1, h2⟩ := h
    simp only [bdDs]
    exact ⟨rep_bd d x h1, repL_bd l r h2⟩
end
mutual
theorem rep_cut {M : Md} {w w' : Wd} {n : Nat} (hf : ∀ a o, w.fz a = some o → w'.fz a = some o) (ha : ∀ (k : Nat) (a : Addr), k < n → w.al[k]? = some a → w'.al[k]? = some a) : ∀ (d : D) (v : V), bdD n d → Rep M w d v → Rep M w' d v
  | .tup l, _, b, h => by simp only [Rep] at h ⊢; simp only [bdD] at b; obtain ⟨a, xs, e, s, r⟩ := h; exact ⟨a, xs, e, hf _ _ s, repL_cut hf ha l xs b r⟩
  | .lst l, _, b, h => by simp only [Rep] at h ⊢; simp only [bdD] at b; obtain ⟨a, xs, e, s, r⟩ := h; exact ⟨a, xs, e, hf _ _ s, repL_cut hf ha l xs b r⟩
  | .scr l, _, b, h => by simp only [Rep] at h ⊢; simp only [bdD] at b; obtain ⟨a, xs, e, s, r⟩ := h; exact ⟨a, xs, e, sqL_mono hf s, repL_cut hf ha l xs b r⟩
  | .ins _ _ l, _, b, h => by simp only [Rep] at h ⊢; simp only [bdD] at b; obtain ⟨a, dx, fs, e, s, q, r⟩ := h; exact ⟨a, dx, fs, e, hf _ _ s, q, repL_cut hf ha l _ b r⟩
  | .dK _ l, _, b, h => by simp only [Rep] at h ⊢; simp only [bdD] at b; obtain ⟨a, dx, fs, e, s, q, r⟩ := h; exact ⟨a, dx, fs, e, hf _ _ s, q, repL_cut hf ha l _ b r⟩
  | .dT _ l, _, b, h => by simp only [Rep] at h ⊢; simp only [bdD] at b; obtain ⟨a, dx, fs, e, s, q, r⟩ := h; exact ⟨a, dx, fs, e, hf _ _ s, q, repL_cut hf ha l _ b r⟩
  | .ref _, _, b, h => by simp only [Rep] at h ⊢; simp only [bdD] at b; obtain ⟨a, e, s⟩ := h; exact ⟨a, e, ha _ _ b s⟩
  | .non, _, _, h => by simp only [Rep] at h ⊢; exact h
  | .bl _, _, _, h => by simp only [Rep] at h ⊢; exact h
  | .int _, _, _, h => by simp only [Rep] at h ⊢; exact h
  | .str _, _, _, h => by simp only [Rep] at h ⊢; exact h
  | .ty _, _, _, h => by simp only [Rep] at h ⊢; exact h
  | .cls _, _, _, h => by simp only [Rep] at h ⊢; exact h
  | .fn _, _, _, h => by simp only [Rep] at h ⊢; exact h
theorem repL_cut {M : Md} {w w' : Wd} {n : Nat} (hf : ∀ a o, w.fz a = some o → w'.fz a = some o) (ha : ∀ (k : Nat) (a : Addr), k < n → w.al[k]? = some a → w'.al[k]? = some a) : ∀ (l : List D) (xs : List V), bdDs n l → RepL M w l xs → RepL M w' l xs
  | [], _, _, h => by simp only [RepL] at h ⊢; exact h
  | d :: l, _, b, h => by
    simp only [RepL] at h ⊢
    simp only [bdDs] at b
    obtain ⟨x, r, e, h1, h2⟩ := h
    exact ⟨x, r, e, rep_cut hf ha d x b.1 h1, repL_cut hf ha l r b.2 h2⟩
end
def bdO (n : Nat) : Ob → Prop
  | .lst l => bdDs n l
  | .dK _ l => bdDs n l
  | .dT _ l => bdDs n l
  | .ins _ _ l => bdDs n l
theorem obAt_bd {M : Md} {w : Wd} {H : Hp} {a : Addr} {o : Ob} (h : ObAt M w H a o) : bdO w.al.length o := by
  cases o with
  | lst l => obtain ⟨xs, e, r⟩ := h; exact repL_bd l _ r
  | dK ks vs => obtain ⟨xs, e, q, r⟩ := h; exact repL_bd _ _ r
  | dT ks vs => obtain ⟨xs, e, q, r⟩ := h; exact repL_bd _ _ r
  | ins c ns l => obtain ⟨dx, fs, e, q, r⟩ := h; exact repL_bd _ _ r
theorem obAt_cut {M : Md} {w w' : Wd} {n : Nat} (hf : ∀ a o, w.fz a = some o → w'.fz a = some o) (ha : ∀ (k : Nat) (a : Addr), k < n → w.al[k]? = some a → w'.al[k]? = some a) {H : Hp} {a : Addr} {o : Ob} (b : bdO n o) (h : ObAt M w H a o) : ObAt M w' H a o := by
  cases o with
  | lst l => obtain ⟨xs, e, r⟩ := h; exact ⟨xs, e, repL_cut hf ha l _ b r⟩
  | dK ks vs => obtain ⟨xs, e, q, r⟩ := h; exact ⟨xs, e, q, repL_cut hf ha _ _ b r⟩
  | dT ks vs => obtain ⟨xs, e, q, r⟩ := h; exact ⟨xs, e, q, repL_cut hf ha _ _ b r⟩
  | ins c ns l => obtain ⟨dx, fs, e, q, r⟩ := h; exact ⟨dx, fs, e, q, repL_cut hf ha _ _ b r⟩
def cMakeF (c fi : Nat) (a : FnL) : Fn := fun cf ρ G => (a cf ρ G).bind fun p => if noRefs p.1 = true then (cf fi (.ref 0 :: p.1) [.ins c [] []]).bind fun q => match q.1, q.2 with
  | .d .non, [.ins c' ns l] => if (decide (c' = c) && noRefs l) = true then some (.d (.ins c ns l), p.2) else none
  | _, _ => none else none
section
variable {X : Cx} {M : Md} {cf : CF} {H0 : Hp} {w0 : Wd} {e a b oe : Expr} {es : List Expr} {ce ca co : Fn} {cl : FnL} {pos pos' apos p : Pos} {k j fi np c : Nat} {x f : Str} {cs : List Nat} {g pa : Addr}
theorem x_makeF {n : Nat} {fa : Addr} (Mk_ : Mk X.K (M.ca c) fa) (hm : X.mg x = some (.ref (M.ca c))) (F : FnD X.prog X.w X.K X.mg X.base k M cf fa fi np) (hr : Room (k + 1) X.A) (ha : PA X (a :: es) (tA M cf cl)) (hl : Len cl n) (hn : n + 1 = np) (hg : Gl X x := by rfl) (hs : isStar a = false := by rfl) (hs2 : es.any isStar = false := by rfl)
    (hdb : (x == ("__debug__" : Str)) = false := by decide) : PE X (.Call (.Name x p) (a :: es) [] pos) (tE M cf (cMakeF c fi cl)) := by
  obtain ⟨fd, ps, F, hb⟩ := F.ex
  exact peW (pe_make Mk_ F hr hg hm hb .nil pass0 ha hdb (starEach_plain hs) (starEach_any hs2)) fun σ H Q h => by
    obtain ⟨ρ, w, G, r, G', sl, st, ev, q⟩ := h
    obtain ⟨⟨l, G1⟩, e0, e1⟩ := bindSome ev
    refine ⟨ρ, w, G, l, G1, sl, st, e0, fun vs H1 w1 L1 s1 rl => ?_⟩
    intro y dx hy hdx hne
    dsimp only at e1
    by_cases hz : noRefs l = true
    case neg => rw [if_neg hz] at e1; cases e1
    rw [if_pos hz] at e1
    obtain ⟨⟨r2, G2⟩, e2, e3⟩ := bindSome e1
    have n0 : H y = none := by
      cases z : H y with
      | none => rfl
      | some u => exact absurd hy (L1.dm y (by rw [z]; simp))
    have la : Lat H1 w1 (upd H1 dx (.own y)) w1 := Lat.new (M := M) (G := G1) hdx
    have sa := s1.new (o := .own y) hdx
    have hy2 : upd H1 dx (.own y) y = none := by rw [upd_ne (Ne.symm hne)]; exact hy
    have lb : Lat (upd H1 dx (.own y)) w1 (upd (upd H1 dx (.own y)) y (.ins (M.ca c) dx [])) w1 := Lat.new (M := M) (G := G1) hy2
    have sb := sa.new (o := .ins (M.ca c) dx []) hy2
    have Lc := (L1.trans la).trans lb
    have Lh := la.trans lb
    have s3 : StOk M (upd (upd H1 dx (.own y)) y (.ins (M.ca c) dx [])) ⟨w1.fz, [y]⟩ [.ins c [] []] := ⟨sb.fzH, rfl, by simp, fun n o b e1 e2 => by
      cases n with
      | zero => cases e1; cases e2; exact ⟨⟨dx, [], upd_same, rfl, RepL.nil⟩, s1.fzn hy⟩
      | succ n => simp at e1⟩
    refine ⟨⟨w1.fz, [y]⟩, [.ins c [] []], .ref 0 :: l, r2, G2, s3, RepL.cons (by simp only [Rep]; exact ⟨y, rfl, rfl⟩) (by rw [List.append_nil]; exact repL_cut (n := 0) (w := w1) (w' := ⟨w1.fz, [y]⟩) (fun _ _ h => h) (fun k a h _ => absurd h (Nat.not_lt_zero k)) l vs (noRefs_bd l hz) rl), by rw [List.length_cons, hl _ _ _ _ _ e0]; exact hn, e2, fun v H3 w4 L3 s4 x3 => ?_⟩
    dsimp only at e3
    split at e3
    · rename_i c' ns ll
      obtain ⟨hc, e6⟩ := ifSome e3
      rw [Bool.and_eq_true, decide_eq_true_eq] at hc
      obtain ⟨hc1, hc2⟩ := hc
      subst hc1
      cases e6
      refine ⟨rx_non x3, ?_⟩
      obtain ⟨t, et, _⟩ := L3.al
      have t0 : t = [] := by
        have := congrArg List.length et
        rw [List.length_append, s4.len] at this
        simp at this; exact this
      subst t0
      have et : w4.al = [y] := et
      obtain ⟨⟨dx', fs, hh, hq, rr⟩, n1⟩ := s4.at_ 0 _ y rfl (by rw [et]; rfl)
      have f14 : ∀ a o, w1.fz a = some o → w4.fz a = some o := L3.fz
      have mf : ∀ a o, w4.fz a = some o → (upd w4.fz y (.ins (M.ca c') dx' fs)) a = some o := fun a o h => by
        rw [upd_ne (ne_of_none h n1)]; exact h
      have ya : ∀ a, H1 a ≠ none → a ∉ [y] := fun a h z => h (by rw [List.mem_singleton.mp z]; exact hy)
      have keep : ∀ a o, H1 a = some o → H3 a = some o := fun a o h => L3.kp a o (by
        rw [upd_ne (ne_of_none h hy), upd_ne (ne_of_none h hdx)]; exact h) (ya a (by rw [h]; simp))
      have back : ∀ a, (upd (upd H1 dx (.own y)) y (.ins (M.ca c') dx [])) a = none → H a = none := fun a h => by
        cases z : H a with
        | none => rfl
        | some u => exact absurd h (Lc.dm a (by rw [z]; simp))
      refine q (.ref y) H3 ⟨upd w4.fz y (.ins (M.ca c') dx' fs), w1.al⟩ ⟨fun a o h => mf _ _ (f14 _ _ (L1.fz a o h)), L1.al, fun a h1 h2 => ?_, fun a xs h => ?_, fun a o h1 h2 => ?_, fun a h => L3.dm a (Lc.dm a h)⟩ ⟨fun a o h => ?_, s1.len, s1.nd, fun n o a e1 e2 => ?_⟩ ?_
      · by_cases z : a = y
        · rw [z]; exact .inl n0
        · have h1 : upd w4.fz y (.ins (M.ca c') dx' fs) a ≠ none := h1
          rw [upd_ne z] at h1
          cases z1 : w1.fz a with
          | some o => exact L1.nw a (by rw [z1]; simp) h2
          | none =>
            rcases L3.nw a h1 z1 with h | ⟨xs, h⟩
            · exact .inl (back a h)
            · exact (Lc.tb a xs h).imp (fun h => h) fun h => ⟨xs, h⟩
      · rcases L3.tb a xs h with h | h
        · exact .inl (back a h)
        · exact Lc.tb a xs h
      · exact L3.kp a o (Lc.kp a o h1 h2) fun z => by rw [List.mem_singleton.mp z, n0] at h1; cases h1
      · have h : upd w4.fz y (.ins (M.ca c') dx' fs) a = some o := h
        by_cases z : a = y
        · subst z; rw [upd_same] at h; cases h; exact hh
        · rw [upd_ne z] at h; exact s4.fzH a o h
      · obtain ⟨q1, q2⟩ := s1.at_ n o a e1 e2
        have ob : ObAt M w1 H3 a o := by
          cases o with
          | lst l => obtain ⟨xs, e, r⟩ := q1; exact ⟨xs, keep _ _ e, r⟩
          | dK ks vs => obtain ⟨xs, e, q, r⟩ := q1; exact ⟨xs, keep _ _ e, q, r⟩
          | dT ks vs => obtain ⟨xs, e, q, r⟩ := q1; exact ⟨xs, keep _ _ e, q, r⟩
          | ins c ns l => obtain ⟨dx, fs, e, q, r⟩ := q1; exact ⟨dx, fs, keep _ _ e, q, r⟩
        refine ⟨ob.mon ⟨fun a o h => mf _ _ (f14 a o h), fun _ _ h => h⟩, ?_⟩
        have ne : a ≠ y := fun z => q1.there (by rw [z]; exact hy)
        show upd w4.fz y (.ins (M.ca c') dx' fs) a = none
        rw [upd_ne ne]
        cases z : w4.fz a with
        | none => rfl
        | some u =>
          have q3 : ¬ (H1 a = none ∨ ∃ xs, H1 a = some (.tup xs)) := q1.nt
          have nd : a ≠ dx := fun z => q1.there (by rw [z]; exact hdx)
          have := L3.nw a (by rw [z]; simp) q2
          rw [upd_ne ne, upd_ne nd] at this
          exact absurd this q3
      · show Rep M _ (.ins c' ns ll) (.ref y)
        simp only [Rep]
        exact ⟨y, dx', fs, rfl, (show upd w4.fz y (.ins (M.ca c') dx' fs) y = _ from upd_same), hq, repL_cut (n := 0) (w' := ⟨upd w4.fz y (.ins (M.ca c') dx' fs), w1.al⟩) mf (fun k a h _ => absurd h (Nat.not_lt_zero k)) ll _ (noRefs_bd ll hc2) rr⟩
    · cases e3
end
@[simp] theorem ap_cMakeF (cf : CF) (ρ : Env) (G : Sto) (c fi : Nat) (a : FnL) : cMakeF c fi a cf ρ G = (a cf ρ G).bind fun p => if noRefs p.1 = true then (cf fi (.ref 0 :: p.1) [.ins c [] []]).bind fun q => match q.1, q.2 with
  | .d .non, [.ins c' ns l] => if (decide (c' = c) && noRefs l) = true then some (.d (.ins c ns l), p.2) else none
  | _, _ => none else none := Eq.trans rfl rfl
@[simp] theorem ap_cProp (cf : CF) (ρ : Env) (G : Sto) (c fi : Nat) (a : Fn) : cProp c fi a cf ρ G = (a cf ρ G).bind fun p => (insG p.1 p.2).bind fun o => if o.1 = c then (dOf p.1).bind fun d => cf fi [d] p.2 else none := Eq.trans rfl rfl
@[simp] theorem ap_cFld (cf : CF) (ρ : Env) (G : Sto) (cs : List Nat) (f : Str) (a : Fn) : cFld cs f a cf ρ G = (a cf ρ G).bind fun p => (insG p.1 p.2).bind fun o => if o.1 ∈ cs then (getD o.2.1 o.2.2 f).map fun d => (.d d, p.2) else none := Eq.trans rfl rfl
@[simp] theorem ap_cCM (cf : CF) (ρ : Env) (G : Sto) (c fi : Nat) (a : FnL) : cCM c fi a cf ρ G = (a cf ρ G).bind fun p => cf fi (.cls c :: p.1) p.2 := Eq.trans rfl rfl
end Lp

namespace Lp
open PySem PySem.Spec PyProof.Rows L2

/-! ### more to reckon with -/
theorem pyL_iD : ∀ l : List Int, pyL (iD l) = some (l.map PyData.int)
  | [] => by simp only [iD, List.map_nil, pyL]
  | i :: l => by
    have := pyL_iD l
    unfold iD at this
    simp only [iD, List.map_cons, pyL, py, this]
theorem pyL_tups : ∀ l : List (List Int), pyL (tups l) = some (l.map fun r => PyData.tuple (r.map PyData.int))
  | [] => by simp only [tups, List.map_nil, pyL]
  | r :: l => by
    have := pyL_tups l
    unfold tups at this
    simp only [tups, List.map_cons, pyL, py, pyL_iD, Option.map_some, this]
theorem lay_ints : ∀ l : List Int, PyData.canLayAll0 (l.map PyData.int) = true
  | [] => by simp only [List.map_nil, PyData.canLayAll0]
  | i :: l => by simp only [List.map_cons, PyData.canLayAll0, PyData.canLay0, lay_ints l, Bool.and_self]
theorem dep_ints : ∀ l : List Int, PyData.depthAll (l.map PyData.int) = 0
  | [] => by simp only [List.map_nil, PyData.depthAll]
  | i :: l => by simp only [List.map_cons, PyData.depthAll, PyData.depth, dep_ints l, Nat.max_self]
theorem lay_rows : ∀ l : List (List Int), PyData.canLayAll0 (l.map fun r => PyData.tuple (r.map PyData.int)) = true
  | [] => by simp only [List.map_nil, PyData.canLayAll0]
  | i :: l => by simp only [List.map_cons, PyData.canLayAll0, PyData.canLay0, lay_ints, lay_rows l, Bool.and_self]
theorem dep_rows : ∀ l : List (List Int), PyData.depthAll (l.map fun r => PyData.tuple (r.map PyData.int)) ≤ 1
  | [] => by simp only [List.map_nil, PyData.depthAll]; omega
  | i :: l => by
    have := dep_rows l
    simp only [List.map_cons, PyData.depthAll, PyData.depth, dep_ints]
    omega
theorem eqv_rows : ∀ l m : List (List Int), PyData.eqvAll (l.map fun r => PyData.tuple (r.map PyData.int)) (m.map fun r => PyData.tuple (r.map PyData.int)) = decide (l = m)
  | [], [] => by simp [PyData.eqvAll]
  | [], _ :: _ => by simp [PyData.eqvAll]
  | _ :: _, [] => by simp [PyData.eqvAll]
  | a :: r, b :: t => by
    simp only [List.map_cons, PyData.eqvAll, PyData.eqv, PySem.W.ked_eqvAll, eqv_rows r t]
    by_cases h : a = b <;> by_cases h' : r = t <;> simp [h, h']
theorem sh_ti (l : List Int) : SeqAt.shaped (.tuple (l.map PyData.int)) = true := by
  unfold SeqAt.shaped
  simp only [PyData.canLay0, PyData.depth, lay_ints, dep_ints, Bool.true_and, decide_eq_true_eq]; omega
theorem sh_li (l : List Int) : SeqAt.shaped (.list (l.map PyData.int)) = true := by
  unfold SeqAt.shaped
  simp only [PyData.canLay0, PyData.depth, lay_ints, dep_ints, Bool.true_and, decide_eq_true_eq]; omega
theorem sh_tr (l : List (List Int)) : SeqAt.shaped (.tuple (l.map fun r => PyData.tuple (r.map PyData.int))) = true := by
  have := dep_rows l
  unfold SeqAt.shaped
  simp only [PyData.canLay0, PyData.depth, lay_rows, Bool.true_and, decide_eq_true_eq]; exact decide_eq_true (Nat.le_trans (Nat.succ_le_succ this) (show (2 : Nat) ≤ 64 by decide))
theorem sh_lr (l : List (List Int)) : SeqAt.shaped (.list (l.map fun r => PyData.tuple (r.map PyData.int))) = true := by
  have := dep_rows l
  unfold SeqAt.shaped
  simp only [PyData.canLay0, PyData.depth, lay_rows, Bool.true_and, decide_eq_true_eq]; exact decide_eq_true (Nat.le_trans (Nat.succ_le_succ this) (show (2 : Nat) ≤ 64 by decide))
/-- what a result holds: whole numbers, rows -/
def liR (r : R) (l : List Int) : Prop := pyR r = some (.list (l.map PyData.int))
def lrR (r : R) (l : List (List Int)) : Prop := pyR r = some (.list (l.map fun r => PyData.tuple (r.map PyData.int)))
theorem li_tmp (l : List Int) : pyR (.tmp (.lst (iD l))) = some (.list (l.map PyData.int)) := by simp only [pyR, pyL_iD, Option.map_some]
theorem li_bor (i : Nat) (l : List Int) : pyR (.bor i (.lst (iD l))) = some (.list (l.map PyData.int)) := by simp only [pyR, pyL_iD, Option.map_some]
theorem li_d (l : List Int) : pyR (.d (.lst (iD l))) = some (.list (l.map PyData.int)) := by simp only [pyR, py, pyL_iD, Option.map_some]
theorem li_s (l : List Int) : pyR (.d (.scr (iD l))) = some (.list (l.map PyData.int)) := by simp only [pyR, py, pyL_iD, Option.map_some]
theorem li_t (l : List Int) : pyR (.d (.tup (iD l))) = some (.tuple (l.map PyData.int)) := by simp only [pyR, py, pyL_iD, Option.map_some]
theorem lr_tmp (l : List (List Int)) : pyR (.tmp (.lst (tups l))) = some (.list (l.map fun r => PyData.tuple (r.map PyData.int))) := by simp only [pyR, pyL_tups, Option.map_some]
theorem lr_d (l : List (List Int)) : pyR (.d (.lst (tups l))) = some (.list (l.map fun r => PyData.tuple (r.map PyData.int))) := by simp only [pyR, py, pyL_tups, Option.map_some]
theorem lr_bor (i : Nat) (l : List (List Int)) : pyR (.bor i (.lst (tups l))) = some (.list (l.map fun r => PyData.tuple (r.map PyData.int))) := by simp only [pyR, pyL_tups, Option.map_some]
theorem lr_t (l : List (List Int)) : pyR (.d (.tup (tups l))) = some (.tuple (l.map fun r => PyData.tuple (r.map PyData.int))) := by simp only [pyR, py, pyL_tups, Option.map_some]
theorem eqG_li {a b : R} {l m : List Int} (h : pyR a = some (.list (l.map PyData.int))) (h2 : pyR b = some (.list (m.map PyData.int))) : eqG a b = some (decide (l = m)) := by
  unfold eqG
  rw [h, h2]
  dsimp only
  rw [sh_li, sh_li, Bool.and_self, if_pos rfl, PyData.eqv, PySem.W.ked_eqvAll]
theorem eqG_lr {a b : R} {l m : List (List Int)} (h : pyR a = some (.list (l.map fun r => PyData.tuple (r.map PyData.int)))) (h2 : pyR b = some (.list (m.map fun r => PyData.tuple (r.map PyData.int)))) : eqG a b = some (decide (l = m)) := by
  unfold eqG
  rw [h, h2]
  dsimp only
  rw [sh_lr, sh_lr, Bool.and_self, if_pos rfl, PyData.eqv, eqv_rows]
theorem eqR_ti (l m : List Int) : eqR (.d (.tup (iD l))) (.d (.tup (iD m))) = some (decide (l = m)) := by
  show eqG _ _ = _
  unfold eqG
  rw [li_t, li_t]
  dsimp only
  rw [sh_ti, sh_ti, Bool.and_self, if_pos rfl, PyData.eqv, PySem.W.ked_eqvAll]
theorem eqR_tr (l m : List (List Int)) : eqR (.d (.tup (tups l))) (.d (.tup (tups m))) = some (decide (l = m)) := by
  show eqG _ _ = _
  unfold eqG
  rw [lr_t, lr_t]
  dsimp only
  rw [sh_tr, sh_tr, Bool.and_self, if_pos rfl, PyData.eqv, eqv_rows]
theorem eqR_tt (l m : List Int) : eqR (.tmp (.lst (iD l))) (.tmp (.lst (iD m))) = some (decide (l = m)) := eqG_li (li_tmp l) (li_tmp m)
theorem eqR_dt (l m : List Int) : eqR (.d (.lst (iD l))) (.tmp (.lst (iD m))) = some (decide (l = m)) := eqG_li (li_d l) (li_tmp m)
theorem eqR_td (l m : List Int) : eqR (.tmp (.lst (iD l))) (.d (.lst (iD m))) = some (decide (l = m)) := eqG_li (li_tmp l) (li_d m)
theorem eqR_dd (l m : List Int) : eqR (.d (.lst (iD l))) (.d (.lst (iD m))) = some (decide (l = m)) := eqG_li (li_d l) (li_d m)
theorem eqR_rtt (l m : List (List Int)) : eqR (.tmp (.lst (tups l))) (.tmp (.lst (tups m))) = some (decide (l = m)) := eqG_lr (lr_tmp l) (lr_tmp m)
theorem eqR_rdt (l m : List (List Int)) : eqR (.d (.lst (tups l))) (.tmp (.lst (tups m))) = some (decide (l = m)) := eqG_lr (lr_d l) (lr_tmp m)
theorem eqR_rtd (l m : List (List Int)) : eqR (.tmp (.lst (tups l))) (.d (.lst (tups m))) = some (decide (l = m)) := eqG_lr (lr_tmp l) (lr_d m)
theorem eqR_rdd (l m : List (List Int)) : eqR (.d (.lst (tups l))) (.d (.lst (tups m))) = some (decide (l = m)) := eqG_lr (lr_d l) (lr_d m)
theorem is_nn : isR (.d .non) (.d .non) = some true := rfl
theorem is_in (i : Int) : isR (.d (.int i)) (.d .non) = some false := rfl
theorem is_sn (i : Str) : isR (.d (.str i)) (.d .non) = some false := rfl
theorem is_tn (i : List D) : isR (.d (.tup i)) (.d .non) = some false := rfl
theorem is_cn (c : Nat) (ns : List Str) (i : List D) : isR (.d (.ins c ns i)) (.d .non) = some false := rfl
theorem insG_d (c : Nat) (ns : List Str) (l : List D) (G : Sto) : insG (.d (.ins c ns l)) G = some (c, ns, l) := rfl
theorem mulT_tup (l : List D) (k : Int) : mulT (.d (.tup l)) (.d (.int k)) = if (l.length ≤ 1000 ∧ k.natAbs ≤ 1000) then some (.d (.tup (List.replicate k.toNat l).flatten)) else none := rfl
theorem getD_s (n : Str) (ns : List Str) (v : D) (l : List D) (f : Str) : getD (n :: ns) (v :: l) f = if n = f then some v else getD ns l f := rfl
theorem slR_tmp (l : List D) (a b : Option Int) : slR (.tmp (.lst l)) a b = some (.tmp (.lst (Lp.cutD l a b))) := rfl
theorem slR_bor (i : Nat) (l : List D) (a b : Option Int) : slR (.bor i (.lst l)) a b = some (.tmp (.lst (Lp.cutD l a b))) := rfl
/-! ### loops by folding -/
section
variable {α S : Type} {cf : CF} {body : SFn} {i : Nat} {f : α → D}
theorem forL_fold (enc : S → Sl → Env) (stp : S → α → S) (G : Sto) (Inv : S → Prop) : ∀ (xs : List α) (s0 : S) (sl0 : Sl), Inv s0 →
    (∀ (s : S) (x : α) (sl : Sl), x ∈ xs → Inv s → (body cf ((enc s sl).set i (.v (f x))) G = some (.nx (enc (stp s x) (.v (f x))) G) ∨ body cf ((enc s sl).set i (.v (f x))) G = some (.ct (enc (stp s x) (.v (f x))) G)) ∧ Inv (stp s x)) →
    ∃ sl, forL (.nm i) body cf (xs.map f) (enc s0 sl0) G = some (.nx (enc (xs.foldl stp s0) sl) G) ∧ Inv (xs.foldl stp s0)
  | [], s0, sl0, h0, _ => ⟨sl0, rfl, h0⟩
  | x :: xs, s0, sl0, h0, h => by
    obtain ⟨h1, h2⟩ := h s0 x sl0 (by simp) h0
    obtain ⟨sl, h3, h4⟩ := forL_fold enc stp G Inv xs (stp s0 x) (.v (f x)) h2 fun s y sl hy hs => h s y sl (List.mem_cons_of_mem _ hy) hs
    refine ⟨sl, ?_, h4⟩
    rw [List.map_cons]
    unfold forL
    rw [bindTg_nm, Option.bind_some]
    rcases h1 with h1 | h1
    · rw [h1]; exact h3
    · rw [h1]; exact h3
/-- a loop that may return on its way -/
theorem forL_find {tg : Tg} (ρf : α → Env → Env) (I : Env → Prop) (G : Sto) (p : α → Bool) (r : α → R) : ∀ (xs : List α) (ρ : Env), I ρ →
    (∀ (x : α) (ρ : Env), x ∈ xs → I ρ → ∃ ρ1, bindTg tg (f x) ρ = some ρ1 ∧ (p x = true → body cf ρ1 G = some (.ret (r x) G)) ∧ (p x = false → ∃ ρ2, body cf ρ1 G = some (.nx ρ2 G) ∧ I ρ2)) →
    (match xs.find? p with | some x => forL tg body cf (xs.map f) ρ G = some (.ret (r x) G) | none => ∃ ρ', forL tg body cf (xs.map f) ρ G = some (.nx ρ' G) ∧ I ρ')
  | [], ρ, h0, _ => ⟨ρ, rfl, h0⟩
  | x :: xs, ρ, h0, h => by
    obtain ⟨ρ1, h1, h2, h3⟩ := h x ρ (by simp) h0
    rw [List.find?_cons]
    cases hp : p x with
    | true =>
      dsimp only
      rw [List.map_cons]
      unfold forL
      rw [h1, Option.bind_some, h2 hp]
      rfl
    | false =>
      obtain ⟨ρ2, h4, h5⟩ := h3 hp
      have ih := forL_find ρf I G p r xs ρ2 h5 fun y ρ hy hI => h y ρ (List.mem_cons_of_mem _ hy) hI
      have e : forL tg body cf ((x :: xs).map f) ρ G = forL tg body cf (xs.map f) ρ2 G := by
        rw [List.map_cons]
        conv => lhs; unfold forL
        rw [h1, Option.bind_some, h4]
        rfl
      rw [e]
      exact ih
end
/-- one step of reckoning: the newer ones -/
def ly := And.intro @ap_cMakeF (And.intro @ap_cProp (And.intro @ap_cFld (And.intro @ap_cCM (And.intro @eqR_ti (And.intro @eqR_tr (And.intro @eqR_tt (And.intro @eqR_dt (And.intro @eqR_td (And.intro @eqR_dd (And.intro @eqR_rtt (And.intro @eqR_rdt (And.intro @eqR_rtd (And.intro @eqR_rdd
  (And.intro @is_nn (And.intro @is_in (And.intro @is_sn (And.intro @is_tn (And.intro @is_cn (And.intro @slR_tmp (And.intro @slR_bor (And.intro @insG_d (And.intro @mulT_tup @getD_s))))))))))))))))))))))
end Lp

namespace Lp
open PySem PySem.Spec PyProof.Rows L2

/-! ### the tower of calls -/
section
variable {P : Program} {w : World} {K : PySem.W.Frag} {mg : Str → Option Value} {base : Heap} {M : Md} {k fi : Nat} {T : Tb} {x : Str} {N ps : List Str} {c : SFn} {params : Arguments} {body : List Stmt} {scope : Scope} {kws : List (Str × V)} {f : Addr} {fd : FuncData}
theorem calD_zero (F : FunD K x x params body scope [] kws f fd) (hm : mg x = some (.ref f)) (hb : Binds K fd ps []) : CalD P w K mg base 0 M (runT T 0) x fi ps.length [] :=
  ⟨f, fd, ps, [], [], ⟨spD_len, fun A outer s H args us vs Q E hr he hbd hv hs => by
    obtain ⟨w0, G, l, r, G', _, _, _, e, _⟩ := hs
    cases e⟩, hm, F.kp, hb, .nil, fun _ => RepL.nil⟩
theorem fnT_succ {dvs : List V} (F : FunD K x x params body scope dvs kws f fd) (S : FnScope N ps scope) (hT : T fi = some (N.length, c))
    (h : ∀ (cdv : Value) (A : Around) (outer : List PySem.Env) (s : Shared) (H : Hp) (w0 : Wd) (E : XK), Room k (A.deeper (envOfC x scope s.heap.objs.size f cdv)) → PSs (cxOf CX0 P w K mg base N x scope f cdv A outer s H E).nox body (tS M (runT T k) H w0 c)) : FnOk P w K mg base CX0 (k + 1) f fd ps (spD M (runT T (k + 1)) fi ps.length) :=
  fn_ok F S h fun l G z _ e => by
    rw [runT_succ T k fi _ _ _ _ hT] at e
    exact e
theorem calD_succ (F : FunD K x x params body scope [] kws f fd) (hm : mg x = some (.ref f)) (hb : Binds K fd ps []) (S : FnScope N ps scope) (hT : T fi = some (N.length, c))
    (h : ∀ (cdv : Value) (A : Around) (outer : List PySem.Env) (s : Shared) (H : Hp) (w0 : Wd) (E : XK), Room k (A.deeper (envOfC x scope s.heap.objs.size f cdv)) → PSs (cxOf CX0 P w K mg base N x scope f cdv A outer s H E).nox body (tS M (runT T k) H w0 c)) : CalD P w K mg base (k + 1) M (runT T (k + 1)) x fi ps.length [] :=
  ⟨f, fd, ps, [], [], fnT_succ F S hT h, hm, F.kp, hb, .nil, fun _ => RepL.nil⟩
/-- the law's promise, of a list of whole numbers -/
theorem spD_law {cf : CF} {fi : Nat} {K : PySem.W.Frag} (hM : K = M.K) {H : Hp} {a : Addr} {ns : List Int} (h : SqL K H a (ns.map V.int)) {E : XK} {G' : Sto} (e : cf fi [.scr (iD ns)] [] = some (.d (.bl true), G')) : spD M cf fi 1 [.ref a] H (fun v _ => v = .bl true) E := by
  refine ⟨⟨H, []⟩, [], [.scr (iD ns)], .d (.bl true), G', ⟨fun _ _ h => h, rfl, List.nodup_nil, fun n o b e1 _ => by simp at e1⟩, ?_, rfl, e, fun v H1 w1 L s x => ?_⟩
  · refine RepL.cons ?_ RepL.nil
    simp only [Rep]
    exact ⟨a, ns.map V.int, rfl, by rw [← hM]; exact h, RepL.ints ns⟩
  · exact rx_bl x
end
end Lp

namespace K97
open PySem PySem.Spec PyProof.Rows L2 Lp
def top (i : Nat) : Stmt := PySem.Challenge.pw_letparts_k97_whole_rows_apart_beside_cap.main.body.getD i (.Pass ⟨0, 0, 0, 0⟩)
def inCls : Stmt → List Stmt
  | .ClassDef _ _ _ b .. => b
  | _ => []
def topm (i j : Nat) : Stmt := (inCls (top i)).getD j (.Pass ⟨0, 0, 0, 0⟩)
def caK (K : PySem.W.Frag) : Nat → Addr
  | 0 => He.ga K "Caps"
  | 1 => He.ga K "Bans"
  | _ => 0
def csAll : List Nat := [0, 1]
def inst (a b : Nat) : Bool := Nat.beq a b
def d_is_integer : SFn := sRet (cVt (cAnd (cTv (cIsi (cVar 0) .int)) (cNot (cTv (cIsi (cVar 0) .bool)))))
def d_is_within_bounds : SFn := sRet (cVt (cAnd (cTv (cCall 0 (cCons (cVar 0) (cNil)) [])) (cChain (cmpI leP) (cmpI leP) (cVar 1) (cVar 0) (cVar 2))))
def d_check_within : SFn := sIf (cNot (cTv (cCall 1 (cCons (cVar 0) (cCons (cVar 1) (cCons (cVar 2) (cNil)))) []))) (sNever) (sNext)
def d_check_number : SFn := sDrop (cCall 2 (cCons (cVar 0) (cCons (cC (.int 0)) (cCons (cC (.int 400)) (cNil)))) [])
def d_rows_within : SFn := sSeq (sIf (cTv (cBin (vb eqR) (cVar 0) (cC (.int 0)))) (sRet (cLst (cCons (cTup (cNil)) (cNil)))) (sNext)) (sSeq (sAsg .own 2 (cLst (cNil))) (sSeq (sFor (cRng2 (cCons (cC (.int 1)) (cCons (cBin addR (cBinG min2R (cVar 0) (cVar 1)) (cC (.int 1))) (cNil)))) (.nm 3) (sFor (cSeqI (cCall 7 (cCons (cBin subR (cVar 0) (cVar 3)) (cCons (cVar 3) (cNil))) [])) (.nm 4) (sApp (cVar 2) (cTup (cCons (cVar 3) (cStar (cVar 4) (cNil))))))) (sRet (cVar 2))))
def d_is_cap : SFn := sRet (cVt (cOr (cTv (cBin (vb isR) (cVar 0) (cC .non))) (cTv (cCall 1 (cCons (cVar 0) (cCons (cC (.int 0)) (cCons (cC (.int 6)) (cNil)))) []))))
def d_wrong_cap : SFn := sSeq (sFor (cEnum1 (cCons (cVar 0) (cNil))) (.tup [2, 3]) (sIf (cOr (cTv (cBin (vb eqR) (cVar 2) (cVar 1))) (cNot (cTv (cCall 37 (cCons (cVar 3) (cNil)) [])))) (sRet (cVar 2)) (sNext))) (sRet (cUn negR (cC (.int 1))))
def d_check_head : SFn := sSeq (sIf (cNot (cTv (cIsi (cVar 0) .tuple))) (sNever) (sNext)) (sSeq (sAsg .val 1 (cCall 38 (cCons (cVar 0) (cCons (cC (.int 24)) (cNil))) [])) (sIf (cTv (cBin (vb geI) (cVar 1) (cC (.int 0)))) (sNever) (sNext)))
def d_check_tail : SFn := sSeq (sIf (cOr (cNot (cTv (cIsi (cVar 0) .tuple))) (cTv (cBin (vb eqR) (cVar 0) (cTup (cNil))))) (sNever) (sNext)) (sSeq (sAsg .val 1 (cCall 38 (cCons (cVar 0) (cCons (cC (.int 8)) (cNil))) [])) (sIf (cTv (cBin (vb geI) (cVar 1) (cC (.int 0)))) (sNever) (sNext)))
def d_cap_told : SFn := sRet (cIf (cTv (cBin (vb eqR) (cVar 0) (cC (.str "*")))) (cC .non) (cUnG intSR (cVar 0)))
def d_caps_told : SFn := sSeq (sIf (cNot (cTv (cIsi (cVar 0) .str))) (sRet (cC .non)) (sNext)) (sSeq (sAsg .val 1 (cBinG splitR (cVar 0) (cC (.str "|")))) (sSeq (sIf (cOr (cTv (cBin (vb (nb eqR)) (cUnG lenR (cVar 1)) (cC (.int 2)))) (cNot (cTv (cUnG allR (cLc [2, 3] (cSeqI (cBin addR (cBinG ixG (cVar 1) (cC (.int 0))) (cBinG ixG (cVar 1) (cC (.int 1))))) (.nm 3) (cYes) (cBinG (inR false) (cVar 3) (cC (.str "0123456*")))))))) (sRet (cC .non)) (sNext)) (sSeq (sIf (cOr (cTv (cBin (vb gtI) (cUnG lenR (cBinG ixG (cVar 1) (cC (.int 0)))) (cC (.int 24)))) (cNot (cChain (cmpI leP) (cmpI leP) (cC (.int 1)) (cUnG lenR (cBinG ixG (cVar 1) (cC (.int 1)))) (cC (.int 8))))) (sRet (cC .non)) (sNext)) (sRet (cMakeF 0 168 (cCons (cUnG tupleR (cLc [2, 3] (cSeqI (cBinG ixG (cVar 1) (cC (.int 0)))) (.nm 3) (cYes) (cCall 43 (cCons (cVar 3) (cNil)) []))) (cCons (cUnG tupleR (cLc [2, 3] (cSeqI (cBinG ixG (cVar 1) (cC (.int 1)))) (.nm 3) (cYes) (cCall 43 (cCons (cVar 3) (cNil)) []))) (cNil))))))))
def d_shortest_pair : SFn := sSeq (sFor (cRng3 (cCons (cBin subR (cUnG lenR (cVar 1)) (cC (.int 1))) (cCons (cC (.int 0)) (cCons (cUn negR (cC (.int 1))) (cNil))))) (.nm 2) (sIf (cAnd (cTv (cBin (vb eqR) (cBin modR (cUnG lenR (cVar 1)) (cVar 2)) (cC (.int 0)))) (cTv (cBin (vb eqR) (cVar 1) (cBin mulT (cSl (cVar 1) (cNo) (cPart (cVar 2))) (cBin fdivR (cUnG lenR (cVar 1)) (cVar 2)))))) (sAsg .val 1 (cSl (cVar 1) (cNo) (cPart (cVar 2)))) (sNext))) (sSeq (sWhile 1000000 (cAnd (cTv (cBin (vb (nb eqR)) (cVar 0) (cTup (cNil)))) (cTv (cBin (vb eqR) (cBinG ixG (cVar 0) (cUn negR (cC (.int 1)))) (cBinG ixG (cVar 1) (cUn negR (cC (.int 1))))))) (sPar [(.val, 0), (.val, 1)] (rCons (cSl (cVar 0) (cNo) (cPart (cUn negR (cC (.int 1))))) (rCons (cTup (cCons (cBinG ixG (cVar 1) (cUn negR (cC (.int 1)))) (cStar (cSl (cVar 1) (cNo) (cPart (cUn negR (cC (.int 1))))) (cNil)))) (rNil))))) (sRet (cTup (cCons (cVar 0) (cCons (cVar 1) (cNil))))))
def d_cap_at : SFn := sSeq (sIf (cTv (cBin (vb leI) (cVar 1) (cUnG lenR (cProp 0 170 (cVar 0))))) (sRet (cBinG ixG (cProp 0 170 (cVar 0)) (cBin subR (cVar 1) (cC (.int 1))))) (sNext)) (sRet (cBinG ixG (cProp 0 171 (cVar 0)) (cBin modR (cUnG intSR (cBin subR (cBin subR (cVar 1) (cC (.int 1))) (cUnG lenR (cProp 0 170 (cVar 0))))) (cUnG lenR (cProp 0 171 (cVar 0))))))
def d_check_rule : SFn := sIf (cNot (cTv (cBinG (isiX csAll inst) (cVar 0) (cTup (cCons (cC (.cls 0)) (cCons (cC (.cls 1)) (cNil))))))) (sNever) (sNext)
def d_with_size : SFn := sSeq (sAsg .own 2 (cUnG listR (cVar 0))) (sSeq (sFor (cRng2 (cCons (cVar 1) (cCons (cUnG lenR (cVar 2)) (cNil)))) (.nm 3) (sAsgG (gSb (cVar 2) (cVar 3)) (cBin addR (cBinG ixG (cVar 2) (cVar 3)) (cBinG ixG (cVar 2) (cBin subR (cVar 3) (cVar 1)))))) (sRet (cVar 2)))
def d_apart_counts : SFn := sSeq (sDrop (cCall 3 (cCons (cVar 0) (cNil)) [])) (sSeq (sDrop (cCall 2 (cCons (cVar 1) (cCons (cC (.int 0)) (cCons (cC (.int 9)) (cNil)))) [])) (sSeq (sDrop (cCall 2 (cCons (cVar 2) (cCons (cC (.int 1)) (cCons (cC (.int 9)) (cNil)))) [])) (sSeq (sPar [(.val, 3), (.own, 4), (.val, 5), (.val, 6)] (rCons (cBin addR (cLst (cCons (cC (.int 1)) (cNil))) (cBin mulR (cLst (cCons (cC (.int 0)) (cNil))) (cVar 0))) (rCons (cBin addR (cLst (cCons (cC (.int 1)) (cNil))) (cBin mulR (cLst (cCons (cC (.int 0)) (cNil))) (cVar 0))) (rCons (cC (.int 1)) (rCons (cVar 2) (rNil)))))) (sSeq (sWhile 1000000 (cTv (cBin (vb leI) (cVar 6) (cVar 0))) (sSeq (sAsg .val 3 (cCall 51 (cCons (cVar 3) (cCons (cVar 5) (cNil))) [])) (sSeq (sFor (cRng2 (cCons (cVar 6) (cCons (cBin addR (cVar 0) (cC (.int 1))) (cNil)))) (.nm 7) (sAsgG (gSb (cVar 4) (cVar 7)) (cBin addR (cBinG ixG (cVar 4) (cVar 7)) (cBinG ixG (cVar 3) (cBin subR (cVar 7) (cVar 6)))))) (sSeq (sAsg .val 6 (cBin addR (cBin addR (cVar 6) (cVar 2)) (cBin mulR (cVar 1) (cVar 5)))) (sAsg .val 5 (cBin addR (cVar 5) (cC (.int 1)))))))) (sRet (cUnG tupleR (cVar 4)))))))
def d_ban_counts : SFn := sSeq (sAsg .own 2 (cBin mulR (cLst (cCons (cC (.int 0)) (cNil))) (cBin addR (cVar 1) (cC (.int 1))))) (sSeq (sFor (cRng2 (cCons (cC (.int 1)) (cCons (cBin addR (cVar 1) (cC (.int 1))) (cNil)))) (.nm 3) (sSeq (sAsg .val 4 (cCall 46 (cCons (cVar 0) (cCons (cVar 3) (cNil))) [])) (sIf (cAnd (cTv (cBin (vb (nb isR)) (cVar 4) (cC .non))) (cTv (cBin (vb leI) (cBin mulR (cVar 3) (cBin addR (cVar 4) (cC (.int 1)))) (cVar 1)))) (sAsgG (gSb (cVar 2) (cBin mulR (cVar 3) (cBin addR (cVar 4) (cC (.int 1))))) (cBin addR (cBinG ixG (cVar 2) (cBin mulR (cVar 3) (cBin addR (cVar 4) (cC (.int 1))))) (cC (.int 1)))) (sNext)))) (sRet (cVar 2)))
def d_sums_by_divisors : SFn := sSeq (sAsg .own 1 (cBin mulR (cLst (cCons (cC (.int 0)) (cNil))) (cUnG lenR (cVar 0)))) (sSeq (sFor (cEnum2 (cCons (cVar 0) (cCons (cC (.int 1)) (cNil)))) (.tup [2, 3]) (sFor (cRng3 (cCons (cVar 2) (cCons (cBin addR (cUnG lenR (cVar 0)) (cC (.int 1))) (cCons (cVar 2) (cNil))))) (.nm 4) (sAsgG (gSb (cVar 1) (cBin subR (cVar 4) (cC (.int 1)))) (cBin addR (cBinG ixG (cVar 1) (cBin subR (cVar 4) (cC (.int 1)))) (cBin mulR (cVar 2) (cVar 3)))))) (sRet (cVar 1)))
def d_counts_by_excesses : SFn := sSeq (sPar [(.val, 1), (.own, 2)] (rCons (cCall 10 (cCons (cVar 0) (cNil)) []) (rCons (cLst (cCons (cC (.int 1)) (cNil))) (rNil)))) (sSeq (sFor (cRng2 (cCons (cC (.int 1)) (cCons (cBin addR (cUnG lenR (cVar 0)) (cC (.int 1))) (cNil)))) (.nm 3) (sApp (cVar 2) (cBin fdivR (cUnG sumR (cLc [4, 5] (cRng2 (cCons (cC (.int 1)) (cCons (cBin addR (cVar 3) (cC (.int 1))) (cNil)))) (.nm 5) (cYes) (cBin mulR (cBinG ixG (cVar 1) (cBin subR (cVar 5) (cC (.int 1)))) (cBinG ixG (cVar 2) (cBin subR (cVar 3) (cVar 5)))))) (cVar 3)))) (sRet (cVar 2)))
def d_excess_list : SFn := sRet (cLc [2, 3] (cSeqI (cSl (cCall 56 (cCons (cVar 0) (cCons (cVar 1) (cNil))) []) (cPart (cC (.int 1))) (cNo))) (.nm 3) (cYes) (cBin subR (cC (.int 1)) (cVar 3)))
def d_counts_of : SFn := sSeq (sIf (cTv (cBinG (isiX csAll inst) (cVar 0) (cC (.cls 0)))) (sRet (cCall 11 (cCons (cCall 57 (cCons (cVar 0) (cCons (cVar 1) (cNil))) []) (cNil)) [])) (sNext)) (sSeq (sPar [(.val, 2), (.val, 3)] (rCons (cNever) (rCons (cNever) (rNil)))) (sSeq (sAsg .own 4 (cLst (cNil))) (sSeq (sFor (cRng1 (cCons (cBin addR (cVar 1) (cC (.int 1))) (cNil))) (.nm 5) (sApp (cVar 4) (cUnG sumR (cLc [6, 7, 8] (cSeqI (cVar 3)) (.tup [7, 8]) (cTv (cBin (vb leI) (cVar 7) (cVar 5))) (cBin mulR (cVar 8) (cBinG ixG (cVar 2) (cBin subR (cVar 5) (cVar 7)))))))) (sRet (cVar 4)))))
def d_counts : SFn := sSeq (sDrop (cCall 50 (cCons (cVar 0) (cNil)) [])) (sSeq (sDrop (cCall 3 (cCons (cVar 1) (cNil)) [])) (sRet (cUnG tupleR (cCall 58 (cCons (cVar 0) (cCons (cVar 1) (cNil))) []))))
def d_gap_list : SFn := sRet (cUnG tupleR (cLc [1, 2, 3] (cEnum1 (cCons (cVar 0) (cNil))) (.tup [2, 3]) (cYes) (cBin subR (cVar 3) (cIf (cTv (cBin (vb ltI) (cBin addR (cVar 2) (cC (.int 1))) (cUnG lenR (cVar 0)))) (cBinG ixG (cVar 0) (cBin addR (cVar 2) (cC (.int 1)))) (cC (.int 0))))))
def d_check_apart : SFn := sSeq (sDrop (cCall 2 (cCons (cVar 0) (cCons (cC (.int 0)) (cCons (cC (.int 9)) (cNil)))) [])) (sDrop (cCall 2 (cCons (cVar 1) (cCons (cC (.int 1)) (cCons (cC (.int 9)) (cNil)))) []))
def d_does_part : SFn := sRet (cVt (cOr (cTv (cBin (vb eqR) (cVar 0) (cTup (cNil)))) (cAnd (cTv (cBin (vb geI) (cBinG ixG (cVar 0) (cUn negR (cC (.int 1)))) (cVar 2))) (cTv (cUnG allR (cLc [3, 4] (cSeqI (cSl (cCall 60 (cCons (cVar 0) (cNil)) []) (cNo) (cPart (cUn negR (cC (.int 1)))))) (.nm 4) (cYes) (cBin (vb geI) (cVar 4) (cVar 1))))))))
def d_apart_rows : SFn := sSeq (sDrop (cCall 2 (cCons (cVar 0) (cCons (cC (.int 0)) (cCons (cC (.int 24)) (cNil)))) [])) (sSeq (sDrop (cCall 61 (cCons (cVar 1) (cCons (cVar 2) (cNil))) [])) (sRet (cUnG tupleR (cLc [3, 4] (cSeqI (cCall 7 (cCons (cVar 0) (cCons (cVar 0) (cNil))) [])) (.nm 4) (cTv (cCall 62 (cCons (cVar 4) (cCons (cVar 1) (cCons (cVar 2) (cNil)))) [])) (cVar 4)))))
def d__law_well : SFn := sSeq (sAsg .val 2 (cIf (cTv (cBin (vb ltI) (cVar 1) (cUnG lenR (cVar 0)))) (cUnG intSR (cBinG ixG (cVar 0) (cVar 1))) (cBin addR (cBin mulR (cC (.int 733)) (cVar 1)) (cC (.int 41))))) (sSeq (sAsg .val 3 (cBin addR (cC (.int 40231)) (cBin mulR (cC (.int 5147)) (cVar 1)))) (sSeq (sFor (cSeqI (cSl (cVar 0) (cNo) (cPart (cC (.int 6))))) (.nm 4) (sAsg .val 3 (cBin modR (cUnG intSR (cBin addR (cBin addR (cBin mulR (cVar 3) (cC (.int 48271))) (cBin modR (cUnG intSR (cVar 4)) (cC (.int 2147480011)))) (cC (.int 7)))) (cC (.int 2147483629))))) (sSeq (sAsg .val 3 (cBin modR (cUnG intSR (cBin addR (cBin mulR (cVar 3) (cC (.int 59))) (cBin mulR (cBin modR (cUnG intSR (cVar 2)) (cC (.int 2147480011))) (cC (.int 20011))))) (cC (.int 2147483629)))) (sRet (cLst (cCons (cIf (cOr (cTv (cBin (vb ltI) (cVar 2) (cC (.int 0)))) (cTv (cBin (vb geI) (cVar 2) (cBin powR (cC (.int 10)) (cC (.int 17)))))) (cUnG absR (cVar 2)) (cC (.int 0))) (cCons (cVar 3) (cCons (cC (.int 0)) (cNil)))))))))
def d__law_dip : SFn := sSeq (sIf (cTv (cBin (vb gtI) (cBinG ixG (cVar 0) (cC (.int 0))) (cC (.int 0)))) (sSeq (sAsgG (gTp (gC1 (gSb (cVar 0) (cC (.int 0))) (gC1 (gNm 2) (gN0))) 2) (cBinG divmodR (cBinG ixG (cVar 0) (cC (.int 0))) (cVar 1))) (sRet (cVar 2))) (sNext)) (sSeq (sAsgG (gSb (cVar 0) (cC (.int 2))) (cBin addR (cBinG ixG (cVar 0) (cC (.int 2))) (cC (.int 1)))) (sSeq (sAsgG (gSb (cVar 0) (cC (.int 1))) (cBin modR (cUnG intSR (cBin addR (cBin addR (cBin mulR (cBinG ixG (cVar 0) (cC (.int 1))) (cC (.int 39373))) (cBin mulR (cC (.int 60013)) (cBinG ixG (cVar 0) (cC (.int 2))))) (cC (.int 11)))) (cC (.int 2147483629)))) (sRet (cBin modR (cUnG intSR (cBin fdivR (cBinG ixG (cVar 0) (cC (.int 1))) (cC (.int 127)))) (cVar 1)))))
def d__law_of : SFn := sRet (cBinG ixG (cVar 1) (cCall 65 (cConsR (cVar 0) (cCons (cUnG lenR (cVar 1)) (cNil))) []))
def d__law_known : SFn := sSeq (sAsg .val 1 (cLst (cCons (cTup (cCons (cCall 52 (cCons (cVar 0) (cCons (cC (.int 2)) (cCons (cC (.int 1)) (cNil)))) []) (cCons (cC (.str "|*00*0")) (cNil)))) (cCons (cTup (cCons (cCall 52 (cCons (cVar 0) (cCons (cC (.int 2)) (cCons (cC (.int 2)) (cNil)))) []) (cCons (cC (.str "|0**00")) (cNil)))) (cNil))))) (sSeq (sAsg .val 1 (cBin addR (cVar 1) (cLst (cCons (cTup (cCons (cCall 52 (cCons (cVar 0) (cCons (cC (.int 1)) (cCons (cC (.int 1)) (cNil)))) []) (cCons (cC (.str "|1")) (cNil)))) (cCons (cTup (cCons (cCall 52 (cCons (cVar 0) (cCons (cC (.int 1)) (cCons (cC (.int 1)) (cNil)))) []) (cCons (cC (.str "|*0")) (cNil)))) (cNil)))))) (sRet (cUnG allR (cLc [2, 3, 4] (cSeqI (cVar 1)) (.tup [3, 4]) (cYes) (cBin (vb eqR) (cVar 3) (cCall 59 (cCons (cCM 0 169 (cCons (cVar 4) (cNil))) (cCons (cVar 0) (cNil))) []))))))
def d__law_from_least : SFn := sSeq (sAsg .val 2 (cBin mulT (cTup (cCons (cC (.int 0)) (cNil))) (cBin subR (cVar 1) (cC (.int 1))))) (sSeq (sIf (cTv (cBin (vb (nb eqR)) (cCall 52 (cCons (cVar 0) (cCons (cC (.int 1)) (cCons (cVar 1) (cNil)))) []) (cCall 59 (cCons (cMakeF 0 168 (cCons (cVar 2) (cCons (cTup (cCons (cC (.int 1)) (cNil))) (cNil)))) (cCons (cVar 0) (cNil))) []))) (sRet (cC (.bl false))) (sNext)) (sRet (cBin (vb eqR) (cCall 52 (cCons (cVar 0) (cCons (cC (.int 0)) (cCons (cVar 1) (cNil)))) []) (cCall 59 (cCons (cMakeF 0 168 (cCons (cVar 2) (cCons (cTup (cCons (cC .non) (cNil))) (cNil)))) (cCons (cVar 0) (cNil))) []))))
def d__law_by_last : SFn := sSeq (sPar [(.val, 3), (.val, 4)] (rCons (cCall 52 (cCons (cVar 0) (cCons (cVar 1) (cCons (cVar 2) (cNil)))) []) (rCons (cCall 52 (cCons (cVar 0) (cCons (cVar 1) (cCons (cBin addR (cVar 2) (cC (.int 1))) (cNil)))) []) (rNil)))) (sSeq (sIf (cTv (cBin (vb gtI) (cBin addR (cVar 2) (cVar 1)) (cC (.int 9)))) (sRet (cUnG allR (cLc [7, 8] (cRng1 (cCons (cBin addR (cVar 0) (cC (.int 1))) (cNil))) (.nm 8) (cYes) (cBin (vb geI) (cBinG ixG (cVar 3) (cVar 8)) (cBinG ixG (cVar 4) (cVar 8)))))) (sNext)) (sSeq (sAsg .val 5 (cCall 52 (cCons (cVar 0) (cCons (cVar 1) (cCons (cBin addR (cVar 2) (cVar 1)) (cNil)))) [])) (sSeq (sAsg .val 6 (cLc [7, 8] (cRng1 (cCons (cBin addR (cVar 0) (cC (.int 1))) (cNil))) (.nm 8) (cYes) (cIf (cTv (cBin (vb geI) (cVar 8) (cVar 2))) (cBinG ixG (cVar 5) (cBin subR (cVar 8) (cVar 2))) (cC (.int 0))))) (sRet (cBin (vb eqR) (cLc [7, 8] (cRng1 (cCons (cBin addR (cVar 0) (cC (.int 1))) (cNil))) (.nm 8) (cYes) (cBin subR (cBinG ixG (cVar 3) (cVar 8)) (cBinG ixG (cVar 4) (cVar 8)))) (cVar 6))))))
def d_law : SFn := sSeq (sAsg .ref 1 (cCall 64 (cCons (cVar 0) (cCons (cC (.int 0)) (cNil))) [])) (sSeq (sAsg .val 2 (cBin subR (cCall 66 (cConsR (cVar 1) (cCons (cLst (cCons (cC (.int 240)) (cCons (cC (.int 120)) (cCons (cC (.int 120)) (cNil))))) (cNil))) []) (cCall 65 (cConsR (cVar 1) (cCons (cC (.int 90)) (cNil))) []))) (sSeq (sIf (cNot (cTv (cCall 67 (cCons (cVar 2) (cNil)) []))) (sRet (cC (.bl false))) (sNext)) (sSeq (sPar [(.val, 2), (.val, 3), (.val, 4)] (rCons (cCall 65 (cConsR (cVar 1) (cCons (cC (.int 121)) (cNil))) []) (rCons (cBin addR (cC (.int 1)) (cCall 65 (cConsR (cVar 1) (cCons (cC (.int 9)) (cNil))) [])) (rCons (cCall 65 (cConsR (cVar 1) (cCons (cC (.int 10)) (cNil))) []) (rNil))))) (sSeq (sIf (cNot (cTv (cCall 68 (cCons (cVar 2) (cCons (cVar 3) (cNil))) []))) (sRet (cC (.bl false))) (sNext)) (sSeq (sAsg .val 5 (cBin addR (cC (.int 1)) (cCall 65 (cConsR (cVar 1) (cCons (cC (.int 8)) (cNil))) []))) (sSeq (sIf (cOr (cNot (cTv (cCall 69 (cCons (cVar 2) (cCons (cVar 4) (cCons (cVar 5) (cNil)))) []))) (cNot (cTv (cCall 69 (cCons (cVar 2) (cCons (cCall 65 (cConsR (cVar 1) (cCons (cC (.int 4)) (cNil))) []) (cCons (cVar 5) (cNil)))) [])))) (sRet (cC (.bl false))) (sNext)) (sSeq (sAsg .val 6 (cCall 65 (cConsR (cVar 1) (cCons (cC (.int 23)) (cNil))) [])) (sRet (cBin (vb eqR) (cUnG lenR (cCall 63 (cCons (cVar 6) (cCons (cVar 4) (cCons (cVar 3) (cNil)))) [])) (cBinG ixG (cCall 52 (cCons (cVar 6) (cCons (cVar 4) (cCons (cVar 3) (cNil)))) []) (cVar 6)))))))))))
def d_Caps__init : SFn := sSeq (sDrop (cCall 39 (cCons (cVar 1) (cNil)) [])) (sSeq (sDrop (cCall 40 (cCons (cVar 2) (cNil)) [])) (sSeq (sFldS [0] "front" (cVar 0) (cVar 1)) (sSeq (sFldS [0] "again" (cVar 0) (cVar 2)) (sFldS [0] "least_pair" (cVar 0) (cCall 45 (cCons (cVar 1) (cCons (cVar 2) (cNil))) [])))))
def d_Caps__read : SFn := sSeq (sAsg .val 2 (cCall 44 (cCons (cVar 1) (cNil)) [])) (sSeq (sIf (cTv (cBin (vb isR) (cVar 2) (cC .non))) (sNever) (sNext)) (sRet (cVar 2)))
def d_Caps__head : SFn := sRet (cFld [0] "front" (cVar 0))
def d_Caps__tail : SFn := sRet (cFld [0] "again" (cVar 0))
structure Hy (P : Program) (w : World) (K : PySem.W.Frag) (mg : Str → Option Value) (base : Heap) (k : Nat) (cf : CF) : Prop where
  b_abs : mg "abs" = none
  b_all : mg "all" = none
  b_bool : mg "bool" = none
  b_divmod : mg "divmod" = none
  b_enumerate : mg "enumerate" = none
  b_int : mg "int" = none
  b_isinstance : mg "isinstance" = none
  b_len : mg "len" = none
  b_list : mg "list" = none
  b_min : mg "min" = none
  b_range : mg "range" = none
  b_str : mg "str" = none
  b_sum : mg "sum" = none
  b_tuple : mg "tuple" = none
  g_BAR : ∃ t, mg "BAR" = some (.str "|" t)
  g_CAP_SIGNS : ∃ t, mg "CAP_SIGNS" = some (.str "0123456*" t)
  g_ENDLESS : ∃ t, mg "ENDLESS" = some (.str "*" t)
  g_MOST_CAP : ∃ t, mg "MOST_CAP" = some (.int 6 t)
  g_MOST_GAP : ∃ t, mg "MOST_GAP" = some (.int 9 t)
  g_MOST_HEAD : ∃ t, mg "MOST_HEAD" = some (.int 24 t)
  g_MOST_LEAST : ∃ t, mg "MOST_LEAST" = some (.int 9 t)
  g_MOST_LISTED : ∃ t, mg "MOST_LISTED" = some (.int 24 t)
  g_MOST_NUMBER : ∃ t, mg "MOST_NUMBER" = some (.int 400 t)
  g_MOST_TAIL : ∃ t, mg "MOST_TAIL" = some (.int 8 t)
  g_cls_Caps : mg "Caps" = some (.ref (caK K 0))
  cl_Caps : Cls K (caK K 0)
  g_cls_Bans : mg "Bans" = some (.ref (caK K 1))
  cl_Bans : Cls K (caK K 1)
  fld_again : ∀ c ∈ [0], Cls K (caK K c) ∧ NoAttr K (caK K c) "again"
  fld_front : ∀ c ∈ [0], Cls K (caK K c) ∧ NoAttr K (caK K c) "front"
  fld_least_pair : ∀ c ∈ [0], Cls K (caK K c) ∧ NoAttr K (caK K c) "least_pair"
  mk_Caps : Mk K (caK K 0) (He.ma K (caK K 0) "__init__")
  prop_Caps_head : PropOf K (caK K 0) "head" (He.ma K (caK K 0) "head") (recA K (He.ma K (caK K 0) "head") "property")
  prop_Caps_tail : PropOf K (caK K 0) "tail" (He.ma K (caK K 0) "tail") (recA K (He.ma K (caK K 0) "tail") "property")
  cr_Caps : ClX.CRead K (caK K 0) (.type "type")
  cm_Caps_read : ClX.CMet K (caK K 0) (.type "type") "read" (He.ma K (caK K 0) "read") (recA K (He.ma K (caK K 0) "read") "classmethod")
  isi : IsiF K ⟨K, caK K, fun _ => 0⟩ csAll inst
  c_is_integer : CalD P w K mg base k ⟨K, caK K, fun _ => 0⟩ cf "is_integer" 0 1 []
  c_is_within_bounds : CalD P w K mg base k ⟨K, caK K, fun _ => 0⟩ cf "is_within_bounds" 1 3 []
  c_check_within : CalD P w K mg base k ⟨K, caK K, fun _ => 0⟩ cf "check_within" 2 3 []
  c_check_number : CalD P w K mg base k ⟨K, caK K, fun _ => 0⟩ cf "check_number" 3 1 []
  c_rows_within : CalD P w K mg base k ⟨K, caK K, fun _ => 0⟩ cf "rows_within" 7 2 []
  c_is_cap : CalD P w K mg base k ⟨K, caK K, fun _ => 0⟩ cf "is_cap" 37 1 []
  c_wrong_cap : CalD P w K mg base k ⟨K, caK K, fun _ => 0⟩ cf "wrong_cap" 38 2 []
  c_check_head : CalD P w K mg base k ⟨K, caK K, fun _ => 0⟩ cf "check_head" 39 1 []
  c_check_tail : CalD P w K mg base k ⟨K, caK K, fun _ => 0⟩ cf "check_tail" 40 1 []
  c_cap_told : CalD P w K mg base k ⟨K, caK K, fun _ => 0⟩ cf "cap_told" 43 1 []
  c_caps_told : CalD P w K mg base k ⟨K, caK K, fun _ => 0⟩ cf "caps_told" 44 1 []
  c_shortest_pair : CalD P w K mg base k ⟨K, caK K, fun _ => 0⟩ cf "shortest_pair" 45 2 []
  fd_Caps__head : FnD P w K mg base k ⟨K, caK K, fun _ => 0⟩ cf (recA K (He.ma K (caK K 0) "head") "property") 170 1
  fd_Caps__init : FnD P w K mg base k ⟨K, caK K, fun _ => 0⟩ cf (He.ma K (caK K 0) "__init__") 168 3
  fd_Caps__read : FnD P w K mg base k ⟨K, caK K, fun _ => 0⟩ cf (recA K (He.ma K (caK K 0) "read") "classmethod") 169 2
  fd_Caps__tail : FnD P w K mg base k ⟨K, caK K, fun _ => 0⟩ cf (recA K (He.ma K (caK K 0) "tail") "property") 171 1
  c_cap_at : CalD P w K mg base k ⟨K, caK K, fun _ => 0⟩ cf "cap_at" 46 2 []
  c_check_rule : CalD P w K mg base k ⟨K, caK K, fun _ => 0⟩ cf "check_rule" 50 1 []
  c_with_size : CalD P w K mg base k ⟨K, caK K, fun _ => 0⟩ cf "with_size" 51 2 []
  c_apart_counts : CalD P w K mg base k ⟨K, caK K, fun _ => 0⟩ cf "apart_counts" 52 3 []
  c_ban_counts : CalD P w K mg base k ⟨K, caK K, fun _ => 0⟩ cf "ban_counts" 56 2 []
  c_sums_by_divisors : CalD P w K mg base k ⟨K, caK K, fun _ => 0⟩ cf "sums_by_divisors" 10 1 []
  c_counts_by_excesses : CalD P w K mg base k ⟨K, caK K, fun _ => 0⟩ cf "counts_by_excesses" 11 1 []
  c_excess_list : CalD P w K mg base k ⟨K, caK K, fun _ => 0⟩ cf "excess_list" 57 2 []
  c_counts_of : CalD P w K mg base k ⟨K, caK K, fun _ => 0⟩ cf "counts_of" 58 2 []
  c_counts : CalD P w K mg base k ⟨K, caK K, fun _ => 0⟩ cf "counts" 59 2 []
  c_gap_list : CalD P w K mg base k ⟨K, caK K, fun _ => 0⟩ cf "gap_list" 60 1 []
  c_check_apart : CalD P w K mg base k ⟨K, caK K, fun _ => 0⟩ cf "check_apart" 61 2 []
  c_does_part : CalD P w K mg base k ⟨K, caK K, fun _ => 0⟩ cf "does_part" 62 3 []
  c_apart_rows : CalD P w K mg base k ⟨K, caK K, fun _ => 0⟩ cf "apart_rows" 63 3 []
  c__law_well : CalD P w K mg base k ⟨K, caK K, fun _ => 0⟩ cf "_law_well" 64 2 []
  c__law_dip : CalD P w K mg base k ⟨K, caK K, fun _ => 0⟩ cf "_law_dip" 65 2 []
  c__law_of : CalD P w K mg base k ⟨K, caK K, fun _ => 0⟩ cf "_law_of" 66 2 []
  c__law_known : CalD P w K mg base k ⟨K, caK K, fun _ => 0⟩ cf "_law_known" 67 1 []
  c__law_from_least : CalD P w K mg base k ⟨K, caK K, fun _ => 0⟩ cf "_law_from_least" 68 2 []
  c__law_by_last : CalD P w K mg base k ⟨K, caK K, fun _ => 0⟩ cf "_law_by_last" 69 3 []
section
variable {P : Program} {w : World} {K : PySem.W.Frag} {mg : Str → Option Value} {base : Heap} {k : Nat} {cf : CF} {f : Addr}
def N_is_integer : List Str := ["value"]
theorem b_is_integer (Y : Hy P w K mg base k cf) (cdv : Value) (A : Around) (outer : List PySem.Env) (s : Shared) (H : Hp) (w0 : Wd) (E : XK) (hr : Room (k + 1) (A.deeper (envOfC "is_integer" (defScope (top 19)) s.heap.objs.size f cdv))) :
    PSs (cxOf CX0 P w K mg base N_is_integer "is_integer" (defScope (top 19)) f cdv A outer s H E).nox (defBody (top 19)) (tS ⟨K, caK K, fun _ => 0⟩ cf H w0 d_is_integer) := by
  have hM : K = (Md.mk K (caK K) fun _ => 0).K := rfl
  have hu := hr.units
  have hN : N_is_integer.Nodup := by decide
  exact s_one (s_ret (x_and (x_tv (n_isi hM Y.b_isinstance (n_var) (n_ty Y.b_int (by decide +kernel)))) (x_and1 (x_not (x_tv (n_isi hM Y.b_isinstance (n_var) (n_ty Y.b_bool (by decide +kernel))))))))
def N_is_within_bounds : List Str := ["value", "least", "most"]
theorem b_is_within_bounds (Y : Hy P w K mg base k cf) (cdv : Value) (A : Around) (outer : List PySem.Env) (s : Shared) (H : Hp) (w0 : Wd) (E : XK) (hr : Room (k + 1) (A.deeper (envOfC "is_within_bounds" (defScope (top 20)) s.heap.objs.size f cdv))) :
    PSs (cxOf CX0 P w K mg base N_is_within_bounds "is_within_bounds" (defScope (top 20)) f cdv A outer s H E).nox (defBody (top 20)) (tS ⟨K, caK K, fun _ => 0⟩ cf H w0 d_is_within_bounds) := by
  have hM : K = (Md.mk K (caK K) fun _ => 0).K := rfl
  have hu := hr.units
  have hN : N_is_within_bounds.Nodup := by decide
  exact s_one (s_ret (x_and (x_tv (x_call Y.c_is_integer hr (Nat.le_succ _) rfl (n_cons (n_var) (x_nil)) rfl rfl (len_cons (len_nil)) rfl)) (x_and1 (n_chain (n_var) (n_var) (n_var)))))
def N_check_within : List Str := ["value", "least", "most"]
theorem b_check_within (Y : Hy P w K mg base k cf) (cdv : Value) (A : Around) (outer : List PySem.Env) (s : Shared) (H : Hp) (w0 : Wd) (E : XK) (hr : Room (k + 1) (A.deeper (envOfC "check_within" (defScope (top 21)) s.heap.objs.size f cdv))) :
    PSs (cxOf CX0 P w K mg base N_check_within "check_within" (defScope (top 21)) f cdv A outer s H E).nox (defBody (top 21)) (tS ⟨K, caK K, fun _ => 0⟩ cf H w0 d_check_within) := by
  have hM : K = (Md.mk K (caK K) fun _ => 0).K := rfl
  have hu := hr.units
  have hN : N_check_within.Nodup := by decide
  exact s_one (n_if (n_tnot (n_tval (x_call Y.c_is_within_bounds hr (Nat.le_succ _) rfl (n_cons (n_var) (n_cons (n_var) (n_cons (n_var) (x_nil)))) rfl rfl (len_cons (len_cons (len_cons (len_nil)))) rfl))) (s_one (s_never)) (s_nil))
def N_check_number : List Str := ["value"]
theorem b_check_number (Y : Hy P w K mg base k cf) (cdv : Value) (A : Around) (outer : List PySem.Env) (s : Shared) (H : Hp) (w0 : Wd) (E : XK) (hr : Room (k + 1) (A.deeper (envOfC "check_number" (defScope (top 22)) s.heap.objs.size f cdv))) :
    PSs (cxOf CX0 P w K mg base N_check_number "check_number" (defScope (top 22)) f cdv A outer s H E).nox (defBody (top 22)) (tS ⟨K, caK K, fun _ => 0⟩ cf H w0 d_check_number) := by
  have hM : K = (Md.mk K (caK K) fun _ => 0).K := rfl
  have hu := hr.units
  have hN : N_check_number.Nodup := by decide
  exact s_one (n_drop (x_call Y.c_check_within hr (Nat.le_succ _) rfl (n_cons (n_var) (n_cons (x_int) (n_cons (n_gi Y.g_MOST_NUMBER) (x_nil)))) rfl rfl (len_cons (len_cons (len_cons (len_nil)))) rfl))
def N_rows_within : List Str := ["number", "most", "found", "part", "rest"]
theorem b_rows_within (Y : Hy P w K mg base k cf) (cdv : Value) (A : Around) (outer : List PySem.Env) (s : Shared) (H : Hp) (w0 : Wd) (E : XK) (hr : Room (k + 1) (A.deeper (envOfC "rows_within" (defScope (top 33)) s.heap.objs.size f cdv))) :
    PSs (cxOf CX0 P w K mg base N_rows_within "rows_within" (defScope (top 33)) f cdv A outer s H E).nox (defBody (top 33)) (tS ⟨K, caK K, fun _ => 0⟩ cf H w0 d_rows_within) := by
  have hM : K = (Md.mk K (caK K) fun _ => 0).K := rfl
  have hu := hr.units
  have hN : N_rows_within.Nodup := by decide
  exact s_cons (n_if (n_tcmp hM hu (n_var) (x_int)) (s_one (s_ret (x_lst (n_cons (x_tup (x_nil)) (x_nil))))) (s_nil)) (s_cons (n_asg hN (x_lst (x_nil))) (s_cons (n_for hM rfl (n_rng2 Y.b_range (x_int) (n_bin hM (n_min2 rfl Y.b_min (n_var) (n_var)) (x_int))) (gnm hN) (s_one (n_for hM rfl (x_seqI hM (x_call Y.c_rows_within hr (Nat.le_succ _) rfl (n_cons (n_bin hM (n_var) (n_var)) (n_cons (n_var) (x_nil))) rfl rfl (len_cons (len_cons (len_nil))) rfl)) (gnm hN) (s_one (n_app (n_var) (x_tup (n_cons (n_var) (x_star hM (n_var) (x_nil))))))))) (s_one (s_ret (n_var)))))
def N_is_cap : List Str := ["value"]
theorem b_is_cap (Y : Hy P w K mg base k cf) (cdv : Value) (A : Around) (outer : List PySem.Env) (s : Shared) (H : Hp) (w0 : Wd) (E : XK) (hr : Room (k + 1) (A.deeper (envOfC "is_cap" (defScope (top 39)) s.heap.objs.size f cdv))) :
    PSs (cxOf CX0 P w K mg base N_is_cap "is_cap" (defScope (top 39)) f cdv A outer s H E).nox (defBody (top 39)) (tS ⟨K, caK K, fun _ => 0⟩ cf H w0 d_is_cap) := by
  have hM : K = (Md.mk K (caK K) fun _ => 0).K := rfl
  have hu := hr.units
  have hN : N_is_cap.Nodup := by decide
  exact s_one (s_ret (x_or (x_tv (n_cmp hM hu (n_var) (x_non))) (x_and1 (x_tv (x_call Y.c_is_within_bounds hr (Nat.le_succ _) rfl (n_cons (n_var) (n_cons (x_int) (n_cons (n_gi Y.g_MOST_CAP) (x_nil)))) rfl rfl (len_cons (len_cons (len_cons (len_nil)))) rfl)))))
def N_wrong_cap : List Str := ["value", "most", "index", "cap"]
theorem b_wrong_cap (Y : Hy P w K mg base k cf) (cdv : Value) (A : Around) (outer : List PySem.Env) (s : Shared) (H : Hp) (w0 : Wd) (E : XK) (hr : Room (k + 1) (A.deeper (envOfC "wrong_cap" (defScope (top 40)) s.heap.objs.size f cdv))) :
    PSs (cxOf CX0 P w K mg base N_wrong_cap "wrong_cap" (defScope (top 40)) f cdv A outer s H E).nox (defBody (top 40)) (tS ⟨K, caK K, fun _ => 0⟩ cf H w0 d_wrong_cap) := by
  have hM : K = (Md.mk K (caK K) fun _ => 0).K := rfl
  have hu := hr.units
  have hN : N_wrong_cap.Nodup := by decide
  exact s_cons (n_for hM rfl (n_enum1 hM Y.b_enumerate (n_var)) (gtp hM rfl (pgs1 hN (pgs1 hN (pgs0)))) (s_one (n_if (PW.pt (n_tor (n_tcmp hM hu (n_var) (n_var)) (n_tor1 (n_tnot (n_tval (x_call Y.c_is_cap hr (Nat.le_succ _) rfl (n_cons (n_var) (x_nil)) rfl rfl (len_cons (len_nil)) rfl)))))) (s_one (s_ret (n_var))) (s_nil)))) (s_one (s_ret (x_neg (x_int))))
def N_check_head : List Str := ["value", "index"]
theorem b_check_head (Y : Hy P w K mg base k cf) (cdv : Value) (A : Around) (outer : List PySem.Env) (s : Shared) (H : Hp) (w0 : Wd) (E : XK) (hr : Room (k + 1) (A.deeper (envOfC "check_head" (defScope (top 41)) s.heap.objs.size f cdv))) :
    PSs (cxOf CX0 P w K mg base N_check_head "check_head" (defScope (top 41)) f cdv A outer s H E).nox (defBody (top 41)) (tS ⟨K, caK K, fun _ => 0⟩ cf H w0 d_check_head) := by
  have hM : K = (Md.mk K (caK K) fun _ => 0).K := rfl
  have hu := hr.units
  have hN : N_check_head.Nodup := by decide
  exact s_cons (n_if (n_tnot (n_tval (n_isi hM Y.b_isinstance (n_var) (n_ty Y.b_tuple (by decide +kernel))))) (s_one (s_never)) (s_nil)) (s_cons (n_asg hN (x_call Y.c_wrong_cap hr (Nat.le_succ _) rfl (n_cons (n_var) (n_cons (n_gi Y.g_MOST_HEAD) (x_nil))) rfl rfl (len_cons (len_cons (len_nil))) rfl)) (s_one (n_if (n_tcmp hM hu (n_var) (x_int)) (s_one (s_never)) (s_nil))))
def N_check_tail : List Str := ["value", "index"]
theorem b_check_tail (Y : Hy P w K mg base k cf) (cdv : Value) (A : Around) (outer : List PySem.Env) (s : Shared) (H : Hp) (w0 : Wd) (E : XK) (hr : Room (k + 1) (A.deeper (envOfC "check_tail" (defScope (top 42)) s.heap.objs.size f cdv))) :
    PSs (cxOf CX0 P w K mg base N_check_tail "check_tail" (defScope (top 42)) f cdv A outer s H E).nox (defBody (top 42)) (tS ⟨K, caK K, fun _ => 0⟩ cf H w0 d_check_tail) := by
  have hM : K = (Md.mk K (caK K) fun _ => 0).K := rfl
  have hu := hr.units
  have hN : N_check_tail.Nodup := by decide
  exact s_cons (n_if (PW.pt (n_tor (n_tnot (n_tval (n_isi hM Y.b_isinstance (n_var) (n_ty Y.b_tuple (by decide +kernel))))) (n_tor1 (n_tcmp hM hu (n_var) (x_tup (x_nil)))))) (s_one (s_never)) (s_nil)) (s_cons (n_asg hN (x_call Y.c_wrong_cap hr (Nat.le_succ _) rfl (n_cons (n_var) (n_cons (n_gi Y.g_MOST_TAIL) (x_nil))) rfl rfl (len_cons (len_cons (len_nil))) rfl)) (s_one (n_if (n_tcmp hM hu (n_var) (x_int)) (s_one (s_never)) (s_nil))))
def N_cap_told : List Str := ["sign"]
theorem b_cap_told (Y : Hy P w K mg base k cf) (cdv : Value) (A : Around) (outer : List PySem.Env) (s : Shared) (H : Hp) (w0 : Wd) (E : XK) (hr : Room (k + 1) (A.deeper (envOfC "cap_told" (defScope (top 45)) s.heap.objs.size f cdv))) :
    PSs (cxOf CX0 P w K mg base N_cap_told "cap_told" (defScope (top 45)) f cdv A outer s H E).nox (defBody (top 45)) (tS ⟨K, caK K, fun _ => 0⟩ cf H w0 d_cap_told) := by
  have hM : K = (Md.mk K (caK K) fun _ => 0).K := rfl
  have hu := hr.units
  have hN : N_cap_told.Nodup := by decide
  exact s_one (s_ret (x_if (n_tcmp hM hu (n_var) (n_gs Y.g_ENDLESS)) (x_non) (n_intS Y.b_int (n_var))))
def N_caps_told : List Str := ["text", "words", ".0", "sign"]
theorem b_caps_told (Y : Hy P w K mg base k cf) (cdv : Value) (A : Around) (outer : List PySem.Env) (s : Shared) (H : Hp) (w0 : Wd) (E : XK) (hr : Room (k + 1) (A.deeper (envOfC "caps_told" (defScope (top 46)) s.heap.objs.size f cdv))) :
    PSs (cxOf CX0 P w K mg base N_caps_told "caps_told" (defScope (top 46)) f cdv A outer s H E).nox (defBody (top 46)) (tS ⟨K, caK K, fun _ => 0⟩ cf H w0 d_caps_told) := by
  have hM : K = (Md.mk K (caK K) fun _ => 0).K := rfl
  have hu := hr.units
  have hN : N_caps_told.Nodup := by decide
  exact s_cons (n_if (n_tnot (n_tval (n_isi hM Y.b_isinstance (n_var) (n_ty Y.b_str (by decide +kernel))))) (s_one (s_ret (x_non))) (s_nil)) (s_cons (n_asg hN (n_split (n_var) (n_gs Y.g_BAR))) (s_cons (n_if (PW.pt (n_tor (n_tcmp hM hu (n_len hM Y.b_len (n_var)) (x_int)) (n_tor1 (n_tnot (n_tval (n_all hM rfl Y.b_all (n_lc (own := [(".0", 2), ("sign", 3)]) hM rfl hN (x_seqI hM (n_bin hM (n_ix hM hu (n_var) (x_int)) (n_ix hM hu (n_var) (x_int)))) rfl rfl (by decide) (fun _ _ _ _ _ => gnm hN) (fun _ _ _ _ _ => pts0) (fun _ _ _ _ _ => n_in hM (n_var) (n_gs Y.g_CAP_SIGNS))))))))) (s_one (s_ret (x_non))) (s_nil)) (s_cons (n_if (PW.pt (n_tor (n_tcmp hM hu (n_len hM Y.b_len (n_ix hM hu (n_var) (x_int))) (n_gi Y.g_MOST_HEAD)) (n_tor1 (n_tnot (n_tchain (x_int) (n_len hM Y.b_len (n_ix hM hu (n_var) (x_int))) (n_gi Y.g_MOST_TAIL)))))) (s_one (s_ret (x_non))) (s_nil)) (s_one (s_ret (x_makeF Y.mk_Caps Y.g_cls_Caps Y.fd_Caps__init hr (n_cons (n_tuple hM Y.b_tuple (n_lc (own := [(".0", 2), ("sign", 3)]) hM rfl hN (x_seqI hM (n_ix hM hu (n_var) (x_int))) rfl rfl (by decide) (fun _ _ _ _ _ => gnm hN) (fun _ _ _ _ _ => pts0) (fun _ _ _ _ _ => x_call Y.c_cap_told hr (Nat.le_succ _) rfl (n_cons (n_var) (x_nil)) rfl rfl (len_cons (len_nil)) rfl))) (n_cons (n_tuple hM Y.b_tuple (n_lc (own := [(".0", 2), ("sign", 3)]) hM rfl hN (x_seqI hM (n_ix hM hu (n_var) (x_int))) rfl rfl (by decide) (fun _ _ _ _ _ => gnm hN) (fun _ _ _ _ _ => pts0) (fun _ _ _ _ _ => x_call Y.c_cap_told hr (Nat.le_succ _) rfl (n_cons (n_var) (x_nil)) rfl rfl (len_cons (len_nil)) rfl))) (x_nil))) (len_cons (len_cons (len_nil))) rfl))))))
def N_shortest_pair : List Str := ["head", "tail", "size"]
theorem b_shortest_pair (Y : Hy P w K mg base k cf) (cdv : Value) (A : Around) (outer : List PySem.Env) (s : Shared) (H : Hp) (w0 : Wd) (E : XK) (hr : Room (k + 1) (A.deeper (envOfC "shortest_pair" (defScope (top 47)) s.heap.objs.size f cdv))) :
    PSs (cxOf CX0 P w K mg base N_shortest_pair "shortest_pair" (defScope (top 47)) f cdv A outer s H E).nox (defBody (top 47)) (tS ⟨K, caK K, fun _ => 0⟩ cf H w0 d_shortest_pair) := by
  have hM : K = (Md.mk K (caK K) fun _ => 0).K := rfl
  have hu := hr.units
  have hN : N_shortest_pair.Nodup := by decide
  exact s_cons (n_for hM rfl (n_rng3 Y.b_range (n_bin hM (n_len hM Y.b_len (n_var)) (x_int)) (x_int) (x_neg (x_int))) (gnm hN) (s_one (n_if (PW.pt (n_tand (n_tcmp hM hu (n_bin hM (n_len hM Y.b_len (n_var)) (n_var)) (x_int)) (n_tand1 (n_tcmp hM hu (n_var) (n_mulT hM (n_sl hM (n_var) (x_no) (x_part (n_var))) (n_bin hM (n_len hM Y.b_len (n_var)) (n_var))))))) (s_one (n_asg hN (n_sl hM (n_var) (x_no) (x_part (n_var))))) (s_nil)))) (s_cons (n_while (PW.pt (n_tand (n_tcmp hM hu (n_var) (x_tup (x_nil))) (n_tand1 (n_tcmp hM hu (n_ix hM hu (n_var) (x_neg (x_int))) (n_ix hM hu (n_var) (x_neg (x_int))))))) (s_one (n_par2 rfl hN (n_rcons (n_sl hM (n_var) (x_no) (x_part (x_neg (x_int)))) (n_rcons (x_tup (n_cons (n_ix hM hu (n_var) (x_neg (x_int))) (x_star hM (n_sl hM (n_var) (x_no) (x_part (x_neg (x_int)))) (x_nil)))) (r_nil)))))) (s_one (s_ret (x_tup (n_cons (n_var) (n_cons (n_var) (x_nil)))))))
def N_cap_at : List Str := ["rule", "size"]
theorem b_cap_at (Y : Hy P w K mg base k cf) (cdv : Value) (A : Around) (outer : List PySem.Env) (s : Shared) (H : Hp) (w0 : Wd) (E : XK) (hr : Room (k + 1) (A.deeper (envOfC "cap_at" (defScope (top 49)) s.heap.objs.size f cdv))) :
    PSs (cxOf CX0 P w K mg base N_cap_at "cap_at" (defScope (top 49)) f cdv A outer s H E).nox (defBody (top 49)) (tS ⟨K, caK K, fun _ => 0⟩ cf H w0 d_cap_at) := by
  have hM : K = (Md.mk K (caK K) fun _ => 0).K := rfl
  have hu := hr.units
  have hN : N_cap_at.Nodup := by decide
  exact s_cons (n_if (n_tcmp hM hu (n_var) (n_len hM Y.b_len (x_prop Y.cl_Caps Y.prop_Caps_head Y.fd_Caps__head hr (n_var)))) (s_one (s_ret (n_ix hM hu (x_prop Y.cl_Caps Y.prop_Caps_head Y.fd_Caps__head hr (n_var)) (n_bin hM (n_var) (x_int))))) (s_nil)) (s_one (s_ret (n_ix hM hu (x_prop Y.cl_Caps Y.prop_Caps_tail Y.fd_Caps__tail hr (n_var)) (n_bin hM (n_intS Y.b_int (n_bin hM (n_bin hM (n_var) (x_int)) (n_len hM Y.b_len (x_prop Y.cl_Caps Y.prop_Caps_head Y.fd_Caps__head hr (n_var))))) (n_len hM Y.b_len (x_prop Y.cl_Caps Y.prop_Caps_tail Y.fd_Caps__tail hr (n_var)))))))
def N_check_rule : List Str := ["value"]
theorem b_check_rule (Y : Hy P w K mg base k cf) (cdv : Value) (A : Around) (outer : List PySem.Env) (s : Shared) (H : Hp) (w0 : Wd) (E : XK) (hr : Room (k + 1) (A.deeper (envOfC "check_rule" (defScope (top 54)) s.heap.objs.size f cdv))) :
    PSs (cxOf CX0 P w K mg base N_check_rule "check_rule" (defScope (top 54)) f cdv A outer s H E).nox (defBody (top 54)) (tS ⟨K, caK K, fun _ => 0⟩ cf H w0 d_check_rule) := by
  have hM : K = (Md.mk K (caK K) fun _ => 0).K := rfl
  have hu := hr.units
  have hN : N_check_rule.Nodup := by decide
  exact s_one (n_if (n_tnot (n_tval (n_isiX hM Y.isi Y.b_isinstance (n_var) (x_tup (n_cons (n_cls Y.g_cls_Caps) (n_cons (n_cls Y.g_cls_Bans) (x_nil))))))) (s_one (s_never)) (s_nil))
def N_with_size : List Str := ["ways", "size", "found", "total"]
theorem b_with_size (Y : Hy P w K mg base k cf) (cdv : Value) (A : Around) (outer : List PySem.Env) (s : Shared) (H : Hp) (w0 : Wd) (E : XK) (hr : Room (k + 1) (A.deeper (envOfC "with_size" (defScope (top 58)) s.heap.objs.size f cdv))) :
    PSs (cxOf CX0 P w K mg base N_with_size "with_size" (defScope (top 58)) f cdv A outer s H E).nox (defBody (top 58)) (tS ⟨K, caK K, fun _ => 0⟩ cf H w0 d_with_size) := by
  have hM : K = (Md.mk K (caK K) fun _ => 0).K := rfl
  have hu := hr.units
  have hN : N_with_size.Nodup := by decide
  exact s_cons (n_asg hN (n_list hM Y.b_list (n_var))) (s_cons (n_for hM rfl (n_rng2 Y.b_range (n_var) (n_len hM Y.b_len (n_var))) (gnm hN) (s_one (n_asgG (n_bin hM (n_ix hM hu (n_var) (n_var)) (n_ix hM hu (n_var) (n_bin hM (n_var) (n_var)))) (n_gsb hu (n_var) (n_var))))) (s_one (s_ret (n_var))))
def N_apart_counts : List Str := ["number", "gap", "least", "ways", "found", "many", "start", "total"]
theorem b_apart_counts (Y : Hy P w K mg base k cf) (cdv : Value) (A : Around) (outer : List PySem.Env) (s : Shared) (H : Hp) (w0 : Wd) (E : XK) (hr : Room (k + 1) (A.deeper (envOfC "apart_counts" (defScope (top 59)) s.heap.objs.size f cdv))) :
    PSs (cxOf CX0 P w K mg base N_apart_counts "apart_counts" (defScope (top 59)) f cdv A outer s H E).nox (defBody (top 59)) (tS ⟨K, caK K, fun _ => 0⟩ cf H w0 d_apart_counts) := by
  have hM : K = (Md.mk K (caK K) fun _ => 0).K := rfl
  have hu := hr.units
  have hN : N_apart_counts.Nodup := by decide
  exact s_cons (n_drop (x_call Y.c_check_number hr (Nat.le_succ _) rfl (n_cons (n_var) (x_nil)) rfl rfl (len_cons (len_nil)) rfl)) (s_cons (n_drop (x_call Y.c_check_within hr (Nat.le_succ _) rfl (n_cons (n_var) (n_cons (x_int) (n_cons (n_gi Y.g_MOST_GAP) (x_nil)))) rfl rfl (len_cons (len_cons (len_cons (len_nil)))) rfl)) (s_cons (n_drop (x_call Y.c_check_within hr (Nat.le_succ _) rfl (n_cons (n_var) (n_cons (x_int) (n_cons (n_gi Y.g_MOST_LEAST) (x_nil)))) rfl rfl (len_cons (len_cons (len_cons (len_nil)))) rfl)) (s_cons (n_parT hM rfl (n_rcons (n_bin hM (x_lst (n_cons (x_int) (x_nil))) (n_bin hM (x_lst (n_cons (x_int) (x_nil))) (n_var))) (n_rcons (n_bin hM (x_lst (n_cons (x_int) (x_nil))) (n_bin hM (x_lst (n_cons (x_int) (x_nil))) (n_var))) (n_rcons (x_int) (n_rcons (n_var) (r_nil))))) (pgs1 hN (pgs1 hN (pgs1 hN (pgs1 hN (pgs0)))))) (s_cons (n_while (n_tcmp hM hu (n_var) (n_var)) (s_cons (n_asg hN (x_call Y.c_with_size hr (Nat.le_succ _) rfl (n_cons (n_var) (n_cons (n_var) (x_nil))) rfl rfl (len_cons (len_cons (len_nil))) rfl)) (s_cons (n_for hM rfl (n_rng2 Y.b_range (n_var) (n_bin hM (n_var) (x_int))) (gnm hN) (s_one (n_asgG (n_bin hM (n_ix hM hu (n_var) (n_var)) (n_ix hM hu (n_var) (n_bin hM (n_var) (n_var)))) (n_gsb hu (n_var) (n_var))))) (s_cons (n_asg hN (n_bin hM (n_bin hM (n_var) (n_var)) (n_bin hM (n_var) (n_var)))) (s_one (n_asg hN (n_bin hM (n_var) (x_int)))))))) (s_one (s_ret (n_tuple hM Y.b_tuple (n_var))))))))
def N_ban_counts : List Str := ["rule", "number", "found", "size", "cap"]
theorem b_ban_counts (Y : Hy P w K mg base k cf) (cdv : Value) (A : Around) (outer : List PySem.Env) (s : Shared) (H : Hp) (w0 : Wd) (E : XK) (hr : Room (k + 1) (A.deeper (envOfC "ban_counts" (defScope (top 65)) s.heap.objs.size f cdv))) :
    PSs (cxOf CX0 P w K mg base N_ban_counts "ban_counts" (defScope (top 65)) f cdv A outer s H E).nox (defBody (top 65)) (tS ⟨K, caK K, fun _ => 0⟩ cf H w0 d_ban_counts) := by
  have hM : K = (Md.mk K (caK K) fun _ => 0).K := rfl
  have hu := hr.units
  have hN : N_ban_counts.Nodup := by decide
  exact s_cons (n_asg hN (n_bin hM (x_lst (n_cons (x_int) (x_nil))) (n_bin hM (n_var) (x_int)))) (s_cons (n_for hM rfl (n_rng2 Y.b_range (x_int) (n_bin hM (n_var) (x_int))) (gnm hN) (s_cons (n_asg hN (x_call Y.c_cap_at hr (Nat.le_succ _) rfl (n_cons (n_var) (n_cons (n_var) (x_nil))) rfl rfl (len_cons (len_cons (len_nil))) rfl)) (s_one (n_if (PW.pt (n_tand (n_tcmp hM hu (n_var) (x_non)) (n_tand1 (n_tcmp hM hu (n_bin hM (n_var) (n_bin hM (n_var) (x_int))) (n_var))))) (s_one (n_asgG (n_bin hM (n_ix hM hu (n_var) (n_bin hM (n_var) (n_bin hM (n_var) (x_int)))) (x_int)) (n_gsb hu (n_var) (n_bin hM (n_var) (n_bin hM (n_var) (x_int)))))) (s_nil))))) (s_one (s_ret (n_var))))
def N_sums_by_divisors : List Str := ["amounts", "found", "divisor", "amount", "total"]
theorem b_sums_by_divisors (Y : Hy P w K mg base k cf) (cdv : Value) (A : Around) (outer : List PySem.Env) (s : Shared) (H : Hp) (w0 : Wd) (E : XK) (hr : Room (k + 1) (A.deeper (envOfC "sums_by_divisors" (defScope (top 66)) s.heap.objs.size f cdv))) :
    PSs (cxOf CX0 P w K mg base N_sums_by_divisors "sums_by_divisors" (defScope (top 66)) f cdv A outer s H E).nox (defBody (top 66)) (tS ⟨K, caK K, fun _ => 0⟩ cf H w0 d_sums_by_divisors) := by
  have hM : K = (Md.mk K (caK K) fun _ => 0).K := rfl
  have hu := hr.units
  have hN : N_sums_by_divisors.Nodup := by decide
  exact s_cons (n_asg hN (n_bin hM (x_lst (n_cons (x_int) (x_nil))) (n_len hM Y.b_len (n_var)))) (s_cons (n_for hM rfl (n_enum2 hM Y.b_enumerate (n_var) (x_int)) (gtp hM rfl (pgs1 hN (pgs1 hN (pgs0)))) (s_one (n_for hM rfl (n_rng3 Y.b_range (n_var) (n_bin hM (n_len hM Y.b_len (n_var)) (x_int)) (n_var)) (gnm hN) (s_one (n_asgG (n_bin hM (n_ix hM hu (n_var) (n_bin hM (n_var) (x_int))) (n_bin hM (n_var) (n_var))) (n_gsb hu (n_var) (n_bin hM (n_var) (x_int)))))))) (s_one (s_ret (n_var))))
def N_counts_by_excesses : List Str := ["amounts", "known", "found", "total", ".0", "k"]
theorem b_counts_by_excesses (Y : Hy P w K mg base k cf) (cdv : Value) (A : Around) (outer : List PySem.Env) (s : Shared) (H : Hp) (w0 : Wd) (E : XK) (hr : Room (k + 1) (A.deeper (envOfC "counts_by_excesses" (defScope (top 67)) s.heap.objs.size f cdv))) :
    PSs (cxOf CX0 P w K mg base N_counts_by_excesses "counts_by_excesses" (defScope (top 67)) f cdv A outer s H E).nox (defBody (top 67)) (tS ⟨K, caK K, fun _ => 0⟩ cf H w0 d_counts_by_excesses) := by
  have hM : K = (Md.mk K (caK K) fun _ => 0).K := rfl
  have hu := hr.units
  have hN : N_counts_by_excesses.Nodup := by decide
  exact s_cons (n_parT hM rfl (n_rcons (x_call Y.c_sums_by_divisors hr (Nat.le_succ _) rfl (n_cons (n_var) (x_nil)) rfl rfl (len_cons (len_nil)) rfl) (n_rcons (x_lst (n_cons (x_int) (x_nil))) (r_nil))) (pgs1 hN (pgs1 hN (pgs0)))) (s_cons (n_for hM rfl (n_rng2 Y.b_range (x_int) (n_bin hM (n_len hM Y.b_len (n_var)) (x_int))) (gnm hN) (s_one (n_app (n_var) (n_bin hM (n_sum hM rfl Y.b_sum (n_lc (own := [(".0", 4), ("k", 5)]) hM rfl hN (n_rng2 Y.b_range (x_int) (n_bin hM (n_var) (x_int))) rfl rfl (by decide) (fun _ _ _ _ _ => gnm hN) (fun _ _ _ _ _ => pts0) (fun _ _ _ _ _ => n_bin hM (n_ix hM hu (n_var) (n_bin hM (n_var) (x_int))) (n_ix hM hu (n_var) (n_bin hM (n_var) (n_var)))))) (n_var))))) (s_one (s_ret (n_var))))
def N_excess_list : List Str := ["rule", "number", ".0", "many"]
theorem b_excess_list (Y : Hy P w K mg base k cf) (cdv : Value) (A : Around) (outer : List PySem.Env) (s : Shared) (H : Hp) (w0 : Wd) (E : XK) (hr : Room (k + 1) (A.deeper (envOfC "excess_list" (defScope (top 68)) s.heap.objs.size f cdv))) :
    PSs (cxOf CX0 P w K mg base N_excess_list "excess_list" (defScope (top 68)) f cdv A outer s H E).nox (defBody (top 68)) (tS ⟨K, caK K, fun _ => 0⟩ cf H w0 d_excess_list) := by
  have hM : K = (Md.mk K (caK K) fun _ => 0).K := rfl
  have hu := hr.units
  have hN : N_excess_list.Nodup := by decide
  exact s_one (s_ret (n_lc (own := [(".0", 2), ("many", 3)]) hM rfl hN (x_seqI hM (n_sl hM (x_call Y.c_ban_counts hr (Nat.le_succ _) rfl (n_cons (n_var) (n_cons (n_var) (x_nil))) rfl rfl (len_cons (len_cons (len_nil))) rfl) (x_part (x_int)) (x_no))) rfl rfl (by decide) (fun _ _ _ _ _ => gnm hN) (fun _ _ _ _ _ => pts0) (fun _ _ _ _ _ => n_bin hM (x_int) (n_var))))
def N_counts_of : List Str := ["rule", "number", "every", "pairs", "found", "total", ".0", "part", "times"]
theorem b_counts_of (Y : Hy P w K mg base k cf) (cdv : Value) (A : Around) (outer : List PySem.Env) (s : Shared) (H : Hp) (w0 : Wd) (E : XK) (hr : Room (k + 1) (A.deeper (envOfC "counts_of" (defScope (top 69)) s.heap.objs.size f cdv))) :
    PSs (cxOf CX0 P w K mg base N_counts_of "counts_of" (defScope (top 69)) f cdv A outer s H E).nox (defBody (top 69)) (tS ⟨K, caK K, fun _ => 0⟩ cf H w0 d_counts_of) := by
  have hM : K = (Md.mk K (caK K) fun _ => 0).K := rfl
  have hu := hr.units
  have hN : N_counts_of.Nodup := by decide
  exact s_cons (n_if (n_tval (n_isiX hM Y.isi Y.b_isinstance (n_var) (n_cls Y.g_cls_Caps))) (s_one (s_ret (x_call Y.c_counts_by_excesses hr (Nat.le_succ _) rfl (n_cons (x_call Y.c_excess_list hr (Nat.le_succ _) rfl (n_cons (n_var) (n_cons (n_var) (x_nil))) rfl rfl (len_cons (len_cons (len_nil))) rfl) (x_nil)) rfl rfl (len_cons (len_nil)) rfl))) (s_nil)) (s_cons (n_parT hM rfl (n_rcons (x_never) (n_rcons (x_never) (r_nil))) (pgs1 hN (pgs1 hN (pgs0)))) (s_cons (n_asg hN (x_lst (x_nil))) (s_cons (n_for hM rfl (n_rng1 Y.b_range (n_bin hM (n_var) (x_int))) (gnm hN) (s_one (n_app (n_var) (n_sum hM rfl Y.b_sum (n_lc (own := [(".0", 6), ("part", 7), ("times", 8)]) hM rfl hN (x_seqI hM (n_var)) rfl rfl (by decide) (fun _ _ _ _ _ => gtp hM rfl (pgs1 hN (pgs1 hN (pgs0)))) (fun _ _ _ _ _ => pts1 (n_tcmp hM hu (n_var) (n_var))) (fun _ _ _ _ _ => n_bin hM (n_var) (n_ix hM hu (n_var) (n_bin hM (n_var) (n_var))))))))) (s_one (s_ret (n_var))))))
def N_counts : List Str := ["rule", "number"]
theorem b_counts (Y : Hy P w K mg base k cf) (cdv : Value) (A : Around) (outer : List PySem.Env) (s : Shared) (H : Hp) (w0 : Wd) (E : XK) (hr : Room (k + 1) (A.deeper (envOfC "counts" (defScope (top 70)) s.heap.objs.size f cdv))) :
    PSs (cxOf CX0 P w K mg base N_counts "counts" (defScope (top 70)) f cdv A outer s H E).nox (defBody (top 70)) (tS ⟨K, caK K, fun _ => 0⟩ cf H w0 d_counts) := by
  have hM : K = (Md.mk K (caK K) fun _ => 0).K := rfl
  have hu := hr.units
  have hN : N_counts.Nodup := by decide
  exact s_cons (n_drop (x_call Y.c_check_rule hr (Nat.le_succ _) rfl (n_cons (n_var) (x_nil)) rfl rfl (len_cons (len_nil)) rfl)) (s_cons (n_drop (x_call Y.c_check_number hr (Nat.le_succ _) rfl (n_cons (n_var) (x_nil)) rfl rfl (len_cons (len_nil)) rfl)) (s_one (s_ret (n_tuple hM Y.b_tuple (x_call Y.c_counts_of hr (Nat.le_succ _) rfl (n_cons (n_var) (n_cons (n_var) (x_nil))) rfl rfl (len_cons (len_cons (len_nil))) rfl)))))
def N_gap_list : List Str := ["row", ".0", "at", "part"]
theorem b_gap_list (Y : Hy P w K mg base k cf) (cdv : Value) (A : Around) (outer : List PySem.Env) (s : Shared) (H : Hp) (w0 : Wd) (E : XK) (hr : Room (k + 1) (A.deeper (envOfC "gap_list" (defScope (top 72)) s.heap.objs.size f cdv))) :
    PSs (cxOf CX0 P w K mg base N_gap_list "gap_list" (defScope (top 72)) f cdv A outer s H E).nox (defBody (top 72)) (tS ⟨K, caK K, fun _ => 0⟩ cf H w0 d_gap_list) := by
  have hM : K = (Md.mk K (caK K) fun _ => 0).K := rfl
  have hu := hr.units
  have hN : N_gap_list.Nodup := by decide
  exact s_one (s_ret (n_tuple hM Y.b_tuple (n_lc (own := [(".0", 1), ("at", 2), ("part", 3)]) hM rfl hN (n_enum1 hM Y.b_enumerate (n_var)) rfl rfl (by decide) (fun _ _ _ _ _ => gtp hM rfl (pgs1 hN (pgs1 hN (pgs0)))) (fun _ _ _ _ _ => pts0) (fun _ _ _ _ _ => n_bin hM (n_var) (x_if (n_tcmp hM hu (n_bin hM (n_var) (x_int)) (n_len hM Y.b_len (n_var))) (n_ix hM hu (n_var) (n_bin hM (n_var) (x_int))) (x_int))))))
def N_check_apart : List Str := ["gap", "least"]
theorem b_check_apart (Y : Hy P w K mg base k cf) (cdv : Value) (A : Around) (outer : List PySem.Env) (s : Shared) (H : Hp) (w0 : Wd) (E : XK) (hr : Room (k + 1) (A.deeper (envOfC "check_apart" (defScope (top 73)) s.heap.objs.size f cdv))) :
    PSs (cxOf CX0 P w K mg base N_check_apart "check_apart" (defScope (top 73)) f cdv A outer s H E).nox (defBody (top 73)) (tS ⟨K, caK K, fun _ => 0⟩ cf H w0 d_check_apart) := by
  have hM : K = (Md.mk K (caK K) fun _ => 0).K := rfl
  have hu := hr.units
  have hN : N_check_apart.Nodup := by decide
  exact s_cons (n_drop (x_call Y.c_check_within hr (Nat.le_succ _) rfl (n_cons (n_var) (n_cons (x_int) (n_cons (n_gi Y.g_MOST_GAP) (x_nil)))) rfl rfl (len_cons (len_cons (len_cons (len_nil)))) rfl)) (s_one (n_drop (x_call Y.c_check_within hr (Nat.le_succ _) rfl (n_cons (n_var) (n_cons (x_int) (n_cons (n_gi Y.g_MOST_LEAST) (x_nil)))) rfl rfl (len_cons (len_cons (len_cons (len_nil)))) rfl)))
def N_does_part : List Str := ["row", "gap", "least", ".0", "step"]
theorem b_does_part (Y : Hy P w K mg base k cf) (cdv : Value) (A : Around) (outer : List PySem.Env) (s : Shared) (H : Hp) (w0 : Wd) (E : XK) (hr : Room (k + 1) (A.deeper (envOfC "does_part" (defScope (top 74)) s.heap.objs.size f cdv))) :
    PSs (cxOf CX0 P w K mg base N_does_part "does_part" (defScope (top 74)) f cdv A outer s H E).nox (defBody (top 74)) (tS ⟨K, caK K, fun _ => 0⟩ cf H w0 d_does_part) := by
  have hM : K = (Md.mk K (caK K) fun _ => 0).K := rfl
  have hu := hr.units
  have hN : N_does_part.Nodup := by decide
  exact s_one (s_ret (x_or (x_tv (n_cmp hM hu (n_var) (x_tup (x_nil)))) (x_and1 (x_and (x_tv (n_cmp hM hu (n_ix hM hu (n_var) (x_neg (x_int))) (n_var))) (x_and1 (x_tv (n_all hM rfl Y.b_all (n_lc (own := [(".0", 3), ("step", 4)]) hM rfl hN (x_seqI hM (n_sl hM (x_call Y.c_gap_list hr (Nat.le_succ _) rfl (n_cons (n_var) (x_nil)) rfl rfl (len_cons (len_nil)) rfl) (x_no) (x_part (x_neg (x_int))))) rfl rfl (by decide) (fun _ _ _ _ _ => gnm hN) (fun _ _ _ _ _ => pts0) (fun _ _ _ _ _ => n_cmp hM hu (n_var) (n_var))))))))))
def N_apart_rows : List Str := ["number", "gap", "least", ".0", "row"]
theorem b_apart_rows (Y : Hy P w K mg base k cf) (cdv : Value) (A : Around) (outer : List PySem.Env) (s : Shared) (H : Hp) (w0 : Wd) (E : XK) (hr : Room (k + 1) (A.deeper (envOfC "apart_rows" (defScope (top 75)) s.heap.objs.size f cdv))) :
    PSs (cxOf CX0 P w K mg base N_apart_rows "apart_rows" (defScope (top 75)) f cdv A outer s H E).nox (defBody (top 75)) (tS ⟨K, caK K, fun _ => 0⟩ cf H w0 d_apart_rows) := by
  have hM : K = (Md.mk K (caK K) fun _ => 0).K := rfl
  have hu := hr.units
  have hN : N_apart_rows.Nodup := by decide
  exact s_cons (n_drop (x_call Y.c_check_within hr (Nat.le_succ _) rfl (n_cons (n_var) (n_cons (x_int) (n_cons (n_gi Y.g_MOST_LISTED) (x_nil)))) rfl rfl (len_cons (len_cons (len_cons (len_nil)))) rfl)) (s_cons (n_drop (x_call Y.c_check_apart hr (Nat.le_succ _) rfl (n_cons (n_var) (n_cons (n_var) (x_nil))) rfl rfl (len_cons (len_cons (len_nil))) rfl)) (s_one (s_ret (n_tuple hM Y.b_tuple (n_lc (own := [(".0", 3), ("row", 4)]) hM rfl hN (x_seqI hM (x_call Y.c_rows_within hr (Nat.le_succ _) rfl (n_cons (n_var) (n_cons (n_var) (x_nil))) rfl rfl (len_cons (len_cons (len_nil))) rfl)) rfl rfl (by decide) (fun _ _ _ _ _ => gnm hN) (fun _ _ _ _ _ => pts1 (n_tval (x_call Y.c_does_part hr (Nat.le_succ _) rfl (n_cons (n_var) (n_cons (n_var) (n_cons (n_var) (x_nil)))) rfl rfl (len_cons (len_cons (len_cons (len_nil)))) rfl))) (fun _ _ _ _ _ => n_var))))))
def N__law_well : List Str := ["script", "turn", "cell", "mixed", "each"]
theorem b__law_well (Y : Hy P w K mg base k cf) (cdv : Value) (A : Around) (outer : List PySem.Env) (s : Shared) (H : Hp) (w0 : Wd) (E : XK) (hr : Room (k + 1) (A.deeper (envOfC "_law_well" (defScope (top 77)) s.heap.objs.size f cdv))) :
    PSs (cxOf CX0 P w K mg base N__law_well "_law_well" (defScope (top 77)) f cdv A outer s H E).nox (defBody (top 77)) (tS ⟨K, caK K, fun _ => 0⟩ cf H w0 d__law_well) := by
  have hM : K = (Md.mk K (caK K) fun _ => 0).K := rfl
  have hu := hr.units
  have hN : N__law_well.Nodup := by decide
  exact s_cons (n_asg hN (x_if (n_tcmp hM hu (n_var) (n_len hM Y.b_len (n_var))) (n_intS Y.b_int (n_ix hM hu (n_var) (n_var))) (n_bin hM (n_bin hM (x_int) (n_var)) (x_int)))) (s_cons (n_asg hN (n_bin hM (x_int) (n_bin hM (x_int) (n_var)))) (s_cons (n_for hM rfl (x_seqI hM (n_sl hM (n_var) (x_no) (x_part (x_int)))) (gnm hN) (s_one (n_asg hN (n_bin hM (n_intS Y.b_int (n_bin hM (n_bin hM (n_bin hM (n_var) (x_int)) (n_bin hM (n_intS Y.b_int (n_var)) (x_int))) (x_int))) (x_int))))) (s_cons (n_asg hN (n_bin hM (n_intS Y.b_int (n_bin hM (n_bin hM (n_var) (x_int)) (n_bin hM (n_bin hM (n_intS Y.b_int (n_var)) (x_int)) (x_int)))) (x_int))) (s_one (s_ret (x_lst (n_cons (x_if (PW.pt (n_tor (n_tcmp hM hu (n_var) (x_int)) (n_tor1 (n_tcmp hM hu (n_var) (n_bin hM (x_int) (x_int)))))) (n_abs Y.b_abs (n_var)) (x_int)) (n_cons (n_var) (n_cons (x_int) (x_nil))))))))))
def N__law_dip : List Str := ["well", "top", "digit"]
theorem b__law_dip (Y : Hy P w K mg base k cf) (cdv : Value) (A : Around) (outer : List PySem.Env) (s : Shared) (H : Hp) (w0 : Wd) (E : XK) (hr : Room (k + 1) (A.deeper (envOfC "_law_dip" (defScope (top 78)) s.heap.objs.size f cdv))) :
    PSs (cxOf CX0 P w K mg base N__law_dip "_law_dip" (defScope (top 78)) f cdv A outer s H E).nox (defBody (top 78)) (tS ⟨K, caK K, fun _ => 0⟩ cf H w0 d__law_dip) := by
  have hM : K = (Md.mk K (caK K) fun _ => 0).K := rfl
  have hu := hr.units
  have hN : N__law_dip.Nodup := by decide
  exact s_cons (n_if (n_tcmp hM hu (n_ix hM hu (n_var) (x_int)) (x_int)) (s_cons (n_asgG (n_divmod Y.b_divmod (n_ix hM hu (n_var) (x_int)) (n_var)) (n_gtp hM rfl (n_gc (n_gsb hu (n_var) (x_int)) (n_gc (n_gnm hN) (n_gn0))))) (s_one (s_ret (n_var)))) (s_nil)) (s_cons (n_asgG (n_bin hM (n_ix hM hu (n_var) (x_int)) (x_int)) (n_gsb hu (n_var) (x_int))) (s_cons (n_asgG (n_bin hM (n_intS Y.b_int (n_bin hM (n_bin hM (n_bin hM (n_ix hM hu (n_var) (x_int)) (x_int)) (n_bin hM (x_int) (n_ix hM hu (n_var) (x_int)))) (x_int))) (x_int)) (n_gsb hu (n_var) (x_int))) (s_one (s_ret (n_bin hM (n_intS Y.b_int (n_bin hM (n_ix hM hu (n_var) (x_int)) (x_int))) (n_var))))))
def N__law_of : List Str := ["well", "some"]
theorem b__law_of (Y : Hy P w K mg base k cf) (cdv : Value) (A : Around) (outer : List PySem.Env) (s : Shared) (H : Hp) (w0 : Wd) (E : XK) (hr : Room (k + 1) (A.deeper (envOfC "_law_of" (defScope (top 79)) s.heap.objs.size f cdv))) :
    PSs (cxOf CX0 P w K mg base N__law_of "_law_of" (defScope (top 79)) f cdv A outer s H E).nox (defBody (top 79)) (tS ⟨K, caK K, fun _ => 0⟩ cf H w0 d__law_of) := by
  have hM : K = (Md.mk K (caK K) fun _ => 0).K := rfl
  have hu := hr.units
  have hN : N__law_of.Nodup := by decide
  exact s_one (s_ret (n_ix hM hu (n_var) (x_call Y.c__law_dip hr (Nat.le_succ _) rfl (n_consR (n_var) (n_cons (n_len hM Y.b_len (n_var)) (x_nil))) rfl rfl (len_consR (len_cons (len_nil))) rfl)))
def N__law_known : List Str := ["number", "pairs", ".0", "told", "text"]
theorem b__law_known (Y : Hy P w K mg base k cf) (cdv : Value) (A : Around) (outer : List PySem.Env) (s : Shared) (H : Hp) (w0 : Wd) (E : XK) (hr : Room (k + 1) (A.deeper (envOfC "_law_known" (defScope (top 80)) s.heap.objs.size f cdv))) :
    PSs (cxOf CX0 P w K mg base N__law_known "_law_known" (defScope (top 80)) f cdv A outer s H E).nox (defBody (top 80)) (tS ⟨K, caK K, fun _ => 0⟩ cf H w0 d__law_known) := by
  have hM : K = (Md.mk K (caK K) fun _ => 0).K := rfl
  have hu := hr.units
  have hN : N__law_known.Nodup := by decide
  exact s_cons (n_asg hN (x_lst (n_cons (x_tup (n_cons (x_call Y.c_apart_counts hr (Nat.le_succ _) rfl (n_cons (n_var) (n_cons (x_int) (n_cons (x_int) (x_nil)))) rfl rfl (len_cons (len_cons (len_cons (len_nil)))) rfl) (n_cons (x_str) (x_nil)))) (n_cons (x_tup (n_cons (x_call Y.c_apart_counts hr (Nat.le_succ _) rfl (n_cons (n_var) (n_cons (x_int) (n_cons (x_int) (x_nil)))) rfl rfl (len_cons (len_cons (len_cons (len_nil)))) rfl) (n_cons (x_str) (x_nil)))) (x_nil))))) (s_cons (n_asg hN (n_bin hM (n_var) (x_lst (n_cons (x_tup (n_cons (x_call Y.c_apart_counts hr (Nat.le_succ _) rfl (n_cons (n_var) (n_cons (x_int) (n_cons (x_int) (x_nil)))) rfl rfl (len_cons (len_cons (len_cons (len_nil)))) rfl) (n_cons (x_str) (x_nil)))) (n_cons (x_tup (n_cons (x_call Y.c_apart_counts hr (Nat.le_succ _) rfl (n_cons (n_var) (n_cons (x_int) (n_cons (x_int) (x_nil)))) rfl rfl (len_cons (len_cons (len_cons (len_nil)))) rfl) (n_cons (x_str) (x_nil)))) (x_nil)))))) (s_one (s_ret (n_all hM rfl Y.b_all (n_lc (own := [(".0", 2), ("told", 3), ("text", 4)]) hM rfl hN (x_seqI hM (n_var)) rfl rfl (by decide) (fun _ _ _ _ _ => gtp hM rfl (pgs1 hN (pgs1 hN (pgs0)))) (fun _ _ _ _ _ => pts0) (fun _ _ _ _ _ => n_cmp hM hu (n_var) (x_call Y.c_counts hr (Nat.le_succ _) rfl (n_cons (x_cmeth (n_cls Y.g_cls_Caps) Y.cr_Caps Y.cm_Caps_read Y.fd_Caps__read (hr.mono (Nat.le_succ _)) (n_cons (n_var) (x_nil)) (len_cons (len_nil)) rfl) (n_cons (n_var) (x_nil))) rfl rfl (len_cons (len_cons (len_nil))) rfl)))))))
def N__law_from_least : List Str := ["number", "least", "head"]
theorem b__law_from_least (Y : Hy P w K mg base k cf) (cdv : Value) (A : Around) (outer : List PySem.Env) (s : Shared) (H : Hp) (w0 : Wd) (E : XK) (hr : Room (k + 1) (A.deeper (envOfC "_law_from_least" (defScope (top 81)) s.heap.objs.size f cdv))) :
    PSs (cxOf CX0 P w K mg base N__law_from_least "_law_from_least" (defScope (top 81)) f cdv A outer s H E).nox (defBody (top 81)) (tS ⟨K, caK K, fun _ => 0⟩ cf H w0 d__law_from_least) := by
  have hM : K = (Md.mk K (caK K) fun _ => 0).K := rfl
  have hu := hr.units
  have hN : N__law_from_least.Nodup := by decide
  exact s_cons (n_asg hN (n_mulT hM (x_tup (n_cons (x_int) (x_nil))) (n_bin hM (n_var) (x_int)))) (s_cons (n_if (n_tcmp hM hu (x_call Y.c_apart_counts hr (Nat.le_succ _) rfl (n_cons (n_var) (n_cons (x_int) (n_cons (n_var) (x_nil)))) rfl rfl (len_cons (len_cons (len_cons (len_nil)))) rfl) (x_call Y.c_counts hr (Nat.le_succ _) rfl (n_cons (x_makeF Y.mk_Caps Y.g_cls_Caps Y.fd_Caps__init hr (n_cons (n_var) (n_cons (x_tup (n_cons (x_int) (x_nil))) (x_nil))) (len_cons (len_cons (len_nil))) rfl) (n_cons (n_var) (x_nil))) rfl rfl (len_cons (len_cons (len_nil))) rfl)) (s_one (s_ret (x_bl))) (s_nil)) (s_one (s_ret (n_cmp hM hu (x_call Y.c_apart_counts hr (Nat.le_succ _) rfl (n_cons (n_var) (n_cons (x_int) (n_cons (n_var) (x_nil)))) rfl rfl (len_cons (len_cons (len_cons (len_nil)))) rfl) (x_call Y.c_counts hr (Nat.le_succ _) rfl (n_cons (x_makeF Y.mk_Caps Y.g_cls_Caps Y.fd_Caps__init hr (n_cons (n_var) (n_cons (x_tup (n_cons (x_non) (x_nil))) (x_nil))) (len_cons (len_cons (len_nil))) rfl) (n_cons (n_var) (x_nil))) rfl rfl (len_cons (len_cons (len_nil))) rfl)))))
def N__law_by_last : List Str := ["number", "gap", "least", "whole", "more", "rest", "due", ".0", "total"]
theorem b__law_by_last (Y : Hy P w K mg base k cf) (cdv : Value) (A : Around) (outer : List PySem.Env) (s : Shared) (H : Hp) (w0 : Wd) (E : XK) (hr : Room (k + 1) (A.deeper (envOfC "_law_by_last" (defScope (top 82)) s.heap.objs.size f cdv))) :
    PSs (cxOf CX0 P w K mg base N__law_by_last "_law_by_last" (defScope (top 82)) f cdv A outer s H E).nox (defBody (top 82)) (tS ⟨K, caK K, fun _ => 0⟩ cf H w0 d__law_by_last) := by
  have hM : K = (Md.mk K (caK K) fun _ => 0).K := rfl
  have hu := hr.units
  have hN : N__law_by_last.Nodup := by decide
  exact s_cons (n_parT hM rfl (n_rcons (x_call Y.c_apart_counts hr (Nat.le_succ _) rfl (n_cons (n_var) (n_cons (n_var) (n_cons (n_var) (x_nil)))) rfl rfl (len_cons (len_cons (len_cons (len_nil)))) rfl) (n_rcons (x_call Y.c_apart_counts hr (Nat.le_succ _) rfl (n_cons (n_var) (n_cons (n_var) (n_cons (n_bin hM (n_var) (x_int)) (x_nil)))) rfl rfl (len_cons (len_cons (len_cons (len_nil)))) rfl) (r_nil))) (pgs1 hN (pgs1 hN (pgs0)))) (s_cons (n_if (n_tcmp hM hu (n_bin hM (n_var) (n_var)) (x_int)) (s_one (s_ret (n_all hM rfl Y.b_all (n_lc (own := [(".0", 7), ("total", 8)]) hM rfl hN (n_rng1 Y.b_range (n_bin hM (n_var) (x_int))) rfl rfl (by decide) (fun _ _ _ _ _ => gnm hN) (fun _ _ _ _ _ => pts0) (fun _ _ _ _ _ => n_cmp hM hu (n_ix hM hu (n_var) (n_var)) (n_ix hM hu (n_var) (n_var))))))) (s_nil)) (s_cons (n_asg hN (x_call Y.c_apart_counts hr (Nat.le_succ _) rfl (n_cons (n_var) (n_cons (n_var) (n_cons (n_bin hM (n_var) (n_var)) (x_nil)))) rfl rfl (len_cons (len_cons (len_cons (len_nil)))) rfl)) (s_cons (n_setLc (own := [(".0", 7), ("total", 8)]) hM rfl hN (n_rng1 Y.b_range (n_bin hM (n_var) (x_int))) rfl rfl (by decide) (fun _ _ _ _ _ => gnm hN) (fun _ _ _ _ _ => pts0) (fun _ _ _ _ _ => x_if (n_tcmp hM hu (n_var) (n_var)) (n_ix hM hu (n_var) (n_bin hM (n_var) (n_var))) (x_int))) (s_one (s_ret (n_cmp hM hu (n_lc (own := [(".0", 7), ("total", 8)]) hM rfl hN (n_rng1 Y.b_range (n_bin hM (n_var) (x_int))) rfl rfl (by decide) (fun _ _ _ _ _ => gnm hN) (fun _ _ _ _ _ => pts0) (fun _ _ _ _ _ => n_bin hM (n_ix hM hu (n_var) (n_var)) (n_ix hM hu (n_var) (n_var)))) (n_var)))))))
def N_law : List Str := ["script", "well", "number", "least", "gap", "small", "few"]
theorem b_law (Y : Hy P w K mg base k cf) (cdv : Value) (A : Around) (outer : List PySem.Env) (s : Shared) (H : Hp) (w0 : Wd) (E : XK) (hr : Room (k + 1) (A.deeper (envOfC "law" (defScope (top 83)) s.heap.objs.size f cdv))) :
    PSs (cxOf CX0 P w K mg base N_law "law" (defScope (top 83)) f cdv A outer s H E).nox (defBody (top 83)) (tS ⟨K, caK K, fun _ => 0⟩ cf H w0 d_law) := by
  have hM : K = (Md.mk K (caK K) fun _ => 0).K := rfl
  have hu := hr.units
  have hN : N_law.Nodup := by decide
  exact s_cons (n_asg hN (x_call Y.c__law_well hr (Nat.le_succ _) rfl (n_cons (n_var) (n_cons (x_int) (x_nil))) rfl rfl (len_cons (len_cons (len_nil))) rfl)) (s_cons (n_asg hN (n_bin hM (x_call Y.c__law_of hr (Nat.le_succ _) rfl (n_consR (n_var) (n_cons (x_lst (n_cons (x_int) (n_cons (x_int) (n_cons (x_int) (x_nil))))) (x_nil))) rfl rfl (len_consR (len_cons (len_nil))) rfl) (x_call Y.c__law_dip hr (Nat.le_succ _) rfl (n_consR (n_var) (n_cons (x_int) (x_nil))) rfl rfl (len_consR (len_cons (len_nil))) rfl))) (s_cons (n_if (n_tnot (n_tval (x_call Y.c__law_known hr (Nat.le_succ _) rfl (n_cons (n_var) (x_nil)) rfl rfl (len_cons (len_nil)) rfl))) (s_one (s_ret (x_bl))) (s_nil)) (s_cons (n_par3 rfl hN (n_rcons (x_call Y.c__law_dip hr (Nat.le_succ _) rfl (n_consR (n_var) (n_cons (x_int) (x_nil))) rfl rfl (len_consR (len_cons (len_nil))) rfl) (n_rcons (n_bin hM (x_int) (x_call Y.c__law_dip hr (Nat.le_succ _) rfl (n_consR (n_var) (n_cons (x_int) (x_nil))) rfl rfl (len_consR (len_cons (len_nil))) rfl)) (n_rcons (x_call Y.c__law_dip hr (Nat.le_succ _) rfl (n_consR (n_var) (n_cons (x_int) (x_nil))) rfl rfl (len_consR (len_cons (len_nil))) rfl) (r_nil))))) (s_cons (n_if (n_tnot (n_tval (x_call Y.c__law_from_least hr (Nat.le_succ _) rfl (n_cons (n_var) (n_cons (n_var) (x_nil))) rfl rfl (len_cons (len_cons (len_nil))) rfl))) (s_one (s_ret (x_bl))) (s_nil)) (s_cons (n_asg hN (n_bin hM (x_int) (x_call Y.c__law_dip hr (Nat.le_succ _) rfl (n_consR (n_var) (n_cons (x_int) (x_nil))) rfl rfl (len_consR (len_cons (len_nil))) rfl))) (s_cons (n_if (PW.pt (n_tor (n_tnot (n_tval (x_call Y.c__law_by_last hr (Nat.le_succ _) rfl (n_cons (n_var) (n_cons (n_var) (n_cons (n_var) (x_nil)))) rfl rfl (len_cons (len_cons (len_cons (len_nil)))) rfl))) (n_tor1 (n_tnot (n_tval (x_call Y.c__law_by_last hr (Nat.le_succ _) rfl (n_cons (n_var) (n_cons (x_call Y.c__law_dip hr (Nat.le_succ _) rfl (n_consR (n_var) (n_cons (x_int) (x_nil))) rfl rfl (len_consR (len_cons (len_nil))) rfl) (n_cons (n_var) (x_nil)))) rfl rfl (len_cons (len_cons (len_cons (len_nil)))) rfl)))))) (s_one (s_ret (x_bl))) (s_nil)) (s_cons (n_asg hN (x_call Y.c__law_dip hr (Nat.le_succ _) rfl (n_consR (n_var) (n_cons (x_int) (x_nil))) rfl rfl (len_consR (len_cons (len_nil))) rfl)) (s_one (s_ret (n_cmp hM hu (n_len hM Y.b_len (x_call Y.c_apart_rows hr (Nat.le_succ _) rfl (n_cons (n_var) (n_cons (n_var) (n_cons (n_var) (x_nil)))) rfl rfl (len_cons (len_cons (len_cons (len_nil)))) rfl)) (n_ix hM hu (x_call Y.c_apart_counts hr (Nat.le_succ _) rfl (n_cons (n_var) (n_cons (n_var) (n_cons (n_var) (x_nil)))) rfl rfl (len_cons (len_cons (len_cons (len_nil)))) rfl) (n_var))))))))))))
def N_Caps__init : List Str := ["self", "head", "tail"]
theorem b_Caps__init (Y : Hy P w K mg base k cf) (cdv : Value) (A : Around) (outer : List PySem.Env) (s : Shared) (H : Hp) (w0 : Wd) (E : XK) (hr : Room (k + 1) (A.deeper (envOfC "Caps.__init__" (defScope (topm 48 0)) s.heap.objs.size f cdv))) :
    PSs (cxOf CX0 P w K mg base N_Caps__init "Caps.__init__" (defScope (topm 48 0)) f cdv A outer s H E).nox (defBody (topm 48 0)) (tS ⟨K, caK K, fun _ => 0⟩ cf H w0 d_Caps__init) := by
  have hM : K = (Md.mk K (caK K) fun _ => 0).K := rfl
  have hu := hr.units
  have hN : N_Caps__init.Nodup := by decide
  exact s_cons (n_drop (x_call Y.c_check_head hr (Nat.le_succ _) rfl (n_cons (n_var) (x_nil)) rfl rfl (len_cons (len_nil)) rfl)) (s_cons (n_drop (x_call Y.c_check_tail hr (Nat.le_succ _) rfl (n_cons (n_var) (x_nil)) rfl rfl (len_cons (len_nil)) rfl)) (s_cons (s_fld Y.fld_front (n_var) (n_var)) (s_cons (s_fld Y.fld_again (n_var) (n_var)) (s_one (s_fld Y.fld_least_pair (n_var) (x_call Y.c_shortest_pair hr (Nat.le_succ _) rfl (n_cons (n_var) (n_cons (n_var) (x_nil))) rfl rfl (len_cons (len_cons (len_nil))) rfl))))))
def N_Caps__read : List Str := ["cls", "text", "found"]
theorem b_Caps__read (Y : Hy P w K mg base k cf) (cdv : Value) (A : Around) (outer : List PySem.Env) (s : Shared) (H : Hp) (w0 : Wd) (E : XK) (hr : Room (k + 1) (A.deeper (envOfC "Caps.read" (defScope (topm 48 1)) s.heap.objs.size f cdv))) :
    PSs (cxOf CX0 P w K mg base N_Caps__read "Caps.read" (defScope (topm 48 1)) f cdv A outer s H E).nox (defBody (topm 48 1)) (tS ⟨K, caK K, fun _ => 0⟩ cf H w0 d_Caps__read) := by
  have hM : K = (Md.mk K (caK K) fun _ => 0).K := rfl
  have hu := hr.units
  have hN : N_Caps__read.Nodup := by decide
  exact s_cons (n_asg hN (x_call Y.c_caps_told hr (Nat.le_succ _) rfl (n_cons (n_var) (x_nil)) rfl rfl (len_cons (len_nil)) rfl)) (s_cons (n_if (n_tcmp hM hu (n_var) (x_non)) (s_one (s_never)) (s_nil)) (s_one (s_ret (n_var))))
def N_Caps__head : List Str := ["self"]
theorem b_Caps__head (Y : Hy P w K mg base k cf) (cdv : Value) (A : Around) (outer : List PySem.Env) (s : Shared) (H : Hp) (w0 : Wd) (E : XK) (hr : Room (k + 1) (A.deeper (envOfC "Caps.head" (defScope (topm 48 2)) s.heap.objs.size f cdv))) :
    PSs (cxOf CX0 P w K mg base N_Caps__head "Caps.head" (defScope (topm 48 2)) f cdv A outer s H E).nox (defBody (topm 48 2)) (tS ⟨K, caK K, fun _ => 0⟩ cf H w0 d_Caps__head) := by
  have hM : K = (Md.mk K (caK K) fun _ => 0).K := rfl
  have hu := hr.units
  have hN : N_Caps__head.Nodup := by decide
  exact s_one (s_ret (x_fld Y.fld_front (n_var)))
def N_Caps__tail : List Str := ["self"]
theorem b_Caps__tail (Y : Hy P w K mg base k cf) (cdv : Value) (A : Around) (outer : List PySem.Env) (s : Shared) (H : Hp) (w0 : Wd) (E : XK) (hr : Room (k + 1) (A.deeper (envOfC "Caps.tail" (defScope (topm 48 3)) s.heap.objs.size f cdv))) :
    PSs (cxOf CX0 P w K mg base N_Caps__tail "Caps.tail" (defScope (topm 48 3)) f cdv A outer s H E).nox (defBody (topm 48 3)) (tS ⟨K, caK K, fun _ => 0⟩ cf H w0 d_Caps__tail) := by
  have hM : K = (Md.mk K (caK K) fun _ => 0).K := rfl
  have hu := hr.units
  have hN : N_Caps__tail.Nodup := by decide
  exact s_one (s_ret (x_fld Y.fld_again (n_var)))
end
def T : Tb
  | 0 => some (1, d_is_integer)
  | 1 => some (3, d_is_within_bounds)
  | 2 => some (3, d_check_within)
  | 3 => some (1, d_check_number)
  | 7 => some (5, d_rows_within)
  | 37 => some (1, d_is_cap)
  | 38 => some (4, d_wrong_cap)
  | 39 => some (2, d_check_head)
  | 40 => some (2, d_check_tail)
  | 43 => some (1, d_cap_told)
  | 44 => some (4, d_caps_told)
  | 45 => some (3, d_shortest_pair)
  | 46 => some (2, d_cap_at)
  | 50 => some (1, d_check_rule)
  | 51 => some (4, d_with_size)
  | 52 => some (8, d_apart_counts)
  | 56 => some (5, d_ban_counts)
  | 10 => some (5, d_sums_by_divisors)
  | 11 => some (6, d_counts_by_excesses)
  | 57 => some (4, d_excess_list)
  | 58 => some (9, d_counts_of)
  | 59 => some (2, d_counts)
  | 60 => some (4, d_gap_list)
  | 61 => some (2, d_check_apart)
  | 62 => some (5, d_does_part)
  | 63 => some (5, d_apart_rows)
  | 64 => some (5, d__law_well)
  | 65 => some (3, d__law_dip)
  | 66 => some (2, d__law_of)
  | 67 => some (5, d__law_known)
  | 68 => some (3, d__law_from_least)
  | 69 => some (9, d__law_by_last)
  | 29 => some (7, d_law)
  | 168 => some (3, d_Caps__init)
  | 169 => some (3, d_Caps__read)
  | 170 => some (1, d_Caps__head)
  | 171 => some (1, d_Caps__tail)
  | _ => none
end K97

namespace K97
open PySem PySem.Spec PyProof.Rows L2 Lp
theorem f_is_integer {k : Nat} (hk : 1 ≤ k) (i : Int) (G : Sto) : runT T k 0 [.int i] G = some (.d (.bl true), G) := callT hk rfl fun j e => rfl
theorem f_is_within_bounds {k : Nat} (hk : 2 ≤ k) (i a b : Int) (G : Sto) : runT T k 1 [.int i, .int a, .int b] G = some (.d (.bl (decide (a ≤ i) && decide (i ≤ b))), G) := callT (by omega) rfl fun j e => by
  have c1 := @f_is_integer j (by omega)
  simp [d_is_within_bounds, startE, c1]
theorem f_check_within {k : Nat} (hk : 3 ≤ k) (i a b : Int) (G : Sto) (h : a ≤ i ∧ i ≤ b) : runT T k 2 [.int i, .int a, .int b] G = some (.d .non, G) := callT (by omega) rfl fun j e => by
  have c1 := @f_is_within_bounds j (by omega)
  simp [d_check_within, startE, c1, h]
theorem f_check_number {k : Nat} (hk : 4 ≤ k) (i : Int) (G : Sto) (h : 0 ≤ i ∧ i ≤ 400) : runT T k 3 [.int i] G = some (.d .non, G) := callT (by omega) rfl fun j e => by
  have c1 := @f_check_within j (by omega)
  simp [d_check_number, startE, c1, h]
/-- the rows of n with no part above m -/
def rowsF : Nat → Nat → Nat → List (List Int)
  | 0, _, _ => []
  | f + 1, n, m => if n = 0 then [[]] else (List.range (min n m)).flatMap fun p => (rowsF f (n - (p + 1)) (p + 1)).map (((p + 1 : Nat) : Int) :: ·)
theorem rowsF_mono (f n m : Nat) : (rowsF f n m).length ≤ (rowsF f n n).length := by
  cases f with
  | zero => simp [rowsF]
  | succ f =>
    unfold rowsF
    by_cases h : n = 0
    · rw [if_pos h, if_pos h]; exact Nat.le_refl _
    · rw [if_neg h, if_neg h, Nat.min_self]
      have e : (List.range n).take (min n m) = List.range (min n m) := by rw [List.take_range, Nat.min_eq_left (Nat.min_le_left _ _)]
      generalize hF : (fun p => (rowsF f (n - (p + 1)) (p + 1)).map (((p + 1 : Nat) : Int) :: ·)) = F
      have := congrArg (fun l => (l.flatMap F).length) (List.take_append_drop (min n m) (List.range n))
      simp only [List.flatMap_append, List.length_append, e] at this
      omega
theorem rowsF_fuel : ∀ (f n m : Nat), n < f → rowsF (f + 1) n m = rowsF f n m
  | 0, n, m, h => absurd h (Nat.not_lt_zero n)
  | f + 1, n, m, h => by
    rw [rowsF, rowsF]
    by_cases h0 : n = 0
    · rw [if_pos h0, if_pos h0]
    · rw [if_neg h0, if_neg h0]
      have : ∀ p : Nat, rowsF (f + 1) (n - (p + 1)) (p + 1) = rowsF f (n - (p + 1)) (p + 1) := fun p => rowsF_fuel f _ _ (by omega)
      simp only [this]
theorem rowsF_at : ∀ (d n m : Nat), rowsF (n + 1 + d) n m = rowsF (n + 1) n m
  | 0, n, m => rfl
  | d + 1, n, m => by rw [← Nat.add_assoc, rowsF_fuel _ _ _ (by omega), rowsF_at d n m]
theorem rowsF_few : ((List.range 25).all fun n => decide ((rowsF (n + 1) n n).length ≤ 100000)) = true := by decide +kernel
theorem rowsF_bd {f n m : Nat} (h : n < f) (hn : n ≤ 24) : (rowsF f n m).length ≤ 100000 := by
  refine Nat.le_trans (rowsF_mono f n m) ?_
  rw [show f = n + 1 + (f - (n + 1)) by omega, rowsF_at]
  have := List.all_eq_true.mp rowsF_few n (List.mem_range.mpr (by omega))
  exact of_decide_eq_true this
theorem rowsF_len : ∀ f n m r, r ∈ rowsF f n m → r.length ≤ f
  | 0, n, m, r, h => by simp [rowsF] at h
  | f + 1, n, m, r, h => by
    unfold rowsF at h
    by_cases h0 : n = 0
    · subst h0; simp at h; subst h; simp
    · rw [if_neg h0, List.mem_flatMap] at h
      obtain ⟨p, _, h⟩ := h
      rw [List.mem_map] at h
      obtain ⟨r', h, rfl⟩ := h
      have := rowsF_len f _ _ r' h
      simp; omega
theorem f_rows_within (G : Sto) : ∀ (f n m k : Nat), n < f → f ≤ k → f ≤ 25 → n ≤ 24 → runT T k 7 [.int n, .int m] G = some (.tmp (.lst (tups (rowsF f n m))), G)
  | 0, n, m, k, h, _, _, _ => absurd h (Nat.not_lt_zero n)
  | f + 1, n, m, k, h, hk, hf, hn => callT (by omega) rfl fun j e => by
    have ih := fun n m (h : n < f) (hn : n ≤ 24) => f_rows_within G f n m j h (by omega) (by omega) hn
    by_cases h0 : n = 0
    · subst h0
      simp [d_rows_within, startE, rowsF, tups, iD]
    · have e0 : ¬ ((n : Int) = 0) := by omega
      have em : min2R (.d (.int n)) (.d (.int m)) G = some (.d (.int (min n m : Nat))) := by
        show some (R.d (.int (if (m : Int) < n then m else n))) = _
        congr 3
        split <;> omega
      have r1 : rgOk 1 = true := by decide
      have r2 : rgOk ((min n m : Nat) + 1 : Int) = true := rgOk_of (by omega)
      have bd : (rowsF (f + 1) n m).length ≤ 100000 := rowsF_bd h hn
      obtain ⟨ρ', G', e1, G2, x3, x4, e2⟩ := forL_inv (cf := runT T j) (tg := .nm 3) (f := fun p : Nat => D.int (1 + (p : Nat)))
        (body := sFor (cSeqI (cCall 7 (cCons (cBin subR (cVar 0) (cVar 3)) (cCons (cVar 3) cNil)) [])) (.nm 4) (sApp (cVar 2) (cTup (cCons (cVar 3) (cStar (cVar 4) cNil)))))
        (I := fun i ρ G' => G' = G ∧ ∃ x3 x4, ρ = [.v (.int n), .v (.int m), .own (.lst (tups (((List.range (min n m)).take i).flatMap fun p => (rowsF f (n - (p + 1)) (p + 1)).map (((p + 1 : Nat) : Int) :: ·)))), x3, x4])
        (List.range (min n m)) 0 [.v (.int n), .v (.int m), .own (.lst []), .no, .no] G ⟨rfl, _, _, rfl⟩ (fun i p ρ G' hi hI => by
          obtain ⟨rfl, x3, x4, rfl⟩ := hI
          have hp := (List.getElem?_eq_some_iff.mp hi)
          obtain ⟨hp1, hp2⟩ := hp
          rw [List.getElem_range] at hp2
          subst hp2
          rw [List.length_range] at hp1
          rw [Nat.zero_add] at *
          generalize hacc : ((List.range (min n m)).take i).flatMap (fun p => (rowsF f (n - (p + 1)) (p + 1)).map (((p + 1 : Nat) : Int) :: ·)) = acc
          have hb2 : (acc ++ (rowsF f (n - (i + 1)) (i + 1)).map (((i + 1 : Nat) : Int) :: ·)).length ≤ 100000 := by
            have := bd
            rw [show rowsF (f + 1) n m = if n = 0 then [[]] else (List.range (min n m)).flatMap fun p => (rowsF f (n - (p + 1)) (p + 1)).map (((p + 1 : Nat) : Int) :: ·) from rfl, if_neg h0] at this
            refine Nat.le_trans ?_ this
            rw [← List.take_append_drop (i + 1) (List.range (min n m)), List.flatMap_append, List.length_append, take_next hi, List.flatMap_append, ← hacc]
            simp
          have cl := ih (n - (i + 1)) (i + 1) (by omega) (by omega)
          obtain ⟨ρ', G', e1, rfl, x4, e2⟩ := forL_inv (cf := runT T j) (tg := .nm 4) (f := fun r : List Int => D.tup (iD r)) (body := sApp (cVar 2) (cTup (cCons (cVar 3) (cStar (cVar 4) cNil))))
            (I := fun q ρ G2 => G2 = G' ∧ ∃ x4, ρ = [.v (.int n), .v (.int m), .own (.lst (tups (acc ++ ((rowsF f (n - (i + 1)) (i + 1)).take q).map (((i + 1 : Nat) : Int) :: ·)))), .v (.int (1 + i)), x4])
            (rowsF f (n - (i + 1)) (i + 1)) 0 [.v (.int n), .v (.int m), .own (.lst (tups acc)), .v (.int (1 + i)), x4] G' ⟨rfl, x4, by simp⟩ (fun q r ρ G2 hq hI => by
              obtain ⟨rfl, x4, rfl⟩ := hI
              rw [Nat.zero_add] at *
              refine ⟨_, [.v (.int n), .v (.int m), .own (.lst (tups (acc ++ ((rowsF f (n - (i + 1)) (i + 1)).take (q + 1)).map (((i + 1 : Nat) : Int) :: ·)))), .v (.int (1 + i)), .v (.tup (iD r))], _, rfl, .inl ?_, rfl, _, rfl⟩
              have l1 : r.length + 1 ≤ sz := by
                have := rowsF_len f _ _ r (List.mem_of_getElem? hq)
                rw [sz_eq]
                omega
              have l2 : (tups (acc ++ ((rowsF f (n - (i + 1)) (i + 1)).take q).map (((i + 1 : Nat) : Int) :: ·))).length < sz := by
                rw [sz_eq]
                unfold tups
                rw [List.length_map, List.length_append, List.length_map, List.length_take]
                rw [List.length_append, List.length_map] at hb2
                omega
              simp only [lz, cz]
              rw [if_pos l1]
              simp only [lz, cz]
              rw [if_pos l2]
              have e5 : tups (acc ++ ((rowsF f (n - (i + 1)) (i + 1)).take q).map (((i + 1 : Nat) : Int) :: ·)) ++ [D.tup (D.int (1 + (i : Int)) :: iD r)] = tups (acc ++ ((rowsF f (n - (i + 1)) (i + 1)).take (q + 1)).map (((i + 1 : Nat) : Int) :: ·)) := by
                rw [take_next hq]
                simp [tups, iD, Int.add_comm]
              rw [e5])
          refine ⟨_, ρ', _, rfl, .inl ?_, rfl, .v (.int (1 + i)), x4, ?_⟩
          · have ea : (n : Int) - (1 + i) = ((n - (i + 1) : Nat) : Int) := by omega
            have eb : (1 : Int) + i = ((i + 1 : Nat) : Int) := by omega
            simp only [lz, cz]
            rw [ea, show runT T j 7 [D.int ((n - (i + 1) : Nat) : Int), D.int (1 + (i : Int))] G' = some (.tmp (.lst (tups (rowsF f (n - (i + 1)) (i + 1)))), G') from by rw [eb]; exact cl]
            simp only [lz, cz]
            exact e1
          · rw [e2, take_next hi, List.flatMap_append, ← hacc]
            simp [tups])
      simp [d_rows_within, startE, h0, em, r1, r2]
      rw [rangeI_map, e1]
      subst e2
      simp
      rw [show rowsF (f + 1) n m = if n = 0 then [[]] else (List.range (min n m)).flatMap fun p => (rowsF f (n - (p + 1)) (p + 1)).map (((p + 1 : Nat) : Int) :: ·) from rfl, if_neg h0]
      simp [G2]
end K97

namespace K97
open PySem PySem.Spec PyProof.Rows L2 Lp
theorem rangeC_map : ∀ (n : Nat) (lo c : Int), rangeC lo c n = (List.range n).map fun k : Nat => D.int (lo + (k : Nat) * c)
  | 0, _, _ => rfl
  | n + 1, lo, c => by
    show D.int lo :: rangeC (lo + c) c n = _
    rw [rangeC_map n, List.range_succ_eq_map, List.map_cons, List.map_map]
    congr 1
    · simp
    · apply List.map_congr_left
      intro k _
      simp only [Function.comp, D.int.injEq]
      have : ((k.succ : Nat) : Int) * c = k * c + c := by
        rw [Nat.succ_eq_add_one, Int.natCast_add, Int.add_mul]
        simp
      omega
theorem set_map {β : Type} (f : Nat → β) (n k : Nat) (v : β) : ((List.range n).map f).set k v = (List.range n).map fun t => if t = k then v else f t := by
  apply List.ext_getElem?
  intro t
  by_cases h : t = k
  · subst h
    by_cases ht : t < n
    · rw [List.getElem?_set_self (by simpa using ht)]
      simp [ht]
    · rw [List.getElem?_eq_none (by simpa using Nat.le_of_not_lt ht), List.getElem?_eq_none (by simpa using Nat.le_of_not_lt ht)]
  · rw [List.getElem?_set_ne (Ne.symm h)]
    by_cases ht : t < n
    · simp [ht, h]
    · simp [ht]
theorem getD_map (f : Nat → Int) {n k : Nat} (h : k < n) : ((List.range n).map f).getD k 0 = f k := by
  simp [List.getD, h]
/-- sums over divisors, the first j of them -/
def sdv (a : Nat → Int) : Nat → Nat → Int
  | 0, _ => 0
  | j + 1, t => sdv a j t + if (t + 1) % (j + 1) = 0 then ((j + 1 : Nat) : Int) * a j else 0
theorem sdv_more (a : Nat → Int) (t : Nat) : ∀ j, sdv a (t + 1 + j) t = sdv a (t + 1) t
  | 0 => rfl
  | j + 1 => by
    rw [show t + 1 + (j + 1) = (t + 1 + j) + 1 by omega, sdv, sdv_more a t j, if_neg, Int.add_zero]
    rw [Nat.mod_eq_of_lt (by omega)]
    omega
theorem f_sums_by_divisors {k : Nat} (hk : 1 ≤ k) (a : Nat → Int) (n : Nat) (hn : n ≤ 1000) (G : Sto) : runT T k 10 [.lst (iD ((List.range n).map a))] G = some (.tmp (.lst (iD ((List.range n).map fun t => sdv a n t))), G) := callT (by omega) rfl fun j e => by
  have hall : ((List.range n).map a).length = n := by simp
  generalize hA : (List.range n).map a = as at *
  have ea : enumD 1 (iD as) = (List.range n).map fun i : Nat => D.tup [.int (1 + (i : Nat)), .int (a i)] := by
    rw [enumD_iD, ← hA]
    apply List.ext_getElem?
    intro i
    by_cases hi : i < n
    · simp [hi]
    · simp [hi]
  obtain ⟨ρ', G', e1, rfl, x, y, z, e2⟩ := forL_inv (cf := runT T j) (tg := .tup [2, 3]) (f := fun i : Nat => D.tup [.int (1 + (i : Nat)), .int (a i)])
    (body := sFor (cRng3 (cCons (cVar 2) (cCons (cBin addR (cUnG lenR (cVar 0)) (cC (.int 1))) (cCons (cVar 2) (cNil))))) (.nm 4) (sAsgG (gSb (cVar 1) (cBin subR (cVar 4) (cC (.int 1)))) (cBin addR (cBinG ixG (cVar 1) (cBin subR (cVar 4) (cC (.int 1)))) (cBin mulR (cVar 2) (cVar 3)))))
    (I := fun i ρ G' => G' = G ∧ ∃ x y z, ρ = [.v (.lst (iD as)), .own (.lst (iD ((List.range n).map fun t => sdv a i t))), x, y, z])
    (List.range n) 0 [.v (.lst (iD as)), .own (.lst (iD ((List.range n).map fun t => sdv a 0 t))), .no, .no, .no] G ⟨rfl, _, _, _, rfl⟩ (fun i x ρ G' hi hI => by
      obtain ⟨rfl, x1, y1, z1, rfl⟩ := hI
      rw [Nat.zero_add] at *
      obtain ⟨hi1, hi2⟩ := List.getElem?_eq_some_iff.mp hi
      rw [List.getElem_range] at hi2
      subst hi2
      rw [List.length_range] at hi1
      have ex : (1 : Int) + (i : Nat) = ((i + 1 : Nat) : Int) := by omega
      have hdm := Nat.div_add_mod n (i + 1)
      have hml := Nat.mod_lt n (show 0 < i + 1 by omega)
      have hq1 : 1 ≤ n / (i + 1) := (Nat.le_div_iff_mul_le (by omega)).mpr (by omega)
      generalize hq : n / (i + 1) = q at *
      obtain ⟨s, el⟩ := forL_st (cf := runT T j) (i := 4) (f := fun m : Nat => D.int (((i + 1 : Nat) : Int) + (m : Nat) * ((i + 1 : Nat) : Int)))
        (body := sAsgG (gSb (cVar 1) (cBin subR (cVar 4) (cC (.int 1)))) (cBin addR (cBinG ixG (cVar 1) (cBin subR (cVar 4) (cC (.int 1)))) (cBin mulR (cVar 2) (cVar 3))))
        (env := fun m s => [.v (.lst (iD as)), .own (.lst (iD ((List.range n).map fun t => sdv a i t + if (t + 1) % (i + 1) = 0 ∧ t + 1 ≤ m * (i + 1) then ((i + 1 : Nat) : Int) * a i else 0))), .v (.int ((i + 1 : Nat) : Int)), .v (.int (a i)), s])
        (st := fun _ => G') (List.range q) z1 (fun m m' s hm => by
          obtain ⟨hm1, hm2⟩ := List.getElem?_eq_some_iff.mp hm
          rw [List.getElem_range] at hm2
          subst hm2
          rw [List.length_range] at hm1
          have hmq : (m + 1) * (i + 1) ≤ n := by
            have : (m + 1) * (i + 1) ≤ q * (i + 1) := Nat.mul_le_mul_right _ hm1
            rw [Nat.mul_comm q] at this
            omega
          have eix : ((i + 1 : Nat) : Int) + (m : Nat) * ((i + 1 : Nat) : Int) - 1 = (((m + 1) * (i + 1) - 1 : Nat) : Int) := by
            have h1 : ((m + 1) * (i + 1) : Nat) = (i + 1) + m * (i + 1) := by rw [Nat.add_mul]; omega
            rw [h1]
            have : (((i + 1) + m * (i + 1) : Nat) : Int) = ((i + 1 : Nat) : Int) + (m : Nat) * ((i + 1 : Nat) : Int) := by push_cast; rfl
            omega
          have hpos : 1 ≤ (m + 1) * (i + 1) := Nat.mul_pos (by omega) (by omega)
          have hlt : (m + 1) * (i + 1) - 1 < n := by omega
          have i1 := fun G => ixG_lst (r := .bor 1 (.lst (iD ((List.range n).map fun t => sdv a i t + if (t + 1) % (i + 1) = 0 ∧ t + 1 ≤ m * (i + 1) then ((i + 1 : Nat) : Int) * a i else 0)))) (G := G) ((m + 1) * (i + 1) - 1) (.inr (.inl ⟨1, rfl⟩)) eix (by simpa using hlt)
          rw [getD_map _ hlt] at i1
          have o1 : mulOkI ((i + 1 : Nat) : Int) (a i) = true := mulOk_of (by omega)
          have ix : ixN n (((i + 1 : Nat) : Int) + (m : Nat) * ((i + 1 : Nat) : Int) - 1) = some ((m + 1) * (i + 1) - 1) := by rw [eix]; exact ixN_nat hlt
          have iset : ∀ (l : List Int) (k : Nat) (v : Int), (iD l).set k (.int v) = iD (l.set k v) := fun l k v => by unfold iD; rw [List.map_set]
          have e3 : ((m + 1) * (i + 1) - 1 + 1) = (m + 1) * (i + 1) := by omega
          have c0 : ((m + 1) * (i + 1)) % (i + 1) = 0 := Nat.mul_mod_left _ _
          have c1 : ¬ ((m + 1) * (i + 1) ≤ m * (i + 1)) := by rw [Nat.add_mul]; omega
          simp only [lz, cz, i1, o1, List.length_map, List.length_range, ix, iset, set_map]
          congr 7
          apply List.map_congr_left
          intro t ht
          by_cases h : t = (m + 1) * (i + 1) - 1
          · subst h
            rw [if_pos rfl, e3, if_neg (by rintro ⟨_, h⟩; exact c1 h), if_pos ⟨c0, Nat.le_refl _⟩]
            omega
          · rw [if_neg h]
            congr 1
            by_cases hc : (t + 1) % (i + 1) = 0
            · have : t + 1 ≤ m * (i + 1) ↔ t + 1 ≤ (m + 1) * (i + 1) := by
                constructor
                · intro hh
                  rw [Nat.add_mul]; omega
                · intro hh
                  obtain ⟨w, hw⟩ := Nat.dvd_of_mod_eq_zero hc
                  have hne : t + 1 ≠ (m + 1) * (i + 1) := by omega
                  have hw' : t + 1 = w * (i + 1) := by rw [Nat.mul_comm]; exact hw
                  rw [hw'] at hh hne ⊢
                  have : w ≤ m + 1 := Nat.le_of_mul_le_mul_right hh (by omega)
                  have : w ≠ m + 1 := fun z => hne (by rw [z])
                  exact Nat.mul_le_mul_right _ (by omega)
              simp only [hc, true_and, this]
            · simp only [hc, false_and])
      rw [List.length_range] at el
      have em : (List.range q).map (fun m : Nat => D.int (((i + 1 : Nat) : Int) + (m : Nat) * ((i + 1 : Nat) : Int))) = rangeC ((i + 1 : Nat) : Int) ((i + 1 : Nat) : Int) q := (rangeC_map q _ _).symm
      have env0 : (List.range n).map (fun t => sdv a i t + if (t + 1) % (i + 1) = 0 ∧ t + 1 ≤ 0 * (i + 1) then ((i + 1 : Nat) : Int) * a i else 0) = (List.range n).map fun t => sdv a i t := by
        apply List.map_congr_left
        intro t _
        rw [if_neg (by omega), Int.add_zero]
      have envq : (List.range n).map (fun t => sdv a i t + if (t + 1) % (i + 1) = 0 ∧ t + 1 ≤ q * (i + 1) then ((i + 1 : Nat) : Int) * a i else 0) = (List.range n).map fun t => sdv a (i + 1) t := by
        apply List.map_congr_left
        intro t ht
        rw [List.mem_range] at ht
        rw [sdv]
        congr 1
        by_cases hc : (t + 1) % (i + 1) = 0
        · have hle : t + 1 ≤ q * (i + 1) := by
            obtain ⟨w, hw⟩ := Nat.dvd_of_mod_eq_zero hc
            have : w ≤ q := by
              rw [← hq]
              exact (Nat.le_div_iff_mul_le (by omega)).mpr (by rw [Nat.mul_comm]; omega)
            rw [hw, Nat.mul_comm (i + 1)]
            exact Nat.mul_le_mul_right _ this
          rw [if_pos hc, if_pos ⟨hc, hle⟩]
        · rw [if_neg hc, if_neg (fun h => hc h.1)]
      rw [em, env0, envq] at el
      have hrs : (Builtin.Range.rangeSize ((i + 1 : Nat) : Int) ((n : Nat) + 1) ((i + 1 : Nat) : Int)) = q := by
        have g1 : ((i + 1 : Nat) : Int) > 0 := by omega
        have g2 : ((i + 1 : Nat) : Int) < (n : Int) + 1 := by omega
        unfold Builtin.Range.rangeSize
        rw [if_pos g1, if_pos g2]
        have h1 : ((n : Int) + 1 - ((i + 1 : Nat) : Int) - 1) = ((n - (i + 1) : Nat) : Int) := by omega
        rw [h1, ← Int.natCast_ediv]
        have h2 : (n - (i + 1)) / (i + 1) + 1 = q := by
          rw [← hq]
          have := Nat.add_div_right (n - (i + 1)) (show 0 < i + 1 by omega)
          rw [show n - (i + 1) + (i + 1) = n by omega] at this
          omega
        rw [← h2]
        rfl
      have hqn : q ≤ n := by rw [← hq]; exact Nat.div_le_self _ _
      have hsm : Builtin.Range.small ((i + 1 : Nat) : Int) ((n : Nat) + 1) ((i + 1 : Nat) : Int) = true := by
        unfold Builtin.Range.small
        rw [hrs, if_pos (by omega)]
        unfold Builtin.Range.rangeFitsLong
        simp only [Bool.and_eq_true, Bool.or_eq_true, decide_eq_true_eq]
        omega
      have r1 : rgOk ((i + 1 : Nat) : Int) = true := rgOk_of (by omega)
      have r2 : rgOk ((n : Nat) + 1 : Int) = true := rgOk_of (by omega)
      have r3 : ((((i + 1 : Nat) : Int) = -1) : Prop) = False := eq_false (by omega)
      have r4 : ((((i + 1 : Nat) : Int) ≠ 0) : Prop) = True := eq_true (by omega)
      have r5 : ((((i + 1 : Nat) : Int).natAbs < 1073741824) : Prop) = True := eq_true (by omega)
      have r6 : ((q : Nat) : Int).toNat = q := Int.toNat_natCast q
      refine ⟨_, [.v (.lst (iD as)), .own (.lst (iD ((List.range n).map fun t => sdv a (i + 1) t))), .v (.int ((i + 1 : Nat) : Int)), .v (.int (a i)), s], _, rfl, .inl ?_, rfl, _, _, _, rfl⟩
      simp only [lz, cz, ex, hall, r1, r2, r3, r4, r5, hsm, hrs, r6, z_af, z_at, Bool.and_false, Bool.and_true]
      exact el)
  rw [Nat.zero_add, List.length_range] at e2
  subst e2
  have r0 : repOk 1 (n : Int) = true := by
    unfold repOk
    simp only [Bool.and_eq_true, decide_eq_true_eq, sz_eq]
    omega
  have r1 : rgOk 1 = true := rgOk_of (by omega)
  have e0 : (List.replicate ((n : Int)).toNat [D.int 0]).flatten = iD ((List.range n).map fun t => sdv a 0 t) := by
    rw [iD_rep, Int.toNat_natCast]
    congr 1
    apply List.ext_getElem?
    intro t
    by_cases ht : t < n
    · simp [ht, sdv]
    · simp [ht]
  have h4 : 0 + 1 = 1 := rfl
  simp only [lz, cz, d_sums_by_divisors, h4, hall, r0, e0, r1, ea]
  rw [e1]
  simp only [lz, cz]
def exc (f : Nat → Int) : Nat → List Int
  | 0 => [1]
  | i + 1 => exc f i ++ [((List.range (i + 1)).map fun k => f k * (exc f i).getD (i - k) 0).sum / ((i + 1 : Nat) : Int)]
theorem exc_len (f : Nat → Int) : ∀ n, (exc f n).length = n + 1
  | 0 => rfl
  | n + 1 => by unfold exc; rw [List.length_append, exc_len f n]; rfl
theorem exc_congr {f g : Nat → Int} : ∀ {n : Nat}, (∀ t, t < n → f t = g t) → exc f n = exc g n
  | 0, _ => rfl
  | n + 1, h => by
    unfold exc
    rw [exc_congr fun t ht => h t (by omega)]
    congr 4
    apply List.map_congr_left
    intro k hk
    rw [List.mem_range] at hk
    rw [h k hk]
theorem exc_get (f : Nat → Int) {n : Nat} : ∀ {m : Nat}, n ≤ m → (exc f m).getD n 0 = (exc f n).getD n 0
  | 0, h => by rw [Nat.le_zero.mp h]
  | m + 1, h => by
    by_cases e : n = m + 1
    · rw [e]
    · rw [← exc_get f (n := n) (m := m) (by omega)]
      rw [exc]
      unfold List.getD
      rw [List.getElem?_append_left (by rw [exc_len]; omega)]
theorem f_counts_by_excesses {k : Nat} (hk : 2 ≤ k) (a : Nat → Int) (n : Nat) (hn : n ≤ 400) (hB : ∀ t, t < n → -1000000000 ≤ sdv a n t ∧ sdv a n t ≤ 1000000000) (G : Sto) : runT T k 11 [.lst (iD ((List.range n).map a))] G = some (.tmp (.lst (iD (exc (fun t => sdv a n t) n))), G) := callT (by omega) rfl fun j e => by
  have c1 := @f_sums_by_divisors j (by omega) a n (by omega) G
  have hall : ((List.range n).map a).length = n := by simp
  generalize hA : (List.range n).map a = as at *
  have hB : ∀ t, t < n → -1000000000 ≤ (fun t => sdv a n t) t ∧ (fun t => sdv a n t) t ≤ 1000000000 := hB
  generalize hf : (fun t => sdv a n t) = f at *
  obtain ⟨s, e1⟩ := forL_st (cf := runT T j) (i := 3) (f := fun x : Nat => D.int (1 + (x : Nat)))
    (body := sApp (cVar 2) (cBin fdivR (cUnG sumR (cLc [4, 5] (cRng2 (cCons (cC (.int 1)) (cCons (cBin addR (cVar 3) (cC (.int 1))) (cNil)))) (.nm 5) (cYes) (cBin mulR (cBinG ixG (cVar 1) (cBin subR (cVar 5) (cC (.int 1)))) (cBinG ixG (cVar 2) (cBin subR (cVar 3) (cVar 5)))))) (cVar 3)))
    (env := fun i s => [.v (.lst (iD as)), .v (.lst (iD ((List.range n).map f))), .own (.lst (iD (exc f i))), s, .no, .no]) (st := fun _ => G) (List.range n) .no (fun i i' s hi => by
      obtain ⟨hi1, hi2⟩ := List.getElem?_eq_some_iff.mp hi
      rw [List.getElem_range] at hi2
      subst hi2
      rw [List.length_range] at hi1
      have ex : (1 : Int) + (i : Nat) = ((i + 1 : Nat) : Int) := by omega
      have hle := exc_len f i
      have el : lcL (.nm 5) cYes (cBin mulR (cBinG ixG (cVar 1) (cBin subR (cVar 5) (cC (.int 1)))) (cBinG ixG (cVar 2) (cBin subR (cVar 3) (cVar 5)))) (runT T j) [.v (.lst (iD as)), .v (.lst (iD ((List.range n).map f))), .own (.lst (iD (exc f i))), .v (.int ((i + 1 : Nat) : Int)), .no, .no] (rangeI 1 (i + 1)) G = some (iD ((List.range (i + 1)).map fun k => f k * (exc f i).getD (i - k) 0), G) := by
        rw [rangeI_map]
        refine lcL_mapI _ fun k hk => ⟨_, rfl, ?_⟩
        rw [List.mem_range] at hk
        have e5 : (1 : Int) + (k : Nat) - 1 = k := by omega
        have e6 : ((i + 1 : Nat) : Int) - (1 + (k : Nat)) = ((i - k : Nat) : Int) := by omega
        have i1 := fun G => ixG_lst (r := .d (.lst (iD ((List.range n).map f)))) (G := G) (i := (k : Int)) k (.inl rfl) rfl (by simp; omega)
        rw [getD_map _ (by omega)] at i1
        have i2 := fun G => ixG_lst (r := .bor 2 (.lst (iD (exc f i)))) (G := G) (i := ((i - k : Nat) : Int)) (i - k) (.inr (.inl ⟨_, rfl⟩)) rfl (by omega)
        have o1 : mulOkI (f k) ((exc f i).getD (i - k) 0) = true := mulOk_of (hB k (by omega))
        simp only [lz, cz, e5, e6, i1, i2, o1]
      have h1 : rgOk 1 = true := rgOk_of (by omega)
      have h2 : rgOk (((i + 1 : Nat) : Int) + 1) = true := rgOk_of (by omega)
      have h3 : (((i + 1 : Nat) : Int) + 1 - 1).toNat = i + 1 := by omega
      have h4 : (rangeI 1 (i + 1)).length ≤ 1000000 := by rw [rangeI_len]; omega
      have h5 : divOk ((i + 1 : Nat) : Int) = true := divOk_of (by omega)
      have h6 : (exc f i).length < sz := by rw [hle, sz_eq]; omega
      have h7 : iD (exc f i) ++ [D.int (((List.range (i + 1)).map fun k => f k * (exc f i).getD (i - k) 0).sum / ((i + 1 : Nat) : Int))] = iD (exc f (i + 1)) := by
        rw [exc]; simp [iD]
      simp only [lz, cz, ex, h1, h2, h3, h4, el, h5, h6, h7])
  rw [← rangeI_map, List.length_range] at e1
  have h1 : rgOk 1 = true := rgOk_of (by omega)
  have h2 : rgOk ((n : Int) + 1) = true := rgOk_of (by omega)
  have h3 : ((n : Int) + 1 - 1).toNat = n := by omega
  have h4 : iD (exc f 0) = [.int 1] := rfl
  rw [h4] at e1
  simp only [lz, cz, d_counts_by_excesses, c1, hall, h1, h2, h3]
  rw [e1]
  simp only [lz, cz]
end K97

namespace K97
open PySem PySem.Spec PyProof.Rows L2 Lp
/-! cap rules -/
def capD : Option Nat → D
  | none => .non
  | some c => .int c
def capDs (l : List (Option Nat)) : List D := l.map capD
def rl (h t : List (Option Nat)) (lp : D) : D := .ins 0 ["front", "again", "least_pair"] [.tup (capDs h), .tup (capDs t), lp]
def capOf (h t : List (Option Nat)) (s : Nat) : Option Nat := if s ≤ h.length then h.getD (s - 1) none else t.getD ((s - 1 - h.length) % t.length) none
theorem capDs_len (l : List (Option Nat)) : (capDs l).length = l.length := List.length_map _
theorem atI_caps (l : List (Option Nat)) (k : Nat) {i : Int} (hi : i = k) (h : k < l.length) : atI (capDs l) i = some (capD (l.getD k none)) := by
  rw [atI_nat hi (by rw [capDs_len]; exact h)]
  unfold capDs
  rw [List.getElem?_map, List.getElem?_eq_getElem h]
  simp [List.getD, List.getElem?_eq_getElem h]
theorem f_head {k : Nat} (hk : 1 ≤ k) (h t : List (Option Nat)) (lp : D) (G : Sto) : runT T k 170 [rl h t lp] G = some (.d (.tup (capDs h)), G) := callT (by omega) rfl fun j e => rfl
theorem f_tail {k : Nat} (hk : 1 ≤ k) (h t : List (Option Nat)) (lp : D) (G : Sto) : runT T k 171 [rl h t lp] G = some (.d (.tup (capDs t)), G) := callT (by omega) rfl fun j e => rfl
theorem f_cap_at {k : Nat} (hk : 2 ≤ k) (h t : List (Option Nat)) (lp : D) (s : Nat) (hs : 1 ≤ s ∧ s ≤ 10000) (hh : h.length ≤ 1000) (ht : 1 ≤ t.length ∧ t.length ≤ 1000) (G : Sto) : runT T k 46 [rl h t lp, .int s] G = some (.d (capD (capOf h t s)), G) := callT (by omega) rfl fun j e => by
  have c1 := fun G => @f_head j (by omega) h t lp G
  have c2 := fun G => @f_tail j (by omega) h t lp G
  have i0 : ∀ G, insG (.d (rl h t lp)) G = some (0, (["front", "again", "least_pair"] : List Str), ([.tup (capDs h), .tup (capDs t), lp] : List D)) := fun _ => rfl
  have t0 : (0 = 0) = True := eq_true rfl
  by_cases hc : s ≤ h.length
  · have q1 : ((s : Int) ≤ ((h.length : Nat) : Int)) = True := eq_true (by omega)
    have i1 : ∀ G, ixG (.d (.tup (capDs h))) (.d (.int ((s : Int) - 1))) G = some (.d (capD (h.getD (s - 1) none))) := fun G => by
      show (atI (capDs h) ((s : Int) - 1)).map R.d = _
      rw [atI_caps h (s - 1) (by omega) (by omega)]; rfl
    have e1 : capOf h t s = h.getD (s - 1) none := by unfold capOf; rw [if_pos hc]
    simp only [lz, ly, cz, d_cap_at, i0, t0, c1, capDs_len, q1, i1, e1]
  · have q1 : ((s : Int) ≤ ((h.length : Nat) : Int)) = False := eq_false (by omega)
    have em : ((s : Int) - 1 - ((h.length : Nat) : Int)) % ((t.length : Nat) : Int) = (((s - 1 - h.length) % t.length : Nat) : Int) := by
      rw [show (s : Int) - 1 - ((h.length : Nat) : Int) = ((s - 1 - h.length : Nat) : Int) by omega]; rfl
    have i1 : ∀ G, ixG (.d (.tup (capDs t))) (.d (.int (((s - 1 - h.length) % t.length : Nat) : Int))) G = some (.d (capD (t.getD ((s - 1 - h.length) % t.length) none))) := fun G => by
      show (atI (capDs t) _).map R.d = _
      rw [atI_caps t ((s - 1 - h.length) % t.length) rfl (Nat.mod_lt _ (by omega))]; rfl
    have e1 : capOf h t s = t.getD ((s - 1 - h.length) % t.length) none := by unfold capOf; rw [if_neg hc]
    have q2 : ((0 : Int) < ((t.length : Nat) : Int)) = True := eq_true (by omega)
    have is : ∀ (i : Int) G, intSR (.d (.int i)) G = some (.d (.int i)) := fun _ _ => rfl
    simp only [lz, ly, cz, d_cap_at, i0, t0, c1, c2, capDs_len, q1, em, i1, e1, q2, is]
/-- how many of the first j sizes have a ban of sum t -/
def bcF (c : Nat → Option Nat) : Nat → Nat → Int
  | 0, _ => 0
  | j + 1, t => bcF c j t + (match c (j + 1) with | some b => if (j + 1) * (b + 1) = t then 1 else 0 | none => 0)
theorem bcF_bd (c : Nat → Option Nat) (t : Nat) : ∀ j : Nat, 0 ≤ bcF c j t ∧ bcF c j t ≤ j
  | 0 => by simp [bcF]
  | j + 1 => by
    have := bcF_bd c t j
    rw [bcF]
    split
    · split <;> omega
    · omega
theorem bcF_more (c : Nat → Option Nat) (t : Nat) : ∀ j, bcF c (t + j) t = bcF c t t
  | 0 => rfl
  | j + 1 => by
    rw [← Nat.add_assoc, bcF, bcF_more c t j]
    split
    · rename_i b _
      rw [if_neg]
      · omega
      · intro h
        have : (t + j + 1) * 1 ≤ (t + j + 1) * (b + 1) := Nat.mul_le_mul_left _ (by omega)
        omega
    · omega
theorem f_ban_counts {k : Nat} (hk : 3 ≤ k) (h t : List (Option Nat)) (lp : D) (hh : h.length ≤ 1000) (ht : 1 ≤ t.length ∧ t.length ≤ 1000) (hc : ∀ s b, capOf h t s = some b → b ≤ 100) (n : Nat) (hn : n ≤ 400) (G : Sto) :
    runT T k 56 [rl h t lp, .int n] G = some (.tmp (.lst (iD ((List.range (n + 1)).map (bcF (capOf h t) n)))), G) := callT (by omega) rfl fun j e => by
  have c1 := fun s hs G => @f_cap_at j (by omega) h t lp s hs hh ht G
  generalize hR : rl h t lp = R0 at *
  obtain ⟨s, e1⟩ : ∃ s : Sl × Sl, forL (.nm 3) (sSeq (sAsg .val 4 (cCall 46 (cCons (cVar 0) (cCons (cVar 3) (cNil))) [])) (sIf (cAnd (cTv (cBin (vb (nb isR)) (cVar 4) (cC .non))) (cTv (cBin (vb leI) (cBin mulR (cVar 3) (cBin addR (cVar 4) (cC (.int 1)))) (cVar 1)))) (sAsgG (gSb (cVar 2) (cBin mulR (cVar 3) (cBin addR (cVar 4) (cC (.int 1))))) (cBin addR (cBinG ixG (cVar 2) (cBin mulR (cVar 3) (cBin addR (cVar 4) (cC (.int 1))))) (cC (.int 1)))) (sNext)))
      (runT T j) ((List.range n).map fun x : Nat => D.int (1 + (x : Nat))) [.v R0, .v (.int n), .own (.lst (iD ((List.range (n + 1)).map (bcF (capOf h t) 0)))), .no, .no] G = some (.nx [.v R0, .v (.int n), .own (.lst (iD ((List.range (n + 1)).map (bcF (capOf h t) n)))), s.1, s.2] G) := by
    obtain ⟨ρ', G', e1, rfl, x, y, e2⟩ := forL_inv (cf := runT T j) (tg := .nm 3) (f := fun x : Nat => D.int (1 + (x : Nat)))
      (body := sSeq (sAsg .val 4 (cCall 46 (cCons (cVar 0) (cCons (cVar 3) (cNil))) [])) (sIf (cAnd (cTv (cBin (vb (nb isR)) (cVar 4) (cC .non))) (cTv (cBin (vb leI) (cBin mulR (cVar 3) (cBin addR (cVar 4) (cC (.int 1)))) (cVar 1)))) (sAsgG (gSb (cVar 2) (cBin mulR (cVar 3) (cBin addR (cVar 4) (cC (.int 1))))) (cBin addR (cBinG ixG (cVar 2) (cBin mulR (cVar 3) (cBin addR (cVar 4) (cC (.int 1))))) (cC (.int 1)))) (sNext)))
      (I := fun i ρ G' => G' = G ∧ ∃ x y, ρ = [.v R0, .v (.int n), .own (.lst (iD ((List.range (n + 1)).map (bcF (capOf h t) i)))), x, y])
      (List.range n) 0 [.v R0, .v (.int n), .own (.lst (iD ((List.range (n + 1)).map (bcF (capOf h t) 0)))), .no, .no] G ⟨rfl, _, _, rfl⟩ (fun i x ρ G' hi hI => by
        obtain ⟨rfl, x1, y1, rfl⟩ := hI
        rw [Nat.zero_add] at *
        obtain ⟨hi1, hi2⟩ := List.getElem?_eq_some_iff.mp hi
        rw [List.getElem_range] at hi2
        subst hi2
        rw [List.length_range] at hi1
        have ex : (1 : Int) + (i : Nat) = ((i + 1 : Nat) : Int) := by omega
        have c2 := c1 (i + 1) (by omega) G'
        cases hcap : capOf h t (i + 1) with
        | none =>
          rw [hcap] at c2
          have e3 : (List.range (n + 1)).map (bcF (capOf h t) (i + 1)) = (List.range (n + 1)).map (bcF (capOf h t) i) := by
            apply List.map_congr_left
            intro u _
            rw [bcF, hcap]; simp
          refine ⟨_, [.v R0, .v (.int n), .own (.lst (iD ((List.range (n + 1)).map (bcF (capOf h t) (i + 1))))), .v (.int ((i + 1 : Nat) : Int)), .v .non], _, rfl, .inl ?_, rfl, _, _, rfl⟩
          rw [e3]
          simp only [lz, ly, cz, ex, c2, capD]
        | some b =>
          rw [hcap] at c2
          have hb := hc _ _ hcap
          have o1 : mulOkI ((i + 1 : Nat) : Int) ((b : Int) + 1) = true := mulOk_of (by omega)
          have em : ((i + 1 : Nat) : Int) * ((b : Int) + 1) = (((i + 1) * (b + 1) : Nat) : Int) := by push_cast; rfl
          by_cases hle : (i + 1) * (b + 1) ≤ n
          · have q1 : ((((i + 1) * (b + 1) : Nat) : Int) ≤ (n : Int)) = True := eq_true (by omega)
            have i1 := fun G => ixG_lst (r := .bor 2 (.lst (iD ((List.range (n + 1)).map (bcF (capOf h t) i))))) (G := G) (i := (((i + 1) * (b + 1) : Nat) : Int)) ((i + 1) * (b + 1)) (.inr (.inl ⟨_, rfl⟩)) rfl (by simp; omega)
            have ix : ixN (n + 1) (((i + 1) * (b + 1) : Nat) : Int) = some ((i + 1) * (b + 1)) := ixN_nat (by omega)
            have iset : ∀ (l : List Int) (k : Nat) (v : Int), (iD l).set k (.int v) = iD (l.set k v) := fun l k v => by unfold iD; rw [List.map_set]
            rw [getD_map _ (by omega)] at i1
            refine ⟨_, [.v R0, .v (.int n), .own (.lst (iD ((List.range (n + 1)).map (bcF (capOf h t) (i + 1))))), .v (.int ((i + 1 : Nat) : Int)), .v (.int b)], _, rfl, .inl ?_, rfl, _, _, rfl⟩
            simp only [lz, ly, cz, ex, c2, capD, o1, em, q1, i1, List.length_map, List.length_range, ix, iset, set_map, Bool.not_false]
            congr 8
            apply List.map_congr_left
            intro u _
            rw [bcF, hcap]
            dsimp only
            by_cases hu : u = (i + 1) * (b + 1)
            · rw [if_pos hu, if_pos hu.symm, hu]
            · rw [if_neg hu, if_neg (Ne.symm hu), Int.add_zero]
          · have q1 : ((((i + 1) * (b + 1) : Nat) : Int) ≤ (n : Int)) = False := eq_false (by omega)
            have e3 : (List.range (n + 1)).map (bcF (capOf h t) (i + 1)) = (List.range (n + 1)).map (bcF (capOf h t) i) := by
              apply List.map_congr_left
              intro u hu
              rw [List.mem_range] at hu
              rw [bcF, hcap]
              dsimp only
              rw [if_neg (by omega), Int.add_zero]
            refine ⟨_, [.v R0, .v (.int n), .own (.lst (iD ((List.range (n + 1)).map (bcF (capOf h t) (i + 1))))), .v (.int ((i + 1 : Nat) : Int)), .v (.int b)], _, rfl, .inl ?_, rfl, _, _, rfl⟩
            rw [e3]
            simp only [lz, ly, cz, ex, c2, capD, o1, em, q1, Bool.not_false])
    rw [Nat.zero_add, List.length_range] at e2
    exact ⟨(x, y), by rw [e1, e2]⟩
  have r0 : repOk 1 ((n : Int) + 1) = true := by
    unfold repOk
    simp only [Bool.and_eq_true, decide_eq_true_eq, sz_eq]
    omega
  have r1 : rgOk 1 = true := rgOk_of (by omega)
  have r2 : rgOk ((n : Int) + 1) = true := rgOk_of (by omega)
  have r3 : ((n : Int) + 1 - 1).toNat = n := by omega
  have e0 : (List.replicate ((n : Int) + 1).toNat [D.int 0]).flatten = iD ((List.range (n + 1)).map (bcF (capOf h t) 0)) := by
    rw [iD_rep, show ((n : Int) + 1).toNat = n + 1 by omega]
    congr 1
    apply List.ext_getElem?
    intro t
    by_cases ht : t < n + 1
    · simp [ht, bcF]
    · simp [ht]
  have h4 : 0 + 1 = 1 := rfl
  simp only [lz, ly, cz, d_ban_counts, h4, r0, e0, r1, r2, r3]
  rw [rangeI_map, e1]
  simp only [lz, ly, cz]
/-- the excesses -/
def exO (c : Nat → Option Nat) (t : Nat) : Int := 1 - bcF c (t + 1) (t + 1)
theorem f_excess_list {k : Nat} (hk : 4 ≤ k) (h t : List (Option Nat)) (lp : D) (hh : h.length ≤ 1000) (ht : 1 ≤ t.length ∧ t.length ≤ 1000) (hc : ∀ s b, capOf h t s = some b → b ≤ 100) (n : Nat) (hn : n ≤ 400) (G : Sto) :
    runT T k 57 [rl h t lp, .int n] G = some (.tmp (.lst (iD ((List.range n).map (exO (capOf h t))))), G) := callT (by omega) rfl fun j e => by
  have c1 := @f_ban_counts j (by omega) h t lp hh ht hc n hn G
  have e0 : Lp.cutD (iD ((List.range (n + 1)).map (bcF (capOf h t) n))) (some 1) none = iD ((List.range n).map fun u => bcF (capOf h t) n (u + 1)) := by
    have l1 : (iD ((List.range (n + 1)).map (bcF (capOf h t) n))).length = n + 1 := by simp
    unfold Lp.cutD
    rw [l1]
    have s1 : HT.sIx (n + 1) 0 (some 1) = 1 := by unfold HT.sIx; simp; try omega
    have s2 : HT.sIx (n + 1) (n + 1) none = n + 1 := by unfold HT.sIx; try simp
    rw [s1, s2]
    unfold iD
    rw [← List.map_drop, ← List.map_take, List.range_succ_eq_map, List.map_cons, List.drop_succ_cons, List.drop_zero, List.map_map, List.take_of_length_le (by simp)]
    rfl
  have e1 : lcL (.nm 3) cYes (cBin subR (cC (.int 1)) (cVar 3)) (runT T j) [.v (rl h t lp), .v (.int n), .no, .no] (iD ((List.range n).map fun u => bcF (capOf h t) n (u + 1))) G = some (iD ((List.range n).map (exO (capOf h t))), G) := by
    have := lcL_mapI (cf := runT T j) (tg := .nm 3) (e := cBin subR (cC (.int 1)) (cVar 3)) (ρ := [.v (rl h t lp), .v (.int n), .no, .no]) (G := G) (f := D.int) (g := fun b => 1 - b) ((List.range n).map fun u => bcF (capOf h t) n (u + 1)) (fun x _ => ⟨_, rfl, by simp only [lz, cz]⟩)
    rw [iD, this, List.map_map]
    congr 2
    apply congrArg
    apply List.map_congr_left
    intro u hu
    rw [List.mem_range] at hu
    show 1 - bcF (capOf h t) n (u + 1) = 1 - bcF (capOf h t) (u + 1) (u + 1)
    rw [← bcF_more (capOf h t) (u + 1) (n - (u + 1)), show u + 1 + (n - (u + 1)) = n by omega]
  have h1 : n ≤ 1000000 := by omega
  simp only [lz, ly, cz, d_excess_list, c1, e0, List.length_map, List.length_range, h1, e1]
theorem sdv_bd {a : Nat → Int} (ha : ∀ t, t ≤ 400 → -401 ≤ a t ∧ a t ≤ 401) (t : Nat) : ∀ j : Nat, j ≤ 400 → -(160801 * (j : Int)) ≤ sdv a j t ∧ sdv a j t ≤ 160801 * (j : Int)
  | 0, _ => by simp [sdv]
  | j + 1, hj => by
    have ih := sdv_bd ha t j (by omega)
    rw [sdv]
    have h := ha j (by omega)
    split
    · have h1 : ((j + 1 : Nat) : Int) * a j ≤ ((j + 1 : Nat) : Int) * 401 := Int.mul_le_mul_of_nonneg_left h.2 (by omega)
      have h2 : ((j + 1 : Nat) : Int) * -401 ≤ ((j + 1 : Nat) : Int) * a j := Int.mul_le_mul_of_nonneg_left h.1 (by omega)
      push_cast at h1 h2 ⊢
      omega
    · push_cast
      omega
theorem exO_bd (c : Nat → Option Nat) (t : Nat) (h : t ≤ 400) : -401 ≤ exO c t ∧ exO c t ≤ 401 := by
  have := bcF_bd c (t + 1) (t + 1)
  unfold exO
  omega
/-- how many rows a cap rule lets -/
def cnt (c : Nat → Option Nat) (n : Nat) : List Int := exc (fun t => sdv (exO c) (t + 1) t) n
theorem f_counts_of {k : Nat} (hk : 5 ≤ k) (h t : List (Option Nat)) (lp : D) (hh : h.length ≤ 1000) (ht : 1 ≤ t.length ∧ t.length ≤ 1000) (hc : ∀ s b, capOf h t s = some b → b ≤ 100) (n : Nat) (hn : n ≤ 400) (G : Sto) :
    runT T k 58 [rl h t lp, .int n] G = some (.tmp (.lst (iD (cnt (capOf h t) n))), G) := callT (by omega) rfl fun j e => by
  have c1 := @f_excess_list j (by omega) h t lp hh ht hc n hn G
  have c2 := @f_counts_by_excesses j (by omega) (exO (capOf h t)) n hn (fun u hu => by
    have := sdv_bd (exO_bd (capOf h t)) u n hn
    omega) G
  have e1 : exc (fun u => sdv (exO (capOf h t)) n u) n = cnt (capOf h t) n := exc_congr fun u hu => by
    show sdv (exO (capOf h t)) n u = sdv (exO (capOf h t)) (u + 1) u
    rw [← sdv_more (exO (capOf h t)) u (n - (u + 1)), show u + 1 + (n - (u + 1)) = n by omega]
  rw [e1] at c2
  have i1 : isiX csAll inst (.d (rl h t lp)) (.d (.cls 0)) G = some (.d (.bl true)) := rfl
  simp only [lz, ly, cz, d_counts_of, c1, c2, i1]
theorem f_check_rule_c {k : Nat} (hk : 1 ≤ k) (h t : List (Option Nat)) (lp : D) (G : Sto) : runT T k 50 [rl h t lp] G = some (.d .non, G) := callT (by omega) rfl fun j e => rfl
theorem f_counts {k : Nat} (hk : 6 ≤ k) (h t : List (Option Nat)) (lp : D) (hh : h.length ≤ 1000) (ht : 1 ≤ t.length ∧ t.length ≤ 1000) (hc : ∀ s b, capOf h t s = some b → b ≤ 100) (n : Nat) (hn : n ≤ 400) (G : Sto) :
    runT T k 59 [rl h t lp, .int n] G = some (.d (.tup (iD (cnt (capOf h t) n))), G) := callT (by omega) rfl fun j e => by
  have c1 := @f_counts_of j (by omega) h t lp hh ht hc n hn G
  have c2 := @f_check_rule_c j (by omega) h t lp G
  have c3 := @f_check_number j (by omega) n G (by omega)
  simp only [lz, ly, cz, d_counts, c1, c2, c3]
end K97

namespace K97
open PySem PySem.Spec PyProof.Rows L2 Lp
/-! a size more; rows apart -/
theorem i_set (l : List Int) (k : Nat) (v : Int) : (iD l).set k (.int v) = iD (l.set k v) := by unfold iD; rw [List.map_set]
/-- counts with the size s more -/
def wz (f : Nat → Int) (s t : Nat) : Int := ((List.range (t / s + 1)).map fun j => f (t - j * s)).sum
theorem wz_lt (f : Nat → Int) {s t : Nat} (h : t < s) : wz f s t = f t := by
  unfold wz
  rw [Nat.div_eq_of_lt h]
  simp
theorem wz_ge (f : Nat → Int) {s t : Nat} (hs : 1 ≤ s) (h : s ≤ t) : wz f s t = f t + wz f s (t - s) := by
  unfold wz
  have e : t / s = (t - s) / s + 1 := by
    have := Nat.add_div_right (t - s) (show 0 < s by omega)
    rw [show t - s + s = t by omega] at this
    exact this
  rw [e, List.range_succ_eq_map, List.map_cons, List.map_map, List.sum_cons]
  congr 1
  · simp
  · congr 1
    apply List.map_congr_left
    intro j _
    show f (t - (j + 1) * s) = f (t - s - j * s)
    congr 1
    rw [Nat.add_mul]; omega
theorem f_with_size {k : Nat} (hk : 1 ≤ k) (f : Nat → Int) (n s : Nat) (hn : n ≤ 10000) (hs : 1 ≤ s ∧ s ≤ 10000) (G : Sto) : runT T k 51 [.lst (iD ((List.range n).map f)), .int s] G = some (.tmp (.lst (iD ((List.range n).map (wz f s)))), G) := callT (by omega) rfl fun j e => by
  have el : ((List.range n).map f).length = n := by simp
  generalize hA : (List.range n).map f = as at *
  obtain ⟨y, e1⟩ := forL_st (cf := runT T j) (i := 3) (f := fun x : Nat => D.int ((s : Int) + (x : Nat)))
    (body := sAsgG (gSb (cVar 2) (cVar 3)) (cBin addR (cBinG ixG (cVar 2) (cVar 3)) (cBinG ixG (cVar 2) (cBin subR (cVar 3) (cVar 1)))))
    (env := fun i y => [.v (.lst (iD as)), .v (.int s), .own (.lst (iD ((List.range n).map fun t => if t < s + i then wz f s t else f t))), y]) (st := fun _ => G) (List.range (n - s)) .no (fun i i' y hi => by
      obtain ⟨hi1, hi2⟩ := List.getElem?_eq_some_iff.mp hi
      rw [List.getElem_range] at hi2
      subst hi2
      rw [List.length_range] at hi1
      have ex : (s : Int) + (i : Nat) = ((s + i : Nat) : Int) := by omega
      have ey : ((s + i : Nat) : Int) - (s : Int) = ((i : Nat) : Int) := by omega
      generalize hL : (List.range n).map (fun t => if t < s + i then wz f s t else f t) = L
      have hl : L.length = n := by rw [← hL]; simp
      have g1 : L.getD (s + i) 0 = f (s + i) := by rw [← hL, getD_map _ (by omega), if_neg (by omega)]
      have g2 : L.getD i 0 = wz f s i := by rw [← hL, getD_map _ (by omega), if_pos (by omega)]
      have i1 := fun G => ixG_lst (r := .bor 2 (.lst (iD L))) (G := G) (i := ((s + i : Nat) : Int)) (s + i) (.inr (.inl ⟨_, rfl⟩)) rfl (by omega)
      have i2 := fun G => ixG_lst (r := .bor 2 (.lst (iD L))) (G := G) (i := ((i : Nat) : Int)) i (.inr (.inl ⟨_, rfl⟩)) rfl (by omega)
      rw [g1] at i1
      rw [g2] at i2
      have ix : ixN n ((s + i : Nat) : Int) = some (s + i) := ixN_nat (by omega)
      have e3 : L.set (s + i) (f (s + i) + wz f s i) = (List.range n).map fun t => if t < s + (i + 1) then wz f s t else f t := by
        rw [← hL, set_map]
        apply List.map_congr_left
        intro t _
        by_cases ht : t = s + i
        · rw [if_pos ht, if_pos (by omega), ht, wz_ge f hs.1 (show s ≤ s + i by omega), show s + i - s = i by omega]
        · rw [if_neg ht]
          by_cases h2 : t < s + i
          · rw [if_pos h2, if_pos (by omega)]
          · rw [if_neg h2, if_neg (by omega)]
      simp only [lz, ly, cz, ex, ey, i1, i2, hl, ix, i_set, e3])
  have r1 : rgOk (s : Int) = true := rgOk_of (by omega)
  have r2 : rgOk (n : Int) = true := rgOk_of (by omega)
  have r3 : ((n : Int) - (s : Int)).toNat = n - s := by omega
  have s0 : ((List.range n).map fun t => if t < s + 0 then wz f s t else f t) = as := by
    rw [← hA]
    apply List.map_congr_left
    intro t _
    by_cases h : t < s + 0
    · rw [if_pos h, wz_lt f (by omega)]
    · rw [if_neg h]
  have s1 : ((List.range n).map fun t => if t < s + (List.range (n - s)).length then wz f s t else f t) = (List.range n).map (wz f s) := by
    apply List.map_congr_left
    intro t ht
    rw [List.mem_range] at ht
    rw [List.length_range, if_pos (by omega)]
  rw [← rangeI_map, s0, s1] at e1
  simp only [lz, ly, cz, d_with_size, el, r1, r2, r3, e1]
/-- rows of parts up to m -/
def wy : Nat → Nat → Int
  | 0, t => if t = 0 then 1 else 0
  | m + 1, t => wz (wy m) (m + 1) t
def stA (g l : Nat) : Nat → Nat
  | 0 => 0
  | k + 1 => stA g l k + l + g * k
theorem stA_ge (g l : Nat) (hl : 1 ≤ l) : ∀ k, k ≤ stA g l k
  | 0 => Nat.le_refl _
  | k + 1 => by have := stA_ge g l hl k; rw [stA]; omega
theorem stA_mono (g l : Nat) : ∀ {a b : Nat}, a ≤ b → stA g l a ≤ stA g l b
  | a, 0, h => by rw [Nat.le_zero.mp h]; exact Nat.le_refl _
  | a, b + 1, h => by
    by_cases e : a = b + 1
    · rw [e]; exact Nat.le_refl _
    · have := stA_mono g l (a := a) (b := b) (by omega)
      rw [stA]
      omega
/-- the first K lengths -/
def apF (g l : Nat) : Nat → Nat → Int
  | 0, _ => 0
  | K + 1, t => apF g l K t + if stA g l K ≤ t then wy K (t - stA g l K) else 0
def apc (g l t : Nat) : Int := apF g l (t + 1) t
theorem apF_more (g l t : Nat) {K : Nat} (h : t < stA g l K) : ∀ j, apF g l (K + j) t = apF g l K t
  | 0 => rfl
  | j + 1 => by
    have := stA_mono g l (show K ≤ K + j by omega)
    rw [← Nat.add_assoc, apF, apF_more g l t h j, if_neg (by omega), Int.add_zero]
theorem apF_apc (g l : Nat) (hl : 1 ≤ l) (t K : Nat) (h : t < stA g l K) : apF g l K t = apc g l t := by
  unfold apc
  have h2 := stA_ge g l hl (t + 1)
  by_cases hk : K ≤ t + 1
  · rw [show t + 1 = K + (t + 1 - K) by omega, apF_more g l t h]
  · rw [show K = t + 1 + (K - (t + 1)) by omega, apF_more g l t (by omega)]
theorem first_at {p : Nat → Prop} [DecidablePred p] : ∀ n, p n → ∃ m, m ≤ n ∧ p m ∧ ∀ j, j < m → ¬ p j
  | 0, h => ⟨0, Nat.le_refl _, h, fun j hj => absurd hj (Nat.not_lt_zero j)⟩
  | n + 1, h => by
    by_cases hz : ∃ i, i ≤ n ∧ p i
    · obtain ⟨i, hi, hp⟩ := hz
      obtain ⟨m, h1, h2, h3⟩ := first_at i hp
      exact ⟨m, by omega, h2, h3⟩
    · exact ⟨n + 1, Nat.le_refl _, h, fun j hj hp => hz ⟨j, by omega, hp⟩⟩
theorem f_apart_counts {k : Nat} (hk : 5 ≤ k) (n g l : Nat) (hn : n ≤ 400) (hg : g ≤ 9) (hl : 1 ≤ l ∧ l ≤ 9) (G : Sto) : runT T k 52 [.int n, .int g, .int l] G = some (.d (.tup (iD ((List.range (n + 1)).map (apc g l)))), G) := callT (by omega) rfl fun j e => by
  have c1 := @f_check_number j (by omega) n G (by omega)
  have c2 := @f_check_within j (by omega) g 0 9 G (by omega)
  have c3 := @f_check_within j (by omega) l 1 9 G (by omega)
  obtain ⟨m, hm1, hm2, hm3⟩ := first_at (p := fun m => n < stA g l (m + 1)) n (by have := stA_ge g l hl.1 (n + 1); omega)
  have iset : ∀ (l : List Int) (k : Nat) (v : Int), (iD l).set k (.int v) = iD (l.set k v) := i_set
  obtain ⟨ρ', G', e1, rfl, x, y, z, e2⟩ := whileL_inv (cf := runT T j) (c := cTv (cBin (vb leI) (cVar 6) (cVar 0)))
    (b := sSeq (sAsg .val 3 (cCall 51 (cCons (cVar 3) (cCons (cVar 5) (cNil))) [])) (sSeq (sFor (cRng2 (cCons (cVar 6) (cCons (cBin addR (cVar 0) (cC (.int 1))) (cNil)))) (.nm 7) (sAsgG (gSb (cVar 4) (cVar 7)) (cBin addR (cBinG ixG (cVar 4) (cVar 7)) (cBinG ixG (cVar 3) (cBin subR (cVar 7) (cVar 6)))))) (sSeq (sAsg .val 6 (cBin addR (cBin addR (cVar 6) (cVar 2)) (cBin mulR (cVar 1) (cVar 5)))) (sAsg .val 5 (cBin addR (cVar 5) (cC (.int 1)))))))
    (I := fun i ρ G' => G' = G ∧ ∃ x y z : Sl, ρ = [.v (.int n), .v (.int g), .v (.int l), .v (.lst (iD ((List.range (n + 1)).map (wy i)))), .own (.lst (iD ((List.range (n + 1)).map (apF g l (i + 1))))), .v (.int ((i + 1 : Nat) : Int)), .v (.int (stA g l (i + 1))), x]) m
    (fun i ρ G' hi hI => by
      obtain ⟨rfl, x, y, z, rfl⟩ := hI
      have hle : stA g l (i + 1) ≤ n := by have := hm3 i hi; omega
      have q1 : ((stA g l (i + 1) : Int) ≤ (n : Int)) = True := eq_true (by omega)
      have cw := @f_with_size j (by omega) (wy i) (n + 1) (i + 1) (by omega) (by omega) G'
      have ew : wz (wy i) (i + 1) = wy (i + 1) := rfl
      rw [ew] at cw
      have apS : ∀ t, apF g l (i + 2) t = apF g l (i + 1) t + if stA g l (i + 1) ≤ t then wy (i + 1) (t - stA g l (i + 1)) else 0 := fun _ => rfl
      have stS : stA g l (i + 2) = stA g l (i + 1) + l + g * (i + 1) := rfl
      generalize hst : stA g l (i + 1) = st at *
      obtain ⟨y2, e1⟩ := forL_st (cf := runT T j) (i := 7) (f := fun x : Nat => D.int ((st : Int) + (x : Nat)))
        (body := sAsgG (gSb (cVar 4) (cVar 7)) (cBin addR (cBinG ixG (cVar 4) (cVar 7)) (cBinG ixG (cVar 3) (cBin subR (cVar 7) (cVar 6)))))
        (env := fun q y => [.v (.int n), .v (.int g), .v (.int l), .v (.lst (iD ((List.range (n + 1)).map (wy (i + 1))))), .own (.lst (iD ((List.range (n + 1)).map fun t => if t < st + q then apF g l (i + 2) t else apF g l (i + 1) t))), .v (.int ((i + 1 : Nat) : Int)), .v (.int st), y]) (st := fun _ => G') (List.range (n + 1 - st)) x (fun q q' y hq => by
          obtain ⟨hi1, hi2⟩ := List.getElem?_eq_some_iff.mp hq
          rw [List.getElem_range] at hi2
          subst hi2
          rw [List.length_range] at hi1
          have ex : (st : Int) + (q : Nat) = ((st + q : Nat) : Int) := by omega
          have ey : ((st + q : Nat) : Int) - (st : Int) = ((q : Nat) : Int) := by omega
          generalize hL : (List.range (n + 1)).map (fun t => if t < st + q then apF g l (i + 2) t else apF g l (i + 1) t) = L
          have hl : L.length = n + 1 := by rw [← hL]; simp
          have g1 : L.getD (st + q) 0 = apF g l (i + 1) (st + q) := by rw [← hL, getD_map _ (by omega), if_neg (by omega)]
          have i1 := fun G => ixG_lst (r := .bor 4 (.lst (iD L))) (G := G) (i := ((st + q : Nat) : Int)) (st + q) (.inr (.inl ⟨_, rfl⟩)) rfl (by omega)
          have i2 := fun G => ixG_lst (r := .d (.lst (iD ((List.range (n + 1)).map (wy (i + 1)))))) (G := G) (i := ((q : Nat) : Int)) q (.inl rfl) rfl (by simp; omega)
          rw [g1] at i1
          rw [getD_map _ (by omega)] at i2
          have ix : ixN (n + 1) ((st + q : Nat) : Int) = some (st + q) := ixN_nat (by omega)
          have e3 : L.set (st + q) (apF g l (i + 1) (st + q) + wy (i + 1) q) = (List.range (n + 1)).map fun t => if t < st + (q + 1) then apF g l (i + 2) t else apF g l (i + 1) t := by
            rw [← hL, set_map]
            apply List.map_congr_left
            intro t _
            by_cases ht : t = st + q
            · rw [if_pos ht, if_pos (by omega), ht, apS, if_pos (by omega), show st + q - st = q by omega]
            · rw [if_neg ht]
              by_cases h2 : t < st + q
              · rw [if_pos h2, if_pos (by omega)]
              · rw [if_neg h2, if_neg (by omega)]
          simp only [lz, ly, cz, ex, ey, i1, i2, hl, ix, iset, e3])
      have r1 : rgOk (st : Int) = true := rgOk_of (by omega)
      have r2 : rgOk ((n : Int) + 1) = true := rgOk_of (by omega)
      have r3 : ((n : Int) + 1 - (st : Int)).toNat = n + 1 - st := by omega
      have s0 : ((List.range (n + 1)).map fun t => if t < st + 0 then apF g l (i + 2) t else apF g l (i + 1) t) = (List.range (n + 1)).map (apF g l (i + 1)) := by
        apply List.map_congr_left
        intro t _
        by_cases h : t < st + 0
        · rw [if_pos h, apS, if_neg (by omega), Int.add_zero]
        · rw [if_neg h]
      have s1 : ((List.range (n + 1)).map fun t => if t < st + (List.range (n + 1 - st)).length then apF g l (i + 2) t else apF g l (i + 1) t) = (List.range (n + 1)).map (apF g l (i + 2)) := by
        apply List.map_congr_left
        intro t ht
        rw [List.mem_range] at ht
        rw [List.length_range, if_pos (by omega)]
      rw [← rangeI_map, s0, s1] at e1
      have o1 : mulOkI (g : Int) ((i + 1 : Nat) : Int) = true := mulOk_of (by omega)
      have es : (st : Int) + (l : Int) + (g : Int) * ((i + 1 : Nat) : Int) = ((stA g l (i + 2) : Nat) : Int) := by
        rw [stS]; push_cast; rfl
      have en : ((i + 1 : Nat) : Int) + 1 = ((i + 1 + 1 : Nat) : Int) := by push_cast; rfl
      refine ⟨G', _, G', ?_, .inl ?_, rfl, y2, x, y, rfl⟩
      · simp only [lz, ly, cz, q1]
      · simp only [lz, ly, cz, cw, r1, r2, r3, e1, o1, es, en])
    (fun ρ G' hI => by
      obtain ⟨rfl, x, y, z, rfl⟩ := hI
      have q1 : ((stA g l (m + 1) : Int) ≤ (n : Int)) = False := eq_false (by omega)
      simp only [lz, ly, cz, q1])
    0 1000000 [.v (.int n), .v (.int g), .v (.int l), .v (.lst (iD ((List.range (n + 1)).map (wy 0)))), .own (.lst (iD ((List.range (n + 1)).map (apF g l 1)))), .v (.int ((0 + 1 : Nat) : Int)), .v (.int (stA g l (0 + 1))), .no] G (by omega) (by omega) ⟨rfl, .no, .no, .no, rfl⟩
  subst e2
  have a0 : apF g l 1 = wy 0 := by
    funext t
    rw [apF, apF, stA, if_pos (by omega)]; simp
  have l0 : [D.int 1] ++ (List.replicate ((n : Int)).toNat [D.int 0]).flatten = iD ((List.range (n + 1)).map (wy 0)) := by
    rw [iD_rep, Int.toNat_natCast, List.range_succ_eq_map, List.map_cons, List.map_map]
    show D.int 1 :: iD _ = D.int 1 :: iD _
    congr 2
    apply List.ext_getElem?
    intro t
    by_cases ht : t < n
    · simp [ht, wy]
    · simp [ht]
  have r0 : repOk 1 (n : Int) = true := by
    unfold repOk
    simp only [Bool.and_eq_true, decide_eq_true_eq, sz_eq]
    omega
  have l1 : (0 + 1) + (List.replicate ((n : Int)).toNat [D.int 0]).flatten.length ≤ sz := by
    rw [iD_rep, iD_len, List.length_replicate, sz_eq]; omega
  have l2 : stA g l (0 + 1) = l := by rw [stA, stA]; omega
  have ef : (List.range (n + 1)).map (apF g l (m + 1)) = (List.range (n + 1)).map (apc g l) := by
    apply List.map_congr_left
    intro t ht
    rw [List.mem_range] at ht
    exact apF_apc g l hl.1 t (m + 1) (by omega)
  have h4 : 0 + 1 = 1 := rfl
  rw [a0, l2] at e1
  have e1' := e1
  have n1 : ((0 + 1 : Nat) : Int) = 1 := rfl
  rw [n1] at e1'
  have tu : ∀ (i : Nat) (l : List D) G, tupleR (.bor i (.lst l)) G = some (.d (.tup l)) := fun _ _ _ => rfl
  have la : ∀ (x : D) (l m : List D), [x] ++ l = x :: l := fun _ _ _ => rfl
  simp only [lz, ly, cz, d_apart_counts, c1, c2, c3, h4, r0] 
  rw [if_pos l1]
  simp only [List.singleton_append] at l0
  simp only [lz, ly, cz, l0, e1', ef, tu]
end K97

namespace K97
open PySem PySem.Spec PyProof.Rows L2 Lp
/-! rows apart, listed -/
theorem ixN_m1 {n : Nat} (h : 1 ≤ n) : ixN n (-1) = some (n - 1) := by
  unfold ixN
  rw [if_neg (by omega), if_pos (by omega)]
  congr 1
  omega
theorem cutD_m1 (l : List Int) : Lp.cutD (iD l) none (some (-1)) = iD l.dropLast := by
  unfold Lp.cutD
  rw [iD_len]
  have s1 : HT.sIx l.length 0 none = 0 := by unfold HT.sIx; try simp
  have s2 : HT.sIx l.length l.length (some (-1)) = l.length - 1 := by unfold HT.sIx; simp; omega
  rw [s1, s2, List.drop_zero]
  unfold iD
  rw [← List.map_take, List.dropLast_eq_take]
  rfl
def gapL (row : List Int) : List Int := row.zipIdx.map fun p : Int × Nat => p.1 - if p.2 + 1 < row.length then row.getD (p.2 + 1) 0 else 0
theorem f_gap_list {k : Nat} (hk : 1 ≤ k) (row : List Int) (hl : row.length ≤ 1000) (G : Sto) : runT T k 60 [.tup (iD row)] G = some (.d (.tup (iD (gapL row))), G) := callT (by omega) rfl fun j e => by
  have e1 : lcL (.tup [2, 3]) cYes (cBin subR (cVar 3) (cIf (cTv (cBin (vb ltI) (cBin addR (cVar 2) (cC (.int 1))) (cUnG lenR (cVar 0)))) (cBinG ixG (cVar 0) (cBin addR (cVar 2) (cC (.int 1)))) (cC (.int 0)))) (runT T j) [.v (.tup (iD row)), .no, .no, .no] (enumD 0 (iD row)) G = some (iD (gapL row), G) := by
    rw [enumD_iD]
    refine lcL_mapI _ fun p hp => ⟨_, rfl, ?_⟩
    have ep : (0 : Int) + (p.2 : Nat) + 1 = ((p.2 + 1 : Nat) : Int) := by omega
    by_cases h : p.2 + 1 < row.length
    · have q1 : (((p.2 + 1 : Nat) : Int) < ((row.length : Nat) : Int)) = True := eq_true (by omega)
      have i1 : ∀ G, ixG (.d (.tup (iD row))) (.d (.int ((p.2 + 1 : Nat) : Int))) G = some (.d (.int (row.getD (p.2 + 1) 0))) := fun G => by
        show (atI (iD row) _).map R.d = _
        rw [atI_iD row (p.2 + 1) rfl h]; rfl
      simp only [lz, ly, cz, ep, q1, i1, if_pos h]
    · have q1 : (((p.2 + 1 : Nat) : Int) < ((row.length : Nat) : Int)) = False := eq_false (by omega)
      simp only [lz, ly, cz, ep, q1, if_neg h]
  have h1 : row.length ≤ 1000000 := by omega
  simp only [lz, ly, cz, d_gap_list, h1, e1]
def dpB (g l : Int) (row : List Int) : Bool := decide (row = []) || (decide (l ≤ row.getD (row.length - 1) 0) && (gapL row).dropLast.all fun x => decide (g ≤ x))
theorem f_does_part {k : Nat} (hk : 2 ≤ k) (row : List Int) (hl : row.length ≤ 1000) (g l : Int) (G : Sto) : runT T k 62 [.tup (iD row), .int g, .int l] G = some (.d (.bl (dpB g l row)), G) := callT (by omega) rfl fun j e => by
  have c1 := fun G => @f_gap_list j (by omega) row hl G
  have en : eqR (.d (.tup (iD row))) (.d (.tup [])) = some (decide (row = [])) := eqR_ti row []
  by_cases h0 : row = []
  · subst h0
    have q : (([] : List Int) = []) = True := eq_true rfl
    simp only [lz, ly, cz, d_does_part, en, q, dpB, Bool.true_or]
  · have q : (row = []) = False := eq_false h0
    have hp : 1 ≤ row.length := by cases row with | nil => exact absurd rfl h0 | cons a b => simp
    have i1 : ∀ G, ixG (.d (.tup (iD row))) (.d (.int (-1))) G = some (.d (.int (row.getD (row.length - 1) 0))) := fun G => by
      show (atI (iD row) (-1)).map R.d = _
      unfold atI
      rw [iD_len, ixN_m1 hp, Option.bind_some]
      unfold iD
      rw [List.getElem?_map, List.getElem?_eq_getElem (by omega)]
      simp [List.getD, List.getElem?_eq_getElem (show row.length - 1 < row.length by omega)]
    have nr : ∀ i : Int, negR (.d (.int i)) = some (.d (.int (-i))) := fun _ => rfl
    have gl : (gapL row).length = row.length := by unfold gapL; simp
    have e1 : lcL (.nm 4) cYes (cBin (vb geI) (cVar 4) (cVar 1)) (runT T j) [.v (.tup (iD row)), .v (.int g), .v (.int l), .no, .no] (iD (gapL row).dropLast) G = some ((gapL row).dropLast.map fun x => .bl (decide (g ≤ x)), G) :=
      lcL_mapB _ fun x _ => ⟨_, rfl, by simp only [lz, cz]⟩
    have h1 : (gapL row).dropLast.length ≤ 1000000 := by rw [List.length_dropLast, gl]; omega
    have ea : ((gapL row).dropLast.map fun x => decide (g ≤ x)).all id = (gapL row).dropLast.all fun x => decide (g ≤ x) := by rw [List.all_map]; rfl
    by_cases h2 : l ≤ row.getD (row.length - 1) 0
    · have q2 : (l ≤ row.getD (row.length - 1) 0) = True := eq_true h2
      simp only [lz, ly, cz, d_does_part, en, q, nr, i1, q2, c1, cutD_m1, h1, e1, bsOf_map, ea, dpB, Bool.false_or, Bool.true_and]
    · have q2 : (l ≤ row.getD (row.length - 1) 0) = False := eq_false h2
      simp only [lz, ly, cz, d_does_part, en, q, nr, i1, q2, dpB, Bool.false_or, Bool.false_and]
theorem f_check_apart {k : Nat} (hk : 4 ≤ k) (g l : Int) (hg : 0 ≤ g ∧ g ≤ 9) (hl : 1 ≤ l ∧ l ≤ 9) (G : Sto) : runT T k 61 [.int g, .int l] G = some (.d .non, G) := callT (by omega) rfl fun j e => by
  have c1 := @f_check_within j (by omega) g 0 9 G hg
  have c2 := @f_check_within j (by omega) l 1 9 G hl
  simp only [lz, ly, cz, d_check_apart, c1, c2]
theorem f_apart_rows {k : Nat} (hk : 26 ≤ k) (n : Nat) (hn : n ≤ 24) (g l : Int) (hg : 0 ≤ g ∧ g ≤ 9) (hl : 1 ≤ l ∧ l ≤ 9) (G : Sto) : runT T k 63 [.int n, .int g, .int l] G = some (.d (.tup (tups ((rowsF (n + 1) n n).filter (dpB g l)))), G) := callT (by omega) rfl fun j e => by
  have c1 := @f_check_within j (by omega) n 0 24 G (by omega)
  have c2 := @f_check_apart j (by omega) g l hg hl G
  have c3 := f_rows_within G (n + 1) n n j (by omega) (by omega) (by omega) hn
  have hb := rowsF_bd (f := n + 1) (n := n) (m := n) (by omega) hn
  have e1 : lcL (.nm 4) (cTv (cCall 62 (cCons (cVar 4) (cCons (cVar 1) (cCons (cVar 2) (cNil)))) [])) (cVar 4) (runT T j) [.v (.int n), .v (.int g), .v (.int l), .no, .no] (tups (rowsF (n + 1) n n)) G = some (tups ((rowsF (n + 1) n n).filter (dpB g l)), G) := by
    unfold tups
    refine lcL_filter _ fun r hr => ⟨_, rfl, ?_, fun _ => ⟨_, rfl, rfl⟩⟩
    have hl := rowsF_len _ _ _ r hr
    have c4 := fun G => @f_does_part j (by omega) r (by omega) g l G
    simp only [lz, ly, cz, c4]
  have h1 : (tups (rowsF (n + 1) n n)).length ≤ 1000000 := by unfold tups; rw [List.length_map]; omega
  simp only [lz, ly, cz, d_apart_rows, c1, c2, c3, h1, e1]
end K97

namespace K97
open PySem PySem.Spec PyProof.Rows L2 Lp
/-! what is drawn -/
theorem ixG_ref {m : Nat} {G : Sto} {l : List Int} (h : G[m]? = some (.lst (iD l))) {k : Nat} {i : Int} (hi : i = k) (hk : k < l.length) : ixG (.d (.ref m)) (.d (.int i)) G = some (.d (.int (l.getD k 0))) := by
  have e : dicG (.d (.ref m)) G = none := by unfold dicG; simp [h]
  have e2 : seqG (.d (.ref m)) G = some (iD l) := by unfold seqG; simp [h]
  unfold ixG
  rw [e]
  show (seqG (.d (.ref m)) G).bind (fun l => (atI l i).map R.d) = _
  rw [e2, Option.bind_some, atI_iD l k hi hk]
  rfl
theorem set_get {G : Sto} {m : Nat} {o o' : Ob} (h : G[m]? = some o) : (G.set m o')[m]? = some o' := List.getElem?_set_self (List.getElem?_eq_some_iff.mp h).1
theorem cutD_iD (l : List Int) (lo hi : Option Int) : ∃ m, Lp.cutD (iD l) lo hi = iD m ∧ m.length ≤ l.length := by
  refine ⟨(l.drop (HT.sIx l.length 0 lo)).take (HT.sIx l.length l.length hi - HT.sIx l.length 0 lo), ?_, ?_⟩
  · unfold Lp.cutD iD
    rw [List.length_map, List.map_take, List.map_drop]
  · rw [List.length_take, List.length_drop]; omega
theorem ixG_scr {l : List Int} {G : Sto} {i : Int} (k : Nat) (hi : i = k) (h : k < l.length) : ixG (.d (.scr (iD l))) (.d (.int i)) G = some (.d (.int (l.getD k 0))) := by
  have e := atI_iD l k hi h
  show (some (iD l)).bind (fun l => (atI l i).map R.d) = _
  rw [Option.bind_some, e]
  rfl
theorem powR_i (i j : Int) : powR (.d (.int i)) (.d (.int j)) = if powOk i j = true then some (.d (.int (i ^ j.toNat))) else none := rfl
theorem intSR_i (i : Int) (G : Sto) : intSR (.d (.int i)) G = some (.d (.int i)) := rfl
theorem f_well {k : Nat} (hk : 1 ≤ k) (ns : List Int) (hl : ns.length ≤ 63) (t : Nat) (ht : t ≤ 10) (G : Sto) : ∃ a b c, runT T k 64 [.scr (iD ns), .int t] G = some (.tmp (.lst (iD [a, b, c])), G) := by
  obtain ⟨m6, e6, hm6⟩ := cutD_iD ns none (some 6)
  obtain ⟨j, rfl⟩ : ∃ j, k = j + 1 := ⟨k - 1, by omega⟩
  have hcell : ∃ cell, (cIf (cTv (cBin (vb ltI) (cVar 1) (cUnG lenR (cVar 0)))) (cUnG intSR (cBinG ixG (cVar 0) (cVar 1))) (cBin addR (cBin mulR (cC (.int 733)) (cVar 1)) (cC (.int 41)))) (runT T j) [.v (.scr (iD ns)), .v (.int t), .no, .no, .no] G = some (.d (.int cell), G) := by
    by_cases h : t < ns.length
    · have h' : ((t : Int) < ns.length) = True := eq_true (by omega)
      have i1 := fun G => ixG_scr (l := ns) (G := G) (i := (t : Int)) t rfl h
      exact ⟨ns.getD t 0, by simp only [lz, cz, h', i1, intSR_i]⟩
    · have h' : ((t : Int) < ns.length) = False := eq_false (by omega)
      have o1 : mulOkI 733 (t : Int) = true := mulOk_of (by omega)
      exact ⟨733 * t + 41, by simp only [lz, cz, h', o1]⟩
  obtain ⟨cell, hcell⟩ := hcell
  have hf : ∃ w y, forL (.nm 4) (sAsg .val 3 (cBin modR (cUnG intSR (cBin addR (cBin addR (cBin mulR (cVar 3) (cC (.int 48271))) (cBin modR (cUnG intSR (cVar 4)) (cC (.int 2147480011)))) (cC (.int 7)))) (cC (.int 2147483629)))) (runT T j) (iD m6) [.v (.scr (iD ns)), .v (.int t), .v (.int cell), .v (.int (40231 + 5147 * t)), .no] G = some (.nx [.v (.scr (iD ns)), .v (.int t), .v (.int cell), .v (.int w), y] G) := by
    obtain ⟨ρ', G', e1, rfl, w, y, e2⟩ := forL_inv (cf := runT T j) (tg := .nm 4) (f := D.int) (body := sAsg .val 3 (cBin modR (cUnG intSR (cBin addR (cBin addR (cBin mulR (cVar 3) (cC (.int 48271))) (cBin modR (cUnG intSR (cVar 4)) (cC (.int 2147480011)))) (cC (.int 7)))) (cC (.int 2147483629))))
      (I := fun i ρ G' => G' = G ∧ ∃ w y, ρ = [.v (.scr (iD ns)), .v (.int t), .v (.int cell), .v (.int w), y]) m6 0 [.v (.scr (iD ns)), .v (.int t), .v (.int cell), .v (.int (40231 + 5147 * t)), .no] G ⟨rfl, _, _, rfl⟩ (fun i x ρ G' hi hI => by
        obtain ⟨rfl, w, y, rfl⟩ := hI
        have o1 : mulOkI w 48271 = true := mulOk_of' (by omega)
        have p1 : ((0 : Int) < 2147480011) = True := eq_true (by omega)
        have p2 : ((0 : Int) < 2147483629) = True := eq_true (by omega)
        refine ⟨_, [.v (.scr (iD ns)), .v (.int t), .v (.int cell), .v (.int ((w * 48271 + x % 2147480011 + 7) % 2147483629)), .v (.int x)], _, rfl, .inl ?_, rfl, _, _, rfl⟩
        simp only [lz, cz, o1, p1, p2, intSR_i])
    exact ⟨w, y, by rw [e2] at e1; exact e1⟩
  obtain ⟨w, y, hf⟩ := hf
  have o2 : mulOkI 5147 (t : Int) = true := mulOk_of (by omega)
  have o3 : mulOkI w 59 = true := mulOk_of' (by omega)
  have o4 : mulOkI (cell % 2147480011) 20011 = true := mulOk_of' (by omega)
  have p1 : ((0 : Int) < 2147480011) = True := eq_true (by omega)
  have p2 : ((0 : Int) < 2147483629) = True := eq_true (by omega)
  have po : powOk 10 17 = true := by decide
  have e3 : ∀ a b c : Int, [D.int a, D.int b, D.int c] = iD [a, b, c] := fun _ _ _ => rfl
  by_cases hc : cell < 0
  · have hc' : (cell < 0) = True := eq_true hc
    refine ⟨-cell, (w * 59 + cell % 2147480011 * 20011) % 2147483629, 0, ?_⟩
    rw [runT_succ T j 64 _ _ _ _ rfl]
    simp only [d__law_well, ap_sSeq, ap_sAsg, cz, hcell]
    simp only [lz, cz, ly, o2, o3, o4, p1, p2, e6, hf, hc', powR_i, po, e3, intSR_i]
  · by_cases hd : (10 : Int) ^ (17 : Int).toNat ≤ cell
    · have hc' : (cell < 0) = False := eq_false hc
      have hd' : ((10 : Int) ^ (17 : Int).toNat ≤ cell) = True := eq_true hd
      refine ⟨cell, (w * 59 + cell % 2147480011 * 20011) % 2147483629, 0, ?_⟩
      rw [runT_succ T j 64 _ _ _ _ rfl]
      simp only [d__law_well, ap_sSeq, ap_sAsg, cz, hcell]
      simp only [lz, cz, ly, o2, o3, o4, p1, p2, e6, hf, hc', powR_i, po, hd', e3, intSR_i]
    · have hc' : (cell < 0) = False := eq_false hc
      have hd' : ((10 : Int) ^ (17 : Int).toNat ≤ cell) = False := eq_false hd
      refine ⟨0, (w * 59 + cell % 2147480011 * 20011) % 2147483629, 0, ?_⟩
      rw [runT_succ T j 64 _ _ _ _ rfl]
      simp only [d__law_well, ap_sSeq, ap_sAsg, cz, hcell]
      simp only [lz, cz, ly, o2, o3, o4, p1, p2, e6, hf, hc', powR_i, po, hd', e3, intSR_i]
theorem f_dip {k : Nat} (hk : 1 ≤ k) (m : Nat) (a b c : Int) (size : Int) (hs : 1 ≤ size ∧ size ≤ 100000) (G : Sto) (hG : G[m]? = some (.lst (iD [a, b, c]))) :
    ∃ d a' b' c', (0 ≤ d ∧ d < size) ∧ runT T k 65 [.ref m, .int size] G = some (.d (.int d), G.set m (.lst (iD [a', b', c']))) := by
  have x0 := ixG_ref hG (k := 0) (i := 0) rfl (by simp)
  have x1 := ixG_ref hG (k := 1) (i := 1) rfl (by simp)
  have x2 := ixG_ref hG (k := 2) (i := 2) rfl (by simp)
  have g1 : (G.set m (.lst (iD [a, b, c + 1])))[m]? = some (.lst (iD [a, b, c + 1])) := set_get hG
  have y1 := ixG_ref g1 (k := 1) (i := 1) rfl (by simp)
  have y2 := ixG_ref g1 (k := 2) (i := 2) rfl (by simp)
  simp only [List.getD_cons_zero, List.getD_cons_succ] at x0 x1 x2 y1 y2
  have n2 : ixN 3 2 = some 2 := rfl
  have n1 : ixN 3 1 = some 1 := rfl
  have n0 : ixN 3 0 = some 0 := rfl
  have l4 : [a, b, c].length = 3 := rfl
  have l5 : [a, b, c + 1].length = 3 := rfl
  have s2 : ∀ a b c d : Int, (iD [a, b, c]).set 2 (.int d) = iD [a, b, d] := fun _ _ _ _ => rfl
  have s1 : ∀ a b c d : Int, (iD [a, b, c]).set 1 (.int d) = iD [a, d, c] := fun _ _ _ _ => rfl
  have s0 : ∀ a b c d : Int, (iD [a, b, c]).set 0 (.int d) = iD [d, b, c] := fun _ _ _ _ => rfl
  have o1 : divOk size = true := divOk_of (by omega)
  by_cases h0 : 0 < a
  · refine ⟨a % size, a / size, b, c, ⟨Int.emod_nonneg _ (by omega), Int.emod_lt_of_pos _ (by omega)⟩, callT (by omega) rfl fun j e => ?_⟩
    have h0' : ((0 : Int) < a) = True := eq_true h0
    simp only [lz, cz, d__law_dip, x0, hG, n0, s0, h0', o1, l4, if_true]
  · have h0' : ((0 : Int) < a) = False := eq_false h0
    have o2 : mulOkI b 39373 = true := mulOk_of' (by omega)
    have o3 : mulOkI 60013 (c + 1) = true := mulOk_of (by omega)
    generalize hb' : (b * 39373 + 60013 * (c + 1) + 11) % 2147483629 = b'
    have g2 : (G.set m (.lst (iD [a, b', c + 1])))[m]? = some (.lst (iD [a, b', c + 1])) := set_get hG
    have z1 := ixG_ref g2 (k := 1) (i := 1) rfl (by simp)
    simp only [List.getD_cons_zero, List.getD_cons_succ] at z1
    refine ⟨b' / 127 % size, a, b', c + 1, ⟨Int.emod_nonneg _ (by omega), Int.emod_lt_of_pos _ (by omega)⟩, callT (by omega) rfl fun j e => ?_⟩
    have q2 : ((0 : Int) < 2147483629) = True := eq_true (by omega)
    have q3 : ((0 : Int) < size) = True := eq_true (by omega)
    have o4 : divOk 127 = true := divOk_of (by omega)
    simp only [lz, cz, d__law_dip, x0, x2, hG, n2, s2, g1, y1, y2, h0', q2, q3, o2, o3, hb', n1, s1, List.set_set, z1, o4, l4, l5, intSR_i]
end K97

namespace K97
open PySem PySem.Spec PyProof.Rows L2 Lp
theorem wz_nn {f : Nat → Int} (hf : ∀ t, 0 ≤ f t) (s t : Nat) : 0 ≤ wz f s t := by
  unfold wz
  generalize t / s + 1 = n
  induction n with
  | zero => simp
  | succ n ih =>
    rw [List.range_succ, List.map_append, List.sum_append]
    have := hf (t - n * s)
    simp only [List.map_cons, List.map_nil, List.sum_cons, List.sum_nil]
    omega
theorem wy_nn : ∀ m t, 0 ≤ wy m t
  | 0, t => by rw [wy]; split <;> omega
  | m + 1, t => wz_nn (wy_nn m) _ _
theorem apF_nn (g l t : Nat) : ∀ K, 0 ≤ apF g l K t
  | 0 => by rw [apF]; omega
  | K + 1 => by
    have := apF_nn g l t K
    rw [apF]
    split
    · have := wy_nn K (t - stA g l K); omega
    · omega
theorem stA_l1 (g l : Nat) : ∀ k, stA g (l + 1) k = stA g l k + k
  | 0 => rfl
  | k + 1 => by rw [stA, stA, stA_l1 g l k]; omega
theorem stA_lg (g l : Nat) : ∀ k, stA g l (k + 1) = l + stA g (l + g) k
  | 0 => by simp [stA]
  | k + 1 => by
    rw [stA, stA_lg g l k, stA, Nat.mul_add]
    omega
theorem ap_diff (g l t : Nat) : ∀ K, apF g l (K + 1) t - apF g (l + 1) (K + 1) t = if l ≤ t then apF g (l + g) K (t - l) else 0
  | 0 => by simp [apF, stA]
  | K + 1 => by
    have ih := ap_diff g l t K
    rw [show apF g l (K + 1 + 1) t = apF g l (K + 1) t + (if stA g l (K + 1) ≤ t then wy (K + 1) (t - stA g l (K + 1)) else 0) from rfl, show apF g (l + 1) (K + 1 + 1) t = apF g (l + 1) (K + 1) t + (if stA g (l + 1) (K + 1) ≤ t then wy (K + 1) (t - stA g (l + 1) (K + 1)) else 0) from rfl, stA_l1, stA_lg g l K]
    rw [show apF g (l + g) (K + 1) (t - l) = apF g (l + g) K (t - l) + (if stA g (l + g) K ≤ t - l then wy K (t - l - stA g (l + g) K) else 0) from rfl]
    generalize hs : stA g (l + g) K = s at *
    have step : ∀ u, wy (K + 1) u = wy K u + if K + 1 ≤ u then wy (K + 1) (u - (K + 1)) else 0 := fun u => by
      by_cases h : K + 1 ≤ u
      · rw [if_pos h]; exact wz_ge (wy K) (by omega) h
      · rw [if_neg h, Int.add_zero]; exact wz_lt (wy K) (by omega)
    by_cases h1 : l ≤ t
    · rw [if_pos h1] at ih ⊢
      by_cases h2 : s ≤ t - l
      · rw [if_pos (show l + s ≤ t by omega), if_pos h2, step]
        by_cases h3 : K + 1 ≤ t - (l + s)
        · rw [if_pos h3, if_pos (show l + s + (K + 1) ≤ t by omega), show t - (l + s) - (K + 1) = t - (l + s + (K + 1)) by omega, show t - l - s = t - (l + s) by omega]
          omega
        · rw [if_neg h3, if_neg (show ¬ l + s + (K + 1) ≤ t by omega), show t - l - s = t - (l + s) by omega]
          omega
      · rw [if_neg (show ¬ l + s ≤ t by omega), if_neg h2, if_neg (show ¬ l + s + (K + 1) ≤ t by omega)]
        omega
    · rw [if_neg h1] at ih ⊢
      rw [if_neg (show ¬ l + s ≤ t by omega), if_neg (show ¬ l + s + (K + 1) ≤ t by omega)]
      omega
theorem apc_diff (g l t : Nat) (hl : 1 ≤ l) : apc g l t - apc g (l + 1) t = if l ≤ t then apc g (l + g) (t - l) else 0 := by
  have h1 := apF_apc g l hl t (t + 2) (by have := stA_ge g l hl (t + 2); omega)
  have h2 := apF_apc g (l + 1) (by omega) t (t + 2) (by have := stA_ge g (l + 1) (by omega) (t + 2); omega)
  have h3 := ap_diff g l t (t + 1)
  rw [← h1, ← h2, h3]
  by_cases h : l ≤ t
  · rw [if_pos h, if_pos h]
    exact apF_apc g (l + g) (by omega) (t - l) (t + 1) (by have := stA_ge g (l + g) (by omega) (t + 1); omega)
  · rw [if_neg h, if_neg h]
theorem apc_nn (g l t : Nat) : 0 ≤ apc g l t := apF_nn g l t (t + 1)
/-- what is to be checked -/
structure Chk : Prop where
  k1 : ∀ n, n ≤ 240 → (List.range (n + 1)).map (apc 2 1) = cnt (capOf [] [none, some 0, some 0, none, some 0]) n
  k2 : ∀ n, n ≤ 240 → (List.range (n + 1)).map (apc 2 2) = cnt (capOf [] [some 0, none, none, some 0, some 0]) n
  k3 : ∀ n, n ≤ 240 → (List.range (n + 1)).map (apc 1 1) = cnt (capOf [] [some 1]) n
  k4 : ∀ n, n ≤ 240 → (List.range (n + 1)).map (apc 1 1) = cnt (capOf [] [none, some 0]) n
  l1 : ∀ l n, 1 ≤ l → l ≤ 9 → n ≤ 120 → (List.range (n + 1)).map (apc 1 l) = cnt (capOf (List.replicate (l - 1) (some 0)) [some 1]) n
  l0 : ∀ l n, 1 ≤ l → l ≤ 9 → n ≤ 120 → (List.range (n + 1)).map (apc 0 l) = cnt (capOf (List.replicate (l - 1) (some 0)) [none]) n
  rw : ∀ n g l : Nat, n ≤ 22 → g ≤ 9 → 1 ≤ l → l ≤ 9 → ((((rowsF (n + 1) n n).filter (dpB g l)).length : Nat) : Int) = apc g l n
def lpO (h t : List (Option Nat)) : D := .tup [.tup (capDs h), .tup (capDs t)]
theorem rd1 (j : Nat) (G : Sto) : runT T (j + 12) 169 [.cls 0, .str "|*00*0"] G = some (.d (rl [] [none, some 0, some 0, none, some 0] (lpO [] [none, some 0, some 0, none, some 0])), G) := by kernel_rfl
theorem rd2 (j : Nat) (G : Sto) : runT T (j + 12) 169 [.cls 0, .str "|0**00"] G = some (.d (rl [] [some 0, none, none, some 0, some 0] (lpO [] [some 0, none, none, some 0, some 0])), G) := by kernel_rfl
theorem rd3 (j : Nat) (G : Sto) : runT T (j + 12) 169 [.cls 0, .str "|1"] G = some (.d (rl [] [some 1] (lpO [] [some 1])), G) := by kernel_rfl
theorem rd4 (j : Nat) (G : Sto) : runT T (j + 12) 169 [.cls 0, .str "|*0"] G = some (.d (rl [] [none, some 0] (lpO [] [none, some 0])), G) := by kernel_rfl
theorem cap_le (h t : List (Option Nat)) (b0 : Nat) (hh : ∀ x ∈ h, ∀ b, x = some b → b ≤ b0) (ht : ∀ x ∈ t, ∀ b, x = some b → b ≤ b0) (s b : Nat) (e : capOf h t s = some b) : b ≤ b0 := by
  have get : ∀ (l : List (Option Nat)) (i : Nat), (∀ x ∈ l, ∀ b, x = some b → b ≤ b0) → l.getD i none = some b → b ≤ b0 := fun l i hl e => by
    by_cases hi : i < l.length
    · have e2 : l.getD i none = l[i] := by simp [List.getD, List.getElem?_eq_getElem hi]
      rw [e2] at e
      exact hl _ (List.getElem_mem hi) b e
    · rw [show l.getD i none = none by simp [List.getD, List.getElem?_eq_none (Nat.le_of_not_lt hi)]] at e
      cases e
  unfold capOf at e
  split at e
  · exact get h _ hh e
  · exact get t _ ht e
theorem f_known (C : Chk) {k : Nat} (hk : 20 ≤ k) (n : Nat) (hn : n ≤ 240) (G : Sto) : runT T k 67 [.int n] G = some (.d (.bl true), G) := callT (by omega) rfl fun j e => by
  have a1 := fun G => @f_apart_counts j (by omega) n 2 1 (by omega) (by omega) (by omega) G
  have a2 := fun G => @f_apart_counts j (by omega) n 2 2 (by omega) (by omega) (by omega) G
  have a3 := fun G => @f_apart_counts j (by omega) n 1 1 (by omega) (by omega) (by omega) G
  have i1 : ((1 : Nat) : Int) = 1 := rfl
  have i2 : ((2 : Nat) : Int) = 2 := rfl
  rw [i1, i2] at a1
  rw [i2] at a2
  rw [i1] at a3
  have cc := fun t (ht : 1 ≤ t.length ∧ t.length ≤ 1000) (h2 : ∀ x ∈ t, ∀ b, x = some b → b ≤ 100) G => @f_counts j (by omega) [] t (lpO [] t) (by simp) ht (cap_le [] t 100 (by simp) h2) n (by omega) G
  have b1 := fun G => cc [none, some 0, some 0, none, some 0] (by simp) (by simp) G
  have b2 := fun G => cc [some 0, none, none, some 0, some 0] (by simp) (by simp) G
  have b3 := fun G => cc [some 1] (by simp) (by simp) G
  have b4 := fun G => cc [none, some 0] (by simp) (by simp) G
  rw [show j = (j - 12) + 12 by omega] at *
  generalize j - 12 = q at *
  have r1 := rd1 q
  have r2 := rd2 q
  have r3 := rd3 q
  have r4 := rd4 q
  rw [← C.k1 n hn] at b1
  rw [← C.k2 n hn] at b2
  rw [← C.k3 n hn] at b3
  rw [← C.k4 n hn] at b4
  have h2 : 0 + 1 + 1 + 1 + 1 ≤ 1000000 := by decide
  have hs : 0 + 1 + 1 + (0 + 1 + 1) ≤ sz := by rw [sz_eq]; decide
  have hb : bsOf [.bl true, .bl true, .bl true, .bl true] = some [true, true, true, true] := rfl
  have ha : ([true, true, true, true].all id) = true := rfl
  have tt : ∀ z : List Int, (z = z) = True := fun z => eq_true rfl
  have hw : wipeR [Sl.v (D.int n), Sl.v (D.lst [D.tup [D.tup (iD ((List.range (n + 1)).map (apc 2 1))), D.str "|*00*0"], D.tup [D.tup (iD ((List.range (n + 1)).map (apc 2 2))), D.str "|0**00"], D.tup [D.tup (iD ((List.range (n + 1)).map (apc 1 1))), D.str "|1"], D.tup [D.tup (iD ((List.range (n + 1)).map (apc 1 1))), D.str "|*0"]]), Sl.no, Sl.no, Sl.no] [2, 3, 4] = [Sl.v (D.int n), Sl.v (D.lst [D.tup [D.tup (iD ((List.range (n + 1)).map (apc 2 1))), D.str "|*00*0"], D.tup [D.tup (iD ((List.range (n + 1)).map (apc 2 2))), D.str "|0**00"], D.tup [D.tup (iD ((List.range (n + 1)).map (apc 1 1))), D.str "|1"], D.tup [D.tup (iD ((List.range (n + 1)).map (apc 1 1))), D.str "|*0"]]), Sl.no, Sl.no, Sl.no] := rfl
  simp only [lz, ly, cz, d__law_known, a1, a2, a3, hs, if_true, h2, lcL, r1, r2, r3, r4, b1, b2, b3, b4, tt, hb, ha]
end K97

namespace K97
open PySem PySem.Spec PyProof.Rows L2 Lp
theorem mk1 (j : Nat) : ∀ m, m < 9 → runT T (j + 12) 168 [.ref 0, .tup (capDs (List.replicate m (some 0))), .tup (capDs [some 1])] [.ins 0 [] []] = some (.d .non, [.ins 0 ["front", "again", "least_pair"] [.tup (capDs (List.replicate m (some 0))), .tup (capDs [some 1]), lpO (List.replicate m (some 0)) [some 1]]])
  | 0, _ => by kernel_rfl
  | 1, _ => by kernel_rfl
  | 2, _ => by kernel_rfl
  | 3, _ => by kernel_rfl
  | 4, _ => by kernel_rfl
  | 5, _ => by kernel_rfl
  | 6, _ => by kernel_rfl
  | 7, _ => by kernel_rfl
  | 8, _ => by kernel_rfl
  | m + 9, h => absurd h (by omega)
theorem mk0 (j : Nat) : ∀ m, m < 9 → runT T (j + 12) 168 [.ref 0, .tup (capDs (List.replicate m (some 0))), .tup (capDs [none])] [.ins 0 [] []] = some (.d .non, [.ins 0 ["front", "again", "least_pair"] [.tup (capDs (List.replicate m (some 0))), .tup (capDs [none]), lpO (List.replicate m (some 0)) [none]]])
  | 0, _ => by kernel_rfl
  | 1, _ => by kernel_rfl
  | 2, _ => by kernel_rfl
  | 3, _ => by kernel_rfl
  | 4, _ => by kernel_rfl
  | 5, _ => by kernel_rfl
  | 6, _ => by kernel_rfl
  | 7, _ => by kernel_rfl
  | 8, _ => by kernel_rfl
  | m + 9, h => absurd h (by omega)
theorem noRefs_caps : ∀ l : List (Option Nat), noRefs (capDs l) = true
  | [] => rfl
  | none :: l => by show (true && noRefs (capDs l)) = true; rw [noRefs_caps l]; rfl
  | some c :: l => by show (true && noRefs (capDs l)) = true; rw [noRefs_caps l]; rfl
theorem rep_caps (m : Nat) : (List.replicate m [D.int 0]).flatten = capDs (List.replicate m (some 0)) := by
  induction m with
  | zero => rfl
  | succ m ih => rw [List.replicate_succ, List.flatten_cons, ih]; rfl
theorem f_from_least (C : Chk) {k : Nat} (hk : 20 ≤ k) (n l : Nat) (hn : n ≤ 120) (hl : 1 ≤ l ∧ l ≤ 9) (G : Sto) : runT T k 68 [.int n, .int l] G = some (.d (.bl true), G) := callT (by omega) rfl fun j e => by
  have a1 := fun G => @f_apart_counts j (by omega) n 1 l (by omega) (by omega) hl G
  have a0 := fun G => @f_apart_counts j (by omega) n 0 l (by omega) (by omega) hl G
  have i1 : ((1 : Nat) : Int) = 1 := rfl
  have i0 : ((0 : Nat) : Int) = 0 := rfl
  rw [i1] at a1
  rw [i0] at a0
  have hr : ∀ x ∈ List.replicate (l - 1) (some 0), ∀ b, x = some b → b ≤ 100 := fun x hx b e => by
    rw [List.mem_replicate] at hx
    rw [hx.2] at e; cases e; omega
  have cc := fun t (ht : 1 ≤ t.length ∧ t.length ≤ 1000) (h2 : ∀ x ∈ t, ∀ b, x = some b → b ≤ 100) G => @f_counts j (by omega) (List.replicate (l - 1) (some 0)) t (lpO (List.replicate (l - 1) (some 0)) t) (by simp; omega) ht (cap_le _ t 100 hr h2) n (by omega) G
  have b1 := fun G => cc [some 1] (by simp) (by simp) G
  have b0 := fun G => cc [none] (by simp) (by simp) G
  rw [← C.l1 l n hl.1 hl.2 hn] at b1
  rw [← C.l0 l n hl.1 hl.2 hn] at b0
  rw [show j = (j - 12) + 12 by omega] at *
  generalize j - 12 = q at *
  have m1 := mk1 q (l - 1) (by omega)
  have m0 := mk0 q (l - 1) (by omega)
  have e1 : ((l : Int) - 1).toNat = l - 1 := by omega
  have e2 : (0 + 1 ≤ 1000 ∧ ((l : Int) - 1).natAbs ≤ 1000) = True := eq_true ⟨by omega, by omega⟩
  have tt : ∀ z : List Int, (z = z) = True := fun z => eq_true rfl
  have t1 : [D.int 1] = capDs [some 1] := rfl
  have t0 : [D.non] = capDs [none] := rfl
  have n1 : noRefs [.tup (capDs (List.replicate (l - 1) (some 0))), .tup (capDs [some 1])] = true := by
    show (noRefs (capDs (List.replicate (l - 1) (some 0))) && true) = true
    rw [noRefs_caps]; rfl
  have n0 : noRefs [.tup (capDs (List.replicate (l - 1) (some 0))), .tup (capDs [none])] = true := by
    show (noRefs (capDs (List.replicate (l - 1) (some 0))) && true) = true
    rw [noRefs_caps]; rfl
  have n2 : ∀ t : List (Option Nat), noRefs [.tup (capDs (List.replicate (l - 1) (some 0))), .tup (capDs t), lpO (List.replicate (l - 1) (some 0)) t] = true := fun t => by
    show (noRefs (capDs (List.replicate (l - 1) (some 0))) && (noRefs (capDs t) && ((noRefs (capDs (List.replicate (l - 1) (some 0))) && (noRefs (capDs t) && true)) && true))) = true
    rw [noRefs_caps, noRefs_caps]; rfl
  have rr : ∀ t lp, D.ins 0 ["front", "again", "least_pair"] [.tup (capDs (List.replicate (l - 1) (some 0))), .tup (capDs t), lp] = rl (List.replicate (l - 1) (some 0)) t lp := fun _ _ => rfl
  have h00 : (0 = 0) = True := eq_true rfl
  have q1 : ((capDs [some 1]).length ≤ sz) = True := eq_true (by rw [sz_eq]; decide)
  have q0 : ((capDs [none]).length ≤ sz) = True := eq_true (by rw [sz_eq]; decide)
  simp only [q1, q0, lz, ly, cz, d__law_from_least, a1, a0, e1, e2, rep_caps, t1, t0, n1, n0, n2, m1, m0, h00, rr, b1, b0, tt]
theorem f_by_last {k : Nat} (hk : 8 ≤ k) (n g l : Nat) (hn : n ≤ 120) (hg : g ≤ 9) (hl : 1 ≤ l ∧ l ≤ 8) (G : Sto) : runT T k 69 [.int n, .int g, .int l] G = some (.d (.bl true), G) := callT (by omega) rfl fun j e => by
  have a1 := fun G => @f_apart_counts j (by omega) n g l (by omega) hg (by omega) G
  have a2 := fun G => @f_apart_counts j (by omega) n g (l + 1) (by omega) hg (by omega) G
  have el : ((l : Int) + 1) = ((l + 1 : Nat) : Int) := by push_cast; rfl
  have eg : ((l : Int) + (g : Int)) = ((l + g : Nat) : Int) := by push_cast; rfl
  have r1 : rgOk ((n : Int) + 1) = true := rgOk_of (by omega)
  have r3 : ((n : Int) + 1).toNat = n + 1 := by omega
  have h1 : (rangeI 0 (n + 1)).length ≤ 1000000 := by rw [rangeI_len]; omega
  have ix : ∀ (f : Nat → Int) (t : Nat) G, t < n + 1 → ixG (.d (.tup (iD ((List.range (n + 1)).map f)))) (.d (.int (0 + (t : Nat)))) G = some (.d (.int (f t))) := fun f t G ht => by
    show (atI (iD _) (0 + (t : Nat) : Int)).map R.d = _
    rw [atI_iD _ t (by omega) (by simp; omega), getD_map _ ht]; rfl
  by_cases hgl : 9 < l + g
  · have q1 : ((9 : Int) < ((l + g : Nat) : Int)) = True := eq_true (by omega)
    have e1 : lcL (.nm 8) cYes (cBin (vb geI) (cBinG ixG (cVar 3) (cVar 8)) (cBinG ixG (cVar 4) (cVar 8))) (runT T j) [.v (.int n), .v (.int g), .v (.int l), .v (.tup (iD ((List.range (n + 1)).map (apc g l)))), .v (.tup (iD ((List.range (n + 1)).map (apc g (l + 1))))), .no, .no, .no, .no] (rangeI 0 (n + 1)) G = some ((List.range (n + 1)).map fun t => .bl (decide (apc g (l + 1) t ≤ apc g l t)), G) := by
      rw [rangeI_map]
      refine lcL_mapB _ fun t ht => ⟨_, rfl, ?_⟩
      rw [List.mem_range] at ht
      simp only [lz, ly, cz, ix _ t _ ht]
    have ea : ((List.range (n + 1)).map fun t => decide (apc g (l + 1) t ≤ apc g l t)).all id = true := by
      rw [List.all_map, List.all_eq_true]
      intro t ht
      have hd := apc_diff g l t hl.1
      have hn := apc_nn g (l + g) (t - l)
      refine decide_eq_true ?_
      split at hd <;> omega
    simp only [lz, ly, cz, d__law_by_last, a1, el, a2, eg, q1, r1, r3, h1, e1, bsOf_map, ea]
  · have q1 : ((9 : Int) < ((l + g : Nat) : Int)) = False := eq_false (by omega)
    have a3 := fun G => @f_apart_counts j (by omega) n g (l + g) (by omega) hg (by omega) G
    have e1 : lcL (.nm 8) cYes (cIf (cTv (cBin (vb geI) (cVar 8) (cVar 2))) (cBinG ixG (cVar 5) (cBin subR (cVar 8) (cVar 2))) (cC (.int 0))) (runT T j) [.v (.int n), .v (.int g), .v (.int l), .v (.tup (iD ((List.range (n + 1)).map (apc g l)))), .v (.tup (iD ((List.range (n + 1)).map (apc g (l + 1))))), .v (.tup (iD ((List.range (n + 1)).map (apc g (l + g))))), .no, .no, .no] (rangeI 0 (n + 1)) G = some (iD ((List.range (n + 1)).map fun t => if l ≤ t then apc g (l + g) (t - l) else 0), G) := by
      rw [rangeI_map]
      refine lcL_mapI _ fun t ht => ⟨_, rfl, ?_⟩
      rw [List.mem_range] at ht
      by_cases h : l ≤ t
      · have q : ((l : Int) ≤ 0 + (t : Nat)) = True := eq_true (by omega)
        have ie := ix (apc g (l + g)) (t - l)
        have et : (0 : Int) + (t : Nat) - (l : Int) = 0 + ((t - l : Nat) : Int) := by omega
        simp only [lz, ly, cz, q, et, ie _ (show t - l < n + 1 by omega), if_pos h]
      · have q : ((l : Int) ≤ 0 + (t : Nat)) = False := eq_false (by omega)
        simp only [lz, ly, cz, q, if_neg h]
    have e2 : lcL (.nm 8) cYes (cBin subR (cBinG ixG (cVar 3) (cVar 8)) (cBinG ixG (cVar 4) (cVar 8))) (runT T j) [.v (.int n), .v (.int g), .v (.int l), .v (.tup (iD ((List.range (n + 1)).map (apc g l)))), .v (.tup (iD ((List.range (n + 1)).map (apc g (l + 1))))), .v (.tup (iD ((List.range (n + 1)).map (apc g (l + g))))), .v (.lst (iD ((List.range (n + 1)).map fun t => if l ≤ t then apc g (l + g) (t - l) else 0))), .no, .no] (rangeI 0 (n + 1)) G = some (iD ((List.range (n + 1)).map fun t => if l ≤ t then apc g (l + g) (t - l) else 0), G) := by
      rw [rangeI_map]
      refine lcL_mapI _ fun t ht => ⟨_, rfl, ?_⟩
      rw [List.mem_range] at ht
      rw [← apc_diff g l t hl.1]
      simp only [lz, ly, cz, ix _ t _ ht]
    have tt : ∀ z : List Int, (z = z) = True := fun z => eq_true rfl
    simp only [lz, ly, cz, d__law_by_last, a1, el, a2, eg, q1, a3, r1, r3, h1, e1, e2, tt]
theorem natOf {i : Int} (h : 0 ≤ i) : ∃ n : Nat, i = n := ⟨i.toNat, by omega⟩
theorem law_true' (C : Chk) {k : Nat} (hk : 40 ≤ k) (ns : List Int) (hl : ns.length ≤ 63) : ∃ G', runT T k 29 [.scr (iD ns)] [] = some (.d (.bl true), G') := by
  obtain ⟨j, rfl⟩ : ∃ j, k = j + 1 := ⟨k - 1, by omega⟩
  obtain ⟨a, b, c, e1⟩ := @f_well j (by omega) ns hl 0 (by omega) []
  have e1 : runT T j 64 [.scr (iD ns), .int 0] [] = some (.tmp (.lst (iD [a, b, c])), []) := e1
  have dip : ∀ (a b c size : Int), 1 ≤ size ∧ size ≤ 100000 → ∀ i, 1 ≤ i → ∃ d a' b' c', (0 ≤ d ∧ d < size) ∧ runT T i 65 [.ref 0, .int size] [.lst (iD [a, b, c])] = some (.d (.int d), [.lst (iD [a', b', c'])]) := fun a b c size hs i hi => f_dip hi 0 a b c size hs _ rfl
  -- one of three
  obtain ⟨x0, a1, b1, c1, hx0, f0⟩ := dip a b c 3 (by omega) (j - 1) (by omega)
  obtain ⟨N, hN, f0'⟩ : ∃ N : Int, (N = 240 ∨ N = 120) ∧ runT T j 66 [.ref 0, .lst [.int 240, .int 120, .int 120]] [.lst (iD [a, b, c])] = some (.d (.int N), [.lst (iD [a1, b1, c1])]) := by
    have h3 : x0 = 0 ∨ x0 = 1 ∨ x0 = 2 := by omega
    refine ⟨if x0 = 0 then 240 else 120, by split <;> simp, callT (by omega) rfl fun i e => ?_⟩
    rw [show j - 1 = i by omega] at f0
    have l3 : (((0 + 1 + 1 + 1 : Nat)) : Int) = 3 := rfl
    rcases h3 with rfl | rfl | rfl
    · have i0 : ∀ G, ixG (.d (.lst [.int 240, .int 120, .int 120])) (.d (.int 0)) G = some (.d (.int 240)) := fun _ => rfl
      simp only [lz, ly, cz, d__law_of, shr_d, l3, f0, i0, if_true]
    · have i0 : ∀ G, ixG (.d (.lst [.int 240, .int 120, .int 120])) (.d (.int 1)) G = some (.d (.int 120)) := fun _ => rfl
      simp only [lz, ly, cz, d__law_of, shr_d, l3, f0, i0]
      rfl
    · have i0 : ∀ G, ixG (.d (.lst [.int 240, .int 120, .int 120])) (.d (.int 2)) G = some (.d (.int 120)) := fun _ => rfl
      simp only [lz, ly, cz, d__law_of, shr_d, l3, f0, i0]
      rfl
  obtain ⟨x1, a2, b2, c2, hx1, f1⟩ := dip a1 b1 c1 90 (by omega) j (by omega)
  obtain ⟨n0, en0⟩ := natOf (i := N - x1) (by omega)
  have g1 := @f_known C j (by omega) n0 (by omega) [.lst (iD [a2, b2, c2])]
  obtain ⟨x2, a3, b3, c3, hx2, f2⟩ := dip a2 b2 c2 121 (by omega) j (by omega)
  obtain ⟨x3, a4, b4, c4, hx3, f3⟩ := dip a3 b3 c3 9 (by omega) j (by omega)
  obtain ⟨x4, a5, b5, c5, hx4, f4⟩ := dip a4 b4 c4 10 (by omega) j (by omega)
  obtain ⟨n, en⟩ := natOf hx2.1
  obtain ⟨l, el⟩ := natOf (i := 1 + x3) (by omega)
  obtain ⟨g, eg⟩ := natOf hx4.1
  have g2 := @f_from_least C j (by omega) n l (by omega) (by omega) [.lst (iD [a5, b5, c5])]
  obtain ⟨x5, a6, b6, c6, hx5, f5⟩ := dip a5 b5 c5 8 (by omega) j (by omega)
  obtain ⟨s, es⟩ := natOf (i := 1 + x5) (by omega)
  have g3 := @f_by_last j (by omega) n g s (by omega) (by omega) (by omega) [.lst (iD [a6, b6, c6])]
  obtain ⟨x6, a7, b7, c7, hx6, f6⟩ := dip a6 b6 c6 4 (by omega) j (by omega)
  obtain ⟨g', eg'⟩ := natOf hx6.1
  have g4 := @f_by_last j (by omega) n g' s (by omega) (by omega) (by omega) [.lst (iD [a7, b7, c7])]
  obtain ⟨x7, a8, b8, c8, hx7, f7⟩ := dip a7 b7 c7 23 (by omega) j (by omega)
  obtain ⟨w, ew⟩ := natOf hx7.1
  have g5 := @f_apart_rows j (by omega) w (by omega) g l (by omega) (by omega) [.lst (iD [a8, b8, c8])]
  have g6 := @f_apart_counts j (by omega) w g l (by omega) (by omega) (by omega) [.lst (iD [a8, b8, c8])]
  have hw := C.rw w g l (by omega) (by omega) (by omega) (by omega)
  have i6 : ∀ G, ixG (.d (.tup (iD ((List.range (w + 1)).map (apc g l))))) (.d (.int (w : Int))) G = some (.d (.int (apc g l w))) := fun G => by
    show (atI (iD _) (w : Int)).map R.d = _
    rw [atI_iD _ w rfl (by simp), getD_map _ (by omega)]; rfl
  have tl : ((tups ((rowsF (w + 1) w w).filter (dpB g l))).length : Int) = apc g l w := by unfold tups; rw [List.length_map]; exact hw
  refine ⟨[.lst (iD [a8, b8, c8])], ?_⟩
  subst en eg eg' ew
  have z2 : (apc g l w = apc g l w) = True := eq_true rfl
  have pr : ∀ (o : Ob) (i : Nat) (ρ : Lp.Env), putN .ref i (.tmp o) ρ [] = some (ρ.set i (.v (.ref 0)), [o]) := fun _ _ _ => rfl
  rw [runT_succ T j 29 _ _ _ _ rfl]
  simp only [lz, ly, cz, d_law, e1, pr, shr_d, f0', f1, en0, g1, f2, f3, el, f4, g2, f5, es, g3, f6, g4, f7, g5, g6, i6, tl, z2]
end K97

namespace K97
open PySem PySem.Spec PyProof.Rows L2 Lp
/-! reckoning lists fast -/
def sweep (m : Nat) : List Int → List Int → List Int
  | [], acc => acc.reverse
  | o :: os, acc => sweep m os ((o + acc.getD (m - 1) 0) :: acc)
theorem revD (f : Nat → Int) (a m : Nat) (hm : 1 ≤ m) : (((List.range a).map f).reverse).getD (m - 1) 0 = if m ≤ a then f (a - m) else 0 := by
  by_cases h : m ≤ a
  · rw [if_pos h]
    unfold List.getD
    rw [List.getElem?_reverse (by simp; omega)]
    simp only [List.length_map, List.length_range]
    rw [List.getElem?_map, List.getElem?_range (by omega)]
    show f (a - 1 - (m - 1)) = f (a - m)
    congr 1; omega
  · rw [if_neg h]
    unfold List.getD
    rw [List.getElem?_eq_none (by simp; omega)]
    rfl
theorem sweep_eq (f : Nat → Int) (m : Nat) (hm : 1 ≤ m) : ∀ (b a : Nat), sweep m ((List.range' a b).map f) (((List.range a).map (wz f m)).reverse) = (List.range (a + b)).map (wz f m)
  | 0, a => by simp [sweep]
  | b + 1, a => by
    rw [List.range'_succ, List.map_cons, sweep, revD _ _ _ hm]
    have e : (f a + if m ≤ a then wz f m (a - m) else 0) = wz f m a := by
      by_cases h : m ≤ a
      · rw [if_pos h, wz_ge f hm h]
      · rw [if_neg h, wz_lt f (by omega), Int.add_zero]
    rw [e]
    have e2 : wz f m a :: ((List.range a).map (wz f m)).reverse = ((List.range (a + 1)).map (wz f m)).reverse := by
      rw [List.range_succ, List.map_append, List.reverse_append]; rfl
    rw [e2, sweep_eq f m hm b (a + 1), show a + 1 + b = a + (b + 1) by omega]
theorem sweep_at (f : Nat → Int) (m n : Nat) (hm : 1 ≤ m) : sweep m ((List.range n).map f) [] = (List.range n).map (wz f m) := by
  have := sweep_eq f m hm n 0
  rw [← List.range_eq_range', Nat.zero_add] at this
  exact this
def addAt : Nat → List Int → List Int → List Int
  | _, [], _ => []
  | 0, a :: as, [] => a :: as
  | 0, a :: as, y :: ys => (a + y) :: addAt 0 as ys
  | s + 1, a :: as, ys => a :: addAt s as ys
theorem addAt_0 (f w : Nat → Int) : ∀ (b i j : Nat) , ∀ c, b ≤ c → addAt 0 ((List.range' i b).map f) ((List.range' j c).map w) = (List.range b).map fun t => f (i + t) + w (j + t)
  | 0, _, _, _, _ => by simp [addAt]
  | b + 1, i, j, 0, h => absurd h (by omega)
  | b + 1, i, j, c + 1, h => by
    rw [List.range'_succ, List.range'_succ, List.map_cons, List.map_cons, addAt, addAt_0 f w b (i + 1) (j + 1) c (by omega), List.range_succ_eq_map, List.map_cons, List.map_map]
    congr 1
    apply List.map_congr_left
    intro t _
    simp only [Function.comp, Nat.succ_eq_add_one]
    rw [show i + 1 + t = i + (t + 1) by omega, show j + 1 + t = j + (t + 1) by omega]
theorem addAt_eq (f w : Nat → Int) : ∀ (s b i : Nat) , ∀ c, b ≤ c → addAt s ((List.range' i b).map f) ((List.range c).map w) = (List.range b).map fun t => f (i + t) + if s ≤ t then w (t - s) else 0
  | 0, b, i, c, h => by
    rw [List.range_eq_range', addAt_0 f w b i 0 c h]
    apply List.map_congr_left
    intro t _
    simp
  | s + 1, 0, i, c, _ => by simp [addAt]
  | s + 1, b + 1, i, c, h => by
    rw [List.range'_succ, List.map_cons, addAt, addAt_eq f w s b (i + 1) c (by omega), List.range_succ_eq_map, List.map_cons, List.map_map]
    congr 1
    · simp
    · apply List.map_congr_left
      intro t _
      simp only [Function.comp, Nat.succ_eq_add_one]
      rw [show i + 1 + t = i + (t + 1) by omega, show t + 1 - (s + 1) = t - s by omega]
      by_cases hs : s ≤ t
      · rw [if_pos hs, if_pos (by omega)]
      · rw [if_neg hs, if_neg (by omega)]
def apLoop (g l : Nat) : Nat → Nat → Nat → List Int → List Int → List Int
  | 0, _, _, acc, _ => acc
  | f + 1, K, s, acc, w => apLoop g l f (K + 1) (s + l + g * K) (addAt s acc w) (sweep (K + 1) w [])
theorem apLoop_eq (g l n : Nat) : ∀ f K, apLoop g l f K (stA g l K) ((List.range n).map (apF g l K)) ((List.range n).map (wy K)) = (List.range n).map (apF g l (K + f))
  | 0, K => rfl
  | f + 1, K => by
    have e := addAt_eq (apF g l K) (wy K) (stA g l K) n 0 n (Nat.le_refl _)
    rw [← List.range_eq_range'] at e
    rw [apLoop, e, sweep_at _ _ _ (by omega)]
    have := apLoop_eq g l n f (K + 1)
    rw [show K + (f + 1) = K + 1 + f by omega, ← this]
    have e3 : ((List.range n).map fun t => apF g l K (0 + t) + if stA g l K ≤ t then wy K (t - stA g l K) else 0) = (List.range n).map (apF g l (K + 1)) := by
      apply List.map_congr_left
      intro t _
      rw [Nat.zero_add]; rfl
    rw [e3]; rfl
def apL (g l n fuel : Nat) : List Int := apLoop g l fuel 0 0 (List.replicate n 0) (1 :: List.replicate (n - 1) 0)
theorem apL_eq (g l n fuel : Nat) (hl : 1 ≤ l) (hn : 1 ≤ n) (hf : n ≤ stA g l fuel) : apL g l n fuel = (List.range n).map (apc g l) := by
  have e0 : List.replicate n (0 : Int) = (List.range n).map (apF g l 0) := by
    apply List.ext_getElem?
    intro t
    by_cases ht : t < n
    · simp [ht, apF]
    · simp [ht]
  have e1 : (1 : Int) :: List.replicate (n - 1) 0 = (List.range n).map (wy 0) := by
    obtain ⟨m, rfl⟩ : ∃ m, n = m + 1 := ⟨n - 1, by omega⟩
    rw [List.range_succ_eq_map, List.map_cons, List.map_map]
    congr 1
    apply List.ext_getElem?
    intro t
    by_cases ht : t < m
    · simp [ht, wy]
    · simp [ht]
  have e2 := apLoop_eq g l n fuel 0
  unfold apL
  rw [e0, e1]
  rw [show (0 : Nat) = stA g l 0 from rfl] at *
  refine e2.trans ?_
  apply List.map_congr_left
  intro t ht
  rw [List.mem_range] at ht
  exact apF_apc g l hl t _ (by rw [show (stA g l 0 + fuel) = fuel by simp [stA]]; omega)
/-! counts by excesses -/
def dot : List Int → List Int → Int
  | a :: as, b :: bs => a * b + dot as bs
  | _, _ => 0
theorem dot_eq : ∀ (n : Nat) (f g : Nat → Int) (i c : Nat), n ≤ c → dot ((List.range' i c).map f) ((List.range n).map g) = ((List.range n).map fun k => f (i + k) * g k).sum
  | 0, f, g, i, c, _ => by cases c <;> simp [dot, List.range'_succ]
  | n + 1, f, g, i, 0, h => absurd h (by omega)
  | n + 1, f, g, i, c + 1, h => by
    have ih := dot_eq n f (fun k => g (k + 1)) (i + 1) c (by omega)
    rw [List.range'_succ, List.range_succ_eq_map, List.map_cons, List.map_cons, List.map_map, dot]
    rw [show ((List.range n).map (g ∘ Nat.succ)) = (List.range n).map fun k => g (k + 1) from rfl, ih, List.map_cons, List.sum_cons, List.map_map]
    congr 1
    congr 1
    apply List.map_congr_left
    intro k _
    simp only [Function.comp, Nat.succ_eq_add_one]
    rw [show i + 1 + k = i + (k + 1) by omega]
def excR (D : List Int) : Nat → List Int
  | 0 => [1]
  | i + 1 => (dot D (excR D i) / ((i + 1 : Nat) : Int)) :: excR D i
theorem list_range (l : List Int) : (List.range l.length).map (fun k => l.getD k 0) = l := by
  apply List.ext_getElem?
  intro t
  by_cases ht : t < l.length
  · simp [ht]
  · simp [ht]
theorem excR_eq (f : Nat → Int) (N : Nat) : ∀ i, i ≤ N → excR ((List.range N).map f) i = (exc f i).reverse
  | 0, _ => rfl
  | i + 1, h => by
    have ih := excR_eq f N i (by omega)
    rw [excR, exc, List.reverse_append, ih]
    show _ :: _ = _ :: _
    congr 2
    have hl : (exc f i).reverse.length = i + 1 := by rw [List.length_reverse, exc_len]
    have er := list_range (exc f i).reverse
    rw [hl] at er
    rw [← er, List.range_eq_range' (n := N), dot_eq (i + 1) f _ 0 N h]
    congr 1
    apply List.map_congr_left
    intro k hk
    rw [List.mem_range] at hk
    rw [Nat.zero_add]
    congr 1
    unfold List.getD
    rw [List.getElem?_reverse (by rw [exc_len]; omega), exc_len]
    rw [show i + 1 - 1 - k = i - k by omega]
def cntR (c : Nat → Option Nat) (N : Nat) : List Int :=
  let E := (List.range N).map (exO c)
  (excR ((List.range N).map fun k => sdv (fun j => E.getD j 0) (k + 1) k) N).reverse
theorem sdv_congr {a b : Nat → Int} (t : Nat) : ∀ j, (∀ i, i < j → a i = b i) → sdv a j t = sdv b j t
  | 0, _ => rfl
  | j + 1, h => by rw [sdv, sdv, sdv_congr t j fun i hi => h i (by omega), h j (by omega)]
theorem cntR_eq (c : Nat → Option Nat) (N : Nat) : cntR c N = cnt c N := by
  have e : ((List.range N).map fun k => sdv (fun j => ((List.range N).map (exO c)).getD j 0) (k + 1) k) = (List.range N).map fun k => sdv (exO c) (k + 1) k := by
    apply List.map_congr_left
    intro k hk
    rw [List.mem_range] at hk
    exact sdv_congr k (k + 1) fun i hi => getD_map _ (by omega)
  show (excR ((List.range N).map fun k => sdv (fun j => ((List.range N).map (exO c)).getD j 0) (k + 1) k) N).reverse = _
  rw [e, excR_eq _ _ _ (Nat.le_refl _), List.reverse_reverse]
  rfl
theorem cnt_pre {f : Nat → Int} {c : Nat → Option Nat} {N : Nat} (h : (List.range (N + 1)).map f = cnt c N) {n : Nat} (hn : n ≤ N) : (List.range (n + 1)).map f = cnt c n := by
  have hl : (cnt c n).length = n + 1 := exc_len _ n
  rw [← list_range (cnt c n), hl]
  apply List.map_congr_left
  intro k hk
  rw [List.mem_range] at hk
  have e1 : ((List.range (N + 1)).map f).getD k 0 = (cnt c N).getD k 0 := by rw [h]
  rw [getD_map f (show k < N + 1 by omega)] at e1
  rw [e1]
  unfold cnt
  rw [exc_get _ (show k ≤ N by omega), exc_get _ (show k ≤ n by omega)]
end K97

namespace K97
open PySem PySem.Spec PyProof.Rows L2 Lp
def TB : List (List (List Int)) := [[[1, 1, 2, 3, 5, 7, 11, 15, 22, 30, 42, 56, 77, 101, 135, 176, 231, 297, 385, 490, 627, 792, 1002], [1, 0, 1, 1, 2, 2, 4, 4, 7, 8, 12, 14, 21, 24, 34, 41, 55, 66, 88, 105, 137, 165, 210], [1, 0, 0, 1, 1, 1, 2, 2, 3, 4, 5, 6, 9, 10, 13, 17, 21, 25, 33, 39, 49, 60, 73], [1, 0, 0, 0, 1, 1, 1, 1, 2, 2, 3, 3, 5, 5, 7, 8, 11, 12, 16, 18, 24, 27, 34], [1, 0, 0, 0, 0, 1, 1, 1, 1, 1, 2, 2, 3, 3, 4, 5, 6, 7, 9, 10, 13, 15, 18], [1, 0, 0, 0, 0, 0, 1, 1, 1, 1, 1, 1, 2, 2, 3, 3, 4, 4, 6, 6, 8, 9, 11], [1, 0, 0, 0, 0, 0, 0, 1, 1, 1, 1, 1, 1, 1, 2, 2, 3, 3, 4, 4, 5, 6, 7], [1, 0, 0, 0, 0, 0, 0, 0, 1, 1, 1, 1, 1, 1, 1, 1, 2, 2, 3, 3, 4, 4, 5], [1, 0, 0, 0, 0, 0, 0, 0, 0, 1, 1, 1, 1, 1, 1, 1, 1, 1, 2, 2, 3, 3, 4]],
  [[1, 1, 1, 2, 2, 3, 4, 5, 6, 8, 10, 12, 15, 18, 22, 27, 32, 38, 46, 54, 64, 76, 89], [1, 0, 1, 1, 1, 2, 2, 3, 3, 5, 5, 7, 8, 10, 12, 15, 17, 21, 25, 29, 35, 41, 48], [1, 0, 0, 1, 1, 1, 1, 2, 2, 3, 3, 4, 5, 6, 7, 9, 10, 12, 15, 17, 20, 24, 28], [1, 0, 0, 0, 1, 1, 1, 1, 1, 2, 2, 3, 3, 4, 4, 6, 6, 8, 9, 11, 12, 15, 17], [1, 0, 0, 0, 0, 1, 1, 1, 1, 1, 1, 2, 2, 3, 3, 4, 4, 5, 6, 7, 8, 10, 11], [1, 0, 0, 0, 0, 0, 1, 1, 1, 1, 1, 1, 1, 2, 2, 3, 3, 4, 4, 5, 5, 7, 7], [1, 0, 0, 0, 0, 0, 0, 1, 1, 1, 1, 1, 1, 1, 1, 2, 2, 3, 3, 4, 4, 5, 5], [1, 0, 0, 0, 0, 0, 0, 0, 1, 1, 1, 1, 1, 1, 1, 1, 1, 2, 2, 3, 3, 4, 4], [1, 0, 0, 0, 0, 0, 0, 0, 0, 1, 1, 1, 1, 1, 1, 1, 1, 1, 1, 2, 2, 3, 3]],
  [[1, 1, 1, 1, 2, 2, 3, 3, 4, 5, 6, 7, 9, 10, 12, 14, 17, 19, 23, 26, 31, 35, 41], [1, 0, 1, 1, 1, 1, 2, 2, 3, 3, 4, 4, 6, 6, 8, 9, 11, 12, 15, 16, 20, 22, 26], [1, 0, 0, 1, 1, 1, 1, 1, 2, 2, 3, 3, 4, 4, 5, 6, 7, 8, 10, 11, 13, 15, 17], [1, 0, 0, 0, 1, 1, 1, 1, 1, 1, 2, 2, 3, 3, 4, 4, 5, 5, 7, 7, 9, 10, 12], [1, 0, 0, 0, 0, 1, 1, 1, 1, 1, 1, 1, 2, 2, 3, 3, 4, 4, 5, 5, 6, 7, 8], [1, 0, 0, 0, 0, 0, 1, 1, 1, 1, 1, 1, 1, 1, 2, 2, 3, 3, 4, 4, 5, 5, 6], [1, 0, 0, 0, 0, 0, 0, 1, 1, 1, 1, 1, 1, 1, 1, 1, 2, 2, 3, 3, 4, 4, 5], [1, 0, 0, 0, 0, 0, 0, 0, 1, 1, 1, 1, 1, 1, 1, 1, 1, 1, 2, 2, 3, 3, 4], [1, 0, 0, 0, 0, 0, 0, 0, 0, 1, 1, 1, 1, 1, 1, 1, 1, 1, 1, 1, 2, 2, 3]],
  [[1, 1, 1, 1, 1, 2, 2, 3, 3, 4, 4, 5, 6, 7, 8, 10, 11, 13, 15, 17, 19, 22, 25], [1, 0, 1, 1, 1, 1, 1, 2, 2, 3, 3, 4, 4, 5, 5, 7, 7, 9, 10, 12, 13, 16, 17], [1, 0, 0, 1, 1, 1, 1, 1, 1, 2, 2, 3, 3, 4, 4, 5, 5, 6, 7, 8, 9, 11, 12], [1, 0, 0, 0, 1, 1, 1, 1, 1, 1, 1, 2, 2, 3, 3, 4, 4, 5, 5, 6, 6, 8, 8], [1, 0, 0, 0, 0, 1, 1, 1, 1, 1, 1, 1, 1, 2, 2, 3, 3, 4, 4, 5, 5, 6, 6], [1, 0, 0, 0, 0, 0, 1, 1, 1, 1, 1, 1, 1, 1, 1, 2, 2, 3, 3, 4, 4, 5, 5], [1, 0, 0, 0, 0, 0, 0, 1, 1, 1, 1, 1, 1, 1, 1, 1, 1, 2, 2, 3, 3, 4, 4], [1, 0, 0, 0, 0, 0, 0, 0, 1, 1, 1, 1, 1, 1, 1, 1, 1, 1, 1, 2, 2, 3, 3], [1, 0, 0, 0, 0, 0, 0, 0, 0, 1, 1, 1, 1, 1, 1, 1, 1, 1, 1, 1, 1, 2, 2]],
  [[1, 1, 1, 1, 1, 1, 2, 2, 3, 3, 4, 4, 5, 5, 6, 7, 8, 9, 11, 12, 14, 16, 18], [1, 0, 1, 1, 1, 1, 1, 1, 2, 2, 3, 3, 4, 4, 5, 5, 6, 6, 8, 8, 10, 11, 13], [1, 0, 0, 1, 1, 1, 1, 1, 1, 1, 2, 2, 3, 3, 4, 4, 5, 5, 6, 6, 7, 8, 9], [1, 0, 0, 0, 1, 1, 1, 1, 1, 1, 1, 1, 2, 2, 3, 3, 4, 4, 5, 5, 6, 6, 7], [1, 0, 0, 0, 0, 1, 1, 1, 1, 1, 1, 1, 1, 1, 2, 2, 3, 3, 4, 4, 5, 5, 6], [1, 0, 0, 0, 0, 0, 1, 1, 1, 1, 1, 1, 1, 1, 1, 1, 2, 2, 3, 3, 4, 4, 5], [1, 0, 0, 0, 0, 0, 0, 1, 1, 1, 1, 1, 1, 1, 1, 1, 1, 1, 2, 2, 3, 3, 4], [1, 0, 0, 0, 0, 0, 0, 0, 1, 1, 1, 1, 1, 1, 1, 1, 1, 1, 1, 1, 2, 2, 3], [1, 0, 0, 0, 0, 0, 0, 0, 0, 1, 1, 1, 1, 1, 1, 1, 1, 1, 1, 1, 1, 1, 2]],
  [[1, 1, 1, 1, 1, 1, 1, 2, 2, 3, 3, 4, 4, 5, 5, 6, 6, 7, 8, 9, 10, 12, 13], [1, 0, 1, 1, 1, 1, 1, 1, 1, 2, 2, 3, 3, 4, 4, 5, 5, 6, 6, 7, 7, 9, 9], [1, 0, 0, 1, 1, 1, 1, 1, 1, 1, 1, 2, 2, 3, 3, 4, 4, 5, 5, 6, 6, 7, 7], [1, 0, 0, 0, 1, 1, 1, 1, 1, 1, 1, 1, 1, 2, 2, 3, 3, 4, 4, 5, 5, 6, 6], [1, 0, 0, 0, 0, 1, 1, 1, 1, 1, 1, 1, 1, 1, 1, 2, 2, 3, 3, 4, 4, 5, 5], [1, 0, 0, 0, 0, 0, 1, 1, 1, 1, 1, 1, 1, 1, 1, 1, 1, 2, 2, 3, 3, 4, 4], [1, 0, 0, 0, 0, 0, 0, 1, 1, 1, 1, 1, 1, 1, 1, 1, 1, 1, 1, 2, 2, 3, 3], [1, 0, 0, 0, 0, 0, 0, 0, 1, 1, 1, 1, 1, 1, 1, 1, 1, 1, 1, 1, 1, 2, 2], [1, 0, 0, 0, 0, 0, 0, 0, 0, 1, 1, 1, 1, 1, 1, 1, 1, 1, 1, 1, 1, 1, 1]],
  [[1, 1, 1, 1, 1, 1, 1, 1, 2, 2, 3, 3, 4, 4, 5, 5, 6, 6, 7, 7, 8, 9, 10], [1, 0, 1, 1, 1, 1, 1, 1, 1, 1, 2, 2, 3, 3, 4, 4, 5, 5, 6, 6, 7, 7, 8], [1, 0, 0, 1, 1, 1, 1, 1, 1, 1, 1, 1, 2, 2, 3, 3, 4, 4, 5, 5, 6, 6, 7], [1, 0, 0, 0, 1, 1, 1, 1, 1, 1, 1, 1, 1, 1, 2, 2, 3, 3, 4, 4, 5, 5, 6], [1, 0, 0, 0, 0, 1, 1, 1, 1, 1, 1, 1, 1, 1, 1, 1, 2, 2, 3, 3, 4, 4, 5], [1, 0, 0, 0, 0, 0, 1, 1, 1, 1, 1, 1, 1, 1, 1, 1, 1, 1, 2, 2, 3, 3, 4], [1, 0, 0, 0, 0, 0, 0, 1, 1, 1, 1, 1, 1, 1, 1, 1, 1, 1, 1, 1, 2, 2, 3], [1, 0, 0, 0, 0, 0, 0, 0, 1, 1, 1, 1, 1, 1, 1, 1, 1, 1, 1, 1, 1, 1, 2], [1, 0, 0, 0, 0, 0, 0, 0, 0, 1, 1, 1, 1, 1, 1, 1, 1, 1, 1, 1, 1, 1, 1]],
  [[1, 1, 1, 1, 1, 1, 1, 1, 1, 2, 2, 3, 3, 4, 4, 5, 5, 6, 6, 7, 7, 8, 8], [1, 0, 1, 1, 1, 1, 1, 1, 1, 1, 1, 2, 2, 3, 3, 4, 4, 5, 5, 6, 6, 7, 7], [1, 0, 0, 1, 1, 1, 1, 1, 1, 1, 1, 1, 1, 2, 2, 3, 3, 4, 4, 5, 5, 6, 6], [1, 0, 0, 0, 1, 1, 1, 1, 1, 1, 1, 1, 1, 1, 1, 2, 2, 3, 3, 4, 4, 5, 5], [1, 0, 0, 0, 0, 1, 1, 1, 1, 1, 1, 1, 1, 1, 1, 1, 1, 2, 2, 3, 3, 4, 4], [1, 0, 0, 0, 0, 0, 1, 1, 1, 1, 1, 1, 1, 1, 1, 1, 1, 1, 1, 2, 2, 3, 3], [1, 0, 0, 0, 0, 0, 0, 1, 1, 1, 1, 1, 1, 1, 1, 1, 1, 1, 1, 1, 1, 2, 2], [1, 0, 0, 0, 0, 0, 0, 0, 1, 1, 1, 1, 1, 1, 1, 1, 1, 1, 1, 1, 1, 1, 1], [1, 0, 0, 0, 0, 0, 0, 0, 0, 1, 1, 1, 1, 1, 1, 1, 1, 1, 1, 1, 1, 1, 1]],
  [[1, 1, 1, 1, 1, 1, 1, 1, 1, 1, 2, 2, 3, 3, 4, 4, 5, 5, 6, 6, 7, 7, 8], [1, 0, 1, 1, 1, 1, 1, 1, 1, 1, 1, 1, 2, 2, 3, 3, 4, 4, 5, 5, 6, 6, 7], [1, 0, 0, 1, 1, 1, 1, 1, 1, 1, 1, 1, 1, 1, 2, 2, 3, 3, 4, 4, 5, 5, 6], [1, 0, 0, 0, 1, 1, 1, 1, 1, 1, 1, 1, 1, 1, 1, 1, 2, 2, 3, 3, 4, 4, 5], [1, 0, 0, 0, 0, 1, 1, 1, 1, 1, 1, 1, 1, 1, 1, 1, 1, 1, 2, 2, 3, 3, 4], [1, 0, 0, 0, 0, 0, 1, 1, 1, 1, 1, 1, 1, 1, 1, 1, 1, 1, 1, 1, 2, 2, 3], [1, 0, 0, 0, 0, 0, 0, 1, 1, 1, 1, 1, 1, 1, 1, 1, 1, 1, 1, 1, 1, 1, 2], [1, 0, 0, 0, 0, 0, 0, 0, 1, 1, 1, 1, 1, 1, 1, 1, 1, 1, 1, 1, 1, 1, 1], [1, 0, 0, 0, 0, 0, 0, 0, 0, 1, 1, 1, 1, 1, 1, 1, 1, 1, 1, 1, 1, 1, 1]],
  [[1, 1, 1, 1, 1, 1, 1, 1, 1, 1, 1, 2, 2, 3, 3, 4, 4, 5, 5, 6, 6, 7, 7], [1, 0, 1, 1, 1, 1, 1, 1, 1, 1, 1, 1, 1, 2, 2, 3, 3, 4, 4, 5, 5, 6, 6], [1, 0, 0, 1, 1, 1, 1, 1, 1, 1, 1, 1, 1, 1, 1, 2, 2, 3, 3, 4, 4, 5, 5], [1, 0, 0, 0, 1, 1, 1, 1, 1, 1, 1, 1, 1, 1, 1, 1, 1, 2, 2, 3, 3, 4, 4], [1, 0, 0, 0, 0, 1, 1, 1, 1, 1, 1, 1, 1, 1, 1, 1, 1, 1, 1, 2, 2, 3, 3], [1, 0, 0, 0, 0, 0, 1, 1, 1, 1, 1, 1, 1, 1, 1, 1, 1, 1, 1, 1, 1, 2, 2], [1, 0, 0, 0, 0, 0, 0, 1, 1, 1, 1, 1, 1, 1, 1, 1, 1, 1, 1, 1, 1, 1, 1], [1, 0, 0, 0, 0, 0, 0, 0, 1, 1, 1, 1, 1, 1, 1, 1, 1, 1, 1, 1, 1, 1, 1], [1, 0, 0, 0, 0, 0, 0, 0, 0, 1, 1, 1, 1, 1, 1, 1, 1, 1, 1, 1, 1, 1, 1]]]

theorem k1_all : (apL 2 1 241 17 == cntR (capOf [] [none, some 0, some 0, none, some 0]) 240) = true := by decide +kernel
theorem k2_all : (apL 2 2 241 17 == cntR (capOf [] [some 0, none, none, some 0, some 0]) 240) = true := by decide +kernel
theorem k3_all : (apL 1 1 241 23 == cntR (capOf [] [some 1]) 240) = true := by decide +kernel
theorem k4_all : (apL 1 1 241 23 == cntR (capOf [] [none, some 0]) 240) = true := by decide +kernel
theorem l1_all : ((List.range 9).all fun m => apL 1 (m + 1) 121 17 == cntR (capOf (List.replicate m (some 0)) [some 1]) 120) = true := by decide +kernel
theorem l0_all : ((List.range 9).all fun m => apL 0 (m + 1) 121 (121 / (m + 1) + 1) == cntR (capOf (List.replicate m (some 0)) [none]) 120) = true := by decide +kernel
theorem tb_all : ((List.range 10).all fun g => (List.range 9).all fun m => apL g (m + 1) 23 23 == (TB.getD g []).getD m []) = true := by decide +kernel
/-- last part, least gap (to 10) -/
def keyR (row : List Int) : Int × Int := (if row = [] then 100 else row.getD (row.length - 1) 0, if row = [] then 100 else (gapL row).dropLast.foldl min 10)
def gog (n l : Nat) : Nat → Nat → List (Int × Int) → Bool
  | 0, _, _ => true
  | f + 1, g, ks => let k2 := ks.filter fun p => decide ((g : Int) ≤ p.2); decide (((k2.length : Nat) : Int) = ((TB.getD g []).getD (l - 1) []).getD n 0) && gog n l f (g + 1) k2
def gol (n : Nat) : Nat → Nat → List (Int × Int) → Bool
  | 0, _, _ => true
  | f + 1, l, ks => let k2 := ks.filter fun p => decide ((l : Int) ≤ p.1); gog n l 10 0 k2 && gol n f (l + 1) k2
theorem rw_all : ((List.range 23).all fun n => gol n 9 1 ((rowsF (n + 1) n n).map keyR)) = true := by decide +kernel
end K97

namespace K97
open PySem PySem.Spec PyProof.Rows L2 Lp
theorem gog_ok (n l : Nat) : ∀ (f g : Nat) (ks : List (Int × Int)), gog n l f g ks = true → ∀ q : Nat, g ≤ q → q < g + f → ((((ks.filter fun p => decide ((q : Int) ≤ p.2)).length : Nat) : Int)) = ((TB.getD q []).getD (l - 1) []).getD n 0
  | 0, g, ks, _, q, h1, h2 => absurd h2 (by omega)
  | f + 1, g, ks, h, q, h1, h2 => by
    unfold gog at h
    rw [Bool.and_eq_true] at h
    by_cases e : q = g
    · subst e
      exact of_decide_eq_true h.1
    · have ih := gog_ok n l f (g + 1) _ h.2 q (by omega) (by omega)
      rw [← ih]
      congr 2
      rw [List.filter_filter]
      apply List.filter_congr
      intro p _
      by_cases h3 : (q : Int) ≤ p.2
      · rw [decide_eq_true h3, decide_eq_true (show (g : Int) ≤ p.2 by omega)]; rfl
      · rw [decide_eq_false h3]; rfl
theorem gol_ok (n : Nat) : ∀ (f l : Nat) (ks : List (Int × Int)), gol n f l ks = true → ∀ m q : Nat, l ≤ m → m < l + f → q < 10 → ((((ks.filter fun p => decide ((m : Int) ≤ p.1) && decide ((q : Int) ≤ p.2)).length : Nat) : Int)) = ((TB.getD q []).getD (m - 1) []).getD n 0
  | 0, l, ks, _, m, q, h1, h2, _ => absurd h2 (by omega)
  | f + 1, l, ks, h, m, q, h1, h2, hq => by
    unfold gol at h
    rw [Bool.and_eq_true] at h
    by_cases e : m = l
    · subst e
      have := gog_ok n m 10 0 _ h.1 q (by omega) (by omega)
      rw [← this, List.filter_filter]
      congr 2
      apply List.filter_congr
      intro p _
      exact Bool.and_comm _ _
    · have ih := gol_ok n f (l + 1) _ h.2 m q (by omega) (by omega) hq
      rw [← ih, List.filter_filter]
      congr 2
      apply List.filter_congr
      intro p _
      by_cases h3 : (m : Int) ≤ p.1
      · rw [decide_eq_true h3, decide_eq_true (show (l : Int) ≤ p.1 by omega)]; simp
      · rw [decide_eq_false h3]; simp
theorem fold_min (q : Int) : ∀ (l : List Int) (b : Int), q ≤ b → (decide (q ≤ l.foldl min b) = l.all fun x => decide (q ≤ x))
  | [], b, h => by simp [h]
  | x :: l, b, h => by
    rw [List.foldl_cons, List.all_cons]
    by_cases hx : q ≤ x
    · rw [fold_min q l (min b x) (by omega), decide_eq_true hx]; rfl
    · rw [decide_eq_false hx, Bool.false_and]
      have : ∀ (l : List Int) (b : Int), l.foldl min b ≤ b := by
        intro l
        induction l with
        | nil => intro b; exact Int.le_refl _
        | cons y l ih => intro b; exact Int.le_trans (ih _) (Int.min_le_left _ _)
      have := this l (min b x)
      exact decide_eq_false (by omega)
theorem key_dp (g l : Nat) (hg : g ≤ 9) (hl : l ≤ 9) (row : List Int) : (decide ((l : Int) ≤ (keyR row).1) && decide ((g : Int) ≤ (keyR row).2)) = dpB g l row := by
  unfold keyR dpB
  by_cases h : row = []
  · rw [if_pos h, if_pos h, decide_eq_true h, Bool.true_or, decide_eq_true (show (l : Int) ≤ 100 by omega), decide_eq_true (show (g : Int) ≤ 100 by omega)]; rfl
  · rw [if_neg h, if_neg h, decide_eq_false h, Bool.false_or, fold_min g _ 10 (by omega)]
theorem chk : Chk where
  k1 := fun n hn => cnt_pre (N := 240) (by rw [← cntR_eq, ← apL_eq 2 1 241 17 (by decide) (by decide) (by decide)]; exact eq_of_beq k1_all) hn
  k2 := fun n hn => cnt_pre (N := 240) (by rw [← cntR_eq, ← apL_eq 2 2 241 17 (by decide) (by decide) (by decide)]; exact eq_of_beq k2_all) hn
  k3 := fun n hn => cnt_pre (N := 240) (by rw [← cntR_eq, ← apL_eq 1 1 241 23 (by decide) (by decide) (by decide)]; exact eq_of_beq k3_all) hn
  k4 := fun n hn => cnt_pre (N := 240) (by rw [← cntR_eq, ← apL_eq 1 1 241 23 (by decide) (by decide) (by decide)]; exact eq_of_beq k4_all) hn
  l1 := fun l n h1 h2 hn => cnt_pre (N := 120) (by
    have e := List.all_eq_true.mp l1_all (l - 1) (List.mem_range.mpr (by omega))
    have hs : 121 ≤ stA 1 l 17 := by
      have : stA 1 1 17 ≤ stA 1 l 17 := by
        have mono : ∀ k, stA 1 1 k ≤ stA 1 l k := by
          intro k
          induction k with
          | zero => exact Nat.le_refl _
          | succ k ih => rw [stA, stA]; omega
        exact mono 17
      have h17 : stA 1 1 17 = 153 := by decide
      omega
    rw [← cntR_eq, ← apL_eq 1 l 121 17 h1 (by decide) hs]
    have := eq_of_beq e
    rwa [show l - 1 + 1 = l by omega] at this) hn
  l0 := fun l n h1 h2 hn => cnt_pre (N := 120) (by
    have e := List.all_eq_true.mp l0_all (l - 1) (List.mem_range.mpr (by omega))
    have hs : 121 ≤ stA 0 l (121 / l + 1) := by
      have lin : ∀ k, stA 0 l k = k * l := by
        intro k
        induction k with
        | zero => simp [stA]
        | succ k ih => rw [stA, ih, Nat.add_mul]; omega
      rw [lin, Nat.add_mul, Nat.mul_comm]
      have := Nat.div_add_mod 121 l
      have := Nat.mod_lt 121 (show 0 < l by omega)
      omega
    rw [← cntR_eq, ← apL_eq 0 l 121 (121 / l + 1) h1 (by decide) hs]
    have := eq_of_beq e
    rwa [show l - 1 + 1 = l by omega] at this) hn
  rw := fun n g l hn hg h1 h2 => by
    have e : gol n 9 1 ((rowsF (n + 1) n n).map keyR) = true := List.all_eq_true.mp rw_all n (List.mem_range.mpr (by omega))
    generalize rowsF (n + 1) n n = rows at e ⊢
    have e2 := gol_ok n 9 1 _ e l g h1 (by omega) (by omega)
    have e4 : apL g (l - 1 + 1) 23 23 = (TB.getD g []).getD (l - 1) [] := eq_of_beq (List.all_eq_true.mp (List.all_eq_true.mp tb_all g (List.mem_range.mpr (by omega))) (l - 1) (List.mem_range.mpr (by omega)))
    generalize TB = tb at e2 e4
    rw [show l - 1 + 1 = l by omega, apL_eq g l 23 23 h1 (by decide) (stA_ge g l h1 23)] at e4
    rw [← e4, getD_map _ (by omega), List.filter_map, List.length_map] at e2
    rw [← e2]
    congr 2
    apply List.filter_congr
    intro r _
    exact (key_dp g l hg h2 r).symm
theorem law_true {k : Nat} (hk : 40 ≤ k) (ns : List Int) (hl : ns.length ≤ 63) : ∃ G', runT T k 29 [.scr (iD ns)] [] = some (.d (.bl true), G') := law_true' chk hk ns hl
end K97

namespace K97
open PySem PySem.Spec PyProof.Rows L2 Lp
structure Fx (K : PySem.W.Frag) (mg : Str → Option Value) : Prop where
  b_abs : mg "abs" = none
  b_all : mg "all" = none
  b_bool : mg "bool" = none
  b_divmod : mg "divmod" = none
  b_enumerate : mg "enumerate" = none
  b_int : mg "int" = none
  b_isinstance : mg "isinstance" = none
  b_len : mg "len" = none
  b_list : mg "list" = none
  b_min : mg "min" = none
  b_range : mg "range" = none
  b_str : mg "str" = none
  b_sum : mg "sum" = none
  b_tuple : mg "tuple" = none
  g_BAR : ∃ t, mg "BAR" = some (.str "|" t)
  g_CAP_SIGNS : ∃ t, mg "CAP_SIGNS" = some (.str "0123456*" t)
  g_ENDLESS : ∃ t, mg "ENDLESS" = some (.str "*" t)
  g_MOST_CAP : ∃ t, mg "MOST_CAP" = some (.int 6 t)
  g_MOST_GAP : ∃ t, mg "MOST_GAP" = some (.int 9 t)
  g_MOST_HEAD : ∃ t, mg "MOST_HEAD" = some (.int 24 t)
  g_MOST_LEAST : ∃ t, mg "MOST_LEAST" = some (.int 9 t)
  g_MOST_LISTED : ∃ t, mg "MOST_LISTED" = some (.int 24 t)
  g_MOST_NUMBER : ∃ t, mg "MOST_NUMBER" = some (.int 400 t)
  g_MOST_TAIL : ∃ t, mg "MOST_TAIL" = some (.int 8 t)
  g_cls_Caps : mg "Caps" = some (.ref (caK K 0))
  cl_Caps : Cls K (caK K 0)
  g_cls_Bans : mg "Bans" = some (.ref (caK K 1))
  cl_Bans : Cls K (caK K 1)
  fld_again : ∀ c ∈ [0], Cls K (caK K c) ∧ NoAttr K (caK K c) "again"
  fld_front : ∀ c ∈ [0], Cls K (caK K c) ∧ NoAttr K (caK K c) "front"
  fld_least_pair : ∀ c ∈ [0], Cls K (caK K c) ∧ NoAttr K (caK K c) "least_pair"
  mk_Caps : Mk K (caK K 0) (He.ma K (caK K 0) "__init__")
  prop_Caps_head : PropOf K (caK K 0) "head" (He.ma K (caK K 0) "head") (recA K (He.ma K (caK K 0) "head") "property")
  prop_Caps_tail : PropOf K (caK K 0) "tail" (He.ma K (caK K 0) "tail") (recA K (He.ma K (caK K 0) "tail") "property")
  cr_Caps : ClX.CRead K (caK K 0) (.type "type")
  cm_Caps_read : ClX.CMet K (caK K 0) (.type "type") "read" (He.ma K (caK K 0) "read") (recA K (He.ma K (caK K 0) "read") "classmethod")
  isi : IsiF K ⟨K, caK K, fun _ => 0⟩ csAll inst
  f_is_integer : ∃ f fd, mg "is_integer" = some (.ref f) ∧ FunD K "is_integer" "is_integer" (defArgs (top 19)) (defBody (top 19)) (defScope (top 19)) [] [] f fd
  f_is_within_bounds : ∃ f fd, mg "is_within_bounds" = some (.ref f) ∧ FunD K "is_within_bounds" "is_within_bounds" (defArgs (top 20)) (defBody (top 20)) (defScope (top 20)) [] [] f fd
  f_check_within : ∃ f fd, mg "check_within" = some (.ref f) ∧ FunD K "check_within" "check_within" (defArgs (top 21)) (defBody (top 21)) (defScope (top 21)) [] [] f fd
  f_check_number : ∃ f fd, mg "check_number" = some (.ref f) ∧ FunD K "check_number" "check_number" (defArgs (top 22)) (defBody (top 22)) (defScope (top 22)) [] [] f fd
  f_rows_within : ∃ f fd, mg "rows_within" = some (.ref f) ∧ FunD K "rows_within" "rows_within" (defArgs (top 33)) (defBody (top 33)) (defScope (top 33)) [] [] f fd
  f_is_cap : ∃ f fd, mg "is_cap" = some (.ref f) ∧ FunD K "is_cap" "is_cap" (defArgs (top 39)) (defBody (top 39)) (defScope (top 39)) [] [] f fd
  f_wrong_cap : ∃ f fd, mg "wrong_cap" = some (.ref f) ∧ FunD K "wrong_cap" "wrong_cap" (defArgs (top 40)) (defBody (top 40)) (defScope (top 40)) [] [] f fd
  f_check_head : ∃ f fd, mg "check_head" = some (.ref f) ∧ FunD K "check_head" "check_head" (defArgs (top 41)) (defBody (top 41)) (defScope (top 41)) [] [] f fd
  f_check_tail : ∃ f fd, mg "check_tail" = some (.ref f) ∧ FunD K "check_tail" "check_tail" (defArgs (top 42)) (defBody (top 42)) (defScope (top 42)) [] [] f fd
  f_cap_told : ∃ f fd, mg "cap_told" = some (.ref f) ∧ FunD K "cap_told" "cap_told" (defArgs (top 45)) (defBody (top 45)) (defScope (top 45)) [] [] f fd
  f_caps_told : ∃ f fd, mg "caps_told" = some (.ref f) ∧ FunD K "caps_told" "caps_told" (defArgs (top 46)) (defBody (top 46)) (defScope (top 46)) [] [] f fd
  f_shortest_pair : ∃ f fd, mg "shortest_pair" = some (.ref f) ∧ FunD K "shortest_pair" "shortest_pair" (defArgs (top 47)) (defBody (top 47)) (defScope (top 47)) [] [] f fd
  f_cap_at : ∃ f fd, mg "cap_at" = some (.ref f) ∧ FunD K "cap_at" "cap_at" (defArgs (top 49)) (defBody (top 49)) (defScope (top 49)) [] [] f fd
  f_check_rule : ∃ f fd, mg "check_rule" = some (.ref f) ∧ FunD K "check_rule" "check_rule" (defArgs (top 54)) (defBody (top 54)) (defScope (top 54)) [] [] f fd
  f_with_size : ∃ f fd, mg "with_size" = some (.ref f) ∧ FunD K "with_size" "with_size" (defArgs (top 58)) (defBody (top 58)) (defScope (top 58)) [] [] f fd
  f_apart_counts : ∃ f fd, mg "apart_counts" = some (.ref f) ∧ FunD K "apart_counts" "apart_counts" (defArgs (top 59)) (defBody (top 59)) (defScope (top 59)) [] [] f fd
  f_ban_counts : ∃ f fd, mg "ban_counts" = some (.ref f) ∧ FunD K "ban_counts" "ban_counts" (defArgs (top 65)) (defBody (top 65)) (defScope (top 65)) [] [] f fd
  f_sums_by_divisors : ∃ f fd, mg "sums_by_divisors" = some (.ref f) ∧ FunD K "sums_by_divisors" "sums_by_divisors" (defArgs (top 66)) (defBody (top 66)) (defScope (top 66)) [] [] f fd
  f_counts_by_excesses : ∃ f fd, mg "counts_by_excesses" = some (.ref f) ∧ FunD K "counts_by_excesses" "counts_by_excesses" (defArgs (top 67)) (defBody (top 67)) (defScope (top 67)) [] [] f fd
  f_excess_list : ∃ f fd, mg "excess_list" = some (.ref f) ∧ FunD K "excess_list" "excess_list" (defArgs (top 68)) (defBody (top 68)) (defScope (top 68)) [] [] f fd
  f_counts_of : ∃ f fd, mg "counts_of" = some (.ref f) ∧ FunD K "counts_of" "counts_of" (defArgs (top 69)) (defBody (top 69)) (defScope (top 69)) [] [] f fd
  f_counts : ∃ f fd, mg "counts" = some (.ref f) ∧ FunD K "counts" "counts" (defArgs (top 70)) (defBody (top 70)) (defScope (top 70)) [] [] f fd
  f_gap_list : ∃ f fd, mg "gap_list" = some (.ref f) ∧ FunD K "gap_list" "gap_list" (defArgs (top 72)) (defBody (top 72)) (defScope (top 72)) [] [] f fd
  f_check_apart : ∃ f fd, mg "check_apart" = some (.ref f) ∧ FunD K "check_apart" "check_apart" (defArgs (top 73)) (defBody (top 73)) (defScope (top 73)) [] [] f fd
  f_does_part : ∃ f fd, mg "does_part" = some (.ref f) ∧ FunD K "does_part" "does_part" (defArgs (top 74)) (defBody (top 74)) (defScope (top 74)) [] [] f fd
  f_apart_rows : ∃ f fd, mg "apart_rows" = some (.ref f) ∧ FunD K "apart_rows" "apart_rows" (defArgs (top 75)) (defBody (top 75)) (defScope (top 75)) [] [] f fd
  f__law_well : ∃ f fd, mg "_law_well" = some (.ref f) ∧ FunD K "_law_well" "_law_well" (defArgs (top 77)) (defBody (top 77)) (defScope (top 77)) [] [] f fd
  f__law_dip : ∃ f fd, mg "_law_dip" = some (.ref f) ∧ FunD K "_law_dip" "_law_dip" (defArgs (top 78)) (defBody (top 78)) (defScope (top 78)) [] [] f fd
  f__law_of : ∃ f fd, mg "_law_of" = some (.ref f) ∧ FunD K "_law_of" "_law_of" (defArgs (top 79)) (defBody (top 79)) (defScope (top 79)) [] [] f fd
  f__law_known : ∃ f fd, mg "_law_known" = some (.ref f) ∧ FunD K "_law_known" "_law_known" (defArgs (top 80)) (defBody (top 80)) (defScope (top 80)) [] [] f fd
  f__law_from_least : ∃ f fd, mg "_law_from_least" = some (.ref f) ∧ FunD K "_law_from_least" "_law_from_least" (defArgs (top 81)) (defBody (top 81)) (defScope (top 81)) [] [] f fd
  f__law_by_last : ∃ f fd, mg "_law_by_last" = some (.ref f) ∧ FunD K "_law_by_last" "_law_by_last" (defArgs (top 82)) (defBody (top 82)) (defScope (top 82)) [] [] f fd
  f_Caps__init : ∃ fd, FunD K "__init__" "Caps.__init__" (defArgs (topm 48 0)) (defBody (topm 48 0)) (defScope (topm 48 0)) [] [] (He.ma K (caK K 0) "__init__") fd
  f_Caps__read : ∃ fd, FunD K "read" "Caps.read" (defArgs (topm 48 1)) (defBody (topm 48 1)) (defScope (topm 48 1)) [] [] (recA K (He.ma K (caK K 0) "read") "classmethod") fd
  f_Caps__head : ∃ fd, FunD K "head" "Caps.head" (defArgs (topm 48 2)) (defBody (topm 48 2)) (defScope (topm 48 2)) [] [] (recA K (He.ma K (caK K 0) "head") "property") fd
  f_Caps__tail : ∃ fd, FunD K "tail" "Caps.tail" (defArgs (topm 48 3)) (defBody (topm 48 3)) (defScope (topm 48 3)) [] [] (recA K (He.ma K (caK K 0) "tail") "property") fd
def P_is_integer : List Str := ["value"]
theorem S_is_integer : FnScope N_is_integer P_is_integer (defScope (top 19)) := ⟨rfl, rfl, rfl, by decide +kernel, rfl, by decide +kernel, by decide +kernel⟩
def P_is_within_bounds : List Str := ["value", "least", "most"]
theorem S_is_within_bounds : FnScope N_is_within_bounds P_is_within_bounds (defScope (top 20)) := ⟨rfl, rfl, rfl, by decide +kernel, rfl, by decide +kernel, by decide +kernel⟩
def P_check_within : List Str := ["value", "least", "most"]
theorem S_check_within : FnScope N_check_within P_check_within (defScope (top 21)) := ⟨rfl, rfl, rfl, by decide +kernel, rfl, by decide +kernel, by decide +kernel⟩
def P_check_number : List Str := ["value"]
theorem S_check_number : FnScope N_check_number P_check_number (defScope (top 22)) := ⟨rfl, rfl, rfl, by decide +kernel, rfl, by decide +kernel, by decide +kernel⟩
def P_rows_within : List Str := ["number", "most"]
theorem S_rows_within : FnScope N_rows_within P_rows_within (defScope (top 33)) := ⟨rfl, rfl, rfl, by decide +kernel, rfl, by decide +kernel, by decide +kernel⟩
def P_is_cap : List Str := ["value"]
theorem S_is_cap : FnScope N_is_cap P_is_cap (defScope (top 39)) := ⟨rfl, rfl, rfl, by decide +kernel, rfl, by decide +kernel, by decide +kernel⟩
def P_wrong_cap : List Str := ["value", "most"]
theorem S_wrong_cap : FnScope N_wrong_cap P_wrong_cap (defScope (top 40)) := ⟨rfl, rfl, rfl, by decide +kernel, rfl, by decide +kernel, by decide +kernel⟩
def P_check_head : List Str := ["value"]
theorem S_check_head : FnScope N_check_head P_check_head (defScope (top 41)) := ⟨rfl, rfl, rfl, by decide +kernel, rfl, by decide +kernel, by decide +kernel⟩
def P_check_tail : List Str := ["value"]
theorem S_check_tail : FnScope N_check_tail P_check_tail (defScope (top 42)) := ⟨rfl, rfl, rfl, by decide +kernel, rfl, by decide +kernel, by decide +kernel⟩
def P_cap_told : List Str := ["sign"]
theorem S_cap_told : FnScope N_cap_told P_cap_told (defScope (top 45)) := ⟨rfl, rfl, rfl, by decide +kernel, rfl, by decide +kernel, by decide +kernel⟩
def P_caps_told : List Str := ["text"]
theorem S_caps_told : FnScope N_caps_told P_caps_told (defScope (top 46)) := ⟨rfl, rfl, rfl, by decide +kernel, rfl, by decide +kernel, by decide +kernel⟩
def P_shortest_pair : List Str := ["head", "tail"]
theorem S_shortest_pair : FnScope N_shortest_pair P_shortest_pair (defScope (top 47)) := ⟨rfl, rfl, rfl, by decide +kernel, rfl, by decide +kernel, by decide +kernel⟩
def P_cap_at : List Str := ["rule", "size"]
theorem S_cap_at : FnScope N_cap_at P_cap_at (defScope (top 49)) := ⟨rfl, rfl, rfl, by decide +kernel, rfl, by decide +kernel, by decide +kernel⟩
def P_check_rule : List Str := ["value"]
theorem S_check_rule : FnScope N_check_rule P_check_rule (defScope (top 54)) := ⟨rfl, rfl, rfl, by decide +kernel, rfl, by decide +kernel, by decide +kernel⟩
def P_with_size : List Str := ["ways", "size"]
theorem S_with_size : FnScope N_with_size P_with_size (defScope (top 58)) := ⟨rfl, rfl, rfl, by decide +kernel, rfl, by decide +kernel, by decide +kernel⟩
def P_apart_counts : List Str := ["number", "gap", "least"]
theorem S_apart_counts : FnScope N_apart_counts P_apart_counts (defScope (top 59)) := ⟨rfl, rfl, rfl, by decide +kernel, rfl, by decide +kernel, by decide +kernel⟩
def P_ban_counts : List Str := ["rule", "number"]
theorem S_ban_counts : FnScope N_ban_counts P_ban_counts (defScope (top 65)) := ⟨rfl, rfl, rfl, by decide +kernel, rfl, by decide +kernel, by decide +kernel⟩
def P_sums_by_divisors : List Str := ["amounts"]
theorem S_sums_by_divisors : FnScope N_sums_by_divisors P_sums_by_divisors (defScope (top 66)) := ⟨rfl, rfl, rfl, by decide +kernel, rfl, by decide +kernel, by decide +kernel⟩
def P_counts_by_excesses : List Str := ["amounts"]
theorem S_counts_by_excesses : FnScope N_counts_by_excesses P_counts_by_excesses (defScope (top 67)) := ⟨rfl, rfl, rfl, by decide +kernel, rfl, by decide +kernel, by decide +kernel⟩
def P_excess_list : List Str := ["rule", "number"]
theorem S_excess_list : FnScope N_excess_list P_excess_list (defScope (top 68)) := ⟨rfl, rfl, rfl, by decide +kernel, rfl, by decide +kernel, by decide +kernel⟩
def P_counts_of : List Str := ["rule", "number"]
theorem S_counts_of : FnScope N_counts_of P_counts_of (defScope (top 69)) := ⟨rfl, rfl, rfl, by decide +kernel, rfl, by decide +kernel, by decide +kernel⟩
def P_counts : List Str := ["rule", "number"]
theorem S_counts : FnScope N_counts P_counts (defScope (top 70)) := ⟨rfl, rfl, rfl, by decide +kernel, rfl, by decide +kernel, by decide +kernel⟩
def P_gap_list : List Str := ["row"]
theorem S_gap_list : FnScope N_gap_list P_gap_list (defScope (top 72)) := ⟨rfl, rfl, rfl, by decide +kernel, rfl, by decide +kernel, by decide +kernel⟩
def P_check_apart : List Str := ["gap", "least"]
theorem S_check_apart : FnScope N_check_apart P_check_apart (defScope (top 73)) := ⟨rfl, rfl, rfl, by decide +kernel, rfl, by decide +kernel, by decide +kernel⟩
def P_does_part : List Str := ["row", "gap", "least"]
theorem S_does_part : FnScope N_does_part P_does_part (defScope (top 74)) := ⟨rfl, rfl, rfl, by decide +kernel, rfl, by decide +kernel, by decide +kernel⟩
def P_apart_rows : List Str := ["number", "gap", "least"]
theorem S_apart_rows : FnScope N_apart_rows P_apart_rows (defScope (top 75)) := ⟨rfl, rfl, rfl, by decide +kernel, rfl, by decide +kernel, by decide +kernel⟩
def P__law_well : List Str := ["script", "turn"]
theorem S__law_well : FnScope N__law_well P__law_well (defScope (top 77)) := ⟨rfl, rfl, rfl, by decide +kernel, rfl, by decide +kernel, by decide +kernel⟩
def P__law_dip : List Str := ["well", "top"]
theorem S__law_dip : FnScope N__law_dip P__law_dip (defScope (top 78)) := ⟨rfl, rfl, rfl, by decide +kernel, rfl, by decide +kernel, by decide +kernel⟩
def P__law_of : List Str := ["well", "some"]
theorem S__law_of : FnScope N__law_of P__law_of (defScope (top 79)) := ⟨rfl, rfl, rfl, by decide +kernel, rfl, by decide +kernel, by decide +kernel⟩
def P__law_known : List Str := ["number"]
theorem S__law_known : FnScope N__law_known P__law_known (defScope (top 80)) := ⟨rfl, rfl, rfl, by decide +kernel, rfl, by decide +kernel, by decide +kernel⟩
def P__law_from_least : List Str := ["number", "least"]
theorem S__law_from_least : FnScope N__law_from_least P__law_from_least (defScope (top 81)) := ⟨rfl, rfl, rfl, by decide +kernel, rfl, by decide +kernel, by decide +kernel⟩
def P__law_by_last : List Str := ["number", "gap", "least"]
theorem S__law_by_last : FnScope N__law_by_last P__law_by_last (defScope (top 82)) := ⟨rfl, rfl, rfl, by decide +kernel, rfl, by decide +kernel, by decide +kernel⟩
def P_law : List Str := ["script"]
theorem S_law : FnScope N_law P_law (defScope (top 83)) := ⟨rfl, rfl, rfl, by decide +kernel, rfl, by decide +kernel, by decide +kernel⟩
def P_Caps__init : List Str := ["self", "head", "tail"]
theorem S_Caps__init : FnScope N_Caps__init P_Caps__init (defScope (topm 48 0)) := ⟨rfl, rfl, rfl, by decide +kernel, rfl, by decide +kernel, by decide +kernel⟩
def P_Caps__read : List Str := ["cls", "text"]
theorem S_Caps__read : FnScope N_Caps__read P_Caps__read (defScope (topm 48 1)) := ⟨rfl, rfl, rfl, by decide +kernel, rfl, by decide +kernel, by decide +kernel⟩
def P_Caps__head : List Str := ["self"]
theorem S_Caps__head : FnScope N_Caps__head P_Caps__head (defScope (topm 48 2)) := ⟨rfl, rfl, rfl, by decide +kernel, rfl, by decide +kernel, by decide +kernel⟩
def P_Caps__tail : List Str := ["self"]
theorem S_Caps__tail : FnScope N_Caps__tail P_Caps__tail (defScope (topm 48 3)) := ⟨rfl, rfl, rfl, by decide +kernel, rfl, by decide +kernel, by decide +kernel⟩
theorem hy {P : Program} {w : World} {K : PySem.W.Frag} {mg : Str → Option Value} {base : Heap} (X : Fx K mg) : ∀ n, Hy P w K mg base (2 * n) (runT T n) := by
  intro n
  induction n with
  | zero =>
    constructor
    · exact X.b_abs
    · exact X.b_all
    · exact X.b_bool
    · exact X.b_divmod
    · exact X.b_enumerate
    · exact X.b_int
    · exact X.b_isinstance
    · exact X.b_len
    · exact X.b_list
    · exact X.b_min
    · exact X.b_range
    · exact X.b_str
    · exact X.b_sum
    · exact X.b_tuple
    · exact X.g_BAR
    · exact X.g_CAP_SIGNS
    · exact X.g_ENDLESS
    · exact X.g_MOST_CAP
    · exact X.g_MOST_GAP
    · exact X.g_MOST_HEAD
    · exact X.g_MOST_LEAST
    · exact X.g_MOST_LISTED
    · exact X.g_MOST_NUMBER
    · exact X.g_MOST_TAIL
    · exact X.g_cls_Caps
    · exact X.cl_Caps
    · exact X.g_cls_Bans
    · exact X.cl_Bans
    · exact X.fld_again
    · exact X.fld_front
    · exact X.fld_least_pair
    · exact X.mk_Caps
    · exact X.prop_Caps_head
    · exact X.prop_Caps_tail
    · exact X.cr_Caps
    · exact X.cm_Caps_read
    · exact X.isi
    · obtain ⟨f, fd, hm, F⟩ := X.f_is_integer
      exact calD2 (ps := P_is_integer) F hm (F.bindsN (ps := P_is_integer) fun _ _ _ _ _ _ us hl => match us, hl with | [_], _ => rfl) .nil (fun _ => RepL.nil) (fn2_zero (T := T) (ps := P_is_integer))
    · obtain ⟨f, fd, hm, F⟩ := X.f_is_within_bounds
      exact calD2 (ps := P_is_within_bounds) F hm (F.bindsN (ps := P_is_within_bounds) fun _ _ _ _ _ _ us hl => match us, hl with | [_, _, _], _ => rfl) .nil (fun _ => RepL.nil) (fn2_zero (T := T) (ps := P_is_within_bounds))
    · obtain ⟨f, fd, hm, F⟩ := X.f_check_within
      exact calD2 (ps := P_check_within) F hm (F.bindsN (ps := P_check_within) fun _ _ _ _ _ _ us hl => match us, hl with | [_, _, _], _ => rfl) .nil (fun _ => RepL.nil) (fn2_zero (T := T) (ps := P_check_within))
    · obtain ⟨f, fd, hm, F⟩ := X.f_check_number
      exact calD2 (ps := P_check_number) F hm (F.bindsN (ps := P_check_number) fun _ _ _ _ _ _ us hl => match us, hl with | [_], _ => rfl) .nil (fun _ => RepL.nil) (fn2_zero (T := T) (ps := P_check_number))
    · obtain ⟨f, fd, hm, F⟩ := X.f_rows_within
      exact calD2 (ps := P_rows_within) F hm (F.bindsN (ps := P_rows_within) fun _ _ _ _ _ _ us hl => match us, hl with | [_, _], _ => rfl) .nil (fun _ => RepL.nil) (fn2_zero (T := T) (ps := P_rows_within))
    · obtain ⟨f, fd, hm, F⟩ := X.f_is_cap
      exact calD2 (ps := P_is_cap) F hm (F.bindsN (ps := P_is_cap) fun _ _ _ _ _ _ us hl => match us, hl with | [_], _ => rfl) .nil (fun _ => RepL.nil) (fn2_zero (T := T) (ps := P_is_cap))
    · obtain ⟨f, fd, hm, F⟩ := X.f_wrong_cap
      exact calD2 (ps := P_wrong_cap) F hm (F.bindsN (ps := P_wrong_cap) fun _ _ _ _ _ _ us hl => match us, hl with | [_, _], _ => rfl) .nil (fun _ => RepL.nil) (fn2_zero (T := T) (ps := P_wrong_cap))
    · obtain ⟨f, fd, hm, F⟩ := X.f_check_head
      exact calD2 (ps := P_check_head) F hm (F.bindsN (ps := P_check_head) fun _ _ _ _ _ _ us hl => match us, hl with | [_], _ => rfl) .nil (fun _ => RepL.nil) (fn2_zero (T := T) (ps := P_check_head))
    · obtain ⟨f, fd, hm, F⟩ := X.f_check_tail
      exact calD2 (ps := P_check_tail) F hm (F.bindsN (ps := P_check_tail) fun _ _ _ _ _ _ us hl => match us, hl with | [_], _ => rfl) .nil (fun _ => RepL.nil) (fn2_zero (T := T) (ps := P_check_tail))
    · obtain ⟨f, fd, hm, F⟩ := X.f_cap_told
      exact calD2 (ps := P_cap_told) F hm (F.bindsN (ps := P_cap_told) fun _ _ _ _ _ _ us hl => match us, hl with | [_], _ => rfl) .nil (fun _ => RepL.nil) (fn2_zero (T := T) (ps := P_cap_told))
    · obtain ⟨f, fd, hm, F⟩ := X.f_caps_told
      exact calD2 (ps := P_caps_told) F hm (F.bindsN (ps := P_caps_told) fun _ _ _ _ _ _ us hl => match us, hl with | [_], _ => rfl) .nil (fun _ => RepL.nil) (fn2_zero (T := T) (ps := P_caps_told))
    · obtain ⟨f, fd, hm, F⟩ := X.f_shortest_pair
      exact calD2 (ps := P_shortest_pair) F hm (F.bindsN (ps := P_shortest_pair) fun _ _ _ _ _ _ us hl => match us, hl with | [_, _], _ => rfl) .nil (fun _ => RepL.nil) (fn2_zero (T := T) (ps := P_shortest_pair))
    · obtain ⟨fd, F⟩ := X.f_Caps__head
      exact fnD2 (ps := P_Caps__head) (F.bindsN (ps := P_Caps__head) fun _ _ _ _ _ _ us hl => match us, hl with | [_], _ => rfl) (fn2_zero (T := T) (ps := P_Caps__head))
    · obtain ⟨fd, F⟩ := X.f_Caps__init
      exact fnD2 (ps := P_Caps__init) (F.bindsN (ps := P_Caps__init) fun _ _ _ _ _ _ us hl => match us, hl with | [_, _, _], _ => rfl) (fn2_zero (T := T) (ps := P_Caps__init))
    · obtain ⟨fd, F⟩ := X.f_Caps__read
      exact fnD2 (ps := P_Caps__read) (F.bindsN (ps := P_Caps__read) fun _ _ _ _ _ _ us hl => match us, hl with | [_, _], _ => rfl) (fn2_zero (T := T) (ps := P_Caps__read))
    · obtain ⟨fd, F⟩ := X.f_Caps__tail
      exact fnD2 (ps := P_Caps__tail) (F.bindsN (ps := P_Caps__tail) fun _ _ _ _ _ _ us hl => match us, hl with | [_], _ => rfl) (fn2_zero (T := T) (ps := P_Caps__tail))
    · obtain ⟨f, fd, hm, F⟩ := X.f_cap_at
      exact calD2 (ps := P_cap_at) F hm (F.bindsN (ps := P_cap_at) fun _ _ _ _ _ _ us hl => match us, hl with | [_, _], _ => rfl) .nil (fun _ => RepL.nil) (fn2_zero (T := T) (ps := P_cap_at))
    · obtain ⟨f, fd, hm, F⟩ := X.f_check_rule
      exact calD2 (ps := P_check_rule) F hm (F.bindsN (ps := P_check_rule) fun _ _ _ _ _ _ us hl => match us, hl with | [_], _ => rfl) .nil (fun _ => RepL.nil) (fn2_zero (T := T) (ps := P_check_rule))
    · obtain ⟨f, fd, hm, F⟩ := X.f_with_size
      exact calD2 (ps := P_with_size) F hm (F.bindsN (ps := P_with_size) fun _ _ _ _ _ _ us hl => match us, hl with | [_, _], _ => rfl) .nil (fun _ => RepL.nil) (fn2_zero (T := T) (ps := P_with_size))
    · obtain ⟨f, fd, hm, F⟩ := X.f_apart_counts
      exact calD2 (ps := P_apart_counts) F hm (F.bindsN (ps := P_apart_counts) fun _ _ _ _ _ _ us hl => match us, hl with | [_, _, _], _ => rfl) .nil (fun _ => RepL.nil) (fn2_zero (T := T) (ps := P_apart_counts))
    · obtain ⟨f, fd, hm, F⟩ := X.f_ban_counts
      exact calD2 (ps := P_ban_counts) F hm (F.bindsN (ps := P_ban_counts) fun _ _ _ _ _ _ us hl => match us, hl with | [_, _], _ => rfl) .nil (fun _ => RepL.nil) (fn2_zero (T := T) (ps := P_ban_counts))
    · obtain ⟨f, fd, hm, F⟩ := X.f_sums_by_divisors
      exact calD2 (ps := P_sums_by_divisors) F hm (F.bindsN (ps := P_sums_by_divisors) fun _ _ _ _ _ _ us hl => match us, hl with | [_], _ => rfl) .nil (fun _ => RepL.nil) (fn2_zero (T := T) (ps := P_sums_by_divisors))
    · obtain ⟨f, fd, hm, F⟩ := X.f_counts_by_excesses
      exact calD2 (ps := P_counts_by_excesses) F hm (F.bindsN (ps := P_counts_by_excesses) fun _ _ _ _ _ _ us hl => match us, hl with | [_], _ => rfl) .nil (fun _ => RepL.nil) (fn2_zero (T := T) (ps := P_counts_by_excesses))
    · obtain ⟨f, fd, hm, F⟩ := X.f_excess_list
      exact calD2 (ps := P_excess_list) F hm (F.bindsN (ps := P_excess_list) fun _ _ _ _ _ _ us hl => match us, hl with | [_, _], _ => rfl) .nil (fun _ => RepL.nil) (fn2_zero (T := T) (ps := P_excess_list))
    · obtain ⟨f, fd, hm, F⟩ := X.f_counts_of
      exact calD2 (ps := P_counts_of) F hm (F.bindsN (ps := P_counts_of) fun _ _ _ _ _ _ us hl => match us, hl with | [_, _], _ => rfl) .nil (fun _ => RepL.nil) (fn2_zero (T := T) (ps := P_counts_of))
    · obtain ⟨f, fd, hm, F⟩ := X.f_counts
      exact calD2 (ps := P_counts) F hm (F.bindsN (ps := P_counts) fun _ _ _ _ _ _ us hl => match us, hl with | [_, _], _ => rfl) .nil (fun _ => RepL.nil) (fn2_zero (T := T) (ps := P_counts))
    · obtain ⟨f, fd, hm, F⟩ := X.f_gap_list
      exact calD2 (ps := P_gap_list) F hm (F.bindsN (ps := P_gap_list) fun _ _ _ _ _ _ us hl => match us, hl with | [_], _ => rfl) .nil (fun _ => RepL.nil) (fn2_zero (T := T) (ps := P_gap_list))
    · obtain ⟨f, fd, hm, F⟩ := X.f_check_apart
      exact calD2 (ps := P_check_apart) F hm (F.bindsN (ps := P_check_apart) fun _ _ _ _ _ _ us hl => match us, hl with | [_, _], _ => rfl) .nil (fun _ => RepL.nil) (fn2_zero (T := T) (ps := P_check_apart))
    · obtain ⟨f, fd, hm, F⟩ := X.f_does_part
      exact calD2 (ps := P_does_part) F hm (F.bindsN (ps := P_does_part) fun _ _ _ _ _ _ us hl => match us, hl with | [_, _, _], _ => rfl) .nil (fun _ => RepL.nil) (fn2_zero (T := T) (ps := P_does_part))
    · obtain ⟨f, fd, hm, F⟩ := X.f_apart_rows
      exact calD2 (ps := P_apart_rows) F hm (F.bindsN (ps := P_apart_rows) fun _ _ _ _ _ _ us hl => match us, hl with | [_, _, _], _ => rfl) .nil (fun _ => RepL.nil) (fn2_zero (T := T) (ps := P_apart_rows))
    · obtain ⟨f, fd, hm, F⟩ := X.f__law_well
      exact calD2 (ps := P__law_well) F hm (F.bindsN (ps := P__law_well) fun _ _ _ _ _ _ us hl => match us, hl with | [_, _], _ => rfl) .nil (fun _ => RepL.nil) (fn2_zero (T := T) (ps := P__law_well))
    · obtain ⟨f, fd, hm, F⟩ := X.f__law_dip
      exact calD2 (ps := P__law_dip) F hm (F.bindsN (ps := P__law_dip) fun _ _ _ _ _ _ us hl => match us, hl with | [_, _], _ => rfl) .nil (fun _ => RepL.nil) (fn2_zero (T := T) (ps := P__law_dip))
    · obtain ⟨f, fd, hm, F⟩ := X.f__law_of
      exact calD2 (ps := P__law_of) F hm (F.bindsN (ps := P__law_of) fun _ _ _ _ _ _ us hl => match us, hl with | [_, _], _ => rfl) .nil (fun _ => RepL.nil) (fn2_zero (T := T) (ps := P__law_of))
    · obtain ⟨f, fd, hm, F⟩ := X.f__law_known
      exact calD2 (ps := P__law_known) F hm (F.bindsN (ps := P__law_known) fun _ _ _ _ _ _ us hl => match us, hl with | [_], _ => rfl) .nil (fun _ => RepL.nil) (fn2_zero (T := T) (ps := P__law_known))
    · obtain ⟨f, fd, hm, F⟩ := X.f__law_from_least
      exact calD2 (ps := P__law_from_least) F hm (F.bindsN (ps := P__law_from_least) fun _ _ _ _ _ _ us hl => match us, hl with | [_, _], _ => rfl) .nil (fun _ => RepL.nil) (fn2_zero (T := T) (ps := P__law_from_least))
    · obtain ⟨f, fd, hm, F⟩ := X.f__law_by_last
      exact calD2 (ps := P__law_by_last) F hm (F.bindsN (ps := P__law_by_last) fun _ _ _ _ _ _ us hl => match us, hl with | [_, _, _], _ => rfl) .nil (fun _ => RepL.nil) (fn2_zero (T := T) (ps := P__law_by_last))
  | succ n Y =>
    constructor
    · exact X.b_abs
    · exact X.b_all
    · exact X.b_bool
    · exact X.b_divmod
    · exact X.b_enumerate
    · exact X.b_int
    · exact X.b_isinstance
    · exact X.b_len
    · exact X.b_list
    · exact X.b_min
    · exact X.b_range
    · exact X.b_str
    · exact X.b_sum
    · exact X.b_tuple
    · exact X.g_BAR
    · exact X.g_CAP_SIGNS
    · exact X.g_ENDLESS
    · exact X.g_MOST_CAP
    · exact X.g_MOST_GAP
    · exact X.g_MOST_HEAD
    · exact X.g_MOST_LEAST
    · exact X.g_MOST_LISTED
    · exact X.g_MOST_NUMBER
    · exact X.g_MOST_TAIL
    · exact X.g_cls_Caps
    · exact X.cl_Caps
    · exact X.g_cls_Bans
    · exact X.cl_Bans
    · exact X.fld_again
    · exact X.fld_front
    · exact X.fld_least_pair
    · exact X.mk_Caps
    · exact X.prop_Caps_head
    · exact X.prop_Caps_tail
    · exact X.cr_Caps
    · exact X.cm_Caps_read
    · exact X.isi
    · obtain ⟨f, fd, hm, F⟩ := X.f_is_integer
      exact calD2 (ps := P_is_integer) F hm (F.bindsN (ps := P_is_integer) fun _ _ _ _ _ _ us hl => match us, hl with | [_], _ => rfl) .nil (fun _ => RepL.nil) ((fn2_succ (ps := P_is_integer) F S_is_integer rfl fun cdv A outer s H w0 E hr => b_is_integer Y cdv A outer s H w0 E hr))
    · obtain ⟨f, fd, hm, F⟩ := X.f_is_within_bounds
      exact calD2 (ps := P_is_within_bounds) F hm (F.bindsN (ps := P_is_within_bounds) fun _ _ _ _ _ _ us hl => match us, hl with | [_, _, _], _ => rfl) .nil (fun _ => RepL.nil) ((fn2_succ (ps := P_is_within_bounds) F S_is_within_bounds rfl fun cdv A outer s H w0 E hr => b_is_within_bounds Y cdv A outer s H w0 E hr))
    · obtain ⟨f, fd, hm, F⟩ := X.f_check_within
      exact calD2 (ps := P_check_within) F hm (F.bindsN (ps := P_check_within) fun _ _ _ _ _ _ us hl => match us, hl with | [_, _, _], _ => rfl) .nil (fun _ => RepL.nil) ((fn2_succ (ps := P_check_within) F S_check_within rfl fun cdv A outer s H w0 E hr => b_check_within Y cdv A outer s H w0 E hr))
    · obtain ⟨f, fd, hm, F⟩ := X.f_check_number
      exact calD2 (ps := P_check_number) F hm (F.bindsN (ps := P_check_number) fun _ _ _ _ _ _ us hl => match us, hl with | [_], _ => rfl) .nil (fun _ => RepL.nil) ((fn2_succ (ps := P_check_number) F S_check_number rfl fun cdv A outer s H w0 E hr => b_check_number Y cdv A outer s H w0 E hr))
    · obtain ⟨f, fd, hm, F⟩ := X.f_rows_within
      exact calD2 (ps := P_rows_within) F hm (F.bindsN (ps := P_rows_within) fun _ _ _ _ _ _ us hl => match us, hl with | [_, _], _ => rfl) .nil (fun _ => RepL.nil) ((fn2_succ (ps := P_rows_within) F S_rows_within rfl fun cdv A outer s H w0 E hr => b_rows_within Y cdv A outer s H w0 E hr))
    · obtain ⟨f, fd, hm, F⟩ := X.f_is_cap
      exact calD2 (ps := P_is_cap) F hm (F.bindsN (ps := P_is_cap) fun _ _ _ _ _ _ us hl => match us, hl with | [_], _ => rfl) .nil (fun _ => RepL.nil) ((fn2_succ (ps := P_is_cap) F S_is_cap rfl fun cdv A outer s H w0 E hr => b_is_cap Y cdv A outer s H w0 E hr))
    · obtain ⟨f, fd, hm, F⟩ := X.f_wrong_cap
      exact calD2 (ps := P_wrong_cap) F hm (F.bindsN (ps := P_wrong_cap) fun _ _ _ _ _ _ us hl => match us, hl with | [_, _], _ => rfl) .nil (fun _ => RepL.nil) ((fn2_succ (ps := P_wrong_cap) F S_wrong_cap rfl fun cdv A outer s H w0 E hr => b_wrong_cap Y cdv A outer s H w0 E hr))
    · obtain ⟨f, fd, hm, F⟩ := X.f_check_head
      exact calD2 (ps := P_check_head) F hm (F.bindsN (ps := P_check_head) fun _ _ _ _ _ _ us hl => match us, hl with | [_], _ => rfl) .nil (fun _ => RepL.nil) ((fn2_succ (ps := P_check_head) F S_check_head rfl fun cdv A outer s H w0 E hr => b_check_head Y cdv A outer s H w0 E hr))
    · obtain ⟨f, fd, hm, F⟩ := X.f_check_tail
      exact calD2 (ps := P_check_tail) F hm (F.bindsN (ps := P_check_tail) fun _ _ _ _ _ _ us hl => match us, hl with | [_], _ => rfl) .nil (fun _ => RepL.nil) ((fn2_succ (ps := P_check_tail) F S_check_tail rfl fun cdv A outer s H w0 E hr => b_check_tail Y cdv A outer s H w0 E hr))
    · obtain ⟨f, fd, hm, F⟩ := X.f_cap_told
      exact calD2 (ps := P_cap_told) F hm (F.bindsN (ps := P_cap_told) fun _ _ _ _ _ _ us hl => match us, hl with | [_], _ => rfl) .nil (fun _ => RepL.nil) ((fn2_succ (ps := P_cap_told) F S_cap_told rfl fun cdv A outer s H w0 E hr => b_cap_told Y cdv A outer s H w0 E hr))
    · obtain ⟨f, fd, hm, F⟩ := X.f_caps_told
      exact calD2 (ps := P_caps_told) F hm (F.bindsN (ps := P_caps_told) fun _ _ _ _ _ _ us hl => match us, hl with | [_], _ => rfl) .nil (fun _ => RepL.nil) ((fn2_succ (ps := P_caps_told) F S_caps_told rfl fun cdv A outer s H w0 E hr => b_caps_told Y cdv A outer s H w0 E hr))
    · obtain ⟨f, fd, hm, F⟩ := X.f_shortest_pair
      exact calD2 (ps := P_shortest_pair) F hm (F.bindsN (ps := P_shortest_pair) fun _ _ _ _ _ _ us hl => match us, hl with | [_, _], _ => rfl) .nil (fun _ => RepL.nil) ((fn2_succ (ps := P_shortest_pair) F S_shortest_pair rfl fun cdv A outer s H w0 E hr => b_shortest_pair Y cdv A outer s H w0 E hr))
    · obtain ⟨fd, F⟩ := X.f_Caps__head
      exact fnD2 (ps := P_Caps__head) (F.bindsN (ps := P_Caps__head) fun _ _ _ _ _ _ us hl => match us, hl with | [_], _ => rfl) ((fn2_succ (ps := P_Caps__head) F S_Caps__head rfl fun cdv A outer s H w0 E hr => b_Caps__head Y cdv A outer s H w0 E hr))
    · obtain ⟨fd, F⟩ := X.f_Caps__init
      exact fnD2 (ps := P_Caps__init) (F.bindsN (ps := P_Caps__init) fun _ _ _ _ _ _ us hl => match us, hl with | [_, _, _], _ => rfl) ((fn2_succ (ps := P_Caps__init) F S_Caps__init rfl fun cdv A outer s H w0 E hr => b_Caps__init Y cdv A outer s H w0 E hr))
    · obtain ⟨fd, F⟩ := X.f_Caps__read
      exact fnD2 (ps := P_Caps__read) (F.bindsN (ps := P_Caps__read) fun _ _ _ _ _ _ us hl => match us, hl with | [_, _], _ => rfl) ((fn2_succ (ps := P_Caps__read) F S_Caps__read rfl fun cdv A outer s H w0 E hr => b_Caps__read Y cdv A outer s H w0 E hr))
    · obtain ⟨fd, F⟩ := X.f_Caps__tail
      exact fnD2 (ps := P_Caps__tail) (F.bindsN (ps := P_Caps__tail) fun _ _ _ _ _ _ us hl => match us, hl with | [_], _ => rfl) ((fn2_succ (ps := P_Caps__tail) F S_Caps__tail rfl fun cdv A outer s H w0 E hr => b_Caps__tail Y cdv A outer s H w0 E hr))
    · obtain ⟨f, fd, hm, F⟩ := X.f_cap_at
      exact calD2 (ps := P_cap_at) F hm (F.bindsN (ps := P_cap_at) fun _ _ _ _ _ _ us hl => match us, hl with | [_, _], _ => rfl) .nil (fun _ => RepL.nil) ((fn2_succ (ps := P_cap_at) F S_cap_at rfl fun cdv A outer s H w0 E hr => b_cap_at Y cdv A outer s H w0 E hr))
    · obtain ⟨f, fd, hm, F⟩ := X.f_check_rule
      exact calD2 (ps := P_check_rule) F hm (F.bindsN (ps := P_check_rule) fun _ _ _ _ _ _ us hl => match us, hl with | [_], _ => rfl) .nil (fun _ => RepL.nil) ((fn2_succ (ps := P_check_rule) F S_check_rule rfl fun cdv A outer s H w0 E hr => b_check_rule Y cdv A outer s H w0 E hr))
    · obtain ⟨f, fd, hm, F⟩ := X.f_with_size
      exact calD2 (ps := P_with_size) F hm (F.bindsN (ps := P_with_size) fun _ _ _ _ _ _ us hl => match us, hl with | [_, _], _ => rfl) .nil (fun _ => RepL.nil) ((fn2_succ (ps := P_with_size) F S_with_size rfl fun cdv A outer s H w0 E hr => b_with_size Y cdv A outer s H w0 E hr))
    · obtain ⟨f, fd, hm, F⟩ := X.f_apart_counts
      exact calD2 (ps := P_apart_counts) F hm (F.bindsN (ps := P_apart_counts) fun _ _ _ _ _ _ us hl => match us, hl with | [_, _, _], _ => rfl) .nil (fun _ => RepL.nil) ((fn2_succ (ps := P_apart_counts) F S_apart_counts rfl fun cdv A outer s H w0 E hr => b_apart_counts Y cdv A outer s H w0 E hr))
    · obtain ⟨f, fd, hm, F⟩ := X.f_ban_counts
      exact calD2 (ps := P_ban_counts) F hm (F.bindsN (ps := P_ban_counts) fun _ _ _ _ _ _ us hl => match us, hl with | [_, _], _ => rfl) .nil (fun _ => RepL.nil) ((fn2_succ (ps := P_ban_counts) F S_ban_counts rfl fun cdv A outer s H w0 E hr => b_ban_counts Y cdv A outer s H w0 E hr))
    · obtain ⟨f, fd, hm, F⟩ := X.f_sums_by_divisors
      exact calD2 (ps := P_sums_by_divisors) F hm (F.bindsN (ps := P_sums_by_divisors) fun _ _ _ _ _ _ us hl => match us, hl with | [_], _ => rfl) .nil (fun _ => RepL.nil) ((fn2_succ (ps := P_sums_by_divisors) F S_sums_by_divisors rfl fun cdv A outer s H w0 E hr => b_sums_by_divisors Y cdv A outer s H w0 E hr))
    · obtain ⟨f, fd, hm, F⟩ := X.f_counts_by_excesses
      exact calD2 (ps := P_counts_by_excesses) F hm (F.bindsN (ps := P_counts_by_excesses) fun _ _ _ _ _ _ us hl => match us, hl with | [_], _ => rfl) .nil (fun _ => RepL.nil) ((fn2_succ (ps := P_counts_by_excesses) F S_counts_by_excesses rfl fun cdv A outer s H w0 E hr => b_counts_by_excesses Y cdv A outer s H w0 E hr))
    · obtain ⟨f, fd, hm, F⟩ := X.f_excess_list
      exact calD2 (ps := P_excess_list) F hm (F.bindsN (ps := P_excess_list) fun _ _ _ _ _ _ us hl => match us, hl with | [_, _], _ => rfl) .nil (fun _ => RepL.nil) ((fn2_succ (ps := P_excess_list) F S_excess_list rfl fun cdv A outer s H w0 E hr => b_excess_list Y cdv A outer s H w0 E hr))
    · obtain ⟨f, fd, hm, F⟩ := X.f_counts_of
      exact calD2 (ps := P_counts_of) F hm (F.bindsN (ps := P_counts_of) fun _ _ _ _ _ _ us hl => match us, hl with | [_, _], _ => rfl) .nil (fun _ => RepL.nil) ((fn2_succ (ps := P_counts_of) F S_counts_of rfl fun cdv A outer s H w0 E hr => b_counts_of Y cdv A outer s H w0 E hr))
    · obtain ⟨f, fd, hm, F⟩ := X.f_counts
      exact calD2 (ps := P_counts) F hm (F.bindsN (ps := P_counts) fun _ _ _ _ _ _ us hl => match us, hl with | [_, _], _ => rfl) .nil (fun _ => RepL.nil) ((fn2_succ (ps := P_counts) F S_counts rfl fun cdv A outer s H w0 E hr => b_counts Y cdv A outer s H w0 E hr))
    · obtain ⟨f, fd, hm, F⟩ := X.f_gap_list
      exact calD2 (ps := P_gap_list) F hm (F.bindsN (ps := P_gap_list) fun _ _ _ _ _ _ us hl => match us, hl with | [_], _ => rfl) .nil (fun _ => RepL.nil) ((fn2_succ (ps := P_gap_list) F S_gap_list rfl fun cdv A outer s H w0 E hr => b_gap_list Y cdv A outer s H w0 E hr))
    · obtain ⟨f, fd, hm, F⟩ := X.f_check_apart
      exact calD2 (ps := P_check_apart) F hm (F.bindsN (ps := P_check_apart) fun _ _ _ _ _ _ us hl => match us, hl with | [_, _], _ => rfl) .nil (fun _ => RepL.nil) ((fn2_succ (ps := P_check_apart) F S_check_apart rfl fun cdv A outer s H w0 E hr => b_check_apart Y cdv A outer s H w0 E hr))
    · obtain ⟨f, fd, hm, F⟩ := X.f_does_part
      exact calD2 (ps := P_does_part) F hm (F.bindsN (ps := P_does_part) fun _ _ _ _ _ _ us hl => match us, hl with | [_, _, _], _ => rfl) .nil (fun _ => RepL.nil) ((fn2_succ (ps := P_does_part) F S_does_part rfl fun cdv A outer s H w0 E hr => b_does_part Y cdv A outer s H w0 E hr))
    · obtain ⟨f, fd, hm, F⟩ := X.f_apart_rows
      exact calD2 (ps := P_apart_rows) F hm (F.bindsN (ps := P_apart_rows) fun _ _ _ _ _ _ us hl => match us, hl with | [_, _, _], _ => rfl) .nil (fun _ => RepL.nil) ((fn2_succ (ps := P_apart_rows) F S_apart_rows rfl fun cdv A outer s H w0 E hr => b_apart_rows Y cdv A outer s H w0 E hr))
    · obtain ⟨f, fd, hm, F⟩ := X.f__law_well
      exact calD2 (ps := P__law_well) F hm (F.bindsN (ps := P__law_well) fun _ _ _ _ _ _ us hl => match us, hl with | [_, _], _ => rfl) .nil (fun _ => RepL.nil) ((fn2_succ (ps := P__law_well) F S__law_well rfl fun cdv A outer s H w0 E hr => b__law_well Y cdv A outer s H w0 E hr))
    · obtain ⟨f, fd, hm, F⟩ := X.f__law_dip
      exact calD2 (ps := P__law_dip) F hm (F.bindsN (ps := P__law_dip) fun _ _ _ _ _ _ us hl => match us, hl with | [_, _], _ => rfl) .nil (fun _ => RepL.nil) ((fn2_succ (ps := P__law_dip) F S__law_dip rfl fun cdv A outer s H w0 E hr => b__law_dip Y cdv A outer s H w0 E hr))
    · obtain ⟨f, fd, hm, F⟩ := X.f__law_of
      exact calD2 (ps := P__law_of) F hm (F.bindsN (ps := P__law_of) fun _ _ _ _ _ _ us hl => match us, hl with | [_, _], _ => rfl) .nil (fun _ => RepL.nil) ((fn2_succ (ps := P__law_of) F S__law_of rfl fun cdv A outer s H w0 E hr => b__law_of Y cdv A outer s H w0 E hr))
    · obtain ⟨f, fd, hm, F⟩ := X.f__law_known
      exact calD2 (ps := P__law_known) F hm (F.bindsN (ps := P__law_known) fun _ _ _ _ _ _ us hl => match us, hl with | [_], _ => rfl) .nil (fun _ => RepL.nil) ((fn2_succ (ps := P__law_known) F S__law_known rfl fun cdv A outer s H w0 E hr => b__law_known Y cdv A outer s H w0 E hr))
    · obtain ⟨f, fd, hm, F⟩ := X.f__law_from_least
      exact calD2 (ps := P__law_from_least) F hm (F.bindsN (ps := P__law_from_least) fun _ _ _ _ _ _ us hl => match us, hl with | [_, _], _ => rfl) .nil (fun _ => RepL.nil) ((fn2_succ (ps := P__law_from_least) F S__law_from_least rfl fun cdv A outer s H w0 E hr => b__law_from_least Y cdv A outer s H w0 E hr))
    · obtain ⟨f, fd, hm, F⟩ := X.f__law_by_last
      exact calD2 (ps := P__law_by_last) F hm (F.bindsN (ps := P__law_by_last) fun _ _ _ _ _ _ us hl => match us, hl with | [_, _, _], _ => rfl) .nil (fun _ => RepL.nil) ((fn2_succ (ps := P__law_by_last) F S__law_by_last rfl fun cdv A outer s H w0 E hr => b__law_by_last Y cdv A outer s H w0 E hr))
def dd_is_integer : He.DefD := ⟨("is_integer", none), "is_integer", "is_integer", defArgs (top 19), defBody (top 19), defScope (top 19), [], []⟩
def dd_is_within_bounds : He.DefD := ⟨("is_within_bounds", none), "is_within_bounds", "is_within_bounds", defArgs (top 20), defBody (top 20), defScope (top 20), [], []⟩
def dd_check_within : He.DefD := ⟨("check_within", none), "check_within", "check_within", defArgs (top 21), defBody (top 21), defScope (top 21), [], []⟩
def dd_check_number : He.DefD := ⟨("check_number", none), "check_number", "check_number", defArgs (top 22), defBody (top 22), defScope (top 22), [], []⟩
def dd_rows_within : He.DefD := ⟨("rows_within", none), "rows_within", "rows_within", defArgs (top 33), defBody (top 33), defScope (top 33), [], []⟩
def dd_is_cap : He.DefD := ⟨("is_cap", none), "is_cap", "is_cap", defArgs (top 39), defBody (top 39), defScope (top 39), [], []⟩
def dd_wrong_cap : He.DefD := ⟨("wrong_cap", none), "wrong_cap", "wrong_cap", defArgs (top 40), defBody (top 40), defScope (top 40), [], []⟩
def dd_check_head : He.DefD := ⟨("check_head", none), "check_head", "check_head", defArgs (top 41), defBody (top 41), defScope (top 41), [], []⟩
def dd_check_tail : He.DefD := ⟨("check_tail", none), "check_tail", "check_tail", defArgs (top 42), defBody (top 42), defScope (top 42), [], []⟩
def dd_cap_told : He.DefD := ⟨("cap_told", none), "cap_told", "cap_told", defArgs (top 45), defBody (top 45), defScope (top 45), [], []⟩
def dd_caps_told : He.DefD := ⟨("caps_told", none), "caps_told", "caps_told", defArgs (top 46), defBody (top 46), defScope (top 46), [], []⟩
def dd_shortest_pair : He.DefD := ⟨("shortest_pair", none), "shortest_pair", "shortest_pair", defArgs (top 47), defBody (top 47), defScope (top 47), [], []⟩
def dd_cap_at : He.DefD := ⟨("cap_at", none), "cap_at", "cap_at", defArgs (top 49), defBody (top 49), defScope (top 49), [], []⟩
def dd_check_rule : He.DefD := ⟨("check_rule", none), "check_rule", "check_rule", defArgs (top 54), defBody (top 54), defScope (top 54), [], []⟩
def dd_with_size : He.DefD := ⟨("with_size", none), "with_size", "with_size", defArgs (top 58), defBody (top 58), defScope (top 58), [], []⟩
def dd_apart_counts : He.DefD := ⟨("apart_counts", none), "apart_counts", "apart_counts", defArgs (top 59), defBody (top 59), defScope (top 59), [], []⟩
def dd_ban_counts : He.DefD := ⟨("ban_counts", none), "ban_counts", "ban_counts", defArgs (top 65), defBody (top 65), defScope (top 65), [], []⟩
def dd_sums_by_divisors : He.DefD := ⟨("sums_by_divisors", none), "sums_by_divisors", "sums_by_divisors", defArgs (top 66), defBody (top 66), defScope (top 66), [], []⟩
def dd_counts_by_excesses : He.DefD := ⟨("counts_by_excesses", none), "counts_by_excesses", "counts_by_excesses", defArgs (top 67), defBody (top 67), defScope (top 67), [], []⟩
def dd_excess_list : He.DefD := ⟨("excess_list", none), "excess_list", "excess_list", defArgs (top 68), defBody (top 68), defScope (top 68), [], []⟩
def dd_counts_of : He.DefD := ⟨("counts_of", none), "counts_of", "counts_of", defArgs (top 69), defBody (top 69), defScope (top 69), [], []⟩
def dd_counts : He.DefD := ⟨("counts", none), "counts", "counts", defArgs (top 70), defBody (top 70), defScope (top 70), [], []⟩
def dd_gap_list : He.DefD := ⟨("gap_list", none), "gap_list", "gap_list", defArgs (top 72), defBody (top 72), defScope (top 72), [], []⟩
def dd_check_apart : He.DefD := ⟨("check_apart", none), "check_apart", "check_apart", defArgs (top 73), defBody (top 73), defScope (top 73), [], []⟩
def dd_does_part : He.DefD := ⟨("does_part", none), "does_part", "does_part", defArgs (top 74), defBody (top 74), defScope (top 74), [], []⟩
def dd_apart_rows : He.DefD := ⟨("apart_rows", none), "apart_rows", "apart_rows", defArgs (top 75), defBody (top 75), defScope (top 75), [], []⟩
def dd__law_well : He.DefD := ⟨("_law_well", none), "_law_well", "_law_well", defArgs (top 77), defBody (top 77), defScope (top 77), [], []⟩
def dd__law_dip : He.DefD := ⟨("_law_dip", none), "_law_dip", "_law_dip", defArgs (top 78), defBody (top 78), defScope (top 78), [], []⟩
def dd__law_of : He.DefD := ⟨("_law_of", none), "_law_of", "_law_of", defArgs (top 79), defBody (top 79), defScope (top 79), [], []⟩
def dd__law_known : He.DefD := ⟨("_law_known", none), "_law_known", "_law_known", defArgs (top 80), defBody (top 80), defScope (top 80), [], []⟩
def dd__law_from_least : He.DefD := ⟨("_law_from_least", none), "_law_from_least", "_law_from_least", defArgs (top 81), defBody (top 81), defScope (top 81), [], []⟩
def dd__law_by_last : He.DefD := ⟨("_law_by_last", none), "_law_by_last", "_law_by_last", defArgs (top 82), defBody (top 82), defScope (top 82), [], []⟩
def dd_Caps__init : He.DefD := ⟨("Caps", some "__init__"), "__init__", "Caps.__init__", defArgs (topm 48 0), defBody (topm 48 0), defScope (topm 48 0), [], []⟩
def dd_law : He.DefD := ⟨("law", none), "law", "law", defArgs (top 83), defBody (top 83), defScope (top 83), [], []⟩
def dd_Caps__read : He.DefD := ⟨("Caps", some "__init__"), "read", "Caps.read", defArgs (topm 48 1), defBody (topm 48 1), defScope (topm 48 1), [], []⟩
def dd_Caps__head : He.DefD := ⟨("Caps", some "__init__"), "head", "Caps.head", defArgs (topm 48 2), defBody (topm 48 2), defScope (topm 48 2), [], []⟩
def dd_Caps__tail : He.DefD := ⟨("Caps", some "__init__"), "tail", "Caps.tail", defArgs (topm 48 3), defBody (topm 48 3), defScope (topm 48 3), [], []⟩
def fnl : List He.DefD := [dd_is_integer, dd_is_within_bounds, dd_check_within, dd_check_number, dd_rows_within, dd_is_cap, dd_wrong_cap, dd_check_head, dd_check_tail, dd_cap_told, dd_caps_told, dd_shortest_pair, dd_cap_at, dd_check_rule, dd_with_size, dd_apart_counts, dd_ban_counts, dd_sums_by_divisors, dd_counts_by_excesses, dd_excess_list, dd_counts_of, dd_counts, dd_gap_list, dd_check_apart, dd_does_part, dd_apart_rows, dd__law_well, dd__law_dip, dd__law_of, dd__law_known, dd__law_from_least, dd__law_by_last, dd_Caps__init, dd_law]
def fxl : FxL := [(fun K => recA K (He.ma K (caK K 0) "read") "classmethod", dd_Caps__read), (fun K => recA K (He.ma K (caK K 0) "head") "property", dd_Caps__head), (fun K => recA K (He.ma K (caK K 0) "tail") "property", dd_Caps__tail)]
def exs : List (PySem.W.Frag → Bool) := [fun K => propB K (caK K 0) "head" (He.ma K (caK K 0) "head") (recA K (He.ma K (caK K 0) "head") "property"), fun K => propB K (caK K 0) "tail" (He.ma K (caK K 0) "tail") (recA K (He.ma K (caK K 0) "tail") "property"), fun K => crB K (caK K 0), fun K => cmB K (caK K 0) "read" (He.ma K (caK K 0) "read") (recA K (He.ma K (caK K 0) "read") "classmethod"), fun K => isiFB K (caK K) csAll inst]
def exB (K : PySem.W.Frag) : Bool := exs.all fun f => f K
def fal : List He.Fa := [.glo "is_integer", .glo "is_within_bounds", .glo "check_within", .glo "check_number", .glo "rows_within", .glo "is_cap", .glo "wrong_cap", .glo "check_head", .glo "check_tail", .glo "cap_told", .glo "caps_told", .glo "shortest_pair", .glo "cap_at", .glo "check_rule", .glo "with_size", .glo "apart_counts", .glo "ban_counts", .glo "sums_by_divisors", .glo "counts_by_excesses", .glo "excess_list", .glo "counts_of", .glo "counts", .glo "gap_list", .glo "check_apart", .glo "does_part", .glo "apart_rows", .glo "_law_well", .glo "_law_dip", .glo "_law_of", .glo "_law_known", .glo "_law_from_least", .glo "_law_by_last", .glo "law", .free "abs", .free "all", .free "bool", .free "divmod", .free "enumerate", .free "int", .free "isinstance", .free "len", .free "list", .free "min", .free "range", .free "str", .free "sum", .free "tuple", .str "BAR" "|", .str "CAP_SIGNS" "0123456*", .str "ENDLESS" "*", .int "MOST_CAP" 6, .int "MOST_GAP" 9, .int "MOST_HEAD" 24, .int "MOST_LEAST" 9, .int "MOST_LISTED" 24, .int "MOST_NUMBER" 400, .int "MOST_TAIL" 8, .glo "Bans", .cls "Bans", .glo "Caps", .cls "Caps", .noat "Caps" "again", .noat "Caps" "front", .noat "Caps" "least_pair", .mkr "Caps"]
abbrev R : PySem.W.OpenRow := PySem.W.OpenLaw.row PySem.Challenge.rw_letparts_k97_whole_rows_apart_beside_cap
def loose0 : List PySem.Str := ["_wall", "WrongValue", "InvalidText", "InvalidNumber", "NotARule", "InvalidHead", "InvalidTail", "InvalidBans", "MOST_SUM", "MOST_NUMBER", "MOST_LISTED", "MOST_HEAD", "MOST_TAIL", "MOST_CAP", "MOST_BANS", "MOST_BAN_SUM"]
def loose1 : List PySem.Str := ["DIGITS", "is_integer", "is_within_bounds", "check_within", "check_number", "number_told", "MOST_DIGITS", "is_falling", "is_row", "times_in", "sizes_of", "text_of", "row_told", "joined", "rows_within", "ENDLESS"]
def loose2 : List PySem.Str := ["CAP_SIGNS", "BAR", "NO_BANS", "is_cap", "wrong_cap", "check_head", "check_tail", "cap_sign", "signs_of", "cap_told", "caps_told", "shortest_pair", "Caps", "cap_at", "wrong_ban", "check_bans_told"]
def loose3 : List PySem.Str := ["bans_told", "Bans", "check_rule", "MOST_GAP", "MOST_LEAST", "with_size", "apart_counts", "all_counts", "choices_of_bans", "sieve_table", "sieve_pairs", "ban_counts", "sums_by_divisors", "counts_by_excesses", "excess_list", "counts_of"]
def loose4 : List PySem.Str := ["counts", "gap_list", "check_apart", "does_part", "apart_rows", "_law_well", "_law_dip", "_law_of", "_law_known", "_law_from_least", "_law_by_last"]
abbrev hk : PySem.W.Hook := hookY 5 fal fnl exB fxl
def ob (s : PySem.W.SharedT) : He.AlD × Bool × List He.FnW := obsY 5 fal fnl exB fxl (HandSHeadRun.getT s)
theorem ob_eq (s : PySem.W.SharedT) : ob s = hk.obs s.abs := obsY_eq (HandSHeadRun.getT_eq s)
theorem run (w : World) : HandSHeadRun.RunEq R (PySem.W.view R.prog [83]) hk ob 6000 (loose0 ++ loose1 ++ loose2 ++ loose3 ++ loose4) w := by
  intro os
  kernel_rfl
theorem exB_at {K : PySem.W.Frag} (h : exB K = true) (i : Nat) {f : PySem.W.Frag → Bool} (e : exs[i]? = some f := by rfl) : f K = true := List.all_eq_true.mp h f (List.mem_of_getElem? e)
theorem facts {P : Program} {w : World} {K : PySem.W.Frag} {h : Heap} {mg : Str → Option Value} {f : Addr} (X : K.In h) (G : h.Ns mainGlobals mg) (hfa : mg ("law" : Str) = some (.ref f)) (c : SaysY fal fnl exB fxl K) (n : Nat) :
    ∃ fd : FuncData, (∀ (s : Shared) (v : Value), BindsTo s fd ⟨[v], []⟩ [("script", v)]) ∧ ∀ base : Heap, K.In base → base.Ns mainGlobals mg → FnOk P w K mg base CX0 (2 * (n + 1)) f fd ["script"] (spD ⟨K, caK K, fun _ => 0⟩ (runT T (n + 1)) 29 1) := by
  have c_ := c
  have FX : Fx K mg := by
    constructor
    · exact He.free_ok X G (c.says.fact 33 (f := .free "abs") rfl)
    · exact He.free_ok X G (c.says.fact 34 (f := .free "all") rfl)
    · exact He.free_ok X G (c.says.fact 35 (f := .free "bool") rfl)
    · exact He.free_ok X G (c.says.fact 36 (f := .free "divmod") rfl)
    · exact He.free_ok X G (c.says.fact 37 (f := .free "enumerate") rfl)
    · exact He.free_ok X G (c.says.fact 38 (f := .free "int") rfl)
    · exact He.free_ok X G (c.says.fact 39 (f := .free "isinstance") rfl)
    · exact He.free_ok X G (c.says.fact 40 (f := .free "len") rfl)
    · exact He.free_ok X G (c.says.fact 41 (f := .free "list") rfl)
    · exact He.free_ok X G (c.says.fact 42 (f := .free "min") rfl)
    · exact He.free_ok X G (c.says.fact 43 (f := .free "range") rfl)
    · exact He.free_ok X G (c.says.fact 44 (f := .free "str") rfl)
    · exact He.free_ok X G (c.says.fact 45 (f := .free "sum") rfl)
    · exact He.free_ok X G (c.says.fact 46 (f := .free "tuple") rfl)
    · exact He.str_ok X G (c.says.fact 47 (f := .str "BAR" "|") rfl)
    · exact He.str_ok X G (c.says.fact 48 (f := .str "CAP_SIGNS" "0123456*") rfl)
    · exact He.str_ok X G (c.says.fact 49 (f := .str "ENDLESS" "*") rfl)
    · exact He.int_ok X G (c.says.fact 50 (f := .int "MOST_CAP" 6) rfl)
    · exact He.int_ok X G (c.says.fact 51 (f := .int "MOST_GAP" 9) rfl)
    · exact He.int_ok X G (c.says.fact 52 (f := .int "MOST_HEAD" 24) rfl)
    · exact He.int_ok X G (c.says.fact 53 (f := .int "MOST_LEAST" 9) rfl)
    · exact He.int_ok X G (c.says.fact 54 (f := .int "MOST_LISTED" 24) rfl)
    · exact He.int_ok X G (c.says.fact 55 (f := .int "MOST_NUMBER" 400) rfl)
    · exact He.int_ok X G (c.says.fact 56 (f := .int "MOST_TAIL" 8) rfl)
    · exact He.glo_ok X G (c.says.fact 59 (f := .glo "Caps") rfl)
    · exact He.cls_ok (c.says.fact 60 (f := .cls "Caps") rfl)
    · exact He.glo_ok X G (c.says.fact 57 (f := .glo "Bans") rfl)
    · exact He.cls_ok (c.says.fact 58 (f := .cls "Bans") rfl)
    · intro c hc
      simp only [List.mem_cons, List.not_mem_nil, or_false] at hc
      rcases hc with rfl
      · exact ⟨He.cls_ok (c_.says.fact 60 (f := .cls "Caps") rfl), He.noat_ok (c_.says.fact 61 (f := .noat "Caps" "again") rfl)⟩
    · intro c hc
      simp only [List.mem_cons, List.not_mem_nil, or_false] at hc
      rcases hc with rfl
      · exact ⟨He.cls_ok (c_.says.fact 60 (f := .cls "Caps") rfl), He.noat_ok (c_.says.fact 62 (f := .noat "Caps" "front") rfl)⟩
    · intro c hc
      simp only [List.mem_cons, List.not_mem_nil, or_false] at hc
      rcases hc with rfl
      · exact ⟨He.cls_ok (c_.says.fact 60 (f := .cls "Caps") rfl), He.noat_ok (c_.says.fact 63 (f := .noat "Caps" "least_pair") rfl)⟩
    · exact He.mkr_ok (c.says.fact 64 (f := .mkr "Caps") rfl)
    · exact propB_ok (exB_at c.ex 0)
    · exact propB_ok (exB_at c.ex 1)
    · exact crB_ok (exB_at c.ex 2)
    · exact cmB_ok (exB_at c.ex 3)
    · exact isiFB_ok (M := ⟨K, caK K, fun _ => 0⟩) (fun c hc => by
        simp only [csAll, List.mem_cons, List.not_mem_nil, or_false] at hc
        rcases hc with rfl | rfl
        · exact He.cls_ok (c_.says.fact 60 (f := .cls "Caps") rfl)
        · exact He.cls_ok (c_.says.fact 58 (f := .cls "Bans") rfl)
        ) (exB_at c.ex 4)
    · obtain ⟨fd, F⟩ := c.says.def_ 0 (d := dd_is_integer) rfl
      exact ⟨_, fd, He.glo_ok X G (c.says.fact 0 (f := .glo "is_integer") rfl), F⟩
    · obtain ⟨fd, F⟩ := c.says.def_ 1 (d := dd_is_within_bounds) rfl
      exact ⟨_, fd, He.glo_ok X G (c.says.fact 1 (f := .glo "is_within_bounds") rfl), F⟩
    · obtain ⟨fd, F⟩ := c.says.def_ 2 (d := dd_check_within) rfl
      exact ⟨_, fd, He.glo_ok X G (c.says.fact 2 (f := .glo "check_within") rfl), F⟩
    · obtain ⟨fd, F⟩ := c.says.def_ 3 (d := dd_check_number) rfl
      exact ⟨_, fd, He.glo_ok X G (c.says.fact 3 (f := .glo "check_number") rfl), F⟩
    · obtain ⟨fd, F⟩ := c.says.def_ 4 (d := dd_rows_within) rfl
      exact ⟨_, fd, He.glo_ok X G (c.says.fact 4 (f := .glo "rows_within") rfl), F⟩
    · obtain ⟨fd, F⟩ := c.says.def_ 5 (d := dd_is_cap) rfl
      exact ⟨_, fd, He.glo_ok X G (c.says.fact 5 (f := .glo "is_cap") rfl), F⟩
    · obtain ⟨fd, F⟩ := c.says.def_ 6 (d := dd_wrong_cap) rfl
      exact ⟨_, fd, He.glo_ok X G (c.says.fact 6 (f := .glo "wrong_cap") rfl), F⟩
    · obtain ⟨fd, F⟩ := c.says.def_ 7 (d := dd_check_head) rfl
      exact ⟨_, fd, He.glo_ok X G (c.says.fact 7 (f := .glo "check_head") rfl), F⟩
    · obtain ⟨fd, F⟩ := c.says.def_ 8 (d := dd_check_tail) rfl
      exact ⟨_, fd, He.glo_ok X G (c.says.fact 8 (f := .glo "check_tail") rfl), F⟩
    · obtain ⟨fd, F⟩ := c.says.def_ 9 (d := dd_cap_told) rfl
      exact ⟨_, fd, He.glo_ok X G (c.says.fact 9 (f := .glo "cap_told") rfl), F⟩
    · obtain ⟨fd, F⟩ := c.says.def_ 10 (d := dd_caps_told) rfl
      exact ⟨_, fd, He.glo_ok X G (c.says.fact 10 (f := .glo "caps_told") rfl), F⟩
    · obtain ⟨fd, F⟩ := c.says.def_ 11 (d := dd_shortest_pair) rfl
      exact ⟨_, fd, He.glo_ok X G (c.says.fact 11 (f := .glo "shortest_pair") rfl), F⟩
    · obtain ⟨fd, F⟩ := c.says.def_ 12 (d := dd_cap_at) rfl
      exact ⟨_, fd, He.glo_ok X G (c.says.fact 12 (f := .glo "cap_at") rfl), F⟩
    · obtain ⟨fd, F⟩ := c.says.def_ 13 (d := dd_check_rule) rfl
      exact ⟨_, fd, He.glo_ok X G (c.says.fact 13 (f := .glo "check_rule") rfl), F⟩
    · obtain ⟨fd, F⟩ := c.says.def_ 14 (d := dd_with_size) rfl
      exact ⟨_, fd, He.glo_ok X G (c.says.fact 14 (f := .glo "with_size") rfl), F⟩
    · obtain ⟨fd, F⟩ := c.says.def_ 15 (d := dd_apart_counts) rfl
      exact ⟨_, fd, He.glo_ok X G (c.says.fact 15 (f := .glo "apart_counts") rfl), F⟩
    · obtain ⟨fd, F⟩ := c.says.def_ 16 (d := dd_ban_counts) rfl
      exact ⟨_, fd, He.glo_ok X G (c.says.fact 16 (f := .glo "ban_counts") rfl), F⟩
    · obtain ⟨fd, F⟩ := c.says.def_ 17 (d := dd_sums_by_divisors) rfl
      exact ⟨_, fd, He.glo_ok X G (c.says.fact 17 (f := .glo "sums_by_divisors") rfl), F⟩
    · obtain ⟨fd, F⟩ := c.says.def_ 18 (d := dd_counts_by_excesses) rfl
      exact ⟨_, fd, He.glo_ok X G (c.says.fact 18 (f := .glo "counts_by_excesses") rfl), F⟩
    · obtain ⟨fd, F⟩ := c.says.def_ 19 (d := dd_excess_list) rfl
      exact ⟨_, fd, He.glo_ok X G (c.says.fact 19 (f := .glo "excess_list") rfl), F⟩
    · obtain ⟨fd, F⟩ := c.says.def_ 20 (d := dd_counts_of) rfl
      exact ⟨_, fd, He.glo_ok X G (c.says.fact 20 (f := .glo "counts_of") rfl), F⟩
    · obtain ⟨fd, F⟩ := c.says.def_ 21 (d := dd_counts) rfl
      exact ⟨_, fd, He.glo_ok X G (c.says.fact 21 (f := .glo "counts") rfl), F⟩
    · obtain ⟨fd, F⟩ := c.says.def_ 22 (d := dd_gap_list) rfl
      exact ⟨_, fd, He.glo_ok X G (c.says.fact 22 (f := .glo "gap_list") rfl), F⟩
    · obtain ⟨fd, F⟩ := c.says.def_ 23 (d := dd_check_apart) rfl
      exact ⟨_, fd, He.glo_ok X G (c.says.fact 23 (f := .glo "check_apart") rfl), F⟩
    · obtain ⟨fd, F⟩ := c.says.def_ 24 (d := dd_does_part) rfl
      exact ⟨_, fd, He.glo_ok X G (c.says.fact 24 (f := .glo "does_part") rfl), F⟩
    · obtain ⟨fd, F⟩ := c.says.def_ 25 (d := dd_apart_rows) rfl
      exact ⟨_, fd, He.glo_ok X G (c.says.fact 25 (f := .glo "apart_rows") rfl), F⟩
    · obtain ⟨fd, F⟩ := c.says.def_ 26 (d := dd__law_well) rfl
      exact ⟨_, fd, He.glo_ok X G (c.says.fact 26 (f := .glo "_law_well") rfl), F⟩
    · obtain ⟨fd, F⟩ := c.says.def_ 27 (d := dd__law_dip) rfl
      exact ⟨_, fd, He.glo_ok X G (c.says.fact 27 (f := .glo "_law_dip") rfl), F⟩
    · obtain ⟨fd, F⟩ := c.says.def_ 28 (d := dd__law_of) rfl
      exact ⟨_, fd, He.glo_ok X G (c.says.fact 28 (f := .glo "_law_of") rfl), F⟩
    · obtain ⟨fd, F⟩ := c.says.def_ 29 (d := dd__law_known) rfl
      exact ⟨_, fd, He.glo_ok X G (c.says.fact 29 (f := .glo "_law_known") rfl), F⟩
    · obtain ⟨fd, F⟩ := c.says.def_ 30 (d := dd__law_from_least) rfl
      exact ⟨_, fd, He.glo_ok X G (c.says.fact 30 (f := .glo "_law_from_least") rfl), F⟩
    · obtain ⟨fd, F⟩ := c.says.def_ 31 (d := dd__law_by_last) rfl
      exact ⟨_, fd, He.glo_ok X G (c.says.fact 31 (f := .glo "_law_by_last") rfl), F⟩
    · exact c.says.def_ 32 (d := dd_Caps__init) rfl
    · exact c.at_ 0
    · exact c.at_ 1
    · exact c.at_ 2
  obtain ⟨fd, F⟩ := c.says.def_ 33 (d := dd_law) rfl
  have e := hfa.symm.trans (He.glo_ok X G (c.says.fact 32 (f := .glo "law") rfl))
  cases e
  have b := FunD.bindsA (ps := ["script"]) F fun _ _ _ _ _ _ us hl => match us, hl with | [_], _ => rfl
  exact ⟨fd, fun s v => b s [v] rfl, fun base _ _ => fn2_succ (ps := P_law) F S_law rfl fun cdv A outer s H w0 E hr => b_law (hy FX n) cdv A outer s H w0 E hr⟩
end K97
open PySem PySem.W PySem.Calls PyProof.Rows
theorem PySem.Challenge.cw_letparts_k97_whole_rows_apart_beside_cap_holds : PySem.Challenge.rw_letparts_k97_whole_rows_apart_beside_cap.Holds := by
  w_on; o_law
  refine HandSHeadRun.head_any (r := OpenLaw.row PySem.Challenge.rw_letparts_k97_whole_rows_apart_beside_cap) (q := view (OpenLaw.row PySem.Challenge.rw_letparts_k97_whole_rows_apart_beside_cap).prog [83]) (H := K97.hk) (ob := K97.ob) (M := 6000) (loose := (K97.loose0 ++ K97.loose1 ++ K97.loose2 ++ K97.loose3 ++ K97.loose4)) (d := HandSHeadRun.topDef (OpenLaw.row PySem.Challenge.rw_letparts_k97_whole_rows_apart_beside_cap).prog 83) (kwd := []) K97.ob_eq
    (by kernel_rfl) (fun s => by kernel_rfl) K97.run (by kernel_rfl) (by kernel_rfl) (by kernel_rfl) (by rfl) (by first | assumption | decide +kernel) (by decide +kernel) ⟨rfl, rfl, rfl, rfl, rfl, by decide +kernel⟩ ?hw ?hc
  case hw => w_witness2
  case hc =>
    refine L2.walk_ofE (l := PySem.Challenge.rw_letparts_k97_whole_rows_apart_beside_cap) (n := 63) (k := 84) (x := "script") (CX := L2.CX0) rfl (by decide) (by kernel_rfl) ⟨rfl, by decide, by decide⟩ ?F (fun _ _ _ _ z => z)
    intro w mg fa h Y G hmg0
    obtain ⟨K, KX, c⟩ := Y
    have hmg : mg ("law" : PySem.Str) = some (.ref fa) := by
      have e : (HandSHeadRun.topDef (OpenLaw.row PySem.Challenge.rw_letparts_k97_whole_rows_apart_beside_cap).prog 83).name = ("law" : PySem.Str) := by kernel_rfl
      rw [← e]
      exact hmg0
    obtain ⟨fd, hb, hF⟩ := K97.facts (P := (PySem.Challenge.rw_letparts_k97_whole_rows_apart_beside_cap).prog) (w := w) KX G hmg c 41
    refine ⟨K, fd, _, KX, hb, fun H a ns hl _ hS => ?_, hF⟩
    obtain ⟨G', e⟩ := K97.law_true (k := 42) (by decide) ns hl
    exact Lp.spD_law (M := ⟨K, K97.caK K, fun _ => 0⟩) rfl hS e

