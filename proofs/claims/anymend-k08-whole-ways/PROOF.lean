import PyProof.Rows.All
import Wide.All
import OpenK.AllK
import Wide.FinOn
import HandS.ForMost
import HandS.Deep
import HandS.IsInst
import HandS.TupAny
import HandS.Zip
import HandS.Strs
import HandS.Style
import HandS.Defaults
import KE.DataEq
import KE.Datum
import KE.GoesEnum
import KE.GoesZip
import KE.KDictKeyed
import HandS.DictEq
import HandS.ListEq
import HandS.More
import HandS.Dict
import HandS.Iter
import HandS.Conv
import KE.KDictItemsList
import KE.KDictZip
import HandS.ListItems
import KE.KAssignIn
import HandS.Small
import HandS.Text
import HandS.Codes
import KE.KIntText
import KE.KStateDown
import HandS.Head0
import HandS.Head1
import HandS.Head2
import HandS.HeadEnd
import HandS.HeadHook1
import HandS.HeadHook2
import PySem.Challenge.RW_anymend_k08_whole_ways
set_option Elab.async false
set_option linter.all false
set_option maxRecDepth 100000
set_option maxHeartbeats 4000000
/-! A logic over data: what the readings of the hand layer do to immutable data and to a few cells. -/
namespace Am
open PySem PySem.Spec PyProof.Rows L2

/-! ### data -/
inductive D where
  | non | bl (b : Bool) | int (i : Int) | str (s : Str) | loc (p : Addr)
  | lst (ds : List D) | lstF (ds : List D) | tup (ds : List D) | tupF (ds : List D)
  | dk (kds : List (Key × D)) | dt (kds : List (List Key × D)) | dtF (kds : List (List Key × D))
  | ins (C : Addr) (fs : List (Str × D))

mutual
inductive Rep (K : PySem.W.Frag) (G : Hp) : V → D → Prop
  | non : Rep K G .non .non
  | bl (b : Bool) : Rep K G (.bl b) (.bl b)
  | int (i : Int) : Rep K G (.int i) (.int i)
  | str (s : Str) : Rep K G (.str s) (.str s)
  | loc (p : Addr) : Rep K G (.ref p) (.loc p)
  | lst {a : Addr} {xs : List V} {ds : List D} : G a = some (.lst xs) → Reps K G xs ds → Rep K G (.ref a) (.lst ds)
  | lstF {a : Addr} {xs : List V} {ds : List D} : SqL K G a xs → Reps K G xs ds → Rep K G (.ref a) (.lstF ds)
  | tup {a : Addr} {xs : List V} {ds : List D} : G a = some (.tup xs) → Reps K G xs ds → Rep K G (.ref a) (.tup ds)
  | tupF {a : Addr} {o : Obj} {xs : List V} {ds : List D} : G a = some (.frz o (.tup xs)) → o.dict = none → Reps K G xs ds → Rep K G (.ref a) (.tupF ds)
  | dk {a : Addr} {kvs : List (Key × V)} {kds : List (Key × D)} : G a = some (.dK kvs) → kvs.map (·.1) = kds.map (·.1) → Reps K G (kvs.map (·.2)) (kds.map (·.2)) → Rep K G (.ref a) (.dk kds)
  | dt {a : Addr} {kvs : List (List Key × V)} {kds : List (List Key × D)} : G a = some (.dT kvs) → kvs.map (·.1) = kds.map (·.1) → Reps K G (kvs.map (·.2)) (kds.map (·.2)) → Rep K G (.ref a) (.dt kds)
  | dtF {a : Addr} {o : Obj} {kvs : List (List Key × V)} {kds : List (List Key × D)} : G a = some (.frz o (.dT kvs)) → kvs.map (·.1) = kds.map (·.1) → Reps K G (kvs.map (·.2)) (kds.map (·.2)) → Rep K G (.ref a) (.dtF kds)
  | ins {a C dx : Addr} {fs : List (Str × V)} {fds : List (Str × D)} : G a = some (.ins C dx fs) → fs.map (·.1) = fds.map (·.1) → Reps K G (fs.map (·.2)) (fds.map (·.2)) → Rep K G (.ref a) (.ins C fds)
inductive Reps (K : PySem.W.Frag) (G : Hp) : List V → List D → Prop
  | nil : Reps K G [] []
  | cons {v : V} {vs : List V} {d : D} {ds : List D} : Rep K G v d → Reps K G vs ds → Reps K G (v :: vs) (d :: ds)
end

theorem rd_mono {G G' : Hp} (e : Same G G') {a : Addr} {u : HO} (h : Rd G a u) : Rd G' a u := by
  rcases h with h | ⟨o, h⟩
  · exact .inl (e a _ h)
  · exact .inr ⟨o, e a _ h⟩
theorem sql_mono {K : PySem.W.Frag} {G G' : Hp} (e : Same G G') {a : Addr} {xs : List V} (h : SqL K G a xs) : SqL K G' a xs := by
  rcases h with h | h
  · exact .inl (rd_mono e h)
  · exact .inr h
section
variable {K : PySem.W.Frag} {G G' H H' : Hp}
mutual
theorem Rep.mono (e : Same G G') : ∀ {v : V} {d : D}, Rep K G v d → Rep K G' v d
  | _, _, .non => .non
  | _, _, .bl b => .bl b
  | _, _, .int i => .int i
  | _, _, .str s => .str s
  | _, _, .loc p => .loc p
  | _, _, .lst h r => .lst (e _ _ h) (Reps.mono e r)
  | _, _, .lstF h r => .lstF (sql_mono e h) (Reps.mono e r)
  | _, _, .tup h r => .tup (e _ _ h) (Reps.mono e r)
  | _, _, .tupF h k r => .tupF (e _ _ h) k (Reps.mono e r)
  | _, _, .dk h k r => .dk (e _ _ h) k (Reps.mono e r)
  | _, _, .dt h k r => .dt (e _ _ h) k (Reps.mono e r)
  | _, _, .dtF h k r => .dtF (e _ _ h) k (Reps.mono e r)
  | _, _, .ins h k r => .ins (e _ _ h) k (Reps.mono e r)
theorem Reps.mono (e : Same G G') : ∀ {vs : List V} {ds : List D}, Reps K G vs ds → Reps K G' vs ds
  | _, _, .nil => .nil
  | _, _, .cons h r => .cons (Rep.mono e h) (Reps.mono e r)
end
theorem Reps.length : ∀ {vs : List V} {ds : List D}, Reps K G vs ds → vs.length = ds.length
  | _, _, .nil => rfl
  | _, _, .cons _ r => congrArg Nat.succ (Reps.length r)
theorem Reps.get : ∀ {vs : List V} {ds : List D} {i : Nat} {d : D}, Reps K G vs ds → ds[i]? = some d → ∃ v, vs[i]? = some v ∧ Rep K G v d
  | _, _, _, _, .nil, e => by simp at e
  | _, _, 0, _, .cons r _, e => by simp at e; subst e; exact ⟨_, rfl, r⟩
  | _, _, i + 1, d, .cons _ t, e => by
    obtain ⟨v, h1, h2⟩ := Reps.get (i := i) (d := d) t (by simpa using e)
    exact ⟨v, by simpa using h1, h2⟩
theorem Reps.get' : ∀ {vs : List V} {ds : List D} {i : Nat} {v : V}, Reps K G vs ds → vs[i]? = some v → ∃ d, ds[i]? = some d ∧ Rep K G v d
  | _, _, _, _, .nil, e => by simp at e
  | _, _, 0, _, .cons r _, e => by simp at e; subst e; exact ⟨_, rfl, r⟩
  | _, _, i + 1, d, .cons _ t, e => by
    obtain ⟨v, h1, h2⟩ := Reps.get' (i := i) (v := d) t (by simpa using e)
    exact ⟨v, by simpa using h1, h2⟩
theorem Reps.append : ∀ {xs ys : List V} {ds es : List D}, Reps K G xs ds → Reps K G ys es → Reps K G (xs ++ ys) (ds ++ es)
  | _, _, _, _, .nil, s => s
  | _, _, _, _, .cons r t, s => .cons r (Reps.append t s)
theorem Reps.snoc {xs : List V} {ds : List D} {v : V} {d : D} (h : Reps K G xs ds) (r : Rep K G v d) : Reps K G (xs ++ [v]) (ds ++ [d]) := h.append (.cons r .nil)
theorem Reps.take : ∀ {xs : List V} {ds : List D} (n : Nat), Reps K G xs ds → Reps K G (xs.take n) (ds.take n)
  | _, _, 0, _ => .nil
  | _, _, _ + 1, .nil => .nil
  | _, _, n + 1, .cons r t => .cons r (Reps.take n t)
theorem Reps.drop : ∀ {xs : List V} {ds : List D} (n : Nat), Reps K G xs ds → Reps K G (xs.drop n) (ds.drop n)
  | _, _, 0, r => r
  | _, _, _ + 1, .nil => .nil
  | _, _, n + 1, .cons _ t => Reps.drop n t
theorem Reps.reverse : ∀ {xs : List V} {ds : List D}, Reps K G xs ds → Reps K G xs.reverse ds.reverse
  | _, _, .nil => .nil
  | _, _, .cons r t => by
    rw [List.reverse_cons, List.reverse_cons]
    exact (Reps.reverse t).snoc r
/-! plain data stand as they are -/
theorem reps_str : ∀ {xs : List V} {ss : List Str}, Reps K G xs (ss.map D.str) → xs = ss.map V.str
  | _, [], .nil => rfl
  | _, _ :: _, .cons (.str s) r => congrArg (V.str s :: ·) (reps_str r)
theorem reps_int : ∀ {xs : List V} {ss : List Int}, Reps K G xs (ss.map D.int) → xs = ss.map V.int
  | _, [], .nil => rfl
  | _, _ :: _, .cons (.int s) r => congrArg (V.int s :: ·) (reps_int r)
theorem reps_bl : ∀ {xs : List V} {ss : List Bool}, Reps K G xs (ss.map D.bl) → xs = ss.map V.bl
  | _, [], .nil => rfl
  | _, _ :: _, .cons (.bl s) r => congrArg (V.bl s :: ·) (reps_bl r)
theorem str_reps : ∀ (ss : List Str), Reps K G (ss.map V.str) (ss.map D.str)
  | [] => .nil
  | s :: r => .cons (.str s) (str_reps r)
theorem int_reps : ∀ (ss : List Int), Reps K G (ss.map V.int) (ss.map D.int)
  | [] => .nil
  | s :: r => .cons (.int s) (int_reps r)

/-! ### steps: G what is known for ever, H the heap -/
/-- no tuple -/
def nt : HO → Bool
  | .tup _ => false
  | _ => true
structure Go (M : List Addr) (G H G' H' : Hp) : Prop where
  g : Same G G'
  sub : Same G' H'
  keep : ∀ a o, a ∉ M → H a = some o → H' a = some o
  dom : ∀ a, H a ≠ none → H' a ≠ none
  cel : ∀ a o, H a = some o → nt o = true → ∃ o', H' a = some o' ∧ nt o' = true
  new : ∀ a o, H a = some o → nt o = true → G a = none → G' a = none
theorem Go.refl {M : List Addr} (s : Same G H) : Go M G H G H := ⟨Same.refl _, s, fun _ _ _ h => h, fun _ h => h, fun _ o h n => ⟨o, h, n⟩, fun _ _ _ _ h => h⟩
theorem Go.trans {M : List Addr} {G1 H1 G2 H2 : Hp} (a : Go M G H G1 H1) (b : Go M G1 H1 G2 H2) : Go M G H G2 H2 :=
  ⟨a.g.trans b.g, b.sub, fun x o m h => b.keep x o m (a.keep x o m h), fun x h => b.dom x (a.dom x h), fun x o h n => let ⟨o1, h1, n1⟩ := a.cel x o h n; b.cel x o1 h1 n1, fun x o h n z => let ⟨o1, h1, n1⟩ := a.cel x o h n; b.new x o1 h1 n1 (a.new x o h n z)⟩
theorem Go.mono {M M' : List Addr} (a : Go M G H G' H') (h : ∀ x ∈ M, x ∈ M') : Go M' G H G' H' := ⟨a.g, a.sub, fun x o m => a.keep x o fun q => m (h x q), a.dom, a.cel, a.new⟩
theorem Go.wide {M : List Addr} (a : Go [] G H G' H') : Go M G H G' H' := a.mono fun _ h => nomatch h
theorem same_new {H : Hp} {p : Addr} {o : HO} (h : H p = none) : Same H (upd H p o) := fun b x e => by
  rw [upd_ne (ne_of_none e h)]
  exact e
theorem free_sub {p : Addr} (s : Same G H) (h : H p = none) : G p = none := s.free h
theorem same_upd2 {p : Addr} {o : HO} (s : Same G H) : Same (upd G p o) (upd H p o) := fun b x e => by
  by_cases q : b = p
  · subst q; rw [upd_same] at e ⊢; exact e
  · rw [upd_ne q] at e ⊢; exact s b x e
theorem upd_some {H : Hp} {p a : Addr} {o : HO} (h : H a ≠ none) : upd H p o a ≠ none := by
  by_cases q : a = p
  · subst q; rw [upd_same]; exact fun z => nomatch z
  · rw [upd_ne q]; exact h
theorem Go.alloc {M : List Addr} {p : Addr} {o : HO} (s : Same G H) (hp : H p = none) : Go M G H (upd G p o) (upd H p o) :=
  ⟨same_new (free_sub s hp), same_upd2 s, fun a x _ h => same_new hp a x h, fun _ h => upd_some h, fun a o h n => ⟨o, same_new hp a o h, n⟩, fun a o h _ n => by
    have q : a ≠ p := ne_of_none h hp
    rw [upd_ne q]; exact n⟩
/-- a new object that is not known for ever (a cell) -/
theorem Go.cell {M : List Addr} {p : Addr} {o : HO} (s : Same G H) (hp : H p = none) : Go M G H G (upd H p o) :=
  ⟨Same.refl _, fun a x h => same_new hp a x (s a x h), fun a x _ h => same_new hp a x h, fun _ h => upd_some h, fun a o h n => ⟨o, same_new hp a o h, n⟩, fun _ _ _ _ n => n⟩

/-! ### slots -/
abbrev Ro := List (Option D)
inductive Sl (K : PySem.W.Frag) (G : Hp) : L2.St → Ro → Prop
  | nil : Sl K G [] []
  | skip {x : Option V} {σ : L2.St} {ρ : Ro} : Sl K G σ ρ → Sl K G (x :: σ) (none :: ρ)
  | val {v : V} {d : D} {σ : L2.St} {ρ : Ro} : Rep K G v d → Sl K G σ ρ → Sl K G (some v :: σ) (some d :: ρ)
theorem Sl.mono (e : Same G G') : ∀ {σ : L2.St} {ρ : Ro}, Sl K G σ ρ → Sl K G' σ ρ
  | _, _, .nil => .nil
  | _, _, .skip r => .skip (Sl.mono e r)
  | _, _, .val h r => .val (h.mono e) (Sl.mono e r)
theorem Sl.get : ∀ {σ : L2.St} {ρ : Ro} {i : Nat} {d : D}, Sl K G σ ρ → ρ[i]? = some (some d) → ∃ v, σ[i]? = some (some v) ∧ Rep K G v d
  | _, _, _, _, .nil, e => by simp at e
  | _, _, 0, _, .skip _, e => by simp at e
  | _, _, 0, _, .val r _, e => by simp at e; subst e; exact ⟨_, rfl, r⟩
  | _, _, i + 1, d, .skip t, e => by
    obtain ⟨v, h1, h2⟩ := Sl.get (i := i) (d := d) t (by simpa using e)
    exact ⟨v, by simpa using h1, h2⟩
  | _, _, i + 1, d, .val _ t, e => by
    obtain ⟨v, h1, h2⟩ := Sl.get (i := i) (d := d) t (by simpa using e)
    exact ⟨v, by simpa using h1, h2⟩
theorem Sl.set {v : V} {d : D} (q : Rep K G v d) : ∀ {σ : L2.St} {ρ : Ro} (i : Nat), Sl K G σ ρ → Sl K G (σ.set i (some v)) (ρ.set i (some d))
  | _, _, _, .nil => .nil
  | _, _, 0, .skip t => .val q t
  | _, _, 0, .val _ t => .val q t
  | _, _, i + 1, .skip t => .skip (Sl.set q i t)
  | _, _, i + 1, .val r t => .val r (Sl.set q i t)
theorem Sl.drop1 : ∀ {σ : L2.St} {ρ : Ro} (i : Nat), Sl K G σ ρ → Sl K G σ (ρ.set i none)
  | _, _, _, .nil => .nil
  | _, _, 0, .skip t => .skip t
  | _, _, 0, .val _ t => .skip t
  | _, _, i + 1, .skip t => .skip (Sl.drop1 i t)
  | _, _, i + 1, .val r t => .val r (Sl.drop1 i t)
theorem Sl.unset {x : Option V} : ∀ {σ : L2.St} {ρ : Ro} (i : Nat), Sl K G σ ρ → Sl K G (σ.set i x) (ρ.set i none)
  | _, _, _, .nil => .nil
  | _, _, 0, .skip t => .skip t
  | _, _, 0, .val _ t => .skip t
  | _, _, i + 1, .skip t => .skip (Sl.unset i t)
  | _, _, i + 1, .val r t => .val r (Sl.unset i t)
def wipeR (ρ : Ro) : List Nat → Ro
  | [] => ρ
  | v :: vs => (wipeR ρ vs).set v none
theorem Sl.wipe {σ : L2.St} {ρ : Ro} (h : Sl K G σ ρ) : ∀ vs : List Nat, Sl K G (L2.wipe σ vs) (wipeR ρ vs)
  | [] => h
  | v :: vs => Sl.unset v (Sl.wipe h vs)
theorem wipe_set {σ : L2.St} {i : Nat} {x : Option V} : ∀ {vs : List Nat}, i ∈ vs → L2.wipe (σ.set i x) vs = L2.wipe σ vs
  | [], h => by simp at h
  | v :: vs, h => by
    show (L2.wipe (σ.set i x) vs).set v none = (L2.wipe σ vs).set v none
    by_cases e : i ∈ vs
    · rw [wipe_set e]
    · have ev : i = v := by
        rcases List.mem_cons.mp h with z | z
        · exact z
        · exact absurd z e
      subst ev
      have aux : ∀ vs : List Nat, i ∉ vs → L2.wipe (σ.set i x) vs = (L2.wipe σ vs).set i x := by
        intro vs
        induction vs with
        | nil => intro _; rfl
        | cons u us ih =>
          intro hn
          have h1 : i ≠ u := fun z => hn (z ▸ List.mem_cons_self ..)
          have h2 : i ∉ us := fun z => hn (List.mem_cons_of_mem _ z)
          show (L2.wipe (σ.set i x) us).set u none = ((L2.wipe σ us).set u none).set i x
          rw [ih h2, List.set_comm _ _ h1]
      rw [aux vs e, List.set_set]
theorem set_twice {σ : L2.St} {i : Nat} {x y : Option V} : (σ.set i x).set i y = σ.set i y := List.set_set ..
theorem wipe_wipe {σ : L2.St} (vs ws : List Nat) (h : ∀ v ∈ ws, v ∈ vs) : L2.wipe (L2.wipe σ ws) vs = L2.wipe σ vs := by
  induction ws with
  | nil => rfl
  | cons w ws ih =>
    show L2.wipe ((L2.wipe σ ws).set w none) vs = _
    rw [wipe_set (h w (List.mem_cons_self ..)), ih fun v hv => h v (List.mem_cons_of_mem _ hv)]

/-! ### cells -/
inductive Own where
  | lst (ds : List D)
  | dk (kds : List (Key × D))
  | dt (kds : List (List Key × D))
  | ins (C : Addr) (fs : List (Str × D))
def OwnAt (K : PySem.W.Frag) (G H : Hp) (p : Addr) : Own → Prop
  | .lst ds => ∃ xs, H p = some (.lst xs) ∧ Reps K G xs ds
  | .dk kds => ∃ kvs : List (Key × V), H p = some (.dK kvs) ∧ kvs.map (·.1) = kds.map (·.1) ∧ Reps K G (kvs.map (·.2)) (kds.map (·.2))
  | .dt kds => ∃ kvs : List (List Key × V), H p = some (.dT kvs) ∧ kvs.map (·.1) = kds.map (·.1) ∧ Reps K G (kvs.map (·.2)) (kds.map (·.2))
  | .ins C fds => ∃ (dx : Addr) (fs : List (Str × V)), H p = some (.ins C dx fs) ∧ fs.map (·.1) = fds.map (·.1) ∧ Reps K G (fs.map (·.2)) (fds.map (·.2))
theorem OwnAt.mono {p : Addr} {o : Own} (g : Same G G') (h : ∀ u, H p = some u → H' p = some u) (w : OwnAt K G H p o) : OwnAt K G' H' p o := by
  cases o with
  | lst ds => obtain ⟨xs, e, r⟩ := w; exact ⟨xs, h _ e, r.mono g⟩
  | dk ds => obtain ⟨xs, e, k, r⟩ := w; exact ⟨xs, h _ e, k, r.mono g⟩
  | dt ds => obtain ⟨xs, e, k, r⟩ := w; exact ⟨xs, h _ e, k, r.mono g⟩
  | ins C ds => obtain ⟨dx, xs, e, k, r⟩ := w; exact ⟨dx, xs, h _ e, k, r.mono g⟩
theorem OwnAt.some {p : Addr} {o : Own} (w : OwnAt K G H p o) : H p ≠ none := by
  cases o with
  | lst ds => obtain ⟨xs, e, r⟩ := w; rw [e]; exact fun z => nomatch z
  | dk ds => obtain ⟨xs, e, k, r⟩ := w; rw [e]; exact fun z => nomatch z
  | dt ds => obtain ⟨xs, e, k, r⟩ := w; rw [e]; exact fun z => nomatch z
  | ins C ds => obtain ⟨dx, xs, e, k, r⟩ := w; rw [e]; exact fun z => nomatch z
theorem own_cel {p : Addr} {o : Own} (w : OwnAt K G H p o) : ∃ u, H p = some u ∧ nt u = true := by
  cases o with
  | lst ds => obtain ⟨xs, e, r⟩ := w; exact ⟨_, e, rfl⟩
  | dk ds => obtain ⟨xs, e, k, r⟩ := w; exact ⟨_, e, rfl⟩
  | dt ds => obtain ⟨xs, e, k, r⟩ := w; exact ⟨_, e, rfl⟩
  | ins C ds => obtain ⟨dx, xs, e, k, r⟩ := w; exact ⟨_, e, rfl⟩
abbrev Mem := List (Addr × Own)
/-- the cells stand -/
structure Ce (K : PySem.W.Frag) (G H : Hp) (μ : Mem) : Prop where
  at_ : ∀ c ∈ μ, OwnAt K G H c.1 c.2 ∧ G c.1 = none
  nd : (μ.map (·.1)).Nodup
theorem Ce.nil : Ce K G H [] := ⟨fun _ h => (nomatch h), List.nodup_nil⟩
theorem Ce.go {M : List Addr} {μ : Mem} (c : Ce K G H μ) (g : Go M G H G' H') (hM : ∀ x ∈ μ, x.1 ∉ M) : Ce K G' H' μ :=
  ⟨fun x hx => ⟨(c.at_ x hx).1.mono g.g fun u e => g.keep _ _ (hM x hx) e, let ⟨o, ho, n⟩ := own_cel (c.at_ x hx).1; g.new _ o ho n (c.at_ x hx).2⟩, c.nd⟩
/-- the state: M what may be changed of what stood at the entry -/
structure Stt (K : PySem.W.Frag) (M : List Addr) (G0 H0 G H : Hp) (σ : L2.St) (ρ : Ro) (μ : Mem) : Prop where
  go : Go M G0 H0 G H
  sl : Sl K G σ ρ
  ce : Ce K G H μ
  own : ∀ c ∈ μ, c.1 ∈ M ∨ H0 c.1 = none
  base : ∀ a ∈ M, H0 a ≠ none
section
variable {M : List Addr} {G0 H0 : Hp} {σ : L2.St} {ρ : Ro} {μ : Mem}
theorem Stt.sub (s : Stt K M G0 H0 G H σ ρ μ) : Same G H := s.go.sub
/-- a step that changes no cell -/
theorem Stt.step (s : Stt K M G0 H0 G H σ ρ μ) (g : Go [] G H G' H') : Stt K M G0 H0 G' H' σ ρ μ :=
  ⟨s.go.trans g.wide, s.sl.mono g.g, s.ce.go g (fun _ _ z => (nomatch z)), s.own, s.base⟩
theorem Stt.set {v : V} {d : D} (s : Stt K M G0 H0 G H σ ρ μ) (i : Nat) (r : Rep K G v d) : Stt K M G0 H0 G H (σ.set i (some v)) (ρ.set i (some d)) μ := ⟨s.go, s.sl.set r i, s.ce, s.own, s.base⟩
theorem Stt.slots {σ' : L2.St} {ρ' : Ro} (s : Stt K M G0 H0 G H σ ρ μ) (h : Sl K G σ' ρ') : Stt K M G0 H0 G H σ' ρ' μ := ⟨s.go, h, s.ce, s.own, s.base⟩
theorem Stt.freshM {p : Addr} (s : Stt K M G0 H0 G H σ ρ μ) (h : H p = none) : p ∉ M := fun m => s.go.dom p (s.base p m) h
theorem Stt.freshμ {p : Addr} (s : Stt K M G0 H0 G H σ ρ μ) (h : H p = none) : p ∉ μ.map (·.1) := fun m => by
  obtain ⟨c, hc, rfl⟩ := List.mem_map.mp m
  exact (s.ce.at_ c hc).1.some h
theorem Stt.fresh0 {p : Addr} (s : Stt K M G0 H0 G H σ ρ μ) (h : H p = none) : H0 p = none := by
  cases e : H0 p with
  | none => rfl
  | some o => exact absurd h (s.go.dom p (by rw [e]; exact fun z => nomatch z))
/-- a new cell -/
theorem Stt.cell {p : Addr} {o : HO} {u : Own} (s : Stt K M G0 H0 G H σ ρ μ) (h : H p = none) (w : OwnAt K G (upd H p o) p u) : Stt K M G0 H0 G (upd H p o) σ ρ ((p, u) :: μ) := by
  have g : Go [] G H G (upd H p o) := Go.cell s.sub h
  have s' := s.step g
  refine ⟨s'.go, s'.sl, ⟨fun c hc => ?_, ?_⟩, fun c hc => ?_, s.base⟩
  · rcases List.mem_cons.mp hc with e | hc
    · rw [e]; exact ⟨w, free_sub s.sub h⟩
    · exact s'.ce.at_ c hc
  · rw [List.map_cons, List.nodup_cons]
    exact ⟨s.freshμ h, s.ce.nd⟩
  · rcases List.mem_cons.mp hc with e | hc
    · rw [e]; exact .inr (s.fresh0 h)
    · exact s.own c hc
end
/-- put into the cell at p -/
def setμ (μ : Mem) (p : Addr) (u : Own) : Mem := μ.map fun c => if c.1 = p then (p, u) else c
theorem setμ_fst (μ : Mem) (p : Addr) (u : Own) : (setμ μ p u).map (·.1) = μ.map (·.1) := by
  unfold setμ
  rw [List.map_map]
  apply List.map_congr_left
  intro c _
  show (if c.1 = p then (p, u) else c).1 = c.1
  split
  · rename_i e; exact e.symm
  · rfl
section
variable {M : List Addr} {G0 H0 : Hp} {σ : L2.St} {ρ : Ro} {μ : Mem}
theorem Stt.write {p : Addr} {o : HO} {u w : Own} (s : Stt K M G0 H0 G H σ ρ μ) (hp : (p, w) ∈ μ) (hw : OwnAt K G (upd H p o) p u) : Stt K M G0 H0 G (upd H p o) σ ρ (setμ μ p u) := by
  have gp : G p = none := (s.ce.at_ _ hp).2
  have ho := s.own _ hp
  have sub' : Same G (upd H p o) := fun a x h => by
    have q : a ≠ p := ne_of_none h gp
    rw [upd_ne q]; exact s.sub a x h
  refine ⟨⟨s.go.g, sub', fun a x ha h => ?_, fun a h => upd_some (s.go.dom a h), fun a x h n => ?_, s.go.new⟩, s.sl, ⟨fun c hc => ?_, by rw [setμ_fst]; exact s.ce.nd⟩, fun c hc => ?_, s.base⟩
  · have q : a ≠ p := fun z => by
      subst z
      rcases ho with m | m
      · exact ha m
      · rw [show H0 a = none from m] at h; cases h
    rw [upd_ne q]; exact s.go.keep a x ha h
  · by_cases q : a = p
    · subst q; exact own_cel hw
    · rw [upd_ne q]; exact s.go.cel a x h n
  · obtain ⟨c0, h0, e⟩ := List.mem_map.mp hc
    have e : (if c0.1 = p then (p, u) else c0) = c := e
    by_cases q : c0.1 = p
    · rw [if_pos q] at e; subst e; exact ⟨hw, gp⟩
    · rw [if_neg q] at e; subst e
      exact ⟨(s.ce.at_ _ h0).1.mono (Same.refl _) fun x e => by rw [upd_ne q]; exact e, (s.ce.at_ _ h0).2⟩
  · obtain ⟨c0, h0, e⟩ := List.mem_map.mp hc
    have e : (if c0.1 = p then (p, u) else c0) = c := e
    by_cases q : c0.1 = p
    · rw [if_pos q] at e; subst e; exact ho
    · rw [if_neg q] at e; subst e; exact s.own _ h0
theorem Stt.rho {ρ' : Ro} (s : Stt K M G0 H0 G H σ ρ μ) (h : ∀ G', Same G G' → Sl K G' σ ρ → Sl K G' σ ρ') : Stt K M G0 H0 G H σ ρ' μ := ⟨s.go, h G (Same.refl _) s.sl, s.ce, s.own, s.base⟩
/-- fewer cells -/
theorem Stt.less {μ' : Mem} (s : Stt K M G0 H0 G H σ ρ μ) (h : List.Sublist μ' μ) : Stt K M G0 H0 G H σ ρ μ' :=
  ⟨s.go, s.sl, ⟨fun c hc => s.ce.at_ c (h.subset hc), s.ce.nd.sublist (h.map _)⟩, fun c hc => s.own c (h.subset hc), s.base⟩
/-- a cell of the def's own becomes known for ever -/
theorem Stt.freeze {p : Addr} {o : HO} {u : Own} {μ' : Mem} (s : Stt K M G0 H0 G H σ ρ ((p, u) :: μ')) (hM : p ∉ M) (hp : H p = some o) : Stt K M G0 H0 (upd G p o) H σ ρ μ' := by
  have gp : G p = none := (s.ce.at_ _ (List.mem_cons_self ..)).2
  have h0 : H0 p = none := by
    rcases s.own _ (List.mem_cons_self ..) with m | m
    · exact absurd m hM
    · exact m
  have gg : Same G (upd G p o) := same_new gp
  have hnd := s.ce.nd
  rw [List.map_cons, List.nodup_cons] at hnd
  refine ⟨⟨s.go.g.trans gg, fun a x h => ?_, s.go.keep, s.go.dom, s.go.cel, fun a x h nx n => ?_⟩, s.sl.mono gg, ⟨fun c hc => ?_, hnd.2⟩, fun c hc => s.own c (List.mem_cons_of_mem _ hc), s.base⟩
  · by_cases q : a = p
    · subst q; rw [upd_same] at h; rw [hp]; exact h
    · rw [upd_ne q] at h; exact s.sub a x h
  · have q : a ≠ p := ne_of_none h h0
    rw [upd_ne q]; exact s.go.new a x h nx n
  · have q := s.ce.at_ c (List.mem_cons_of_mem _ hc)
    have ne : c.1 ≠ p := fun z => hnd.1 (List.mem_map.mpr ⟨c, hc, z⟩)
    exact ⟨q.1.mono gg fun _ e => e, by rw [upd_ne ne]; exact q.2⟩
end
end
end Am
/-! Judgements over data: expressions, tests, arguments, statements, loops. -/
namespace Am
open PySem PySem.Spec PyProof.Rows L2

/-! ### expressions that change no cell -/
def EvD (K : PySem.W.Frag) (te : TE) (ρ : Ro) (d : D) : Prop := ∀ (G H : Hp) (σ : L2.St), Same G H → Sl K G σ ρ → ∀ Q : VK, (∀ v G' H', Go [] G H G' H' → Rep K G' v d → Q v H') → te σ H Q
def EdA (K : PySem.W.Frag) (ta : TA) (ρ : Ro) (ds : List D) : Prop := ∀ (G H : Hp) (σ : L2.St), Same G H → Sl K G σ ρ → ∀ Q : List V → Hp → Prop, (∀ vs G' H', Go [] G H G' H' → Reps K G' vs ds → Q vs H') → ta σ H Q
def EdT (K : PySem.W.Frag) (tt : TT) (ρ : Ro) (b : Bool) : Prop := ∀ (G H : Hp) (σ : L2.St), Same G H → Sl K G σ ρ → ∀ Q : Bool → Hp → Prop, (∀ G' H', Go [] G H G' H' → Q b H') → tt σ H Q
def EdO (K : PySem.W.Frag) (to : TO) (ρ : Ro) (o : Option Int) : Prop := ∀ (G H : Hp) (σ : L2.St), Same G H → Sl K G σ ρ → ∀ Q : Option Int → Hp → Prop, (∀ G' H', Go [] G H G' H' → Q o H') → to σ H Q
/-- an operation on values -/
def RvD (K : PySem.W.Frag) (r : R2) (x y z : D) : Prop := ∀ (G H : Hp) (u v : V), Same G H → Rep K G u x → Rep K G v y → ∀ Q : VK, (∀ w G' H', Go [] G H G' H' → Rep K G' w z → Q w H') → r u v H Q
def RuD (K : PySem.W.Frag) (r : V → Hp → VK → Prop) (x z : D) : Prop := ∀ (G H : Hp) (u : V), Same G H → Rep K G u x → ∀ Q : VK, (∀ w G' H', Go [] G H G' H' → Rep K G' w z → Q w H') → r u H Q
def RcD (K : PySem.W.Frag) (r : List V → Hp → VK → Prop) (xs : List D) (z : D) : Prop := ∀ (G H : Hp) (us : List V), Same G H → Reps K G us xs → ∀ Q : VK, (∀ w G' H', Go [] G H G' H' → Rep K G' w z → Q w H') → r us H Q
def RmD (K : PySem.W.Frag) (r : V → List V → Hp → VK → Prop) (x : D) (xs : List D) (z : D) : Prop := ∀ (G H : Hp) (u : V) (us : List V), Same G H → Rep K G u x → Reps K G us xs → ∀ Q : VK, (∀ w G' H', Go [] G H G' H' → Rep K G' w z → Q w H') → r u us H Q

section
variable {K : PySem.W.Frag} {ρ : Ro} {ta tb te tc : TE} {t u : TT} {x y z d : D} {r : R2}
theorem ed_var {i : Nat} (h : ρ[i]? = some (some d)) : EvD K (tVar i) ρ d := fun G H σ s l Q q => by
  obtain ⟨v, h1, h2⟩ := l.get h
  exact ⟨v, h1, q v G H (Go.refl s) h2⟩
theorem ed_int (i : Int) : EvD K (tC (.int i)) ρ (.int i) := fun G H σ s l Q q => q _ G H (Go.refl s) (.int i)
theorem ed_str (i : Str) : EvD K (tC (.str i)) ρ (.str i) := fun G H σ s l Q q => q _ G H (Go.refl s) (.str i)
theorem ed_bl (i : Bool) : EvD K (tC (.bl i)) ρ (.bl i) := fun G H σ s l Q q => q _ G H (Go.refl s) (.bl i)
theorem ed_non : EvD K (tC .non) ρ .non := fun G H σ s l Q q => q _ G H (Go.refl s) .non
theorem ed_op (ha : EvD K ta ρ x) (hb : EvD K tb ρ y) (hr : RvD K r x y z) : EvD K (tOp r ta tb) ρ z := fun G H σ s l Q q =>
  ha G H σ s l _ fun u G1 H1 g1 r1 => hb G1 H1 σ g1.sub (l.mono g1.g) _ fun v G2 H2 g2 r2 => hr G2 H2 u v g2.sub (r1.mono g2.g) r2 Q fun w G3 H3 g3 r3 => q w G3 H3 (g1.trans (g2.trans g3)) r3
theorem ed_un {r : V → Hp → VK → Prop} (ha : EvD K ta ρ x) (hr : RuD K r x z) : EvD K (tUn r ta) ρ z := fun G H σ s l Q q =>
  ha G H σ s l _ fun u G1 H1 g1 r1 => hr G1 H1 u g1.sub r1 Q fun w G3 H3 g3 r3 => q w G3 H3 (g1.trans g3) r3
theorem ed_cb {ta : TA} {r : List V → Hp → VK → Prop} {xs : List D} (ha : EdA K ta ρ xs) (hr : RcD K r xs z) : EvD K (tCB r ta) ρ z := fun G H σ s l Q q =>
  ha G H σ s l _ fun u G1 H1 g1 r1 => hr G1 H1 u g1.sub r1 Q fun w G3 H3 g3 r3 => q w G3 H3 (g1.trans g3) r3
theorem ea_nil : EdA K tNil ρ [] := fun G H σ s l Q q => q [] G H (Go.refl s) .nil
theorem ea_cons {tr : TA} {ds : List D} (ha : EvD K ta ρ x) (hr : EdA K tr ρ ds) : EdA K (tCons ta tr) ρ (x :: ds) := fun G H σ s l Q q =>
  ha G H σ s l _ fun u G1 H1 g1 r1 => hr G1 H1 σ g1.sub (l.mono g1.g) _ fun vs G2 H2 g2 r2 => q _ G2 H2 (g1.trans g2) (.cons (r1.mono g2.g) r2)
theorem ed_tup {ta : TA} {ds : List D} (ha : EdA K ta ρ ds) (hl : ds.length ≤ 100000) : EvD K (tTup ta) ρ (.tup ds) := fun G H σ s l Q q =>
  ha G H σ s l _ fun vs G1 H1 g1 r1 => ⟨by rw [r1.length]; exact Nat.le_trans hl (by decide), fun p hp => q _ _ _ (g1.trans (Go.alloc g1.sub hp)) (.tup upd_same (r1.mono (same_new (free_sub g1.sub hp))))⟩
theorem ed_lst {ta : TA} {ds : List D} (ha : EdA K ta ρ ds) (hl : ds.length ≤ 100000) : EvD K (tLst ta) ρ (.lst ds) := fun G H σ s l Q q =>
  ha G H σ s l _ fun vs G1 H1 g1 r1 => ⟨by rw [r1.length]; exact Nat.le_trans hl (by decide), fun p hp => q _ _ _ (g1.trans (Go.alloc g1.sub hp)) (.lst upd_same (r1.mono (same_new (free_sub g1.sub hp))))⟩
theorem ed_if {b : Bool} {x : D} (h : EdT K t ρ b) (h1 : b = true → EvD K ta ρ x) (h2 : b = false → EvD K tb ρ x) : EvD K (tIf t ta tb) ρ x := fun G H σ s l Q q =>
  h G H σ s l _ fun G1 H1 g1 => by
    cases b with
    | true => exact h1 rfl G1 H1 σ g1.sub (l.mono g1.g) Q fun w G3 H3 g3 r3 => q w G3 H3 (g1.trans g3) r3
    | false => exact h2 rfl G1 H1 σ g1.sub (l.mono g1.g) Q fun w G3 H3 g3 r3 => q w G3 H3 (g1.trans g3) r3
theorem EvD.is (h : EvD K te ρ x) (e : x = y) : EvD K te ρ y := e ▸ h
/-! tests -/
theorem et_test {b : Bool} (h : EvD K te ρ (.bl b)) : EdT K (tTest te) ρ b := fun G H σ s l Q q => h G H σ s l _ fun v G1 H1 g1 r1 => by
  cases r1
  exact ⟨b, rfl, q _ _ g1⟩
theorem et_B {b : Bool} (h : EvD K te ρ (.bl b)) : EdT K (tB te) ρ b := fun G H σ s l Q q => h G H σ s l _ fun v G1 H1 g1 r1 => by
  cases r1
  exact ⟨b, rfl, q _ _ g1⟩
theorem et_not {b : Bool} (h : EdT K t ρ b) : EdT K (tNot t) ρ (!b) := fun G H σ s l Q q => h G H σ s l _ fun G1 H1 g1 => q _ _ g1
theorem et_and {a b : Bool} (h1 : EdT K t ρ a) (h2 : a = true → EdT K u ρ b) : EdT K (tAnd t u) ρ (a && b) := fun G H σ s l Q q => h1 G H σ s l _ fun G1 H1 g1 => by
  cases a with
  | true => exact h2 rfl G1 H1 σ g1.sub (l.mono g1.g) Q fun G3 H3 g3 => q G3 H3 (g1.trans g3)
  | false => exact q G1 H1 g1
theorem et_or {a b : Bool} (h1 : EdT K t ρ a) (h2 : a = false → EdT K u ρ b) : EdT K (tOr t u) ρ (a || b) := fun G H σ s l Q q => h1 G H σ s l _ fun G1 H1 g1 => by
  cases a with
  | true => exact q G1 H1 g1
  | false => exact h2 rfl G1 H1 σ g1.sub (l.mono g1.g) Q fun G3 H3 g3 => q G3 H3 (g1.trans g3)
theorem EdT.is {a b : Bool} (h : EdT K t ρ a) (e : a = b) : EdT K t ρ b := e ▸ h
theorem ed_andV {a b : Bool} (h1 : EvD K ta ρ (.bl a)) (h2 : a = true → EvD K tb ρ (.bl b)) : EvD K (tAndV ta tb) ρ (.bl (a && b)) := fun G H σ s l Q q => h1 G H σ s l _ fun v G1 H1 g1 r1 => by
  cases r1
  refine ⟨a, rfl, ?_⟩
  cases a with
  | true => exact h2 rfl G1 H1 σ g1.sub (l.mono g1.g) Q fun w G3 H3 g3 r3 => q w G3 H3 (g1.trans g3) r3
  | false => exact q _ G1 H1 g1 (.bl false)
theorem ed_notV {a : Bool} (h1 : EvD K ta ρ (.bl a)) : EvD K (tNotV ta) ρ (.bl (!a)) := fun G H σ s l Q q => h1 G H σ s l _ fun v G1 H1 g1 r1 => by
  cases r1
  exact ⟨a, rfl, q _ _ _ g1 (.bl _)⟩
/-! operations -/
theorem RvD.of (h : ∀ (G H : Hp) (u v : V), Same G H → Rep K G u x → Rep K G v y → ∀ Q : VK, (∀ w, Rep K G w z → Q w H) → r u v H Q) : RvD K r x y z := fun G H u v s ru rv Q q => h G H u v s ru rv Q fun w rw => q w G H (Go.refl s) rw
theorem rv_int {f : Int → Int → Int} {i j : Int} : RvD K (rI0 fun i j => .int (f i j)) (.int i) (.int j) (.int (f i j)) := .of fun G H u v s ru rv Q q => by
  cases ru; cases rv
  exact ⟨i, j, rfl, rfl, q _ (.int _)⟩
theorem rv_bl {f : Int → Int → Bool} {i j : Int} : RvD K (rI0 fun i j => .bl (f i j)) (.int i) (.int j) (.bl (f i j)) := .of fun G H u v s ru rv Q q => by
  cases ru; cases rv
  exact ⟨i, j, rfl, rfl, q _ (.bl _)⟩
theorem rv_intC {C : Int → Int → Prop} {f : Int → Int → Int} {i j : Int} (c : C i j) : RvD K (rI C fun i j => .int (f i j)) (.int i) (.int j) (.int (f i j)) := .of fun G H u v s ru rv Q q => by
  cases ru; cases rv
  exact ⟨i, j, rfl, rfl, c, q _ (.int _)⟩
end
/-! ### plain data: none, bools, ints, texts -/
def scD : D → Option V
  | .non => some .non
  | .bl b => some (.bl b)
  | .int i => some (.int i)
  | .str s => some (.str s)
  | _ => none
theorem scD_rep {K : PySem.W.Frag} {G : Hp} {v w : V} {d : D} (h : Rep K G v d) (e : scD d = some w) : v = w := by
  cases h <;> simp [scD] at e <;> exact e
def eqB (x y : D) : Bool := match scD x, scD y with
  | some a, some b => decide (a = b)
  | _, _ => false
section
variable {K : PySem.W.Frag} {ρ : Ro} {ta tb te tc : TE} {t u : TT} {x y z d : D} {r : R2}
theorem rv_eq {a b : V} (ha : scD x = some a) (hb : scD y = some b) (hs : scal a b = true) : RvD K rEq x y (.bl (decide (a = b))) := .of fun G H u v s ru rv Q q => by
  rw [scD_rep ru ha, scD_rep rv hb]
  exact ⟨hs, q _ (.bl _)⟩
theorem rv_ne {a b : V} (ha : scD x = some a) (hb : scD y = some b) (hs : scal a b = true) : RvD K rNe x y (.bl (!decide (a = b))) := .of fun G H u v s ru rv Q q => by
  rw [scD_rep ru ha, scD_rep rv hb]
  exact ⟨hs, q _ (.bl _)⟩
theorem isnon_rep {G : Hp} {v : V} (h : Rep K G v d) : decide (v = .non) = (match d with | .non => true | _ => false) := by
  cases h <;> simp
def isNon : D → Bool
  | .non => true
  | _ => false
theorem isNon_rep {G : Hp} {v : V} (h : Rep K G v d) : decide (v = .non) = isNon d := by
  cases h <;> simp [isNon]
theorem ed_isN (h : EvD K te ρ d) : EvD K (tIsN te) ρ (.bl (isNon d)) := fun G H σ s l Q q => h G H σ s l _ fun v G1 H1 g1 r1 => by
  have e := isNon_rep r1
  show Q (.bl (decide (v = .non))) H1
  rw [e]
  exact q _ _ _ g1 (.bl _)
theorem ed_notN (h : EvD K te ρ d) : EvD K (tNotN te) ρ (.bl (!isNon d)) := fun G H σ s l Q q => h G H σ s l _ fun v G1 H1 g1 r1 => by
  have e := isNon_rep r1
  show Q (.bl (!decide (v = .non))) H1
  rw [e]
  exact q _ _ _ g1 (.bl _)
/-! indices -/
theorem rv_ixL {ds : List D} {i : Int} (h : atI ds i = some z) : RvD K (rIxL K) (.lst ds) (.int i) z := .of fun G H u v s ru rv Q q => by
  cases rv
  cases ru with
  | lst e r =>
    rename_i a xs
    obtain ⟨j, hj, h2⟩ : ∃ j, ixN ds.length i = some j ∧ ds[j]? = some z := by
      unfold atI at h
      cases q : ixN ds.length i with
      | none => rw [q] at h; cases h
      | some j => rw [q] at h; exact ⟨j, rfl, h⟩
    obtain ⟨w, h3, h4⟩ := r.get h2
    refine ⟨a, xs, i, w, rfl, rfl, .inl (.inl (s _ _ e)), ?_, q w h4⟩
    unfold atI
    rw [r.length, hj]
    exact h3
theorem rv_ixT {ds : List D} {i : Int} (h : atI ds i = some z) : RvD K (rIxT K) (.tup ds) (.int i) z := .of fun G H u v s ru rv Q q => by
  cases rv
  cases ru with
  | tup e r =>
    rename_i a xs
    obtain ⟨j, hj, h2⟩ : ∃ j, ixN ds.length i = some j ∧ ds[j]? = some z := by
      unfold atI at h
      cases q : ixN ds.length i with
      | none => rw [q] at h; cases h
      | some j => rw [q] at h; exact ⟨j, rfl, h⟩
    obtain ⟨w, h3, h4⟩ := r.get h2
    refine ⟨a, xs, i, w, rfl, rfl, .inl (.inl (s _ _ e)), ?_, q w h4⟩
    unfold atI
    rw [r.length, hj]
    exact h3
/-! fields -/
theorem lookup_rep {G : Hp} {f : Str} {d : D} : ∀ {fs : List (Str × V)} {fds : List (Str × D)}, fs.map (·.1) = fds.map (·.1) → Reps K G (fs.map (·.2)) (fds.map (·.2)) → fds.lookup f = some d → ∃ v, fs.lookup f = some v ∧ Rep K G v d
  | [], [], _, _, h => by simp at h
  | [], _ :: _, h, _, _ => by simp at h
  | _ :: _, [], h, _, _ => by simp at h
  | (g, v) :: fs, (g', d') :: fds, e, .cons r rr, h => by
    simp only [List.map_cons, List.cons.injEq] at e
    obtain ⟨e1, e2⟩ := e
    subst e1
    rw [List.lookup_cons] at h ⊢
    cases q : (f == g) with
    | true =>
      rw [q] at h
      have h : some d' = some d := h
      cases h
      exact ⟨v, rfl, r⟩
    | false =>
      rw [q] at h
      exact lookup_rep (fs := fs) (fds := fds) e2 rr h
theorem lookup_no {f : Str} : ∀ {fs : List (Str × V)} {fds : List (Str × D)}, fs.map (·.1) = fds.map (·.1) → fds.lookup f = none → fs.lookup f = none
  | [], [], _, _ => rfl
  | [], _ :: _, h, _ => by simp at h
  | _ :: _, [], h, _ => by simp at h
  | (g, v) :: fs, (g', d') :: fds, e, h => by
    simp only [List.map_cons, List.cons.injEq] at e
    obtain ⟨e1, e2⟩ := e
    subst e1
    rw [List.lookup_cons] at h ⊢
    cases q : (f == g) with
    | true => rw [q] at h; cases h
    | false =>
      rw [q] at h
      exact lookup_no (fs := fs) (fds := fds) e2 h
theorem ed_fld {C : Addr} {fds : List (Str × D)} {f : Str} (h : EvD K te ρ (.ins C fds)) (c : Cls K C) (n : NoAttr K C f) (e : fds.lookup f = some d) : EvD K (tFld K te f) ρ d := fun G H σ s l Q q => h G H σ s l _ fun v G1 H1 g1 r1 => by
  cases r1 with
  | ins h1 k1 r1 =>
    rename_i a dx fs
    obtain ⟨w, h2, h3⟩ := lookup_rep k1 r1 e
    exact ⟨a, C, dx, fs, w, rfl, g1.sub _ _ h1, c, n, h2, q _ _ _ g1 h3⟩
/-! calls of defs that change nothing -/
def spP (K : PySem.W.Frag) (R : List D → D → Prop) : Sp := fun vs H Q _ => ∃ (G : Hp) (ds : List D) (d : D), Same G H ∧ Reps K G vs ds ∧ R ds d ∧ ∀ v G' H', Go [] G H G' H' → Rep K G' v d → Q v H'
theorem ed_call {R : List D → D → Prop} {ta : TA} {E : XK} {ds : List D} (ha : EdA K ta ρ ds) (hr : R ds d) : EvD K (tCall (spP K R) [] E ta) ρ d := fun G H σ s l Q q => ha G H σ s l _ fun vs G1 H1 g1 r1 => by
  show spP K R (vs ++ []) H1 Q E
  rw [List.append_nil]
  exact ⟨G1, ds, d, g1.sub, r1, hr, fun v G' H' g2 r2 => q v G' H' (g1.trans g2) r2⟩
theorem ed_meth {R : List D → D → Prop} {ta : TA} {E : XK} {ds : List D} {C : Addr} {m : Str} {fds : List (Str × D)} (ho : EvD K te ρ (.ins C fds)) (hm : fds.lookup m = none) (ha : EdA K ta ρ ds) (hr : R (.ins C fds :: ds) d) : EvD K (tMeth C m (spP K R) [] E te ta) ρ d := fun G H σ s l Q q => ho G H σ s l _ fun v G1 H1 g1 r1 => by
  have r1' := r1
  cases r1 with
  | ins h1 k1 rr =>
    rename_i a dx fs
    refine ⟨a, dx, fs, rfl, g1.sub _ _ h1, lookup_no k1 hm, ha G1 H1 σ g1.sub (l.mono g1.g) _ fun vs G2 H2 g2 r2 => ?_⟩
    show spP K R (V.ref a :: (vs ++ [])) H2 Q E
    rw [List.append_nil]
    exact ⟨G2, _, d, g2.sub, .cons (r1'.mono g2.g) r2, hr, fun v G' H' g3 r3 => q v G' H' (g1.trans (g2.trans g3)) r3⟩
end
/-! ### what is walked -/
def ItD (K : PySem.W.Frag) (J : It) (G : Hp) (items : List D) : Prop := ∀ G1 H1, Same G G1 → Same G1 H1 → (∀ i, i < items.length → J.go i H1) ∧ J.stop items.length H1 ∧ ∀ i x H2, i < items.length → J.yld i H1 x H2 → ∃ G2 d, items[i]? = some d ∧ Go [] G1 H1 G2 H2 ∧ Rep K G2 x d
def ItE (K : PySem.W.Frag) (wi : TI) (ρ : Ro) (items : List D) : Prop := ∀ (G H : Hp) (σ : L2.St), Same G H → Sl K G σ ρ → ∀ R : It → Hp → Prop, (∀ J G' H', Go [] G H G' H' → ItD K J G' items → R J H') → wi σ H R
section
variable {K : PySem.W.Frag} {ρ : Ro} {te : TE} {ta : TA}
theorem it_list {ds : List D} (h : EvD K te ρ (.lst ds)) : ItE K (iList K te) ρ ds := fun G H σ s l R q => h G H σ s l _ fun v G1 H1 g1 r1 => by
  cases r1 with
  | lst h1 r1 =>
    rename_i a xs
    refine ⟨a, rfl, ⟨xs, .inl (.inl (g1.sub _ _ h1))⟩, q _ G1 H1 g1 fun G2 H2 e1 e2 => ?_⟩
    have hq : SqL K H2 a xs := .inl (.inl (e2 _ _ (e1 _ _ h1)))
    refine ⟨fun i hi => ⟨xs, xs[i]'(by rw [r1.length]; exact hi), hq, by simp [r1.length, hi]⟩, ⟨xs, hq, by rw [r1.length]; exact Nat.le_refl _⟩, fun i x H3 hi y => ?_⟩
    obtain ⟨rfl, y⟩ := y
    have y := y xs hq
    obtain ⟨d, h3, h4⟩ := r1.get' y
    exact ⟨G2, d, h3, Go.refl e2, h4.mono e1⟩
theorem it_tup {ds : List D} (h : EvD K te ρ (.tup ds)) : ItE K (iTup K te) ρ ds := fun G H σ s l R q => h G H σ s l _ fun v G1 H1 g1 r1 => by
  cases r1 with
  | tup h1 r1 =>
    rename_i a xs
    refine ⟨a, rfl, ⟨xs, .inl (.inl (g1.sub _ _ h1))⟩, q _ G1 H1 g1 fun G2 H2 e1 e2 => ?_⟩
    have hq : SqT K H2 a xs := .inl (.inl (e2 _ _ (e1 _ _ h1)))
    refine ⟨fun i hi => ⟨xs, xs[i]'(by rw [r1.length]; exact hi), hq, by simp [r1.length, hi]⟩, ⟨xs, hq, by rw [r1.length]; exact Nat.le_refl _⟩, fun i x H3 hi y => ?_⟩
    obtain ⟨rfl, y⟩ := y
    have y := y xs hq
    obtain ⟨d, h3, h4⟩ := r1.get' y
    exact ⟨G2, d, h3, Go.refl e2, h4.mono e1⟩
theorem it_rng1 {n : Int} (h : EdA K ta ρ [.int n]) (h0 : -(2 ^ 62) ≤ n) (hn : n < 2 ^ 62) : ItE K (iRng1 ta) ρ ((List.range n.toNat).map fun i : Nat => .int (i : Int)) := fun G H σ s l R q => h G H σ s l _ fun v G1 H1 g1 r1 => by
  cases r1 with
  | cons r rr =>
    cases rr; cases r
    refine ⟨n, rfl, h0, hn, q _ G1 H1 g1 fun G2 H2 e1 e2 => ?_⟩
    rw [List.length_map, List.length_range]
    refine ⟨fun i hi => hi, Nat.le_refl _, fun i x H3 hi y => ?_⟩
    obtain ⟨rfl, rfl⟩ := y
    refine ⟨G2, .int (i : Int), by rw [List.getElem?_map, List.getElem?_range hi]; rfl, Go.refl e2, ?_⟩
    rw [Int.zero_add]
    exact .int _
theorem it_rng2 {a b : Int} (h : EdA K ta ρ [.int a, .int b]) (h0 : -(2 ^ 62) ≤ a ∧ a < 2 ^ 62 ∧ -(2 ^ 62) ≤ b ∧ b < 2 ^ 62) : ItE K (iRng2 ta) ρ ((List.range (b - a).toNat).map fun i : Nat => .int (a + (i : Int))) := fun G H σ s l R q => h G H σ s l _ fun v G1 H1 g1 r1 => by
  cases r1 with
  | cons r rr =>
    cases rr with
    | cons r2 rr =>
      cases rr; cases r; cases r2
      refine ⟨a, b, rfl, h0, q _ G1 H1 g1 fun G2 H2 e1 e2 => ?_⟩
      rw [List.length_map, List.length_range]
      refine ⟨fun i hi => hi, Nat.le_refl _, fun i x H3 hi y => ?_⟩
      obtain ⟨rfl, rfl⟩ := y
      exact ⟨G2, .int (a + (i : Int)), by rw [List.getElem?_map, List.getElem?_range hi]; rfl, Go.refl e2, .int _⟩
theorem ItE.is {wi : TI} {xs ys : List D} (h : ItE K wi ρ xs) (e : xs = ys) : ItE K wi ρ ys := e ▸ h
end
/-! ### targets -/
def Tg (K : PySem.W.Frag) (g : TG) (d : D) (is : List Nat) (ρ ρ' : Ro) : Prop := ∀ (v : V) (σ : L2.St) (G H : Hp) (Q : L2.St → Hp → Prop), Rep K G v d → Same G H → Sl K G σ ρ → (∀ σ', (∀ vs : List Nat, (∀ i ∈ is, i ∈ vs) → L2.wipe σ' vs = L2.wipe σ vs) → Sl K G σ' ρ' → Q σ' H) → g v σ H Q
section
variable {K : PySem.W.Frag} {ρ : Ro}
theorem tg_name {i : Nat} {d : D} : Tg K (gName i) d [i] ρ (ρ.set i (some d)) := fun v σ G H Q r s l q => q _ (fun vs h => wipe_set (h i (List.mem_cons_self ..))) (l.set r i)
theorem tg_two {i j : Nat} {d e : D} : Tg K (gTup K 2 (gCons (gName i) (gCons (gName j) gNil))) (.tup [d, e]) [i, j] ρ ((ρ.set i (some d)).set j (some e)) := fun v σ G H Q r s l q => by
  cases r with
  | tup h1 r1 =>
    cases r1 with
    | cons ra r1 =>
      cases r1 with
      | cons rb r1 =>
        cases r1
        refine ⟨_, _, rfl, .inl (.inl (s _ _ h1)), rfl, _, _, rfl, _, _, rfl, rfl, q _ (fun vs h => ?_) ((l.set ra i).set rb j)⟩
        rw [wipe_set (h j (by simp)), wipe_set (h i (by simp))]
theorem tg_three {i j k : Nat} {d e f : D} : Tg K (gTup K 3 (gCons (gName i) (gCons (gName j) (gCons (gName k) gNil)))) (.tup [d, e, f]) [i, j, k] ρ (((ρ.set i (some d)).set j (some e)).set k (some f)) := fun v σ G H Q r s l q => by
  cases r with
  | tup h1 r1 =>
    cases r1 with
    | cons ra r1 =>
      cases r1 with
      | cons rb r1 =>
        cases r1 with
        | cons rc r1 =>
          cases r1
          refine ⟨_, _, rfl, .inl (.inl (s _ _ h1)), rfl, _, _, rfl, _, _, rfl, _, _, rfl, rfl, q _ (fun vs h => ?_) (((l.set ra i).set rb j).set rc k)⟩
          rw [wipe_set (h k (by simp)), wipe_set (h j (by simp)), wipe_set (h i (by simp))]
end
/-! ### comprehensions that change no cell -/
section
variable {K : PySem.W.Frag} {ρ : Ro}
theorem ed_lc {α : Type} {wi : TI} {g : TG} {tt : TT} {te : TE} {vs : List Nat} {items : List α} (enc : α → D) (p : α → Bool) (f : α → D) (hi : ItE K wi ρ (items.map enc)) (hl : items.length ≤ 100000)
    (ht : ∀ x ∈ items, ∃ is ρ2, Tg K g (enc x) is (wipeR ρ vs) ρ2 ∧ (∀ i ∈ is, i ∈ vs) ∧ EdT K tt ρ2 (p x) ∧ (p x = true → EvD K te ρ2 (f x))) :
    EvD K (tLc wi g tt te vs) ρ (.lst ((items.filter p).map f)) := fun G H σ s l Q q => hi G H σ s l _ fun J G1 H1 g1 it D hD => by
  -- the state at turn i
  let St := fun (i : Nat) (H' : Hp) => ∃ (G' : Hp) (xs : List V), Go [] G1 H1 G' H' ∧ H' D = some (.lst xs) ∧ G' D = none ∧ Reps K G' xs (((items.take i).filter p).map f)
  refine ⟨fun i m H' => i ≤ items.length ∧ m = items.length - i ∧ St i H', ⟨items.length, Nat.zero_le _, rfl, G1, [], Go.cell g1.sub hD, upd_same, free_sub g1.sub hD, ?_⟩, fun i m H' hW => ?_⟩
  · rw [List.take_zero]
    exact .nil
  · obtain ⟨hle, hm, G', xs, g2, hDx, gD, rx⟩ := hW
    obtain ⟨i1, i2, i3⟩ := it G' H' g2.g g2.sub
    rw [List.length_map] at i1 i2 i3
    by_cases hlt : i < items.length
    · refine .inr ⟨i1 i hlt, St (i + 1), fun H'' st => ⟨items.length - (i + 1), by omega, hlt, rfl, st⟩, fun x H2 y => ?_⟩
      obtain ⟨G2, d, e1, g3, r3⟩ := i3 i x H2 hlt y
      have hget : items[i]? = some items[i] := List.getElem?_eq_getElem hlt
      rw [List.getElem?_map, hget] at e1
      have e1 : enc items[i] = d := Option.some.inj e1
      subst e1
      obtain ⟨is, ρ2, tg, his, htt, hte⟩ := ht items[i] (List.getElem_mem hlt)
      have l1 : Sl K G2 (L2.wipe σ vs) (wipeR ρ vs) := (l.mono (g1.g.trans (g2.g.trans g3.g))).wipe vs
      refine tg x (L2.wipe σ vs) G2 H2 _ r3 g3.sub l1 fun σ' hw l2 => ⟨?_, ?_⟩
      · have e2 := hw vs his
        have e3 : L2.wipe (L2.wipe σ vs) vs = L2.wipe σ vs := wipe_wipe vs vs fun _ h => h
        rw [e2, e3]
      · have gD2 : G2 D = none := g3.new D _ hDx rfl gD
        have hD2 : H2 D = some (.lst xs) := g3.keep D _ (by simp) hDx
        refine htt G2 H2 σ' g3.sub l2 _ fun G3 H3 g4 => ?_
        have gD3 : G3 D = none := g4.new D _ hD2 rfl gD2
        have hD3 : H3 D = some (.lst xs) := g4.keep D _ (by simp) hD2
        have etk : items.take (i + 1) = items.take i ++ [items[i]] := by rw [List.take_add_one, hget]; rfl
        cases hp : p items[i] with
        | false =>
          show St (i + 1) H3
          refine ⟨G3, xs, g2.trans (g3.trans g4), hD3, gD3, ?_⟩
          rw [etk, List.filter_append, List.filter_cons, if_neg (by rw [hp]; exact Bool.false_ne_true), List.filter_nil, List.append_nil]
          exact rx.mono (g3.g.trans g4.g)
        | true =>
          show te σ' H3 _
          refine hte hp G3 H3 σ' g4.sub (l2.mono g4.g) _ fun w G4 H4 g5 r5 => ?_
          have gD4 : G4 D = none := g5.new D _ hD3 rfl gD3
          have hD4 : H4 D = some (.lst xs) := g5.keep D _ (by simp) hD3
          have lx : xs.length ≤ 100000 := by
            rw [rx.length, List.length_map]
            exact Nat.le_trans (List.length_filter_le _ _) (Nat.le_trans (List.length_take_le _ _) (by omega))
          refine ⟨xs, hD4, Nat.lt_of_le_of_lt lx (by decide), G4, xs ++ [w], ?_, upd_same, gD4, ?_⟩
          · have ga : Go [] G1 H1 G4 H4 := g2.trans (g3.trans (g4.trans g5))
            refine ⟨ga.g, fun a u h => ?_, fun a u m h => ?_, fun a h => upd_some (ga.dom a h), fun a u h n => ?_, ga.new⟩
            · rw [upd_ne (ne_of_none h gD4)]; exact ga.sub a u h
            · rw [upd_ne (ne_of_none h hD)]; exact ga.keep a u m h
            · rw [upd_ne (ne_of_none h hD)]; exact ga.cel a u h n
          · rw [etk, List.filter_append, List.filter_cons, if_pos hp, List.filter_nil, List.map_append]
            exact (rx.mono (g3.g.trans (g4.g.trans g5.g))).snoc r5
    · have ei : i = items.length := by omega
      subst ei
      refine .inl ⟨i2, ?_⟩
      rw [List.take_length] at rx
      have gu : Go [] G1 H1 (upd G' D (.lst xs)) H' := by
        refine ⟨g2.g.trans (same_new gD), fun a u h => ?_, g2.keep, g2.dom, g2.cel, fun a u h nu n => ?_⟩
        · by_cases e : a = D
          · subst e; rw [upd_same] at h; rw [hDx]; exact h
          · rw [upd_ne e] at h; exact g2.sub a u h
        · have ne : a ≠ D := ne_of_none h hD
          rw [upd_ne ne]; exact g2.new a u h nu n
      exact q _ _ _ (g1.trans gu) (.lst upd_same (rx.mono (same_new gD)))
/-- no test -/
theorem ed_lc0 {α : Type} {wi : TI} {g : TG} {te : TE} {vs : List Nat} {items : List α} (enc : α → D) (f : α → D) (hi : ItE K wi ρ (items.map enc)) (hl : items.length ≤ 100000)
    (ht : ∀ x ∈ items, ∃ is ρ2, Tg K g (enc x) is (wipeR ρ vs) ρ2 ∧ (∀ i ∈ is, i ∈ vs) ∧ EvD K te ρ2 (f x)) :
    EvD K (tLc wi g tYes te vs) ρ (.lst (items.map f)) := by
  have h := ed_lc (tt := tYes) (te := te) (vs := vs) enc (fun _ => true) f hi hl fun x hx => by
    obtain ⟨is, ρ2, h1, h2, h3⟩ := ht x hx
    exact ⟨is, ρ2, h1, h2, fun G H σ s l Q q => q G H (Go.refl s), fun _ => h3⟩
  have e : items.filter (fun _ => true) = items := List.filter_eq_self.mpr fun _ _ => rfl
  rwa [e] at h
end
end Am
/-! Expressions that may change cells; statements; loops; promises. -/
namespace Am
open PySem PySem.Spec PyProof.Rows L2

def Ev (K : PySem.W.Frag) (M : List Addr) (te : TE) (ρ : Ro) (μ : Mem) (P : D → Mem → Prop) : Prop := ∀ (G0 H0 G H : Hp) (σ : L2.St), Stt K M G0 H0 G H σ ρ μ → ∀ Q : VK,
  (∀ v d G' H' μ', Same G G' → Stt K M G0 H0 G' H' σ ρ μ' → Rep K G' v d → P d μ' → Q v H') → te σ H Q
def EvA (K : PySem.W.Frag) (M : List Addr) (ta : TA) (ρ : Ro) (μ : Mem) (P : List D → Mem → Prop) : Prop := ∀ (G0 H0 G H : Hp) (σ : L2.St), Stt K M G0 H0 G H σ ρ μ → ∀ Q : List V → Hp → Prop,
  (∀ vs ds G' H' μ', Same G G' → Stt K M G0 H0 G' H' σ ρ μ' → Reps K G' vs ds → P ds μ' → Q vs H') → ta σ H Q
def EvT (K : PySem.W.Frag) (M : List Addr) (tt : TT) (ρ : Ro) (μ : Mem) (P : Bool → Mem → Prop) : Prop := ∀ (G0 H0 G H : Hp) (σ : L2.St), Stt K M G0 H0 G H σ ρ μ → ∀ Q : Bool → Hp → Prop,
  (∀ b G' H' μ', Same G G' → Stt K M G0 H0 G' H' σ ρ μ' → P b μ' → Q b H') → tt σ H Q
structure Post where
  nx : Ro → Mem → Prop := fun _ _ => False
  rt : D → Mem → Prop := fun _ _ => False
  bk : Ro → Mem → Prop := fun _ _ => False
  ct : Ro → Mem → Prop := fun _ _ => False
structure Kt (K : PySem.W.Frag) (M : List Addr) (G0 H0 G : Hp) (Φ : Post) (Dn : Ends) : Prop where
  nx : ∀ σ' ρ' μ' G' H', Same G G' → Stt K M G0 H0 G' H' σ' ρ' μ' → Φ.nx ρ' μ' → Dn.nx σ' H'
  rt : ∀ v d σ' ρ' μ' G' H', Same G G' → Stt K M G0 H0 G' H' σ' ρ' μ' → Rep K G' v d → Φ.rt d μ' → Dn.rt v H'
  bk : ∀ σ' ρ' μ' G' H', Same G G' → Stt K M G0 H0 G' H' σ' ρ' μ' → Φ.bk ρ' μ' → Dn.bk σ' H'
  ct : ∀ σ' ρ' μ' G' H', Same G G' → Stt K M G0 H0 G' H' σ' ρ' μ' → Φ.ct ρ' μ' → Dn.ct σ' H'
theorem Kt.mono {K : PySem.W.Frag} {M : List Addr} {G0 H0 G G1 : Hp} {Φ : Post} {Dn : Ends} (k : Kt K M G0 H0 G Φ Dn) (e : Same G G1) : Kt K M G0 H0 G1 Φ Dn :=
  ⟨fun a b c d f g => k.nx a b c d f (e.trans g), fun a a2 b c c2 d f g => k.rt a a2 b c c2 d f (e.trans g), fun a b c d f g => k.bk a b c d f (e.trans g), fun a b c d f g => k.ct a b c d f (e.trans g)⟩
def Run (K : PySem.W.Frag) (M : List Addr) (ts : TS) (ρ : Ro) (μ : Mem) (Φ : Post) : Prop := ∀ (Dn : Ends) (G0 H0 G H : Hp) (σ : L2.St), Stt K M G0 H0 G H σ ρ μ → Kt K M G0 H0 G Φ Dn → ts Dn σ H

section
variable {K : PySem.W.Frag} {M : List Addr} {ρ : Ro} {μ : Mem} {ta tb te tc : TE} {t u : TT} {x y z d : D} {r : R2} {P P1 : D → Mem → Prop}
/-! ### expressions -/
theorem ev_of (h : EvD K te ρ d) (p : P d μ) : Ev K M te ρ μ P := fun G0 H0 G H σ s Q q => h G H σ s.sub s.sl Q fun v G' H' g r => q v d G' H' μ g.g (s.step g) r p
theorem eva_of {ta : TA} {ds : List D} {P : List D → Mem → Prop} (h : EdA K ta ρ ds) (p : P ds μ) : EvA K M ta ρ μ P := fun G0 H0 G H σ s Q q => h G H σ s.sub s.sl Q fun v G' H' g r => q v ds G' H' μ g.g (s.step g) r p
theorem evt_of {tt : TT} {b : Bool} {P : Bool → Mem → Prop} (h : EdT K tt ρ b) (p : P b μ) : EvT K M tt ρ μ P := fun G0 H0 G H σ s Q q => h G H σ s.sub s.sl Q fun G' H' g => q b G' H' μ g.g (s.step g) p
theorem Ev.imp {P P' : D → Mem → Prop} (h : Ev K M te ρ μ P) (i : ∀ d μ', P d μ' → P' d μ') : Ev K M te ρ μ P' := fun G0 H0 G H σ s Q q => h G0 H0 G H σ s Q fun v d G' H' μ' e s' r p => q v d G' H' μ' e s' r (i d μ' p)
theorem EvT.imp {tt : TT} {P P' : Bool → Mem → Prop} (h : EvT K M tt ρ μ P) (i : ∀ d μ', P d μ' → P' d μ') : EvT K M tt ρ μ P' := fun G0 H0 G H σ s Q q => h G0 H0 G H σ s Q fun b G' H' μ' e s' p => q b G' H' μ' e s' (i b μ' p)
theorem ev_op {P1 : D → Mem → Prop} (ha : Ev K M ta ρ μ P1) (hb : ∀ x μ1, P1 x μ1 → Ev K M tb ρ μ1 fun y μ2 => ∃ z, RvD K r x y z ∧ P z μ2) : Ev K M (tOp r ta tb) ρ μ P := fun G0 H0 G H σ s Q q =>
  ha G0 H0 G H σ s _ fun v x G1 H1 μ1 e1 s1 r1 p1 => hb x μ1 p1 G0 H0 G1 H1 σ s1 _ fun w y G2 H2 μ2 e2 s2 r2 ⟨z, rr, p2⟩ => rr G2 H2 v w s2.sub (r1.mono e2) r2 Q fun w3 G3 H3 g3 r3 => q w3 z G3 H3 μ2 (e1.trans (e2.trans g3.g)) (s2.step g3) r3 p2
theorem ev_un {r : V → Hp → VK → Prop} (ha : Ev K M ta ρ μ fun x μ1 => ∃ z, RuD K r x z ∧ P z μ1) : Ev K M (tUn r ta) ρ μ P := fun G0 H0 G H σ s Q q =>
  ha G0 H0 G H σ s _ fun v x G1 H1 μ1 e1 s1 r1 ⟨z, rr, p1⟩ => rr G1 H1 v s1.sub r1 Q fun w3 G3 H3 g3 r3 => q w3 z G3 H3 μ1 (e1.trans g3.g) (s1.step g3) r3 p1
theorem ev_cb {ta : TA} {r : List V → Hp → VK → Prop} (ha : EvA K M ta ρ μ fun xs μ1 => ∃ z, RcD K r xs z ∧ P z μ1) : Ev K M (tCB r ta) ρ μ P := fun G0 H0 G H σ s Q q =>
  ha G0 H0 G H σ s _ fun v x G1 H1 μ1 e1 s1 r1 ⟨z, rr, p1⟩ => rr G1 H1 v s1.sub r1 Q fun w3 G3 H3 g3 r3 => q w3 z G3 H3 μ1 (e1.trans g3.g) (s1.step g3) r3 p1
theorem eva_nil {P : List D → Mem → Prop} (p : P [] μ) : EvA K M tNil ρ μ P := eva_of ea_nil p
theorem eva_cons {tr : TA} {P : List D → Mem → Prop} (ha : Ev K M ta ρ μ P1) (hr : ∀ x μ1, P1 x μ1 → EvA K M tr ρ μ1 fun ds μ2 => P (x :: ds) μ2) : EvA K M (tCons ta tr) ρ μ P := fun G0 H0 G H σ s Q q =>
  ha G0 H0 G H σ s _ fun v x G1 H1 μ1 e1 s1 r1 p1 => hr x μ1 p1 G0 H0 G1 H1 σ s1 _ fun vs ds G2 H2 μ2 e2 s2 r2 p2 => q _ _ G2 H2 μ2 (e1.trans e2) s2 (.cons (r1.mono e2) r2) p2
theorem ev_tup {ta : TA} (ha : EvA K M ta ρ μ fun ds μ1 => ds.length ≤ 100000 ∧ P (.tup ds) μ1) : Ev K M (tTup ta) ρ μ P := fun G0 H0 G H σ s Q q =>
  ha G0 H0 G H σ s _ fun vs ds G1 H1 μ1 e1 s1 r1 ⟨hl, p1⟩ => ⟨by rw [r1.length]; exact Nat.le_trans hl (by decide), fun p hp => by
    have g : Go [] G1 H1 (upd G1 p (.tup vs)) (upd H1 p (.tup vs)) := Go.alloc s1.sub hp
    exact q _ _ _ _ μ1 (e1.trans g.g) (s1.step g) (.tup upd_same (r1.mono g.g)) p1⟩
theorem ev_lst {ta : TA} (ha : EvA K M ta ρ μ fun ds μ1 => ds.length ≤ 100000 ∧ P (.lst ds) μ1) : Ev K M (tLst ta) ρ μ P := fun G0 H0 G H σ s Q q =>
  ha G0 H0 G H σ s _ fun vs ds G1 H1 μ1 e1 s1 r1 ⟨hl, p1⟩ => ⟨by rw [r1.length]; exact Nat.le_trans hl (by decide), fun p hp => by
    have g : Go [] G1 H1 (upd G1 p (.lst vs)) (upd H1 p (.lst vs)) := Go.alloc s1.sub hp
    exact q _ _ _ _ μ1 (e1.trans g.g) (s1.step g) (.lst upd_same (r1.mono g.g)) p1⟩
/-- a list that will be changed: a new cell -/
theorem ev_lstC {ta : TA} (ha : EvA K M ta ρ μ fun ds μ1 => ds.length ≤ 100000 ∧ ∀ p, p ∉ M → p ∉ μ1.map (·.1) → P (.loc p) ((p, .lst ds) :: μ1)) : Ev K M (tLst ta) ρ μ P := fun G0 H0 G H σ s Q q =>
  ha G0 H0 G H σ s _ fun vs ds G1 H1 μ1 e1 s1 r1 ⟨hl, p1⟩ => ⟨by rw [r1.length]; exact Nat.le_trans hl (by decide), fun p hp =>
    q _ _ G1 _ _ e1 (s1.cell (u := .lst ds) hp ⟨vs, upd_same, r1⟩) (.loc p) (p1 p (s1.freshM hp) (s1.freshμ hp))⟩
theorem ev_if {PT : Bool → Mem → Prop} (h : EvT K M t ρ μ PT) (h1 : ∀ μ1, PT true μ1 → Ev K M ta ρ μ1 P) (h2 : ∀ μ1, PT false μ1 → Ev K M tb ρ μ1 P) : Ev K M (tIf t ta tb) ρ μ P := fun G0 H0 G H σ s Q q =>
  h G0 H0 G H σ s _ fun b G1 H1 μ1 e1 s1 p1 => by
    cases b with
    | true => exact h1 μ1 p1 G0 H0 G1 H1 σ s1 Q fun v d G' H' μ' e s' r p => q v d G' H' μ' (e1.trans e) s' r p
    | false => exact h2 μ1 p1 G0 H0 G1 H1 σ s1 Q fun v d G' H' μ' e s' r p => q v d G' H' μ' (e1.trans e) s' r p
theorem evt_test {PT : Bool → Mem → Prop} (h : Ev K M te ρ μ fun d μ1 => ∃ b, d = .bl b ∧ PT b μ1) : EvT K M (tTest te) ρ μ PT := fun G0 H0 G H σ s Q q => h G0 H0 G H σ s _ fun v d G1 H1 μ1 e1 s1 r1 ⟨b, e, p⟩ => by
  subst e
  cases r1
  exact ⟨b, rfl, q _ _ _ _ e1 s1 p⟩
theorem evt_B {PT : Bool → Mem → Prop} (h : Ev K M te ρ μ fun d μ1 => ∃ b, d = .bl b ∧ PT b μ1) : EvT K M (tB te) ρ μ PT := fun G0 H0 G H σ s Q q => h G0 H0 G H σ s _ fun v d G1 H1 μ1 e1 s1 r1 ⟨b, e, p⟩ => by
  subst e
  cases r1
  exact ⟨b, rfl, q _ _ _ _ e1 s1 p⟩
theorem evt_not {PT : Bool → Mem → Prop} (h : EvT K M t ρ μ fun b μ1 => PT (!b) μ1) : EvT K M (tNot t) ρ μ PT := fun G0 H0 G H σ s Q q => h G0 H0 G H σ s _ fun b G1 H1 μ1 e1 s1 p1 => q _ _ _ _ e1 s1 p1
theorem evt_and {PT : Bool → Mem → Prop} (h : EvT K M t ρ μ fun b μ1 => if b = true then EvT K M u ρ μ1 PT else PT false μ1) : EvT K M (tAnd t u) ρ μ PT := fun G0 H0 G H σ s Q q => h G0 H0 G H σ s _ fun b G1 H1 μ1 e1 s1 p1 => by
  cases b with
  | true => exact (show EvT K M u ρ μ1 PT from p1) G0 H0 G1 H1 σ s1 Q fun b G' H' μ' e s' p => q b G' H' μ' (e1.trans e) s' p
  | false => exact q false G1 H1 μ1 e1 s1 p1
theorem evt_or {PT : Bool → Mem → Prop} (h : EvT K M t ρ μ fun b μ1 => if b = true then PT true μ1 else EvT K M u ρ μ1 PT) : EvT K M (tOr t u) ρ μ PT := fun G0 H0 G H σ s Q q => h G0 H0 G H σ s _ fun b G1 H1 μ1 e1 s1 p1 => by
  cases b with
  | true => exact q true G1 H1 μ1 e1 s1 p1
  | false => exact (show EvT K M u ρ μ1 PT from p1) G0 H0 G1 H1 σ s1 Q fun b G' H' μ' e s' p => q b G' H' μ' (e1.trans e) s' p
/-! calls of defs that change cells they are handed -/
def putμ (μ μ1 : Mem) : Mem := μ.map fun c => (c.1, (μ1.lookup c.1).getD c.2)
theorem putμ_fst (μ μ1 : Mem) : (putμ μ μ1).map (·.1) = μ.map (·.1) := by
  unfold putμ
  rw [List.map_map]
  rfl
theorem lookup_mem {α : Type} {a : Addr} {x : α} : ∀ {l : List (Addr × α)}, l.lookup a = some x → (a, x) ∈ l
  | [], h => nomatch h
  | (b, y) :: r, h => by
    rw [List.lookup_cons] at h
    cases e : (a == b) with
    | true =>
      rw [e] at h
      have h : some y = some x := h
      cases h
      have e : a = b := beq_iff_eq.mp e
      subst e
      exact List.mem_cons_self ..
    | false =>
      rw [e] at h
      exact List.mem_cons_of_mem _ (lookup_mem h)
theorem lookup_self {α : Type} : ∀ {l : List (Addr × α)} {c : Addr × α}, (l.map (·.1)).Nodup → c ∈ l → l.lookup c.1 = some c.2
  | [], _, _, h => nomatch h
  | (b, y) :: r, c, nd, h => by
    rw [List.map_cons, List.nodup_cons] at nd
    rcases List.mem_cons.mp h with e | h
    · subst e
      rw [List.lookup_cons]
      simp
    · have ne : ¬ c.1 = b := fun z => nd.1 (List.mem_map.mpr ⟨c, h, z⟩)
      rw [List.lookup_cons]
      have : (c.1 == b) = false := beq_eq_false_iff_ne.mpr ne
      rw [this]
      exact lookup_self nd.2 h
theorem putμ_self {μ μ1 : Mem} (nd : (μ.map (·.1)).Nodup) (nd1 : (μ1.map (·.1)).Nodup) (h : ∀ c ∈ μ1, c ∈ μ) : putμ μ μ1 = μ := by
  unfold putμ
  have : ∀ c ∈ μ, (fun c : Addr × Own => (c.1, (μ1.lookup c.1).getD c.2)) c = id c := fun c hc => by
    show (c.1, (μ1.lookup c.1).getD c.2) = c
    cases e : μ1.lookup c.1 with
    | none => rfl
    | some u =>
      have hm := lookup_mem e
      have h2 := h _ hm
      have e3 := lookup_self nd h2
      have e4 := lookup_self nd hc
      rw [show ((c.1, u) : Addr × Own).1 = c.1 from rfl] at e3
      rw [e4] at e3
      have : c.2 = u := Option.some.inj e3
      show (c.1, u) = c
      rw [← this]
  rw [List.map_congr_left this, List.map_id]
theorem putμ_one {μ : Mem} {p : Addr} {u w : Own} : ∀ {i : Nat}, (μ.map (·.1)).Nodup → μ[i]? = some (p, w) → putμ μ [(p, u)] = μ.set i (p, u) := by
  induction μ with
  | nil => intro i _ h; simp at h
  | cons c r ih =>
    intro i nd h
    rw [List.map_cons, List.nodup_cons] at nd
    cases i with
    | zero =>
      have h : c = (p, w) := Option.some.inj h
      subst h
      show (p, (([(p, u)] : Mem).lookup p).getD w) :: putμ r [(p, u)] = (p, u) :: r
      have e1 : ([(p, u)] : Mem).lookup p = some u := by simp
      rw [e1]
      have e2 : putμ r [(p, u)] = r := by
        unfold putμ
        have : ∀ c ∈ r, (fun c : Addr × Own => (c.1, (([(p, u)] : Mem).lookup c.1).getD c.2)) c = id c := fun c hc => by
          have ne : ¬ c.1 = p := fun z => nd.1 (List.mem_map.mpr ⟨c, hc, z⟩)
          have : (c.1 == p) = false := beq_eq_false_iff_ne.mpr ne
          show (c.1, (([(p, u)] : Mem).lookup c.1).getD c.2) = c
          rw [List.lookup_cons, this]
          rfl
        rw [List.map_congr_left this, List.map_id]
      rw [e2]
      rfl
    | succ i =>
      have hr : r[i]? = some (p, w) := h
      have ne : ¬ c.1 = p := fun z => nd.1 (List.mem_map.mpr ⟨_, List.mem_of_getElem? hr, z.symm⟩)
      have hb : (c.1 == p) = false := beq_eq_false_iff_ne.mpr ne
      show (c.1, (([(p, u)] : Mem).lookup c.1).getD c.2) :: putμ r [(p, u)] = c :: r.set i (p, u)
      rw [List.lookup_cons, hb, ih nd.2 hr]
      rfl
theorem setμ_at {μ : Mem} {p : Addr} {u w : Own} : ∀ {i : Nat}, (μ.map (·.1)).Nodup → μ[i]? = some (p, w) → setμ μ p u = μ.set i (p, u) := by
  induction μ with
  | nil => intro i _ h; simp at h
  | cons c r ih =>
    intro i nd h
    rw [List.map_cons, List.nodup_cons] at nd
    cases i with
    | zero =>
      have h : c = (p, w) := Option.some.inj h
      subst h
      show (if p = p then (p, u) else (p, w)) :: setμ r p u = (p, u) :: r
      rw [if_pos rfl]
      have e2 : setμ r p u = r := by
        unfold setμ
        have : ∀ c ∈ r, (fun c : Addr × Own => if c.1 = p then (p, u) else c) c = id c := fun c hc => by
          have ne : ¬ c.1 = p := fun z => nd.1 (List.mem_map.mpr ⟨c, hc, z⟩)
          show (if c.1 = p then (p, u) else c) = c
          rw [if_neg ne]
        rw [List.map_congr_left this, List.map_id]
      rw [e2]
    | succ i =>
      have hr : r[i]? = some (p, w) := h
      have ne : ¬ c.1 = p := fun z => nd.1 (List.mem_map.mpr ⟨_, List.mem_of_getElem? hr, z.symm⟩)
      show (if c.1 = p then (p, u) else c) :: setμ r p u = c :: r.set i (p, u)
      rw [if_neg ne, ih nd.2 hr]
def spM (K : PySem.W.Frag) (R : List D → Mem → (D → Mem → Prop) → Prop) : Sp := fun vs H Q _ => ∃ (G : Hp) (ds : List D) (μ : Mem) (Φ : D → Mem → Prop), Same G H ∧ Reps K G vs ds ∧ Ce K G H μ ∧ R ds μ Φ ∧
  ∀ v d μ' G' H', Go (μ.map (·.1)) G H G' H' → Rep K G' v d → Ce K G' H' μ' → μ'.map (·.1) = μ.map (·.1) → Φ d μ' → Q v H'
/-- the state behind such a call -/
theorem Stt.called {G0 H0 G H G' H' : Hp} {σ : L2.St} {μ1 μ1' : Mem} (s : Stt K M G0 H0 G H σ ρ μ) (h1 : ∀ c ∈ μ1, c ∈ μ) (g : Go (μ1.map (·.1)) G H G' H') (c : Ce K G' H' μ1') (e : μ1'.map (·.1) = μ1.map (·.1)) : Stt K M G0 H0 G' H' σ ρ (putμ μ μ1') := by
  have nb : ∀ a, H0 a ≠ none → a ∉ M → a ∉ μ1.map (·.1) := fun a h0 hM hm => by
    obtain ⟨c0, hc, rfl⟩ := List.mem_map.mp hm
    rcases s.own _ (h1 _ hc) with m | m
    · exact hM m
    · exact h0 m
  refine ⟨⟨s.go.g.trans g.g, g.sub, fun a o ha h => g.keep a o (nb a (by rw [h]; exact fun z => nomatch z) ha) (s.go.keep a o ha h), fun a h => g.dom a (s.go.dom a h), fun a o h n => (let ⟨o1, h1, n1⟩ := s.go.cel a o h n; g.cel a o1 h1 n1), fun a o h n z => (let ⟨o1, h1, n1⟩ := s.go.cel a o h n; g.new a o1 h1 n1 (s.go.new a o h n z))⟩, s.sl.mono g.g, ⟨fun x hx => ?_, by rw [putμ_fst]; exact s.ce.nd⟩, fun x hx => ?_, s.base⟩
  · obtain ⟨c0, h0, rfl⟩ := List.mem_map.mp hx
    cases q : μ1'.lookup c0.1 with
    | some u =>
      show OwnAt K G' H' c0.1 ((some u).getD c0.2) ∧ _
      exact c.at_ (c0.1, u) (lookup_mem q)
    | none =>
      have hn : c0.1 ∉ μ1.map (·.1) := fun hm => by
        rw [← e] at hm
        obtain ⟨c1, hc1, e1⟩ := List.mem_map.mp hm
        have := lookup_self c.nd hc1
        rw [e1, q] at this
        cases this
      have q0 := s.ce.at_ _ h0
      exact ⟨q0.1.mono g.g fun u eu => g.keep _ _ hn eu, let ⟨o, ho, n⟩ := own_cel q0.1; g.new _ o ho n q0.2⟩
  · obtain ⟨c0, h0, rfl⟩ := List.mem_map.mp hx
    exact s.own c0 h0
theorem ev_call {R : List D → Mem → (D → Mem → Prop) → Prop} {ta : TA} {E : XK} (ha : EvA K M ta ρ μ fun ds μ2 => ∃ μ1, (∀ c ∈ μ1, c ∈ μ2) ∧ (μ1.map (·.1)).Nodup ∧ ∃ Φ, R ds μ1 Φ ∧ ∀ d μ1', μ1'.map (·.1) = μ1.map (·.1) → Φ d μ1' → P d (putμ μ2 μ1')) : Ev K M (tCall (spM K R) [] E ta) ρ μ P := fun G0 H0 G H σ s Q q => ha G0 H0 G H σ s _ fun vs ds G1 H1 μ2 e1 s1 r1 ⟨μ1, h1, nd, Φ, hR, hP⟩ => by
  show spM K R (vs ++ []) H1 Q E
  rw [List.append_nil]
  refine ⟨G1, ds, μ1, Φ, s1.sub, r1, ⟨fun c hc => s1.ce.at_ c (h1 c hc), nd⟩, hR, fun v d μ1' G' H' g r c e p => ?_⟩
  exact q v d G' H' _ (e1.trans g.g) (s1.called h1 g c e) r (hP d μ1' e p)
theorem ev_meth {R : List D → Mem → (D → Mem → Prop) → Prop} {ta : TA} {E : XK} {C : Addr} {m : Str} (ho : Ev K M te ρ μ fun x μ2 => ∃ (p : Addr) (fds : List (Str × D)) (i : Nat), x = .loc p ∧ μ2[i]? = some (p, Own.ins C fds) ∧ fds.lookup m = none ∧
    EvA K M ta ρ μ2 fun ds μ3 => ∃ μ1, (∀ c ∈ μ1, c ∈ μ3) ∧ (μ1.map (·.1)).Nodup ∧ ∃ Φ, R (.loc p :: ds) μ1 Φ ∧ ∀ d μ1', μ1'.map (·.1) = μ1.map (·.1) → Φ d μ1' → P d (putμ μ3 μ1')) : Ev K M (tMeth C m (spM K R) [] E te ta) ρ μ P := fun G0 H0 G H σ s Q q => ho G0 H0 G H σ s _ fun v x G1 H1 μ2 e1 s1 r1 ⟨p, fds, i, ex, hi, hm, ha⟩ => by
  subst ex
  cases r1
  obtain ⟨⟨dx, fs, h1, k1, rr⟩, _⟩ := s1.ce.at_ _ (List.mem_of_getElem? hi)
  refine ⟨p, dx, fs, rfl, h1, lookup_no k1 hm, ha G0 H0 G1 H1 σ s1 _ fun vs ds G2 H2 μ3 e2 s2 r2 ⟨μ1, h1, nd, Φ, hR, hP⟩ => ?_⟩
  show spM K R (V.ref p :: (vs ++ [])) H2 Q E
  rw [List.append_nil]
  refine ⟨G2, _, μ1, Φ, s2.sub, .cons (.loc p) r2, ⟨fun c hc => s2.ce.at_ c (h1 c hc), nd⟩, hR, fun v d μ1' G' H' g r c e p => ?_⟩
  exact q v d G' H' _ (e1.trans (e2.trans g.g)) (s2.called h1 g c e) r (hP d μ1' e p)
/-! reading a cell -/
theorem ev_fldC {C : Addr} {fds : List (Str × D)} {f : Str} {i : Nat} {p : Addr} (h : EvD K te ρ (.loc p)) (hi : μ[i]? = some (p, .ins C fds)) (c : Cls K C) (n : NoAttr K C f) (e : fds.lookup f = some d) (q : P d μ) : Ev K M (tFld K te f) ρ μ P := fun G0 H0 G H σ s Q k => h G H σ s.sub s.sl _ fun v G1 H1 g1 r1 => by
  cases r1
  have s1 := s.step g1
  obtain ⟨⟨dx, fs, h1, k1, rr⟩, _⟩ := s1.ce.at_ _ (List.mem_of_getElem? hi)
  obtain ⟨w, h2, h3⟩ := lookup_rep k1 rr e
  exact ⟨p, C, dx, fs, w, rfl, h1, c, n, h2, k _ _ _ _ _ g1.g s1 h3 q⟩
/-- an operation whose first operand is a cell that is a list -/
theorem ev_ixC {k : Int} {p : Addr} (ha : Ev K M ta ρ μ fun x μ1 => x = .loc p ∧ Ev K M tb ρ μ1 fun y μ2 => y = .int k ∧ ∃ i : Nat, ∃ ds, μ2[i]? = some (p, .lst ds) ∧ ∃ z, atI ds k = some z ∧ P z μ2) : Ev K M (tOp (rIxL K) ta tb) ρ μ P := fun G0 H0 G H σ s Q q =>
  ha G0 H0 G H σ s _ fun v x G1 H1 μ1 e1 s1 r1 ⟨ex, hb⟩ => hb G0 H0 G1 H1 σ s1 _ fun w y G2 H2 μ2 e2 s2 r2 ⟨ey, i, ds, hi, z, h, p2⟩ => by
    subst ex ey
    cases r1; cases r2
    obtain ⟨⟨xs, h1, rr⟩, _⟩ := s2.ce.at_ _ (List.mem_of_getElem? hi)
    obtain ⟨j, hj, h2⟩ : ∃ j, ixN ds.length k = some j ∧ ds[j]? = some z := by
      unfold atI at h
      cases q : ixN ds.length k with
      | none => rw [q] at h; cases h
      | some j => rw [q] at h; exact ⟨j, rfl, h⟩
    obtain ⟨w, h3, h4⟩ := rr.get h2
    refine ⟨p, xs, k, w, rfl, rfl, .inl (.inl h1), ?_, q w z _ _ _ (e1.trans e2) s2 h4 p2⟩
    unfold atI
    rw [rr.length, hj]
    exact h3
/-! ### statements -/
variable {Φ : Post} {ts tu : TS}
theorem run_seq (h : Run K M ts ρ μ { Φ with nx := fun ρ' μ' => Run K M tu ρ' μ' Φ }) : Run K M (tSeq ts tu) ρ μ Φ := fun Dn G0 H0 G H σ s k =>
  h { Dn with nx := tu Dn } G0 H0 G H σ s ⟨fun σ' ρ' μ' G' H' e s' (q : Run K M tu ρ' μ' Φ) => q Dn G0 H0 G' H' σ' s' (k.mono e), k.rt, k.bk, k.ct⟩
theorem Run.imp {Φ' : Post} (h : Run K M ts ρ μ Φ') (h1 : ∀ ρ' μ', Φ'.nx ρ' μ' → Φ.nx ρ' μ') (h2 : ∀ d μ', Φ'.rt d μ' → Φ.rt d μ') (h3 : ∀ ρ' μ', Φ'.bk ρ' μ' → Φ.bk ρ' μ') (h4 : ∀ ρ' μ', Φ'.ct ρ' μ' → Φ.ct ρ' μ') : Run K M ts ρ μ Φ := fun Dn G0 H0 G H σ s k =>
  h Dn G0 H0 G H σ s ⟨fun a b c d e f g i => k.nx a b c d e f g (h1 _ _ i), fun a a2 b c c2 d e f g g2 i => k.rt a a2 b c c2 d e f g g2 (h2 _ _ i), fun a b c d e f g i => k.bk a b c d e f g (h3 _ _ i), fun a b c d e f g i => k.ct a b c d e f g (h4 _ _ i)⟩
theorem run_next (p : Φ.nx ρ μ) : Run K M tNext ρ μ Φ := fun Dn G0 H0 G H σ s k => k.nx σ ρ μ G H (Same.refl _) s p
theorem run_break (p : Φ.bk ρ μ) : Run K M tBreak ρ μ Φ := fun Dn G0 H0 G H σ s k => k.bk σ ρ μ G H (Same.refl _) s p
theorem run_cont (p : Φ.ct ρ μ) : Run K M tCont ρ μ Φ := fun Dn G0 H0 G H σ s k => k.ct σ ρ μ G H (Same.refl _) s p
theorem run_asgG {i : Nat} (h : Ev K M te ρ μ fun d μ1 => Φ.nx (ρ.set i (some d)) μ1) : Run K M (tAsg te (gName i)) ρ μ Φ := fun Dn G0 H0 G H σ s k =>
  h G0 H0 G H σ s _ fun v d G' H' μ' e s' r p => k.nx _ _ _ G' H' e (s'.set i r) p
theorem run_asg {i : Nat} (h : EvD K te ρ d) (p : Φ.nx (ρ.set i (some d)) μ) : Run K M (tAsg te (gName i)) ρ μ Φ := run_asgG (ev_of h p)
/-- to a target of any kind -/
theorem run_asgT {g : TG} {is : List Nat} {ρ' : Ro} (h : EvD K te ρ d) (tg : Tg K g d is ρ ρ') (p : Φ.nx ρ' μ) : Run K M (tAsg te g) ρ μ Φ := fun Dn G0 H0 G H σ s k =>
  h G H σ s.sub s.sl _ fun v G' H' g1 r => tg v σ G' H' _ r g1.sub (s.sl.mono g1.g) fun σ' _ l => k.nx _ _ _ G' H' g1.g ((s.step g1).slots l) p
theorem run_asgTG {g : TG} (h : Ev K M te ρ μ fun d μ1 => ∃ is ρ', Tg K g d is ρ ρ' ∧ Φ.nx ρ' μ1) : Run K M (tAsg te g) ρ μ Φ := fun Dn G0 H0 G H σ s k =>
  h G0 H0 G H σ s _ fun v d G' H' μ1 e s' r ⟨is, ρ', tg, p⟩ => tg v σ G' H' _ r s'.sub s'.sl fun σ' _ l => k.nx _ _ _ G' H' e (s'.slots l) p
theorem run_ifG {tc : TT} (h : EvT K M tc ρ μ fun b μ1 => if b = true then Run K M ts ρ μ1 Φ else Run K M tu ρ μ1 Φ) : Run K M (tIfS tc ts tu) ρ μ Φ := fun Dn G0 H0 G H σ s k =>
  h G0 H0 G H σ s _ fun b G' H' μ' e s' p => by
    cases b with
    | true => exact (show Run K M ts ρ μ' Φ from p) Dn G0 H0 G' H' σ s' (k.mono e)
    | false => exact (show Run K M tu ρ μ' Φ from p) Dn G0 H0 G' H' σ s' (k.mono e)
theorem run_if {tc : TT} {b : Bool} (h : EdT K tc ρ b) (h1 : b = true → Run K M ts ρ μ Φ) (h2 : b = false → Run K M tu ρ μ Φ) : Run K M (tIfS tc ts tu) ρ μ Φ := run_ifG (evt_of h (by cases b with | true => exact h1 rfl | false => exact h2 rfl))
theorem run_yes {tc : TT} (h : EdT K tc ρ true) (h1 : Run K M ts ρ μ Φ) : Run K M (tIfS tc ts tu) ρ μ Φ := run_if h (fun _ => h1) fun z => nomatch z
theorem run_no {tc : TT} (h : EdT K tc ρ false) (h1 : Run K M tu ρ μ Φ) : Run K M (tIfS tc ts tu) ρ μ Φ := run_if h (fun z => nomatch z) fun _ => h1
theorem run_retG (h : Ev K M te ρ μ Φ.rt) : Run K M (tRet te) ρ μ Φ := fun Dn G0 H0 G H σ s k => h G0 H0 G H σ s _ fun v d G' H' μ' e s' r p => k.rt v d σ ρ μ' G' H' e s' r p
theorem run_ret (h : EvD K te ρ d) (p : Φ.rt d μ) : Run K M (tRet te) ρ μ Φ := run_retG (ev_of h p)
theorem run_retN (p : Φ.rt .non μ) : Run K M tRetN ρ μ Φ := fun Dn G0 H0 G H σ s k => k.rt _ .non σ ρ μ G H (Same.refl _) s .non p
theorem run_dropG (h : Ev K M te ρ μ fun _ μ1 => Φ.nx ρ μ1) : Run K M (tDrop te) ρ μ Φ := fun Dn G0 H0 G H σ s k => h G0 H0 G H σ s _ fun v d G' H' μ' e s' r p => k.nx σ ρ μ' G' H' e s' p
theorem run_aug {i : Nat} {f : Int → Int → Int} {a b : Int} (hx : ρ[i]? = some (some (.int a))) (h : EvD K te ρ (.int b)) (p : Φ.nx (ρ.set i (some (.int (f a b)))) μ) : Run K M (tAug i te (ipI f)) ρ μ Φ := fun Dn G0 H0 G H σ s k => by
  obtain ⟨v, h1, h2⟩ := s.sl.get hx
  cases h2
  refine ⟨_, h1, h G H σ s.sub s.sl _ fun w G' H' g r => ?_⟩
  cases r
  exact ⟨a, b, rfl, rfl, k.nx _ _ _ G' H' g.g ((s.step g).set i (.int _)) p⟩
theorem run_parG {i j : Nat} {ta : TA} (h : EvA K M ta ρ μ fun ds μ1 => ∃ a b, ds = [a, b] ∧ Φ.nx ((ρ.set i (some a)).set j (some b)) μ1) : Run K M (tPar i j ta) ρ μ Φ := fun Dn G0 H0 G H σ s k =>
  h G0 H0 G H σ s _ fun vs ds G' H' μ' e s' r ⟨a, b, ed, p⟩ => by
    subst ed
    cases r with
    | cons ra r =>
      cases r with
      | cons rb r =>
        cases r
        exact ⟨_, _, rfl, k.nx _ _ _ G' H' e ((s'.set i ra).set j rb) p⟩
/-- l.append(e), l a cell -/
theorem run_appG {p : Addr} (h : Ev K M ta ρ μ fun x μ1 => x = .loc p ∧ (∃ i : Nat, ∃ ds, μ1[i]? = some (p, .lst ds)) ∧ Ev K M te ρ μ1 fun d μ2 => ∃ i : Nat, ∃ ds, μ2[i]? = some (p, .lst ds) ∧ ds.length < 100000 ∧ Φ.nx ρ (μ2.set i (p, .lst (ds ++ [d])))) :
    Run K M (tDrop (tBM K "list" rAppend ta (tCons te tNil))) ρ μ Φ := fun Dn G0 H0 G H σ s k => h G0 H0 G H σ s _ fun v x G1 H1 μ1 e1 s1 r1 ⟨ex, ⟨i0, ds0, hi0⟩, h2⟩ => by
  subst ex
  cases r1
  obtain ⟨⟨xs0, hx0, _⟩, _⟩ := s1.ce.at_ _ (List.mem_of_getElem? hi0)
  refine ⟨.inl ⟨rfl, _, .inl (.inl hx0)⟩, h2 G0 H0 G1 H1 σ s1 _ fun w d G2 H2 μ2 e2 s2 r2 ⟨i, ds, hi, hl, q⟩ => ?_⟩
  obtain ⟨⟨xs, hx, rr⟩, _⟩ := s2.ce.at_ _ (List.mem_of_getElem? hi)
  refine ⟨p, xs, w, rfl, rfl, hx, by rw [rr.length]; exact Nat.lt_of_lt_of_le hl (by decide), ?_⟩
  have s3 := s2.write (u := .lst (ds ++ [d])) (List.mem_of_getElem? hi) (o := .lst (xs ++ [w])) ⟨_, upd_same, rr.snoc r2⟩
  rw [setμ_at s2.ce.nd hi] at s3
  exact k.nx _ _ _ _ _ (e1.trans e2) s3 q
theorem run_app {p : Addr} {j i : Nat} {ds : List D} (hj : ρ[j]? = some (some (.loc p))) (hi : μ[i]? = some (p, .lst ds)) (h : EvD K te ρ d) (hl : ds.length < 100000) (q : Φ.nx ρ (μ.set i (p, .lst (ds ++ [d])))) :
    Run K M (tDrop (tBM K "list" rAppend (tVar j) (tCons te tNil))) ρ μ Φ := run_appG (p := p) (ev_of (ed_var hj) ⟨rfl, ⟨i, ds, hi⟩, ev_of h ⟨i, ds, hi, hl, q⟩⟩)
/-- o.f = e, o a cell -/
def putD (f : Str) (v : D) : List (Str × D) → List (Str × D)
  | [] => [(f, v)]
  | (g, x) :: r => if g = f then (g, v) :: r else (g, x) :: putD f v r
theorem putD_rep {G : Hp} {f : Str} {v : V} {d : D} (hr : Rep K G v d) : ∀ {fs : List (Str × V)} {fds : List (Str × D)}, fs.map (·.1) = fds.map (·.1) → Reps K G (fs.map (·.2)) (fds.map (·.2)) →
    (putF f v fs).map (·.1) = (putD f d fds).map (·.1) ∧ Reps K G ((putF f v fs).map (·.2)) ((putD f d fds).map (·.2))
  | [], [], _, _ => ⟨rfl, .cons hr .nil⟩
  | [], _ :: _, h, _ => by simp at h
  | _ :: _, [], h, _ => by simp at h
  | (g, w) :: fs, (g', d') :: fds, e, .cons r rr => by
    simp only [List.map_cons, List.cons.injEq] at e
    obtain ⟨e1, e2⟩ := e
    subst e1
    unfold putF putD
    by_cases q : g = f
    · rw [if_pos q, if_pos q]
      exact ⟨by rw [List.map_cons, List.map_cons, e2], .cons hr rr⟩
    · rw [if_neg q, if_neg q]
      obtain ⟨h1, h2⟩ := putD_rep hr e2 rr
      exact ⟨by rw [List.map_cons, List.map_cons, h1], .cons r h2⟩
theorem run_fldG {C : Addr} {p : Addr} {f : Str} (h : Ev K M te ρ μ fun d μ1 => EvD K ta ρ (.loc p) ∧ ∃ i : Nat, ∃ fds, μ1[i]? = some (p, .ins C fds) ∧ fds.length < 1000 ∧ Φ.nx ρ (μ1.set i (p, .ins C (putD f d fds)))) (c : Cls K C) (n : NoAttr K C f) :
    Run K M (sFld K ta te f) ρ μ Φ := fun Dn G0 H0 G H σ s k => h G0 H0 G H σ s _ fun v d G1 H1 μ1 e1 s1 r1 ⟨ho, i, fds, hi, hl, q⟩ => ho G1 H1 σ s1.sub s1.sl _ fun w G2 H2 g2 r2 => by
  cases r2
  have s2 := s1.step g2
  obtain ⟨⟨dx, fs, hx, k1, rr⟩, _⟩ := s2.ce.at_ _ (List.mem_of_getElem? hi)
  refine ⟨p, C, dx, fs, rfl, hx, c, n, by have e := rr.length; rw [List.length_map, List.length_map] at e; omega, ?_⟩
  obtain ⟨k2, r3⟩ := putD_rep (f := f) (r1.mono g2.g) k1 rr
  have s3 := s2.write (u := .ins C (putD f d fds)) (List.mem_of_getElem? hi) (o := .ins C dx (putF f v fs)) ⟨dx, _, upd_same, k2, r3⟩
  rw [setμ_at s2.ce.nd hi] at s3
  exact k.nx _ _ _ _ _ (e1.trans g2.g) s3 q
theorem run_fld {C : Addr} {p : Addr} {f : Str} {i j : Nat} {fds : List (Str × D)} (hj : ρ[j]? = some (some (.loc p))) (hi : μ[i]? = some (p, .ins C fds)) (c : Cls K C) (n : NoAttr K C f) (h : EvD K te ρ d) (hl : fds.length < 1000) (q : Φ.nx ρ (μ.set i (p, .ins C (putD f d fds)))) :
    Run K M (sFld K (tVar j) te f) ρ μ Φ := run_fldG (p := p) (C := C) (ev_of h ⟨ed_var hj, i, fds, hi, hl, q⟩) c n
/-- a list of the def's own is known for ever from here on -/
theorem run_freeze {p : Addr} {ds : List D} {i : Nat} {μ' : Mem} (hp : p ∉ M) (hi : ρ[i]? = some (some (.loc p))) (h : Run K M ts (ρ.set i (some (.lst ds))) μ' Φ) : Run K M ts ρ ((p, .lst ds) :: μ') Φ := fun Dn G0 H0 G H σ s k => by
  obtain ⟨⟨xs, hx, rr⟩, gp⟩ := s.ce.at_ _ (List.mem_cons_self ..)
  have s1 := s.freeze hp hx
  have gg : Same G (upd G p (.lst xs)) := same_new gp
  obtain ⟨v, h1, h2⟩ := s.sl.get hi
  cases h2
  have r2 : Rep K (upd G p (.lst xs)) (.ref p) (.lst ds) := .lst upd_same (rr.mono gg)
  have s2 := s1.set i r2
  have eσ : σ.set i (some (.ref p)) = σ := by
    apply List.ext_getElem?
    intro j
    by_cases e : i = j
    · subst e
      rw [List.getElem?_set_self (by
        rcases Nat.lt_or_ge i σ.length with z | z
        · exact z
        · rw [List.getElem?_eq_none z] at h1; cases h1), h1]
    · rw [List.getElem?_set_ne e]
  rw [eσ] at s2
  exact h Dn G0 H0 _ H σ s2 (k.mono gg)
/-! ### loops -/
theorem run_for {wi : TI} {g : TG} {items : List D} (hi : ItE K wi ρ items) (I : Nat → Ro → Mem → Prop) (h0 : I 0 ρ μ)
    (hs : ∀ (i : Nat) d ρ1 μ1, items[i]? = some d → I i ρ1 μ1 → ∃ is ρ2, Tg K g d is ρ1 ρ2 ∧ Run K M ts ρ2 μ1 { nx := I (i + 1), ct := I (i + 1), bk := Φ.nx, rt := Φ.rt })
    (hd : ∀ ρ1 μ1, I items.length ρ1 μ1 → Φ.nx ρ1 μ1) : Run K M (tFor wi g ts) ρ μ Φ := fun Dn G0 H0 G H σ s k =>
  hi G H σ s.sub s.sl _ fun J G1 H1 g1 it => by
    have s1 := s.step g1
    let W := fun (i : Nat) (σ' : L2.St) (H' : Hp) => ∃ G' ρ1 μ1, Same G1 G' ∧ Stt K M G0 H0 G' H' σ' ρ1 μ1 ∧ I i ρ1 μ1
    refine ⟨fun i m σ' H' => i ≤ items.length ∧ m = items.length - i ∧ W i σ' H', ⟨items.length, Nat.zero_le _, rfl, G1, ρ, μ, Same.refl _, s1, h0⟩, fun i m σ' H' hW => ?_⟩
    obtain ⟨hle, hm, G', ρ1, μ1, eG, s2, inv⟩ := hW
    obtain ⟨i1, i2, i3⟩ := it G' H' eG s2.sub
    by_cases hlt : i < items.length
    · refine .inr ⟨i1 i hlt, W (i + 1), fun σ'' H'' w => ⟨items.length - (i + 1), by omega, hlt, rfl, w⟩, fun x H2 y => ?_⟩
      obtain ⟨G2, d, e1, g3, r3⟩ := i3 i x H2 hlt y
      obtain ⟨is, ρ2, tg, body⟩ := hs i d ρ1 μ1 e1 inv
      have s3 := s2.step g3
      refine tg x σ' G2 H2 _ r3 s3.sub s3.sl fun σ2 _ l2 => ?_
      have s4 := s3.slots l2
      refine body _ G0 H0 G2 H2 σ2 s4 ⟨fun a b c d' e f q w => ?_, fun a a2 b c c2 d' e f q q2 w => ?_, fun a b c d' e f q w => ?_, fun a b c d' e f q w => ?_⟩
      · exact ⟨d', b, c, eG.trans (g3.g.trans f), q, w⟩
      · exact k.rt a a2 b c c2 d' e (g1.g.trans (eG.trans (g3.g.trans f))) q q2 w
      · exact k.nx a b c d' e (g1.g.trans (eG.trans (g3.g.trans f))) q w
      · exact ⟨d', b, c, eG.trans (g3.g.trans f), q, w⟩
    · have ei : i = items.length := by omega
      subst ei
      exact .inl ⟨i2, k.nx _ _ _ _ _ (g1.g.trans eG) s2 (hd ρ1 μ1 inv)⟩
/-- a loop over few items, one after the other -/
def Unr (K : PySem.W.Frag) (M : List Addr) (g : TG) (ts : TS) (Φ : Post) : List D → Ro → Mem → Prop
  | [], ρ, μ => Φ.nx ρ μ
  | d :: ds, ρ, μ => ∃ is ρ2, Tg K g d is ρ ρ2 ∧ Run K M ts ρ2 μ { nx := Unr K M g ts Φ ds, ct := Unr K M g ts Φ ds, bk := Φ.nx, rt := Φ.rt }
theorem run_forU {wi : TI} {g : TG} {items : List D} (hi : ItE K wi ρ items) (h : Unr K M g ts Φ items ρ μ) : Run K M (tFor wi g ts) ρ μ Φ :=
  run_for hi (fun i ρ μ => Unr K M g ts Φ (items.drop i) ρ μ) h (fun i d ρ1 μ1 hd q => by
    have hlt := (List.getElem?_eq_some_iff.mp hd).1
    have e : items.drop i = d :: items.drop (i + 1) := by
      rw [List.drop_eq_getElem_cons hlt]
      have := (List.getElem?_eq_some_iff.mp hd).2
      rw [this]
    rw [e] at q
    exact q) fun ρ1 μ1 q => by
    rw [List.drop_length] at q
    exact q
theorem run_while {tc : TT} (W : Nat → Ro → Mem → Prop) (m0 : Nat) (h0 : W m0 ρ μ)
    (hs : ∀ m ρ1 μ1, W m ρ1 μ1 → EvT K M tc ρ1 μ1 fun b μ2 => if b = true then Run K M ts ρ1 μ2 { nx := fun ρ2 μ3 => ∃ m', m' < m ∧ W m' ρ2 μ3, ct := fun ρ2 μ3 => ∃ m', m' < m ∧ W m' ρ2 μ3, bk := Φ.nx, rt := Φ.rt } else Φ.nx ρ1 μ2) :
    Run K M (tWhile tc ts) ρ μ Φ := fun Dn G0 H0 G H σ s k => by
  let W' := fun (m : Nat) (σ' : L2.St) (H' : Hp) => ∃ G' ρ1 μ1, Same G G' ∧ Stt K M G0 H0 G' H' σ' ρ1 μ1 ∧ W m ρ1 μ1
  refine ⟨W', ⟨m0, G, ρ, μ, Same.refl _, s, h0⟩, fun m σ' H' hW => ?_⟩
  obtain ⟨G', ρ1, μ1, eG, s1, w⟩ := hW
  refine hs m ρ1 μ1 w G0 H0 G' H' σ' s1 _ fun b G2 H2 μ2 e2 s2 p => ?_
  cases b with
  | true =>
    have p : Run K M ts ρ1 μ2 _ := p
    refine ⟨fun σ'' H'' => ∃ m', m' < m ∧ W' m' σ'' H'', fun _ _ z => z, p _ G0 H0 G2 H2 σ' s2 ⟨fun a b c d' e f q w => ?_, fun a a2 b c c2 d' e f q q2 w => ?_, fun a b c d' e f q w => ?_, fun a b c d' e f q w => ?_⟩⟩
    · obtain ⟨m', lt, w⟩ := w
      exact ⟨m', lt, d', b, c, eG.trans (e2.trans f), q, w⟩
    · exact k.rt a a2 b c c2 d' e (eG.trans (e2.trans f)) q q2 w
    · exact k.nx a b c d' e (eG.trans (e2.trans f)) q w
    · obtain ⟨m', lt, w⟩ := w
      exact ⟨m', lt, d', b, c, eG.trans (e2.trans f), q, w⟩
  | false =>
    have p : Φ.nx ρ1 μ2 := p
    exact k.nx _ _ _ _ _ (eG.trans e2) s2 p
end
/-! ### promises -/
def startR (N : List Str) (ds : List D) : Ro := ds.map some ++ List.replicate (N.length - ds.length) none
section
variable {K : PySem.W.Frag} {G : Hp}
theorem sl_none : ∀ (n : Nat), Sl K G (List.replicate n none) (List.replicate n none)
  | 0 => .nil
  | n + 1 => by
    rw [List.replicate_succ, List.replicate_succ]
    exact .skip (sl_none n)
theorem sl_start {N : List Str} {vs : List V} {ds : List D} (r : Reps K G vs ds) : Sl K G (L2.start N vs) (startR N ds) := by
  unfold L2.start startR
  rw [r.length]
  generalize N.length - ds.length = n
  induction r using Reps.rec (motive_1 := fun _ _ _ => True) with
  | nil => exact sl_none n
  | cons h r _ ih => exact .val h ih
  | _ => trivial
theorem read_P {R : List D → D → Prop} {t : TS} {N : List Str} {vs : List V} {H : Hp} {Q : VK} {E : XK} (h : spP K R vs H Q E) (hR : ∀ ds d, R ds d → Run K [] t (startR N ds) [] { rt := fun d' _ => d' = d, nx := fun _ _ => d = .non }) :
    t { nx := fun _ H' => Q .non H', rt := Q } (L2.start N vs) H := by
  obtain ⟨G, ds, d, s, r, hr, q⟩ := h
  have st : Stt K [] G H G H (L2.start N vs) (startR N ds) [] := ⟨Go.refl s, sl_start r, Ce.nil, fun _ h => (nomatch h), fun _ h => (nomatch h)⟩
  refine hR ds d hr _ G H G H _ st ⟨fun σ' ρ' μ' G' H' e s' p => ?_, fun v d' σ' ρ' μ' G' H' e s' r' p => ?_, fun _ _ _ _ _ _ _ p => p.elim, fun _ _ _ _ _ _ _ p => p.elim⟩
  · have p : d = .non := p
    subst p
    exact q _ G' H' s'.go .non
  · have p : d' = d := p
    subst p
    exact q _ G' H' s'.go r'
theorem read_M {R : List D → Mem → (D → Mem → Prop) → Prop} {t : TS} {N : List Str} {vs : List V} {H : Hp} {Q : VK} {E : XK} (h : spM K R vs H Q E)
    (hR : ∀ ds μ Φ, R ds μ Φ → (μ.map (·.1)).Nodup → Run K (μ.map (·.1)) t (startR N ds) μ { rt := fun d' μ' => ∃ μ'', List.Sublist μ'' μ' ∧ μ''.map (·.1) = μ.map (·.1) ∧ Φ d' μ'', nx := fun _ μ' => ∃ μ'', List.Sublist μ'' μ' ∧ μ''.map (·.1) = μ.map (·.1) ∧ Φ .non μ'' }) :
    t { nx := fun _ H' => Q .non H', rt := Q } (L2.start N vs) H := by
  obtain ⟨G, ds, μ, Φ, s, r, c, hr, q⟩ := h
  have st : Stt K (μ.map (·.1)) G H G H (L2.start N vs) (startR N ds) μ := ⟨Go.refl s, sl_start r, c, fun x hx => .inl (List.mem_map.mpr ⟨x, hx, rfl⟩), fun a ha => by
    obtain ⟨x, hx, rfl⟩ := List.mem_map.mp ha
    exact (c.at_ x hx).1.some⟩
  refine hR ds μ Φ hr c.nd _ G H G H _ st ⟨fun σ' ρ' μ' G' H' e s' p => ?_, fun v d' σ' ρ' μ' G' H' e s' r' p => ?_, fun _ _ _ _ _ _ _ p => p.elim, fun _ _ _ _ _ _ _ p => p.elim⟩
  · obtain ⟨μ'', sb, e2, p⟩ := p
    have s2 := s'.less sb
    exact q _ _ _ G' H' s'.go .non s2.ce e2 p
  · obtain ⟨μ'', sb, e2, p⟩ := p
    have s2 := s'.less sb
    exact q _ _ _ G' H' s'.go r' s2.ce e2 p
end
end Am
/-! The text by places; what a caller knows of a def. -/
namespace Am
open PySem PySem.Spec PyProof.Rows L2

def topS (i : Nat) : Stmt := PySem.Challenge.pw_anymend_k08_whole_ways.main.body.getD i (.Pass ⟨0, 0, 0, 0⟩)
abbrev FD (K : PySem.W.Frag) (x qual : Str) (st : Stmt) (f : Addr) (fd : FuncData) : Prop := FunD K x qual (defArgs st) (defBody st) (defScope st) [] [] f fd

/-- a def of the module's, as a caller takes it -/
structure Fn (P : Program) (w : World) (K : PySem.W.Frag) (mg : Str → Option Value) (base : Heap) (x : Str) (k : Nat) (ps : List Str) (sp : Sp) : Prop where
  ex : ∃ (f : Addr) (fd : FuncData), mg x = some (.ref f) ∧ PySem.W.keepIn K (.ref f) = true ∧ Binds K fd ps [] ∧ FnOk P w K mg base CX0 k f fd ps sp
/-- a method of the class at C -/
structure Mt (P : Program) (w : World) (K : PySem.W.Frag) (mg : Str → Option Value) (base : Heap) (C : Addr) (m : Str) (k : Nat) (ps : List Str) (sp : Sp) : Prop where
  cl : Cls K C
  ex : ∃ (f : Addr) (fd : FuncData), Meth K C m f ∧ Binds K fd ps [] ∧ FnOk P w K mg base CX0 k f fd ps sp
/-- a class, as one who makes instances takes it -/
structure Mr (P : Program) (w : World) (K : PySem.W.Frag) (mg : Str → Option Value) (base : Heap) (x : Str) (C : Addr) (k : Nat) (ps : List Str) (sp : Sp) : Prop where
  gl : mg x = some (.ref C)
  ex : ∃ (f : Addr) (fd : FuncData), Mk K C f ∧ Binds K fd ps [] ∧ FnOk P w K mg base CX0 k f fd ps sp
section
variable {X : Cx} {k : Nat} {C : Addr} {ps : List Str} {sp : Sp} {x m : Str} {p pos apos : Pos} {e o : Expr} {es : List Expr} {ta : TE} {t : TA}
theorem pe_fn (F : Fn X.prog X.w X.K X.mg X.base x k ps sp) (hr : Room k X.A) (hg : Gl X x)
    (ha : PA X (e :: es) t) (hdb : (x == ("__debug__" : Str)) = false := by decide) (he : starEach (e :: es) X.env = (false, eval e X.env) :: starEach es X.env := by rfl) (hpl : (backTo pos (starEach es X.env)).any (·.1) = false := by rfl) :
    PE X (.Call (.Name x p) (e :: es) [] pos) (tCall sp [] E0 t) := by
  obtain ⟨f, fd, h1, h2, h3, h4⟩ := F.ex
  exact pe_call h4 hr hg h1 h2 h3 .nil pass0 ha hdb he hpl
theorem pe_mt {pl : Sem Bool} (F : Mt X.prog X.w X.K X.mg X.base C m k ps sp) (he : PE X o ta) (hr : Room k X.A) (ha : PA X (e :: es) t)
    (hst : starEach (e :: es) X.env = (false, eval e X.env) :: starEach es X.env := by rfl) (hpl : (backTo pos (starEach es X.env)).any (·.1) = false := by rfl)
    (ht : eval (.Call (.Attribute o m apos) (e :: es) [] pos) X.env = (do
      let ov ← eval o X.env
      standAt apos.atName
      let (f, first) ← holding [ov] (getMethod ov m pl)
      callWith pos f first (backTo pos (starEach (e :: es) X.env)) (backToKw pos (keywordEach [] X.env))) := by rfl) :
    PE X (.Call (.Attribute o m apos) (e :: es) [] pos) (tMeth C m sp [] E0 ta t) := by
  obtain ⟨f, fd, h1, h3, h4⟩ := F.ex
  exact pe_meth he F.cl h1 h4 hr h3 .nil pass0 ha hst hpl ht
theorem pe_mt0 {pl : Sem Bool} (F : Mt X.prog X.w X.K X.mg X.base C m k ps sp) (he : PE X o ta) (hr : Room k X.A)
    (ht : eval (.Call (.Attribute o m apos) [] [] pos) X.env = (do
      let ov ← eval o X.env
      standAt apos.atName
      let (f, first) ← holding [ov] (getMethod ov m pl)
      callWith pos f first (backTo pos (starEach [] X.env)) (backToKw pos (keywordEach [] X.env))) := by rfl) :
    PE X (.Call (.Attribute o m apos) [] [] pos) (tMeth C m sp [] E0 ta tNil) := by
  obtain ⟨f, fd, h1, h3, h4⟩ := F.ex
  exact pe_meth0 he F.cl h1 h4 hr h3 .nil pass0 ht
theorem pe_mkr (F : Mr X.prog X.w X.K X.mg X.base x C k ps sp) (hr : Room (k + 1) X.A) (hg : Gl X x)
    (ha : PA X (e :: es) t) (hdb : (x == ("__debug__" : Str)) = false := by decide) (he : starEach (e :: es) X.env = (false, eval e X.env) :: starEach es X.env := by rfl) (hpl : (backTo pos (starEach es X.env)).any (·.1) = false := by rfl) :
    PE X (.Call (.Name x p) (e :: es) [] pos) (tMake C sp [] E0 t) := by
  obtain ⟨f, fd, h1, h3, h4⟩ := F.ex
  exact pe_make h1 h4 hr hg F.gl h3 .nil pass0 ha hdb he hpl
theorem pe_gi {i : Int} (hg : Gl X x) (h : ∃ t, X.mg x = some (.int i t)) (hd : (x == ("__debug__" : Str)) = false := by decide) : PE X (.Name x pos) (tC (.int i)) := by
  obtain ⟨t, h⟩ := h
  exact pe_glob hg h ⟨t, rfl⟩ hd
theorem pe_gs {z : Str} (hg : Gl X x) (h : ∃ t, X.mg x = some (.str z t)) (hd : (x == ("__debug__" : Str)) = false := by decide) : PE X (.Name x pos) (tC (.str z)) := by
  obtain ⟨t, h⟩ := h
  exact pe_glob hg h ⟨t, rfl⟩ hd
theorem pe_cls (hg : Gl X x) (h : X.mg x = some (.ref C)) (hd : (x == ("__debug__" : Str)) = false := by decide) : PE X (.Name x pos) (tC (.ref C)) := pe_glob hg h rfl hd
end
/-- the module's names that are no names of its own; its constants -/
structure Blt (mg : Str → Option Value) : Prop where
  len : mg "len" = none
  sum : mg "sum" = none
  min : mg "min" = none
  max : mg "max" = none
  all : mg "all" = none
  isinstance : mg "isinstance" = none
  enumerate : mg "enumerate" = none
  zip : mg "zip" = none
  range : mg "range" = none
  tuple : mg "tuple" = none
  list : mg "list" = none
  dict : mg "dict" = none
  int : mg "int" = none
  str : mg "str" = none
  bool : mg "bool" = none
  c_MOST : ∃ t, mg "MOST" = some (.int 40 t)
  c_MOST_NODES : ∃ t, mg "MOST_NODES" = some (.int 7 t)
  c_SMALL : ∃ t, mg "SMALL" = some (.str "abcdefghijklmnopqrstuvwxyz" t)
  c_DIGITS : ∃ t, mg "DIGITS" = some (.str "0123456789" t)
theorem len_P {K : PySem.W.Frag} {R : List D → D → Prop} {n : Nat} (hn : ∀ ds d, R ds d → ds.length = n) {vs : List V} {H : Hp} {Q : VK} {E : XK} (h : spP K R vs H Q E) : vs.length = n := by
  obtain ⟨G, ds, d, _, r, hr, _⟩ := h
  rw [r.length, hn ds d hr]
theorem len_M {K : PySem.W.Frag} {R : List D → Mem → (D → Mem → Prop) → Prop} {n : Nat} (hn : ∀ ds μ Φ, R ds μ Φ → ds.length = n) {vs : List V} {H : Hp} {Q : VK} {E : XK} (h : spM K R vs H Q E) : vs.length = n := by
  obtain ⟨G, ds, μ, Φ, _, r, _, hr, _⟩ := h
  rw [r.length, hn ds μ Φ hr]
end Am
theorem L2.Room.units1 {k : Nat} {A : PySem.Around} (r : L2.Room k A) : A.units + 65 < PySem.cLine := by have := r.un; omega
/-! The layer's rules with the written part named, so that they stand in a comprehension's block; rules of my own; what they do to data. -/
namespace Am
open PySem PySem.Spec PyProof.Rows L2


section
variable {X : Cx} {K : PySem.W.Frag} {e o a b : Expr} {es : List Expr} {f : Str} {pos apos cpos p p2 tpos : Pos} {ta tb te to : TE} {t : TA} {tg : Expr} {elts : List Expr} {kk : Nat}
/-! ### terms -/
theorem xe_fld (he : PE X e ta) (hb : attributeBase e f X.env (eval e X.env) = eval e X.env) (hK : X.K = K := by rfl) : PE X (.Attribute e f pos) (tFld K ta f) := by subst hK; exact pe_fld he hb
theorem xs_fld {value : Expr} {tv : TE} {pos' : Pos} (ha : PE X o ta) (hv : PE X value tv) (hs : swapsWith value (some (.Attribute o f pos')) pos.line X.env = pure false) (hK : X.K = K := by rfl) : PS X (.Assign [.Attribute o f pos'] value pos) (sFld K ta tv f) := by subst hK; exact ps_fld ha hv hs
theorem xi_list {l : Expr} {tl : TE} (hl : PE X l tl) (hK : X.K = K := by rfl) : PI X tg l (iList K tl) := by subst hK; exact pi_list hl
theorem xi_tup {l : Expr} {tl : TE} (hl : PE X l tl) (hK : X.K = K := by rfl) : PI X tg l (iTup K tl) := by subst hK; exact pi_tup hl
theorem xx_list (hK : X.K = K := by rfl) : IxR X (rIxL K) := by subst hK; exact ix_list
theorem xx_tup (hK : X.K = K := by rfl) : IxR X (rIxT K) := by subst hK; exact ix_tup
theorem xo_in (hK : X.K = K := by rfl) : OpR X (compareOp .In) (rIn K false) := by subst hK; exact op_in_seq
theorem xo_notIn (hK : X.K = K := by rfl) : OpR X (compareOp .NotIn) (rIn K true) := by subst hK; exact op_notIn_seq
theorem xo_eqD (hu : X.A.units + 64 < cLine) (hK : X.K = K := by rfl) : OpR X (compareOp .Eq) (rEqD K) := by subst hK; exact op_eqD hu
theorem xo_neD (hu : X.A.units + 64 < cLine) (hK : X.K = K := by rfl) : OpR X (compareOp .NotEq) (rNeD K) := by subst hK; exact op_neD hu
theorem xo_inD (hu : X.A.units + 65 < cLine) (hK : X.K = K := by rfl) : OpR X (compareOp .In) (rInD K) := by subst hK; exact op_inD hu
theorem xo_notInD (hu : X.A.units + 65 < cLine) (hK : X.K = K := by rfl) : OpR X (compareOp .NotIn) (rNotInD K) := by subst hK; exact op_notInD hu
theorem xg_tup {es : List Expr} {k : Nat} {t : TGs} {n : Nat} (hc : X.calm = true) (h : PGs X es t)
    (hn : (assignEach es X.env).length = n := by rfl) (hst : (assignEach es X.env).findIdx? (·.1) = none := by rfl) (hK : X.K = K := by rfl) : PG X (.Tuple es k pos) (gTup K n t) := by subst hK; exact pg_tup hc h hn hst
/-- == and != of plain data at any depth -/
def rEqP (K : PySem.W.Frag) : R2 := fun x y H Q => ∃ d e, Dp K H x d ∧ Dp K H y e ∧ d.plain = true ∧ e.plain = true ∧ d.depth ≤ 60 ∧ Q (.bl (PyData.eqv d e)) H
def rNeP (K : PySem.W.Frag) : R2 := fun x y H Q => ∃ d e, Dp K H x d ∧ Dp K H y e ∧ d.plain = true ∧ e.plain = true ∧ d.depth ≤ 60 ∧ Q (.bl (!PyData.eqv d e)) H
theorem xo_eqP (hu : X.A.units + 64 < cLine) (hK : X.K = K := by rfl) : OpR X (compareOp .Eq) (rEqP K) := by
  subst hK
  intro pins s σ H x y v u Q I rx ry h
  obtain ⟨d, e, hd, he, sd, se, dd, q⟩ := h
  obtain ⟨as, r1⟩ := Dp.reads I d x v hd rx
  obtain ⟨bs, r2⟩ := Dp.reads I e y u he ry
  exact SeqAt.eq_plain r1 r2 sd se (by have := Nat.min_le_left d.depth e.depth; omega) ⟨.bl _, H, I, rfl, q⟩
theorem xo_neP (hu : X.A.units + 64 < cLine) (hK : X.K = K := by rfl) : OpR X (compareOp .NotEq) (rNeP K) := by
  subst hK
  intro pins s σ H x y v u Q I rx ry h
  obtain ⟨d, e, hd, he, sd, se, dd, q⟩ := h
  obtain ⟨as, r1⟩ := Dp.reads I d x v hd rx
  obtain ⟨bs, r2⟩ := Dp.reads I e y u he ry
  exact SeqAt.ne_plain r1 r2 sd se (by have := Nat.min_le_left d.depth e.depth; omega) ⟨.bl _, H, I, rfl, q⟩
def rNotInP (K : PySem.W.Frag) : R2 := fun x y H Q => ∃ d ds, Dp K H x d ∧ Dp K H y (.list ds) ∧ d.plain = true ∧ PyData.plainAll ds = true ∧ d.depth ≤ 60 ∧ Q (.bl (!ds.any fun z => PyData.eqv z d)) H
theorem xo_notInP (hu : X.A.units + 64 < cLine) (hK : X.K = K := by rfl) : OpR X (compareOp .NotIn) (rNotInP K) := by
  subst hK
  intro pins s σ H x y v u Q I rx ry h
  obtain ⟨d, ds, hd, he, sd, se, dd, q⟩ := h
  obtain ⟨as, r1⟩ := Dp.reads I d x v hd rx
  obtain ⟨bs, r2⟩ := Dp.reads I _ y u he ry
  exact SeqAt.notIn_list_data r2 r1 se sd (by have := Nat.min_le_right (PyData.depthAll ds) d.depth; omega) ⟨.bl _, H, I, rfl, q⟩
def rLenA (K : PySem.W.Frag) : List V → Hp → VK → Prop := fun xs H Q => ∃ p ys, xs = [.ref p] ∧ (SqL K H p ys ∨ SqT K H p ys) ∧ Q (.int ys.length) H
theorem xc_len (hK : X.K = K := by rfl) : CallR X (.builtin "len") (rLenA K) := by subst hK; exact call_len_seq
def rLenZ : List V → Hp → VK → Prop := fun xs H Q => ∃ z, xs = [.str z] ∧ z.length ≤ sizeLine ∧ Q (.int z.length) H
theorem xc_lenZ : CallR X (.builtin "len") rLenZ := call_len_str
theorem xc_sum (hc : X.calm = true) (hK : X.K = K := by rfl) : CallR X (.builtin "sum") (rSum K) := by subst hK; exact cr_sum hc
theorem xc_min (hc : X.calm = true) (hK : X.K = K := by rfl) : CallR X (.builtin "min") (rMin K) := by subst hK; exact cr_min hc
theorem xc_max (hc : X.calm = true) (hK : X.K = K := by rfl) : CallR X (.builtin "max") (rMax K) := by subst hK; exact cr_max hc
theorem xc_all (hc : X.calm = true) (hK : X.K = K := by rfl) : CallR X (.builtin "all") (rAll K) := by subst hK; exact cr_all hc
def rMin2 : List V → Hp → VK → Prop := fun xs H Q => ∃ i j, xs = [.int i, .int j] ∧ Q (.int (if j < i then j else i)) H
def rMax2 : List V → Hp → VK → Prop := fun xs H Q => ∃ i j, xs = [.int i, .int j] ∧ Q (.int (if j > i then j else i)) H
theorem xc_min2 (hc : X.calm = true) : CallR X (.builtin "min") rMin2 := call_min2 hc
theorem xc_max2 (hc : X.calm = true) : CallR X (.builtin "max") rMax2 := call_max2 hc
theorem xc_isi (hK : X.K = K := by rfl) : CallR X (.builtin "isinstance") (rIsi K) := by subst hK; exact call_isi
def rTupA (K : PySem.W.Frag) : List V → Hp → VK → Prop := fun xs H Q => ∃ p ys, xs = [.ref p] ∧ ((SqL K H p ys ∧ ∀ l, H l = none → Q (.ref l) (upd H l (.tup ys))) ∨ (SqT K H p ys ∧ Q (.ref p) H))
theorem xc_tuple (hK : X.K = K := by rfl) : CallR X (.type "tuple") (rTupA K) := by subst hK; exact call_tuple_of
def rListA (K : PySem.W.Frag) : List V → Hp → VK → Prop := fun xs H Q => ∃ p ys, xs = [.ref p] ∧ (SqL K H p ys ∨ SqT K H p ys) ∧ ∀ l, H l = none → Q (.ref l) (upd H l (.lst ys))
theorem xc_list (hK : X.K = K := by rfl) : CallR X (.type "list") (rListA K) := by subst hK; exact call_list_of
def rInt1 : List V → Hp → VK → Prop := fun xs H Q => (∃ i, xs = [.int i] ∧ Q (.int i) H) ∨ ∃ k, xs = [.bl k] ∧ Q (.int (if k then 1 else 0)) H
theorem xc_int : CallR X (.type "int") rInt1 := call_int1
def rIntZ : List V → Hp → VK → Prop := fun xs H Q => ∃ a n, xs = [.str a] ∧ PySem.intText? a = some n ∧ a.length ≤ 640 ∧ Q (.int n) H
theorem xc_intZ : CallR X (.type "int") rIntZ := call_int_str
def rStrI : List V → Hp → VK → Prop := fun xs H Q => ∃ i : Int, xs = [.int i] ∧ i.natAbs.log2 < 1920 ∧ Q (.str (toString i)) H
theorem xc_strI : CallR X (.type "str") rStrI := call_str_int
def rIsN1 : R2 := fun x y H Q => y = .non ∧ Q (.bl (decide (x = .non))) H
def rNotN1 : R2 := fun x y H Q => y = .non ∧ Q (.bl (!decide (x = .non))) H
theorem xo_isN : OpR X (compareOp .Is) rIsN1 := op_isN
theorem xo_notN : OpR X (compareOp .IsNot) rNotN1 := op_notN
def rAddZ : R2 := fun x y H Q => ∃ i j, x = .str i ∧ y = .str j ∧ i.length + j.length ≤ sizeLine ∧ Q (.str (i ++ j)) H
theorem xo_addZ : OpR X (binaryOp .Add) rAddZ := op_add_str
def rInZ : R2 := fun x y H Q => ∃ (c : Nat) (z : Str), x = .str ⟨#[c]⟩ ∧ y = .str z ∧ Q (.bl (decide (c ∈ z.cps.toList))) H
def rNotInZ : R2 := fun x y H Q => ∃ (c : Nat) (z : Str), x = .str ⟨#[c]⟩ ∧ y = .str z ∧ Q (.bl (!decide (c ∈ z.cps.toList))) H
theorem xo_inZ : OpR X (compareOp .In) rInZ := op_in_sign
theorem xo_notInZ : OpR X (compareOp .NotIn) rNotInZ := op_notIn_sign
theorem xx_sl (hK : X.K = K := by rfl) : SlR X (rSlL K) := by subst hK; exact sl_list
theorem xe_rev {k : Nat} {p1 p2 p3 : Pos} (he : PE X e te) (hK : X.K = K := by rfl) : PE X (.Subscript e (.Slice none none (some (.UnaryOp .USub (.Constant (.int 1) k p1) p2)) p3) pos) (tRevL K te) := by subst hK; exact pe_revL he
def rSplitZ : V → List V → Hp → VK → Prop := fun x xs H Q => ∃ a b, x = .str a ∧ xs = [.str b] ∧ (b.length == 0) = false ∧ a.length + 2 ≤ sizeLine ∧ rNewStrs (Txt.split a b) H Q
def rPartZ : V → List V → Hp → VK → Prop := fun x xs H Q => ∃ a b, x = .str a ∧ xs = [.str b] ∧ (b.length == 0) = false ∧ a.length ≤ sizeLine ∧
      ∀ p, H p = none → Q (.ref p) (upd H p (.tup [.str (Txt.partition a b).1, .str (Txt.partition a b).2.1, .str (Txt.partition a b).2.2]))
def rJoinZ (K : PySem.W.Frag) : V → List V → Hp → VK → Prop := fun x xs H Q => ∃ a p, ∃ ys : List Str, x = .str a ∧ xs = [.ref p] ∧ (SqL K H p (ys.map V.str) ∨ SqT K H p (ys.map V.str)) ∧
      (ys.map (·.length)).sum + ys.length * a.length ≤ 16777216 ∧ Q (.str (Txt.join a ys)) H
theorem xe_split (ho : PE X o to) (he : PE X e te) (hs : starEach [e] X.env = [(false, eval e X.env)] := by rfl) (hbase : attributeBase o "split" X.env (eval o X.env) = eval o X.env := by rfl) (hline : (apos.endLine == pos.line) = true := by rfl) :
    PE X (.Call (.Attribute o "split" apos) [e] [] pos) (tM1 rSplitZ to te) := pe_split ho he hs hbase hline
theorem xe_partition (ho : PE X o to) (he : PE X e te) (hs : starEach [e] X.env = [(false, eval e X.env)] := by rfl) (hbase : attributeBase o "partition" X.env (eval o X.env) = eval o X.env := by rfl) (hline : (apos.endLine == pos.line) = true := by rfl) :
    PE X (.Call (.Attribute o "partition" apos) [e] [] pos) (tM1 rPartZ to te) := pe_partition ho he hs hbase hline
theorem xe_join (ho : PE X o to) (he : PE X e te) (hs : starEach [e] X.env = [(false, eval e X.env)] := by rfl) (hbase : attributeBase o "join" X.env (eval o X.env) = eval o X.env := by rfl) (hline : (apos.endLine == pos.line) = true := by rfl) (hK : X.K = K := by rfl) :
    PE X (.Call (.Attribute o "join" apos) [e] [] pos) (tM1 (rJoinZ K) to te) := by subst hK; exact pe_join ho he hs hbase hline
theorem xe_bm {T id : String} {name : Str} {r : V → List V → Hp → VK → Prop} (pa : PlainAttrs T) (slot : Slot T name id) (hty : typeOf (.builtin id) = pure (.type "method_descriptor")) (hm : MtR X id r) (ho : PE X o to) (ha : PA X (e :: es) t)
    (hbase : attributeBase o name X.env (eval o X.env) = eval o X.env := by rfl)
    (hfew : ((backTo cpos (starEach (e :: es) X.env)).all (fun x => !x.1) && (backToKw cpos (keywordEach [] X.env)).all (fun x => x.1.isSome)
      && decide ((e :: es).length + ([] : List Keyword).length + (if ([] : List Keyword).isEmpty then 0 else 1) < 30)) = true := by rfl)
    (hline : (apos.endLine == cpos.line) = true := by rfl) (hs : starEach (e :: es) X.env = (false, eval e X.env) :: starEach es X.env := by rfl) (hplain : (backTo cpos (starEach es X.env)).any (·.1) = false := by rfl) (hK : X.K = K := by rfl) :
    PE X (.Call (.Attribute o name apos) (e :: es) [] cpos) (tBM K T r to t) := by subst hK; exact pe_bm pa slot hty hm ho ha hbase hfew hline hs hplain
theorem xm_index (hK : X.K = K := by rfl) : MtR X "list.index" (rIndex K) := by subst hK; exact mt_index
theorem xm_indexD (hu : X.A.units + 65 < cLine) (hK : X.K = K := by rfl) : MtR X "list.index" (rIndexD K) := by subst hK; exact mt_indexD hu
/-- t.index(x), t a tuple that is known to have no dict -/
def tTupIx (te : TE) (t : TA) : TE := fun σ H Q => te σ H fun x H1 => ∃ (p : Addr) (ob : Obj) (ys : List Str), x = .ref p ∧ H1 p = some (.frz ob (.tup (ys.map V.str))) ∧ ob.dict = none ∧ t σ H1 fun xs H2 => ∃ z j, xs = [.str z] ∧
  H2 p = some (.frz ob (.tup (ys.map V.str))) ∧ ys[j]? = some z ∧ (∀ m, m < j → ys[m]? ≠ some z) ∧ Q (.int (j : Nat)) H2
theorem xe_tupIndex (ho : PE X o to) (ha : PA X (e :: es) t)
    (hbase : attributeBase o "index" X.env (eval o X.env) = eval o X.env := by rfl)
    (hfew : ((backTo cpos (starEach (e :: es) X.env)).all (fun x => !x.1) && (backToKw cpos (keywordEach [] X.env)).all (fun x => x.1.isSome)
      && decide ((e :: es).length + ([] : List Keyword).length + (if ([] : List Keyword).isEmpty then 0 else 1) < 30)) = true := by rfl)
    (hline : (apos.endLine == cpos.line) = true := by rfl) (hs : starEach (e :: es) X.env = (false, eval e X.env) :: starEach es X.env := by rfl) (hplain : (backTo cpos (starEach es X.env)).any (·.1) = false := by rfl) :
    PE X (.Call (.Attribute o "index" apos) (e :: es) [] cpos) (tTupIx to t) := by
  refine ⟨fun pins s σ H Q I h => ?_⟩
  refine wpAny_Call_method_late hbase hfew hline rfl (thn (ho.run pins s σ H _ I h) fun v s1 ⟨x, H1, I1, r1, p, ob, ys, ex, hp, hd, q1⟩ => ?_)
  subst ex
  have r0 := r1
  cases r1
  obtain ⟨ho1, z, its, rv, hT⟩ := I1.hok p _ hp
  obtain ⟨o2, ho2, hc2, _⟩ := hT
  rw [ho1] at ho2
  cases ho2
  refine ⟨"tuple", "tuple.index", PySem.F.plainAttrs_tuple, PySem.F.slot_tuple_index, PySem.F.type_tuple_index, ⟨ob, ho1, hc2⟩, fun a ea => ?_, ?_⟩
  · cases ea
    exact ⟨ob, ho1, hd⟩
  · have hA := ha.run cpos pins s1 σ H1 _ I1 q1
    rw [hs] at hA ⊢
    refine Calls.callWith_builtin (by show (false || (backTo cpos (starEach es X.env)).any (·.1)) = false; rw [hplain] <;> rfl) (Calls.evalArgs_plain ?_)
    exact thn hA fun us s2 ⟨vs, H2, I2, r2, z, j, ez, hp2, h1, h2, q⟩ => mt_tup_index pins s2 σ H2 (.ref p) vs _ us Q I2 r0 r2 ⟨p, ys, z, j, rfl, ez, .inl (.inr ⟨ob, hp2⟩), h1, h2, q⟩
/-- a tuple that is known to have no dict -/
def tTupF (t : TA) : TE := fun σ H Q => t σ H fun xs H1 => xs.length ≤ sizeLine ∧ ∀ (p : Addr) (ob : Obj), H1 p = none → ob.dict = none → Q (.ref p) (upd H1 p (.frz ob (.tup xs)))
theorem xe_tupF {x1} (h : PA X es t) : PE X (.Tuple es x1 pos) (tTupF t) := by
  refine ⟨fun pins s σ H Q I hq => ?_⟩
  refine wpAny_Tuple_spliced (thn (h.run pos pins s σ H _ I hq) fun us s1 ⟨xs, H1, I1, r, z, q⟩ => ⟨by rw [← r.length]; exact z, ?_⟩)
  have hf : H1 s1.heap.objs.size = none := I1.hok.fresh (Nat.le_refl _)
  have hn := Heap.get?_push_size s1.heap (o := { cls := .type "tuple", data := .seq us.toArray }) rfl
  refine ⟨.ref s1.heap.objs.size, upd H1 s1.heap.objs.size (.frz _ (.tup xs)), I1.laid (t' := s1.toks) (fun b u e => Heap.get?_push_of_some _ e) (Nat.le_refl _) ?_, rfl, q _ { cls := .type "tuple", data := .seq us.toArray } hf rfl⟩
  exact ⟨hn, z, us, r, ⟨_, hn, rfl, _, rfl⟩⟩
def rCatF (K : PySem.W.Frag) : R2 := fun x y H Q => ∃ a b xs ys, x = .ref a ∧ y = .ref b ∧ SqT K H a xs ∧ SqT K H b ys ∧ xs.length + ys.length ≤ sizeLine ∧
  (xs = [] → Q (.ref b) H) ∧ (xs ≠ [] → ys = [] → Q (.ref a) H) ∧ (xs ≠ [] → ys ≠ [] → ∀ (p : Addr) (ob : Obj), H p = none → ob.dict = none → Q (.ref p) (upd H p (.frz ob (.tup (xs ++ ys)))))
theorem xo_catF (hK : X.K = K := by rfl) : OpR X (binaryOp .Add) (rCatF K) := by
  subst hK
  intro pins s σ H x y v u Q I rx ry h
  obtain ⟨a, b, xs, ys, rfl, rfl, ha, hb, hz, q0, q1, q2⟩ := h
  cases rx
  cases ry
  obtain ⟨its, r1, p1, _⟩ := I.tuple ha
  obtain ⟨its2, r2, p2, _⟩ := I.tuple hb
  by_cases hx : xs = []
  · subst hx
    cases r1
    exact cat_tup0 p1 p2 ⟨.ref b, H, I, rfl, q0 rfl⟩
  · refine HT.cat_tup p1 p2 (fun z => hx (r1.nil_iff.mp z)) (fun z => ⟨.ref a, H, I, rfl, q1 hx (r2.nil_iff.mp z)⟩) (fun z => ?_) (by rw [← r1.length, ← r2.length]; exact hz)
    have hn := Heap.get?_push_size s.heap (o := { cls := .type "tuple", data := .seq (its ++ its2).toArray }) rfl
    refine ⟨.ref s.heap.objs.size, _, I.laid (t' := s.toks) (o := .frz { cls := .type "tuple", data := .seq (its ++ its2).toArray } (.tup (xs ++ ys))) (fun b ob q => Heap.get?_push_of_some _ q) (Nat.le_refl _) ?_, rfl, q2 hx (fun w => z (r2.nil_iff.mpr w)) _ _ (I.hok.fresh (Nat.le_refl _)) rfl⟩
    exact ⟨hn, by rw [List.length_append]; exact hz, _, r1.append r2, ⟨_, hn, rfl, _, rfl⟩⟩
theorem xo_catA (hK : X.K = K := by rfl) : OpR X (binaryOp .Add) (rCatA K) := by subst hK; exact op_catA
theorem xi_zip {e2 : Expr} (hg : Gl X "zip") (hm : X.mg "zip" = none) (ha : PA X [e, e2] t)
    (hs : starEach [e, e2] X.env = (false, eval e X.env) :: starEach [e2] X.env := by rfl) (hpl : (backTo pos (starEach [e2] X.env)).any (·.1) = false := by rfl) (hK : X.K = K := by rfl) :
    PI X (.Tuple elts kk tpos) (.Call (.Name "zip" p) [e, e2] [] pos) (RZ.iZipA K t) := by subst hK; exact RZ.pi_zipA hg hm ha hs hpl
theorem xi_enum (hg : Gl X "enumerate") (hm : X.mg "enumerate" = none) (ha : PA X [e] t) (hs : starEach [e] X.env = [(false, eval e X.env)] := by rfl) (hK : X.K = K := by rfl) :
    PI X (.Tuple elts kk tpos) (.Call (.Name "enumerate" p) [e] [] pos) (iEnum K t) := by subst hK; exact pi_enum hg hm ha hs
end
end Am
/-! Walks of my own: enumerate over a tuple, zip of a list and a tuple. -/
namespace Am
open PySem PySem.Spec PyProof.Rows L2

/-! ### enumerate(tuple) -/
def IteT (K : PySem.W.Frag) (a : Addr) : It :=
  ⟨fun i H => ∃ (xs : List V) (x : V), SqT K H a xs ∧ xs[i]? = some x, fun i H v H' => ∃ T x, v = .ref T ∧ H T = none ∧ H' = upd H T (.tup [.int (i : Nat), x]) ∧ ∀ xs, SqT K H a xs → xs[i]? = some x, fun i H => ∃ xs : List V, SqT K H a xs ∧ xs.length ≤ i⟩
set_option maxHeartbeats 1000000 in
theorem meets_enumerate_newT {v : Value} {o : Obj} {H : Heap → Prop} (B : Begins v o H) :
    Meets (Builtin.«enumerate.__new__» ⟨[.type "enumerate", v], []⟩) (fun _ R s => H s.heap ∧
      R (.ok (.ret (.ref (s.heap.push o).objs.size))) { s with heap := (s.heap.push o).push { cls := .type "enumerate", data := .fields #[.none, .bool false, .ref s.heap.objs.size, rawInt 0, .none, .none] } }) :=
  .of_wp fun prog w A R s h => by
    obtain ⟨hp, g, d, tk, os⟩ := s; obtain ⟨h1, h⟩ := h
    have hsub := sub_enumerate
    have q1 : ∀ {A' : Around} {E : Value → Shared → Prop} {Q : Value → Shared → Prop}, Q (.ref hp.objs.size) ⟨hp.push o, g, d, tk, os⟩ → wpAny (model prog w) A' (pyIter v) Q E ⟨hp, g, d, tk, os⟩ :=
      fun q => B.iter prog w _ _ ⟨hp, g, d, tk, os⟩ _ h1 q
    wp_walk using q1
    refine wpAny_stack_any fun st => wpAny_pure ?_
    split
    · rename_i c _ _ _ _ _
      cases (c == Value.type "enumerate")
      · wp_walk using q1
        exact ⟨_, rfl, h⟩
      · wp_walk using q1
        exact ⟨_, rfl, h⟩
    · wp_walk using q1
      exact ⟨_, rfl, h⟩
theorem call_enumerate_T {prog : Program} {w : World} {A : Around} {E : Value → Shared → Prop} {s : Shared} {l : Addr} {items : Array Value} {Q : Value → Shared → Prop} (hL : s.heap.IsTuple l items)
    (h : ∀ h', IsEnum h' (s.heap.objs.size + 1) s.heap.objs.size 0 .none → h'.IsTupleIter s.heap.objs.size l 0 → h'.objs.size = s.heap.objs.size + 2 →
      (∀ b o, s.heap.get? b = some o → h'.get? b = some o) → Q (.ref (s.heap.objs.size + 1)) { s with heap := h' }) :
    wpAny (model prog w) A (call (.type "enumerate") [.ref l]) Q E s := by
  refine callType_new F.called_enumerate (by decide) (F.typeCall_enumerate_1 _) (F.newCall_enumerate_1 _) (fun obj => F.args_object_init_2 obj _) F.entry_enumerate_new
    (meets_enumerate_newT (begins_tuple l items)) ⟨hL, ?_⟩
  have hz : (s.heap.push { cls := .type "tuple_iterator", data := .fields #[.ref l, .int 0 0] }).objs.size = s.heap.objs.size + 1 := Heap.size_push ..
  show _ ∧ _
  rw [hz]
  have he : IsEnum ((s.heap.push { cls := .type "tuple_iterator", data := .fields #[.ref l, .int 0 0] }).push
      { cls := .type "enumerate", data := .fields #[.none, .bool false, .ref s.heap.objs.size, rawInt 0, .none, .none] }) (s.heap.objs.size + 1) s.heap.objs.size 0 .none := by
    have := Heap.get?_push_size (s.heap.push { cls := .type "tuple_iterator", data := .fields #[.ref l, .int 0 0] })
      (o := { cls := .type "enumerate", data := .fields #[.none, .bool false, .ref s.heap.objs.size, rawInt 0, .none, .none] }) rfl
    rw [hz] at this; exact this
  refine ⟨⟨_, he, rfl⟩, h _ he ⟨_, Heap.get?_push_of_some _ (Heap.get?_push_size _ rfl), rfl, rfl⟩ (by rw [Heap.size_push, hz]) fun b o x => Heap.get?_push_of_some _ (Heap.get?_push_of_some _ x)⟩
theorem turn_enumT {P : Program} {w : World} {K : PySem.W.Frag} {elts : List Expr} {kk : Nat} {tpos : Pos} (a e it : Addr) :
    Turn P w K (.Tuple elts kk tpos) (IteT K a) [e, it] e (fun i h => (∃ old, IsEnum h e it ((i : Nat) : Int) old) ∧ h.IsTupleIter it a i ∧ e ≠ it ∧ a ≠ it ∧ a ≠ e) where
  mem := by simp
  obj := fun i h st b hb => by
    obtain ⟨⟨old, he⟩, ⟨o, ho, hc, hd⟩, _⟩ := st
    have e' : b = e ∨ b = it := by simpa using hb
    rcases e' with z | z
    · rw [z]; exact ⟨_, he, fun v q => nomatch q⟩
    · rw [z]; exact ⟨o, ho, fun v q => by rw [hd] at q; cases q⟩
  keep := fun i h h' st k => let ⟨⟨old, he⟩, hi, hne⟩ := st; ⟨⟨old, k e (by simp) _ he⟩, hi.at fun o q => k it (by simp) o q, hne⟩
  item := by
    intro X hP hw hK hc i pins s σ H E I hf st hg
    subst hP hw hK
    obtain ⟨⟨old, he⟩, hit, hne, hai, hae⟩ := st
    obtain ⟨xs, x, hq, hx⟩ := hg
    obtain ⟨its, rv, p, hz⟩ := I.tuple hq
    obtain ⟨u, hu, ru⟩ := rv.get hx
    have hel : e < s.heap.objs.size := Heap.lt_size he
    have hil : it < s.heap.objs.size := by obtain ⟨_, q, _⟩ := hit; exact Heap.lt_size q
    have hli : i < its.toArray.size := by
      rw [List.size_toArray]
      exact (List.getElem?_eq_some_iff.mp hu).1
    have hnl : e ∉ [it, a] := by simp [hne, Ne.symm hae]
    have hA : X.A.in1.handled = none := I.ok.hd hc
    refine wpAny_pyNext_enum_itemD (Draws.tuple hA it a hai its.toArray) he ⟨hit, p⟩ hli hne hnl fun y h' tk hPy ho hst' hT hsz hk => ?_
    have hyu : y = u := by
      have h1 : its.toArray[i]? = some y := hPy
      rw [List.getElem?_toArray, hu] at h1
      exact (Option.some.inj h1).symm
    subst hyu
    refine ⟨_, rfl, wpAny_letOwnedTupleGo_enum (s := { s with heap := h', toks := tk + 1 }) ho fun h'' he' sb => ?_⟩
    have hT2 : h''.get? s.heap.objs.size = some { cls := .type "tuple", data := .seq #[.int i tk, y] } := (sb.2 _ (Nat.ne_of_gt hel)).trans hT
    have new : ObjOk X.prog X.w (upd H s.heap.objs.size (.tup [.int (i : Nat), x])) h'' s.heap.objs.size (.tup [.int (i : Nat), x]) :=
      ⟨by show 2 ≤ sizeLine; decide, [.int i tk, y], .cons ⟨_, rfl⟩ (.cons ru .nil), ⟨_, hT2, rfl, _, rfl⟩⟩
    have I1 : Inv X pins σ (upd H s.heap.objs.size (.tup [.int (i : Nat), x])) { s with heap := h'', toks := tk + 1 } :=
      I.turnedNew (ch := [e, it]) (fun b ob hb q => (sb.2 b (fun z => hb (by simp [z]))).trans (hk b ob (fun z => hb (by simp [z])) (fun z => hb (by simp [z])) q)) hf (Nat.le_refl _) new
    refine ⟨.ref s.heap.objs.size, _, I1, rfl, ⟨_, x, rfl, I.hok.fresh (Nat.le_refl _), rfl, fun ys hy => by rw [I.tuple_inj hy hq]; exact hx⟩, ⟨⟨y, ?_⟩, hst'.1.at fun o q => (sb.2 it (Ne.symm hne)).trans q, hne, hai, hae⟩, fun b hb => ?_⟩
    · have e1 : ((i + 1 : Nat) : Int) = (i : Int) + 1 := by omega
      rw [e1]; exact he'
    · have hb' : b < s.heap.objs.size := by
        have e' : b = e ∨ b = it := by simpa using hb
        rcases e' with z | z
        · rw [z]; exact hel
        · rw [z]; exact hil
      rw [upd_ne (Nat.ne_of_lt hb')]
      exact (hf b hb).1
  done := by
    intro X hP hw hK hc i pins s σ H E I hf st hg
    subst hP hw hK
    obtain ⟨⟨old, he⟩, hit, hne, hai, hae⟩ := st
    obtain ⟨xs, hq, hx⟩ := hg
    obtain ⟨its, rv, p, hz⟩ := I.tuple hq
    obtain ⟨f0, f1, f2, f3, f4, f5⟩ := hf it (by simp)
    have hl := rv.length
    have hA : X.A.in1.handled = none := I.ok.hd hc
    have hT : s.TypeIs (.ref e) "enumerate" := ⟨_, he, rfl⟩
    have he : IsEnum s.heap e it (i : Int) old := he
    -- the iterator is at its end
    have hend : its.toArray[i]? = none := by simp; omega
    unfold pyNext
    refine wpAny_bind (wpAny_attempt (wpAny_callSpecial?_slot (name := Str.ofString "__next__") hT F.slot_enumerate_next
      (wpAny_call_entry F.slot_enumerate_next hT F.entry_enumerate_next ?_ (F.args_enumerate_next_1 _))))
    show wpAny _ _ (field (.ref e) 2 >>= _) _ _ _
    refine wpAny_bind (wpAny_field he rfl (x := .ref it) rfl ?_)
    refine wpAny_bind (wpAny_nextOf_tuple_end hA hit p hend fun h' x he' hx' => ?_)
    obtain ⟨o, ho, hc⟩ := hx'
    refine wpAny_bind (wpAny_isInstance (T := "StopIteration") (b := true) ⟨o, ho, hc⟩ isSubtype_stop ?_)
    exact wpAny_pure ⟨rfl, I.turned (t' := s.toks) (fun b o hb q => he' b o hb q) f0 f1 f3 f4 f5⟩
  self := fun A i s Q E st h => let ⟨⟨_, he⟩, _⟩ := st; wpAny_pyIter_enum he h
def iEnumT (K : PySem.W.Frag) (ta : TA) : TI := fun σ H R => ta σ H fun vs H1 => ∃ a xs, vs = [.ref a] ∧ SqT K H1 a xs ∧ R (IteT K a) H1
theorem xi_enumT {X : Cx} {K : PySem.W.Frag} {e : Expr} {ta : TA} {p pos tpos : Pos} {elts : List Expr} {kk : Nat} (hg : Gl X "enumerate") (hm : X.mg "enumerate" = none) (ha : PA X [e] ta) (hs : starEach [e] X.env = [(false, eval e X.env)] := by rfl) (hK : X.K = K := by rfl) :
    PI X (.Tuple elts kk tpos) (.Call (.Name "enumerate" p) [e] [] pos) (iEnumT K ta) := by
  subst hK
  refine ⟨fun pins s σ H R I h => ?_⟩
  refine Call_ (ld_blt I hg hm boot_enumerate (PyProof.Rows.callWith_type1 (thn (ha.run pos pins s σ H _ I h) fun us s1 ⟨vs, H1, I1, r1, q1⟩ => ?_) hs rfl))
  obtain ⟨a, xs, ex, hq, q⟩ := q1
  subst ex
  cases r1 with
  | cons r rr =>
    cases rr
    cases r
    obtain ⟨its, rv, p', hz⟩ := I1.tuple hq
    have hal : a < s1.heap.objs.size := IsTup.lt p'
    refine call_enumerate_T p' fun h' he hit hsz hk => wpAny_pyIter_enum he ?_
    have I2 : Inv X pins σ H1 { s1 with heap := h' } := I1.kept (t' := s1.toks) hk
    refine ⟨s1.heap.objs.size + 1, [s1.heap.objs.size + 1, s1.heap.objs.size], _, _, H1, rfl, I2, turn_enumT a (s1.heap.objs.size + 1) s1.heap.objs.size, ⟨⟨.none, he⟩, hit, Nat.succ_ne_self _, Nat.ne_of_lt hal, Nat.ne_of_lt (Nat.lt_succ_of_lt hal)⟩, fun b hb => ?_, q⟩
    have e' : b = s1.heap.objs.size + 1 ∨ b = s1.heap.objs.size := by simpa using hb
    have hle : s1.heap.objs.size ≤ b := by
      rcases e' with z | z
      · rw [z]; exact Nat.le_add_right _ _
      · rw [z]; exact Nat.le_refl _
    exact I1.fpOk hle (I1.hok.fresh hle)

/-! ### zip(list, tuple) -/
def ItzLT (K : PySem.W.Frag) (a b : Addr) : It :=
  ⟨fun i H => ∃ (xs ys : List V) (x y : V), SqL K H a xs ∧ SqT K H b ys ∧ xs[i]? = some x ∧ ys[i]? = some y,
    fun i H v H' => ∃ T x y, v = .ref T ∧ H T = none ∧ H' = upd H T (.tup [x, y]) ∧ (∀ xs, SqL K H a xs → xs[i]? = some x) ∧ ∀ ys, SqT K H b ys → ys[i]? = some y,
    fun i H => ∃ xs ys : List V, SqL K H a xs ∧ SqT K H b ys ∧ xs.length = i ∧ ys.length = i⟩
theorem turn_zipLT {P : Program} {w : World} {K : PySem.W.Frag} {elts : List Expr} {kk : Nat} {tpos : Pos} {a b z TI TO i1 i2 : Addr} (D : ZipApart z TI TO i1 i2 a b) :
    Turn P w K (.Tuple elts kk tpos) (ItzLT K a b) [z, TI, TO, i1, i2] z (fun i h => IsZip h z TI TO .none ∧ IsPair h TI (.ref i1) (.ref i2) ∧ (∃ x y, IsPair h TO x y) ∧ h.IsListIter i1 a i ∧ h.IsTupleIter i2 b i) where
  mem := by simp
  obj := fun i h st c hc => by
    obtain ⟨hz, hTI, ⟨x, y, hTO⟩, ⟨o1, e1, _, d1⟩, ⟨o2, e2, _, d2⟩⟩ := st
    have e' : c = z ∨ c = TI ∨ c = TO ∨ c = i1 ∨ c = i2 := by simpa using hc
    rcases e' with q | q | q | q | q
    · rw [q]; exact ⟨_, hz, fun v q => nomatch q⟩
    · rw [q]; exact ⟨_, hTI, fun v q => nomatch q⟩
    · rw [q]; exact ⟨_, hTO, fun v q => nomatch q⟩
    · rw [q]; exact ⟨o1, e1, fun v q => by rw [d1] at q; cases q⟩
    · rw [q]; exact ⟨o2, e2, fun v q => by rw [d2] at q; cases q⟩
  keep := fun i h h' st k => by
    obtain ⟨hz, hTI, ⟨x, y, hTO⟩, h1, h2⟩ := st
    exact ⟨k z (by simp) _ hz, k TI (by simp) _ hTI, ⟨x, y, k TO (by simp) _ hTO⟩, h1.at fun o q => k i1 (by simp) o q, h2.at fun o q => k i2 (by simp) o q⟩
  item := by
    intro X hP hw hK hc i pins s σ H E I hf st hg
    subst hP hw hK
    obtain ⟨hz, hTI, ⟨x0, y0, hTO⟩, h1, h2⟩ := st
    obtain ⟨xs, ys, x, y, hqx, hqy, hx, hy⟩ := hg
    obtain ⟨its, rv, p, _⟩ := I.list hqx
    obtain ⟨its2, rv2, p2, _⟩ := I.tuple hqy
    obtain ⟨u, hu, ru⟩ := rv.get hx
    obtain ⟨u2, hu2, ru2⟩ := rv2.get hy
    have hzl : z < s.heap.objs.size := Heap.lt_size hz
    have hA : X.A.in1.handled = none := I.ok.hd hc
    have S : ZipSep2 z TI TO i1 i2 [i1, a] [i2, b] := ⟨D.TIz, D.TOz, D.TITO, D.TIi1, by simp, by simp [D.i1z.symm, D.l1z.symm], by simp [D.TOi1, D.l1TO.symm], D.TIi2, by simp, by simp [D.i2z.symm, D.l2z.symm], by simp [D.TOi2, D.l2TO.symm], by simp [D.i12, D.l2i1.symm], by simp [D.i12.symm, D.l1i2.symm]⟩
    have n1 : i < its.toArray.size := by rw [List.size_toArray]; exact (List.getElem?_eq_some_iff.mp hu).1
    have n2 : i < its2.toArray.size := by rw [List.size_toArray]; exact (List.getElem?_eq_some_iff.mp hu2).1
    refine wpAny_pyNext_zipD2_item S (Draws.list hA i1 a D.l1i1 its.toArray) (Draws.tuple hA i2 b D.l2i2 its2.toArray) hz hTI hTO ⟨h1, p.isList⟩ ⟨h2, p2⟩ n1 n2 fun w1 w2 h' tk y1 y2 z' TO' st1' st2' hT hsz hk => ?_
    have hyu : w1 = u := by
      have h1 : its.toArray[i]? = some w1 := y1
      rw [List.getElem?_toArray, hu] at h1
      exact (Option.some.inj h1).symm
    have hyu2 : w2 = u2 := by
      have h1 : its2.toArray[i]? = some w2 := y2
      rw [List.getElem?_toArray, hu2] at h1
      exact (Option.some.inj h1).symm
    subst hyu hyu2
    refine ⟨_, rfl, wpAny_letOwnedTupleGo_zip (s := { s with heap := h', toks := tk }) z' fun h'' z'' sb => ?_⟩
    have hT2 : h''.get? s.heap.objs.size = some { cls := .type "tuple", data := .seq #[w1, w2] } := (sb.2 _ (Nat.ne_of_gt hzl)).trans hT
    have new : ObjOk X.prog X.w (upd H s.heap.objs.size (.tup [x, y])) h'' s.heap.objs.size (.tup [x, y]) :=
      ⟨by show 2 ≤ sizeLine; decide, [w1, w2], .cons ru (.cons ru2 .nil), ⟨_, hT2, rfl, _, rfl⟩⟩
    have I1 : Inv X pins σ (upd H s.heap.objs.size (.tup [x, y])) { s with heap := h'', toks := tk } :=
      I.turnedNew (ch := [z, TI, TO, i1, i2]) (fun c o hb q => (sb.2 c (fun q' => hb (by simp [q']))).trans (hk c o (fun q' => hb (by simp [q'])) (fun q' => hb (by simp [q'])) (fun q' => hb (by simp [q'])) (fun q' => hb (by simp [q'])) q)) hf (Nat.le_refl _) new
    refine ⟨.ref s.heap.objs.size, _, I1, rfl, ⟨_, x, y, rfl, I.hok.fresh (Nat.le_refl _), rfl, fun l hl => by rw [I.list_inj hl hqx]; exact hx, fun l hl => by rw [I.tuple_inj hl hqy]; exact hy⟩, ⟨z'', ?_, ⟨w1, w2, ?_⟩, ?_, ?_⟩, fun c hcm => ?_⟩
    · exact (sb.2 _ D.TIz).trans (hk _ _ D.TIz D.TITO D.TIi1 D.TIi2 hTI)
    · exact (sb.2 _ D.TOz).trans TO'
    · exact st1'.1.at fun o q => (sb.2 _ D.i1z).trans q
    · exact st2'.1.at fun o q => (sb.2 _ D.i2z).trans q
    · have hlt : c < s.heap.objs.size := by
        have e' : c = z ∨ c = TI ∨ c = TO ∨ c = i1 ∨ c = i2 := by simpa using hcm
        rcases e' with q | q | q | q | q
        · rw [q]; exact hzl
        · rw [q]; exact Heap.lt_size hTI
        · rw [q]; exact Heap.lt_size hTO
        · rw [q]; obtain ⟨_, e1, _⟩ := h1; exact Heap.lt_size e1
        · rw [q]; obtain ⟨_, e1, _⟩ := h2; exact Heap.lt_size e1
      rw [upd_ne (Nat.ne_of_lt hlt)]
      exact (hf c hcm).1
  done := by
    intro X hP hw hK hc i pins s σ H E I hf st hg
    subst hP hw hK
    obtain ⟨hz, hTI, ⟨x0, y0, hTO⟩, h1, h2⟩ := st
    obtain ⟨xs, ys, hqx, hqy, he1, he2⟩ := hg
    obtain ⟨its, rv, p, _⟩ := I.list hqx
    obtain ⟨its2, rv2, p2, _⟩ := I.tuple hqy
    have l1 := rv.length
    have l2 := rv2.length
    have hA : X.A.in1.handled = none := I.ok.hd hc
    have S : ZipSep2 z TI TO i1 i2 [i1, a] [i2, b] := ⟨D.TIz, D.TOz, D.TITO, D.TIi1, by simp, by simp [D.i1z.symm, D.l1z.symm], by simp [D.TOi1, D.l1TO.symm], D.TIi2, by simp, by simp [D.i2z.symm, D.l2z.symm], by simp [D.TOi2, D.l2TO.symm], by simp [D.i12, D.l2i1.symm], by simp [D.i12.symm, D.l1i2.symm]⟩
    refine wpAny_pyNext_zipD2_end S (Draws.list hA i1 a D.l1i1 its.toArray) (Draws.tuple hA i2 b D.l2i2 its2.toArray) hz hTI hTO ⟨h1, p.isList⟩ ⟨h2, p2⟩ (by rw [List.size_toArray]; omega) (by rw [List.size_toArray]; omega) (.inl (by rw [List.size_toArray]; omega)) fun h' tk hk => ⟨rfl, I.turnedL (t' := tk) (ch := [z, TI, TO, i1, i2]) (fun c o hb q =>
      hk c o (fun q' => hb (by simp [q'])) (fun q' => hb (by simp [q'])) (fun q' => hb (by simp [q'])) (fun q' => hb (by simp [q'])) q) hf⟩
  self := fun A i s Q E st h => wpAny_pyIter_zip st.1 h
def iZipLT (K : PySem.W.Frag) (ta : TA) : TI := fun σ H R => ta σ H fun vs H1 => ∃ a b xs ys, vs = [.ref a, .ref b] ∧ SqL K H1 a xs ∧ SqT K H1 b ys ∧ R (ItzLT K a b) H1
theorem xi_zipLT {X : Cx} {K : PySem.W.Frag} {e e2 : Expr} {ta : TA} {p pos tpos : Pos} {elts : List Expr} {kk : Nat} (hg : Gl X "zip") (hm : X.mg "zip" = none) (ha : PA X [e, e2] ta)
    (hs : starEach [e, e2] X.env = (false, eval e X.env) :: starEach [e2] X.env := by rfl) (hpl : (backTo pos (starEach [e2] X.env)).any (·.1) = false := by rfl) (hK : X.K = K := by rfl) :
    PI X (.Tuple elts kk tpos) (.Call (.Name "zip" p) [e, e2] [] pos) (iZipLT K ta) := by
  subst hK
  refine ⟨fun pins s σ H R I h => ?_⟩
  refine Call_ (ld_blt I hg hm PyProof.Rows.boot_zip (PyProof.Rows.callWith_type1 (thn (ha.run pos pins s σ H _ I h) fun us s1 ⟨vs, H1, I1, r1, q1⟩ => ?_) hs hpl))
  obtain ⟨a, b, xs, ys, ex, hqx, hqy, q⟩ := q1
  subst ex
  cases r1 with
  | cons r rr =>
    cases rr with
    | cons r' rr =>
      cases rr
      cases r
      cases r'
      have fresh5 : ∀ c, c ∈ [s1.heap.objs.size + 4, s1.heap.objs.size + 2, s1.heap.objs.size + 3, s1.heap.objs.size, s1.heap.objs.size + 1] → FpOk X pins H1 c := fun c hcm => by
        have e' : c = s1.heap.objs.size + 4 ∨ c = s1.heap.objs.size + 2 ∨ c = s1.heap.objs.size + 3 ∨ c = s1.heap.objs.size ∨ c = s1.heap.objs.size + 1 := by simpa using hcm
        have hle : s1.heap.objs.size ≤ c := by
          rcases e' with z | z | z | z | z
          · rw [z]; exact Nat.le_add_right _ _
          · rw [z]; exact Nat.le_add_right _ _
          · rw [z]; exact Nat.le_add_right _ _
          · rw [z]; exact Nat.le_refl _
          · rw [z]; exact Nat.le_add_right _ _
        exact I1.fpOk hle (I1.hok.fresh hle)
      obtain ⟨its, rv, p1, _⟩ := I1.list hqx
      obtain ⟨its2, rv2, p2, _⟩ := I1.tuple hqy
      obtain ⟨o2, ho2, _⟩ := id p2
      refine zip_begins2 (begins_list a its.toArray) (begins_tuple b its2.toArray) p1.isList p2 fun h' hz hTI hTO h1 h2 hsz hk => wpAny_pyIter_zip hz ?_
      have I2 : Inv X pins σ H1 { s1 with heap := h' } := I1.kept (t' := s1.toks) hk
      exact ⟨s1.heap.objs.size + 4, [s1.heap.objs.size + 4, s1.heap.objs.size + 2, s1.heap.objs.size + 3, s1.heap.objs.size, s1.heap.objs.size + 1], _, _, H1, rfl, I2, turn_zipLT (PySem.W.ktu_apart s1.heap.objs.size a b p1.lt (Heap.lt_size ho2)), ⟨hz, hTI, ⟨_, _, hTO⟩, ⟨_, h1, rfl, rfl⟩, ⟨_, h2, rfl, rfl⟩⟩, fresh5, q⟩
end Am
/-! What the rules do to data. -/
namespace Am
open PySem PySem.Spec PyProof.Rows L2

section
variable {K : PySem.W.Frag} {ρ : Ro} {ta tb te tc : TE} {t : TA} {x y z d : D} {r : R2}
theorem RcD.of {r : List V → Hp → VK → Prop} {xs : List D} (h : ∀ (G H : Hp) (us : List V), Same G H → Reps K G us xs → ∀ Q : VK, (∀ w, Rep K G w z → Q w H) → r us H Q) : RcD K r xs z := fun G H us s ru Q q => h G H us s ru Q fun w rw => q w G H (Go.refl s) rw
theorem sqL_of {G H : Hp} {a : Addr} {xs : List V} (s : Same G H) (e : G a = some (.lst xs)) : SqL K H a xs := .inl (.inl (s _ _ e))
theorem sqT_of {G H : Hp} {a : Addr} {xs : List V} (s : Same G H) (e : G a = some (.tup xs)) : SqT K H a xs := .inl (.inl (s _ _ e))
theorem sqTF_of {G H : Hp} {a : Addr} {o : Obj} {xs : List V} (s : Same G H) (e : G a = some (.frz o (.tup xs))) : SqT K H a xs := .inl (.inr ⟨o, s _ _ e⟩)
theorem one_rep {G : Hp} {us : List V} (h : Reps K G us [x]) : ∃ u, us = [u] ∧ Rep K G u x := by
  cases h with
  | cons r t => cases t; exact ⟨_, rfl, r⟩
theorem two_rep {G : Hp} {us : List V} (h : Reps K G us [x, y]) : ∃ u v, us = [u, v] ∧ Rep K G u x ∧ Rep K G v y := by
  cases h with
  | cons r t => cases t with
    | cons r2 t => cases t; exact ⟨_, _, rfl, r, r2⟩
theorem rc_lenL {ds : List D} : RcD K (rLenA K) [.lst ds] (.int (ds.length : Nat)) := .of fun G H us s ru Q q => by
  obtain ⟨u, rfl, r⟩ := one_rep ru
  cases r with
  | lst e rr => exact ⟨_, _, rfl, .inl (sqL_of s e), by rw [rr.length]; exact q _ (.int _)⟩
theorem rc_lenT {ds : List D} : RcD K (rLenA K) [.tup ds] (.int (ds.length : Nat)) := .of fun G H us s ru Q q => by
  obtain ⟨u, rfl, r⟩ := one_rep ru
  cases r with
  | tup e rr => exact ⟨_, _, rfl, .inr (sqT_of s e), by rw [rr.length]; exact q _ (.int _)⟩
theorem rc_lenF {ds : List D} : RcD K (rLenA K) [.tupF ds] (.int (ds.length : Nat)) := .of fun G H us s ru Q q => by
  obtain ⟨u, rfl, r⟩ := one_rep ru
  cases r with
  | tupF e hd rr => exact ⟨_, _, rfl, .inr (sqTF_of s e), by rw [rr.length]; exact q _ (.int _)⟩
theorem rc_lenZ {a : Str} (h : a.length ≤ sizeLine) : RcD K rLenZ [.str a] (.int (a.length : Nat)) := .of fun G H us s ru Q q => by
  obtain ⟨u, rfl, r⟩ := one_rep ru
  cases r
  exact ⟨_, rfl, h, q _ (.int _)⟩
theorem rc_sum {ns : List Int} : RcD K (rSum K) [.lst (ns.map D.int)] (.int ns.sum) := .of fun G H us s ru Q q => by
  obtain ⟨u, rfl, r⟩ := one_rep ru
  cases r with
  | lst e rr =>
    have e2 := reps_int rr
    subst e2
    exact ⟨_, ns, rfl, sqL_of s e, q _ (.int _)⟩
theorem rc_all {bs : List Bool} : RcD K (rAll K) [.lst (bs.map D.bl)] (.bl (bs.all id)) := .of fun G H us s ru Q q => by
  obtain ⟨u, rfl, r⟩ := one_rep ru
  cases r with
  | lst e rr =>
    have e2 := reps_bl rr
    subst e2
    exact ⟨_, bs, rfl, sqL_of s e, q _ (.bl _)⟩
theorem rc_min {ns : List Int} {m : Int} (h0 : 0 < ns.length) (h : ∀ k, k ∈ ns → (∀ y, y ∈ ns → k ≤ y) → k = m) : RcD K (rMin K) [.lst (ns.map D.int)] (.int m) := .of fun G H us s ru Q q => by
  obtain ⟨u, rfl, r⟩ := one_rep ru
  cases r with
  | lst e rr =>
    have e2 := reps_int rr
    subst e2
    exact ⟨_, ns, rfl, sqL_of s e, h0, fun k hk hle => by rw [h k hk hle]; exact q _ (.int _)⟩
theorem rc_max {ns : List Int} {m : Int} (h0 : 0 < ns.length) (h : ∀ k, k ∈ ns → (∀ y, y ∈ ns → y ≤ k) → k = m) : RcD K (rMax K) [.lst (ns.map D.int)] (.int m) := .of fun G H us s ru Q q => by
  obtain ⟨u, rfl, r⟩ := one_rep ru
  cases r with
  | lst e rr =>
    have e2 := reps_int rr
    subst e2
    exact ⟨_, ns, rfl, sqL_of s e, h0, fun k hk hle => by rw [h k hk hle]; exact q _ (.int _)⟩
theorem rc_min2 {i j : Int} : RcD K rMin2 [.int i, .int j] (.int (if j < i then j else i)) := .of fun G H us s ru Q q => by
  obtain ⟨u, v, rfl, r, r2⟩ := two_rep ru
  cases r; cases r2
  exact ⟨i, j, rfl, q _ (.int _)⟩
theorem rc_max2 {i j : Int} : RcD K rMax2 [.int i, .int j] (.int (if j > i then j else i)) := .of fun G H us s ru Q q => by
  obtain ⟨u, v, rfl, r, r2⟩ := two_rep ru
  cases r; cases r2
  exact ⟨i, j, rfl, q _ (.int _)⟩
theorem rc_tuple {ds : List D} : RcD K (rTupA K) [.lst ds] (.tup ds) := fun G H us s ru Q q => by
  obtain ⟨u, rfl, r⟩ := one_rep ru
  cases r with
  | lst e rr => exact ⟨_, _, rfl, .inl ⟨sqL_of s e, fun l hl => q _ _ _ (Go.alloc s hl) (.tup upd_same (rr.mono (same_new (free_sub s hl))))⟩⟩
theorem rc_list {ds : List D} : RcD K (rListA K) [.lst ds] (.lst ds) := fun G H us s ru Q q => by
  obtain ⟨u, rfl, r⟩ := one_rep ru
  cases r with
  | lst e rr => exact ⟨_, _, rfl, .inl (sqL_of s e), fun l hl => q _ _ _ (Go.alloc s hl) (.lst upd_same (rr.mono (same_new (free_sub s hl))))⟩
theorem rc_listF {ds : List D} : RcD K (rListA K) [.lstF ds] (.lst ds) := fun G H us s ru Q q => by
  obtain ⟨u, rfl, r⟩ := one_rep ru
  cases r with
  | lstF e rr => exact ⟨_, _, rfl, .inl (sql_mono s e), fun l hl => q _ _ _ (Go.alloc s hl) (.lst upd_same (rr.mono (same_new (free_sub s hl))))⟩
theorem rc_listT {ds : List D} : RcD K (rListA K) [.tup ds] (.lst ds) := fun G H us s ru Q q => by
  obtain ⟨u, rfl, r⟩ := one_rep ru
  cases r with
  | tup e rr => exact ⟨_, _, rfl, .inr (sqT_of s e), fun l hl => q _ _ _ (Go.alloc s hl) (.lst upd_same (rr.mono (same_new (free_sub s hl))))⟩
theorem rc_int {i : Int} : RcD K rInt1 [.int i] (.int i) := .of fun G H us s ru Q q => by
  obtain ⟨u, rfl, r⟩ := one_rep ru
  cases r
  exact .inl ⟨i, rfl, q _ (.int _)⟩
theorem rc_intZ {a : Str} {n : Int} (h : PySem.intText? a = some n) (hl : a.length ≤ 640) : RcD K rIntZ [.str a] (.int n) := .of fun G H us s ru Q q => by
  obtain ⟨u, rfl, r⟩ := one_rep ru
  cases r
  exact ⟨a, n, rfl, h, hl, q _ (.int _)⟩
theorem rc_strI {i : Int} (h : i.natAbs.log2 < 1920) : RcD K rStrI [.int i] (.str (toString i)) := .of fun G H us s ru Q q => by
  obtain ⟨u, rfl, r⟩ := one_rep ru
  cases r
  exact ⟨i, rfl, h, q _ (.str _)⟩
theorem rv_isN : RvD K rIsN1 x .non (.bl (isNon x)) := .of fun G H u v s ru rv Q q => by
  cases rv
  exact ⟨rfl, by rw [isNon_rep ru]; exact q _ (.bl _)⟩
theorem rv_notN : RvD K rNotN1 x .non (.bl (!isNon x)) := .of fun G H u v s ru rv Q q => by
  cases rv
  exact ⟨rfl, by rw [isNon_rep ru]; exact q _ (.bl _)⟩
theorem rv_addZ {a b : Str} (h : a.length + b.length ≤ sizeLine) : RvD K rAddZ (.str a) (.str b) (.str (a ++ b)) := .of fun G H u v s ru rv Q q => by
  cases ru; cases rv
  exact ⟨a, b, rfl, rfl, h, q _ (.str _)⟩
theorem rv_inZ {c : Nat} {b : Str} : RvD K rInZ (.str ⟨#[c]⟩) (.str b) (.bl (decide (c ∈ b.cps.toList))) := .of fun G H u v s ru rv Q q => by
  cases ru; cases rv
  exact ⟨c, b, rfl, rfl, q _ (.bl _)⟩
theorem rv_notInZ {c : Nat} {b : Str} : RvD K rNotInZ (.str ⟨#[c]⟩) (.str b) (.bl (!decide (c ∈ b.cps.toList))) := .of fun G H u v s ru rv Q q => by
  cases ru; cases rv
  exact ⟨c, b, rfl, rfl, q _ (.bl _)⟩
theorem rv_ixS {a : Str} {i : Int} {c : Nat} (h : a.length ≤ sizeLine) (hc : atI a.cps.toList i = some c) : RvD K rIxS (.str a) (.int i) (.str ⟨#[c]⟩) := .of fun G H u v s ru rv Q q => by
  cases ru; cases rv
  exact ⟨a, i, c, rfl, rfl, h, hc, q _ (.str _)⟩
theorem rv_ixF {ds : List D} {i : Int} (h : atI ds i = some z) : RvD K (rIxT K) (.tupF ds) (.int i) z := .of fun G H u v s ru rv Q q => by
  cases rv
  cases ru with
  | tupF e hd r =>
    rename_i a o xs
    obtain ⟨j, hj, h2⟩ : ∃ j, ixN ds.length i = some j ∧ ds[j]? = some z := by
      unfold atI at h
      cases q : ixN ds.length i with
      | none => rw [q] at h; cases h
      | some j => rw [q] at h; exact ⟨j, rfl, h⟩
    obtain ⟨w, h3, h4⟩ := r.get h2
    refine ⟨a, xs, i, w, rfl, rfl, sqTF_of s e, ?_, q w h4⟩
    unfold atI
    rw [r.length, hj]
    exact h3
/-! in a list or tuple of texts -/
theorem inV_str (a : Str) : ∀ ss : List Str, inV (.str a) (ss.map V.str) = decide (a ∈ ss)
  | [] => rfl
  | s :: ss => by
    have ih := inV_str a ss
    unfold inV at ih ⊢
    rw [List.map_cons, List.any_cons, ih]
    have e : eqV (.str s) (.str a) = decide (a = s) := by
      show (s == a) = decide (a = s)
      by_cases h : s = a
      · subst h; simp
      · rw [beq_eq_false_iff_ne.mpr h, decide_eq_false (fun q => h q.symm)]
    rw [e]
    by_cases h : a = s <;> by_cases h2 : a ∈ ss <;> simp [h, h2]
theorem flat_str (ss : List Str) : (ss.map V.str).all flatV = true := by
  rw [List.all_map]
  exact List.all_eq_true.mpr fun _ _ => rfl
theorem rv_inT {a : Str} {ss : List Str} : RvD K (rIn K false) (.str a) (.tup (ss.map D.str)) (.bl (decide (a ∈ ss))) := .of fun G H u v s ru rv Q q => by
  cases ru
  cases rv with
  | tup e r =>
    have e2 := reps_str r
    subst e2
    refine ⟨_, _, rfl, .inr (sqT_of s e), rfl, flat_str ss, ?_⟩
    show Q (.bl (inV _ _)) H
    rw [inV_str]
    exact q _ (.bl _)
theorem rv_inF {a : Str} {ss : List Str} : RvD K (rIn K false) (.str a) (.tupF (ss.map D.str)) (.bl (decide (a ∈ ss))) := .of fun G H u v s ru rv Q q => by
  cases ru
  cases rv with
  | tupF e hd r =>
    have e2 := reps_str r
    subst e2
    refine ⟨_, _, rfl, .inr (sqTF_of s e), rfl, flat_str ss, ?_⟩
    show Q (.bl (inV _ _)) H
    rw [inV_str]
    exact q _ (.bl _)
theorem rv_inL {a : Str} {ss : List Str} : RvD K (rIn K false) (.str a) (.lst (ss.map D.str)) (.bl (decide (a ∈ ss))) := .of fun G H u v s ru rv Q q => by
  cases ru
  cases rv with
  | lst e r =>
    have e2 := reps_str r
    subst e2
    refine ⟨_, _, rfl, .inl (sqL_of s e), rfl, flat_str ss, ?_⟩
    show Q (.bl (inV _ _)) H
    rw [inV_str]
    exact q _ (.bl _)
theorem rv_notInT {a : Str} {ss : List Str} : RvD K (rIn K true) (.str a) (.tup (ss.map D.str)) (.bl (!decide (a ∈ ss))) := .of fun G H u v s ru rv Q q => by
  cases ru
  cases rv with
  | tup e r =>
    have e2 := reps_str r
    subst e2
    refine ⟨_, _, rfl, .inr (sqT_of s e), rfl, flat_str ss, ?_⟩
    show Q (.bl (!inV _ _)) H
    rw [inV_str]
    exact q _ (.bl _)
theorem rv_notInF {a : Str} {ss : List Str} : RvD K (rIn K true) (.str a) (.tupF (ss.map D.str)) (.bl (!decide (a ∈ ss))) := .of fun G H u v s ru rv Q q => by
  cases ru
  cases rv with
  | tupF e hd r =>
    have e2 := reps_str r
    subst e2
    refine ⟨_, _, rfl, .inr (sqTF_of s e), rfl, flat_str ss, ?_⟩
    show Q (.bl (!inV _ _)) H
    rw [inV_str]
    exact q _ (.bl _)
theorem rv_notInL {a : Str} {ss : List Str} : RvD K (rIn K true) (.str a) (.lst (ss.map D.str)) (.bl (!decide (a ∈ ss))) := .of fun G H u v s ru rv Q q => by
  cases ru
  cases rv with
  | lst e r =>
    have e2 := reps_str r
    subst e2
    refine ⟨_, _, rfl, .inl (sqL_of s e), rfl, flat_str ss, ?_⟩
    show Q (.bl (!inV _ _)) H
    rw [inV_str]
    exact q _ (.bl _)
/-! nested data compared -/
mutual
def ofP : PyData → D
  | .none => .non
  | .bool b => .bl b
  | .int i => .int i
  | .str s => .str s
  | .list ds => .lst (ofPs ds)
  | .tuple ds => .tup (ofPs ds)
  | .dict _ => .loc 0
def ofPs : List PyData → List D
  | [] => []
  | d :: ds => ofP d :: ofPs ds
end
mutual
def plP : PyData → Bool
  | .list ds => plPs ds
  | .tuple ds => plPs ds
  | .dict _ => false
  | _ => true
def plPs : List PyData → Bool
  | [] => true
  | d :: ds => plP d && plPs ds
end
mutual
theorem dp_of {G H : Hp} (s : Same G H) : ∀ (p : PyData) (v : V), plP p = true → Rep K G v (ofP p) → Dp K H v p
  | .none, _, _, .non => .non
  | .bool b, _, _, .bl _ => .bl b
  | .int i, _, _, .int _ => .int i
  | .str x, _, _, .str _ => .str x
  | .list ds, _, h, .lst e r => .lst (sqL_of s e) (dps_of s ds _ h r)
  | .tuple ds, _, h, .tup e r => .tup (sqT_of s e) (dps_of s ds _ h r)
  | .dict _, _, h, _ => nomatch h
theorem dps_of {G H : Hp} (s : Same G H) : ∀ (ps : List PyData) (vs : List V), plPs ps = true → Reps K G vs (ofPs ps) → DpAll K H vs ps
  | [], _, _, .nil => .nil
  | p :: ps, _, h, .cons r rr => by
    have h2 : (plP p && plPs ps) = true := h
    rw [Bool.and_eq_true] at h2
    exact .cons (dp_of s p _ h2.1 r) (dps_of s ps _ h2.2 rr)
end
theorem rv_eqD {a b : PyData} (pa : plP a = true) (pb : plP b = true) (sa : SeqAt.shaped a = true) (sb : SeqAt.shaped b = true) : RvD K (rEqD K) (ofP a) (ofP b) (.bl (PyData.eqv a b)) := .of fun G H u v s ru rv Q q =>
  ⟨a, b, dp_of s a u pa ru, dp_of s b v pb rv, sa, sb, q _ (.bl _)⟩
theorem rv_neD {a b : PyData} (pa : plP a = true) (pb : plP b = true) (sa : SeqAt.shaped a = true) (sb : SeqAt.shaped b = true) : RvD K (rNeD K) (ofP a) (ofP b) (.bl (!PyData.eqv a b)) := .of fun G H u v s ru rv Q q =>
  ⟨a, b, dp_of s a u pa ru, dp_of s b v pb rv, sa, sb, q _ (.bl _)⟩
theorem rv_eqP {a b : PyData} (pa : plP a = true) (pb : plP b = true) (sa : a.plain = true) (sb : b.plain = true) (da : a.depth ≤ 60) : RvD K (rEqP K) (ofP a) (ofP b) (.bl (PyData.eqv a b)) := .of fun G H u v s ru rv Q q =>
  ⟨a, b, dp_of s a u pa ru, dp_of s b v pb rv, sa, sb, da, q _ (.bl _)⟩
theorem rv_neP {a b : PyData} (pa : plP a = true) (pb : plP b = true) (sa : a.plain = true) (sb : b.plain = true) (da : a.depth ≤ 60) : RvD K (rNeP K) (ofP a) (ofP b) (.bl (!PyData.eqv a b)) := .of fun G H u v s ru rv Q q =>
  ⟨a, b, dp_of s a u pa ru, dp_of s b v pb rv, sa, sb, da, q _ (.bl _)⟩
theorem rv_notInP {a : PyData} {bs : List PyData} (pa : plP a = true) (pb : plPs bs = true) (sa : a.plain = true) (sb : PyData.plainAll bs = true) (da : a.depth ≤ 60) : RvD K (rNotInP K) (ofP a) (.lst (ofPs bs)) (.bl (!bs.any fun z => PyData.eqv z a)) := .of fun G H u v s ru rv Q q =>
  ⟨a, bs, dp_of s a u pa ru, dp_of s (.list bs) v pb rv, sa, sb, da, q _ (.bl _)⟩
/-! methods, displays that stand for ever -/
theorem ed_tupIx {ss : List Str} {a : Str} (ho : EvD K te ρ (.tupF (ss.map D.str))) (ha : EdA K t ρ [.str a]) (hm : a ∈ ss) : EvD K (tTupIx te t) ρ (.int (ss.idxOf a : Nat)) := fun G H σ s l Q q => ho G H σ s l _ fun v G1 H1 g1 r1 => by
  cases r1 with
  | tupF e hd r =>
    rename_i p ob xs
    have e2 := reps_str r
    subst e2
    refine ⟨p, ob, ss, rfl, g1.sub _ _ e, hd, ha G1 H1 σ g1.sub (l.mono g1.g) _ fun vs G2 H2 g2 r2 => ?_⟩
    obtain ⟨u, rfl, r3⟩ := one_rep r2
    cases r3
    have hi := List.idxOf_lt_length_iff.mpr hm
    refine ⟨a, ss.idxOf a, rfl, g2.sub _ _ (g2.g _ _ e), ?_, fun m hm' => ?_, q _ _ _ (g1.trans g2) (.int _)⟩
    · rw [List.getElem?_eq_getElem hi, List.getElem_idxOf hi]
    · intro h
      have := List.not_of_lt_findIdx (p := (· == a)) (xs := ss) (i := m) (by simpa [List.idxOf] using hm')
      have hl : m < ss.length := Nat.lt_trans hm' hi
      rw [List.getElem?_eq_getElem hl] at h
      have h := Option.some.inj h
      simp [h] at this
theorem ed_tupF {ds : List D} (ha : EdA K t ρ ds) (hl : ds.length ≤ 100000) : EvD K (tTupF t) ρ (.tupF ds) := fun G H σ s l Q q =>
  ha G H σ s l _ fun vs G1 H1 g1 r1 => ⟨by rw [r1.length]; exact Nat.le_trans hl (by decide), fun p ob hp hd => q _ _ _ (g1.trans (Go.alloc g1.sub hp)) (.tupF upd_same hd (r1.mono (same_new (free_sub g1.sub hp))))⟩
theorem reps_nil {G : Hp} {vs : List V} {ds : List D} (r : Reps K G vs ds) : vs = [] ↔ ds = [] := by
  cases r with
  | nil => simp
  | cons _ _ => simp
theorem rv_catF {ds es : List D} (h : ds.length + es.length ≤ 100000) : RvD K (rCatF K) (.tupF ds) (.tupF es) (.tupF (ds ++ es)) := fun G H u v s ru rv Q q => by
  cases ru with
  | tupF e1 k1 r1 =>
    cases rv with
    | tupF e2 k2 r2 =>
      refine ⟨_, _, _, _, rfl, rfl, sqTF_of s e1, sqTF_of s e2, by rw [r1.length, r2.length]; exact Nat.le_trans h (by decide), fun hn => ?_, fun _ hn => ?_, fun _ _ p ob hp hd => ?_⟩
      · have := (reps_nil r1).mp hn
        subst this
        exact q _ G H (Go.refl s) (.tupF e2 k2 r2)
      · have := (reps_nil r2).mp hn
        subst this
        rw [List.append_nil] at q
        exact q _ G H (Go.refl s) (.tupF e1 k1 r1)
      · exact q _ _ _ (Go.alloc s hp) (.tupF upd_same hd ((r1.append r2).mono (same_new (free_sub s hp))))
theorem rv_catA {ds es : List D} (h : ds.length + es.length ≤ 100000) : RvD K (rCatA K) (.tup ds) (.tup es) (.tup (ds ++ es)) := fun G H u v s ru rv Q q => by
  cases ru with
  | tup e1 r1 =>
    cases rv with
    | tup e2 r2 =>
      refine ⟨_, _, _, _, rfl, rfl, sqT_of s e1, sqT_of s e2, by rw [r1.length, r2.length]; exact Nat.le_trans h (by decide), fun hn => ?_, fun _ hn => ?_, fun _ _ p hp => ?_⟩
      · have := (reps_nil r1).mp hn
        subst this
        exact q _ G H (Go.refl s) (.tup e2 r2)
      · have := (reps_nil r2).mp hn
        subst this
        rw [List.append_nil] at q
        exact q _ G H (Go.refl s) (.tup e1 r1)
      · exact q _ _ _ (Go.alloc s hp) (.tup upd_same ((r1.append r2).mono (same_new (free_sub s hp))))
theorem rv_cat {ds es : List D} (h : ds.length + es.length ≤ 100000) : RvD K rCat (.lst ds) (.lst es) (.lst (ds ++ es)) := fun G H u v s ru rv Q q => by
  cases ru with
  | lst e1 r1 =>
    cases rv with
    | lst e2 r2 =>
      refine ⟨_, _, _, _, rfl, rfl, s _ _ e1, s _ _ e2, by rw [r1.length, r2.length]; exact Nat.le_trans h (by decide), fun p hp => ?_⟩
      exact q _ _ _ (Go.alloc s hp) (.lst upd_same ((r1.append r2).mono (same_new (free_sub s hp))))
/-! isinstance -/
def tyD : D → Option String
  | .non => some "NoneType"
  | .bl _ => some "bool"
  | .int _ => some "int"
  | .str _ => some "str"
  | .lst _ => some "list"
  | .tup _ => some "tuple"
  | .tupF _ => some "tuple"
  | _ => none
theorem rc_isi {x : D} {T n : String} {b : Bool} (hx : tyD x = some T) (hk : PySem.W.kitOne K (.type T) (.type n) = some b) {us : List V} {G H : Hp} (s : Same G H) {u : V} (ru : Rep K G u x) {Q : VK} (q : Q (.bl b) H) : rIsi K [u, .ty n] H Q := by
  refine ⟨u, .ty n, .type T, .type n, b, rfl, .ty n, ?_, hk, q⟩
  cases ru <;> simp only [tyD, Option.some.injEq, reduceCtorEq] at hx <;> subst hx
  · exact .base .non
  · exact .base (.bl _)
  · exact .base (.int _)
  · exact .base (.str _)
  · rename_i e _; exact .base (.lst (s _ _ e))
  · rename_i e _; exact .base (.tup (s _ _ e))
  · rename_i e _ _; exact .fTuple (s _ _ e)
theorem ed_isi {n T : String} {b : Bool} (h : EvD K te ρ x) (hx : tyD x = some T) (hk : PySem.W.kitOne K (.type T) (.type n) = some b) : EvD K (tCB (rIsi K) (tCons te (tCons (tC (.ty n)) tNil))) ρ (.bl b) := fun G H σ s l Q q => h G H σ s l _ fun u G1 H1 g1 r1 =>
  rc_isi (us := []) hx hk g1.sub r1 (q _ _ _ g1 (.bl b))
/-! walks -/
theorem it_listF {ds : List D} (h : EvD K te ρ (.lstF ds)) : ItE K (iList K te) ρ ds := fun G H σ s l R q => h G H σ s l _ fun v G1 H1 g1 r1 => by
  cases r1 with
  | lstF h1 r1 =>
    rename_i a xs
    refine ⟨a, rfl, ⟨xs, sql_mono g1.sub h1⟩, q _ G1 H1 g1 fun G2 H2 e1 e2 => ?_⟩
    have hq : SqL K H2 a xs := sql_mono e2 (sql_mono e1 h1)
    refine ⟨fun i hi => ⟨xs, xs[i]'(by rw [r1.length]; exact hi), hq, by simp [r1.length, hi]⟩, ⟨xs, hq, by rw [r1.length]; exact Nat.le_refl _⟩, fun i x H3 hi y => ?_⟩
    obtain ⟨rfl, y⟩ := y
    have y := y xs hq
    obtain ⟨d, h3, h4⟩ := r1.get' y
    exact ⟨G2, d, h3, Go.refl e2, h4.mono e1⟩
theorem it_tupF {ds : List D} (h : EvD K te ρ (.tupF ds)) : ItE K (iTup K te) ρ ds := fun G H σ s l R q => h G H σ s l _ fun v G1 H1 g1 r1 => by
  cases r1 with
  | tupF h1 hd r1 =>
    rename_i a o xs
    refine ⟨a, rfl, ⟨xs, sqTF_of g1.sub h1⟩, q _ G1 H1 g1 fun G2 H2 e1 e2 => ?_⟩
    have hq : SqT K H2 a xs := sqTF_of e2 (e1 _ _ h1)
    refine ⟨fun i hi => ⟨xs, xs[i]'(by rw [r1.length]; exact hi), hq, by simp [r1.length, hi]⟩, ⟨xs, hq, by rw [r1.length]; exact Nat.le_refl _⟩, fun i x H3 hi y => ?_⟩
    obtain ⟨rfl, y⟩ := y
    have y := y xs hq
    obtain ⟨d, h3, h4⟩ := r1.get' y
    exact ⟨G2, d, h3, Go.refl e2, h4.mono e1⟩
def pairD (p : Nat × D) : D := .tup [.int (p.1 : Nat), p.2]
def pairI : Nat → List D → List D
  | _, [] => []
  | i, d :: ds => .tup [.int (i : Nat), d] :: pairI (i + 1) ds
theorem pairI_get : ∀ (ds : List D) (k i : Nat) (d : D), ds[i]? = some d → (pairI k ds)[i]? = some (.tup [.int ((k + i : Nat) : Int), d])
  | [], _, _, _, h => by simp at h
  | e :: ds, k, 0, d, h => by
    simp at h; subst h; rfl
  | e :: ds, k, i + 1, d, h => by
    have := pairI_get ds (k + 1) i d (by simpa using h)
    show (pairI (k + 1) ds)[i]? = _
    rw [this, show k + 1 + i = k + (i + 1) by omega]
theorem pairI_len : ∀ (ds : List D) (k : Nat), (pairI k ds).length = ds.length
  | [], _ => rfl
  | e :: ds, k => by
    show (pairI (k + 1) ds).length + 1 = _
    rw [pairI_len ds (k + 1)]
    rfl
theorem it_enumG {ds : List D} {xs : List V} {J : It} {G1 : Hp} {Sq : Hp → Prop} (rr : Reps K G1 xs ds) (hq : ∀ G2 H2, Same G1 G2 → Same G2 H2 → Sq H2)
    (hg : ∀ i H, Sq H → i < xs.length → J.go i H) (hs : ∀ H, Sq H → J.stop xs.length H) (hy : ∀ i H v H', Sq H → J.yld i H v H' → ∃ T x, v = .ref T ∧ H T = none ∧ H' = upd H T (.tup [.int (i : Nat), x]) ∧ xs[i]? = some x) : ItD K J G1 (pairI 0 ds) := fun G2 H2 e1 e2 => by
  have q := hq G2 H2 e1 e2
  rw [pairI_len, ← rr.length]
  refine ⟨fun i hi => hg i H2 q hi, hs H2 q, fun i x H3 hi y => ?_⟩
  obtain ⟨T, x', rfl, hT, rfl, hx⟩ := hy i H2 x H3 q y
  obtain ⟨d, h3, h4⟩ := rr.get' hx
  have ss := same_new (o := .tup [.int (i : Nat), x']) (free_sub e2 hT)
  refine ⟨_, _, by rw [pairI_get ds 0 i d h3, Nat.zero_add], Go.alloc e2 hT, .tup upd_same (.cons (.int _) (.cons ((h4.mono e1).mono ss) .nil))⟩
theorem it_enumL {ds : List D} (h : EdA K t ρ [.lst ds]) : ItE K (iEnum K t) ρ (pairI 0 ds) := fun G H σ s l R q => h G H σ s l _ fun vs G1 H1 g1 r1 => by
  obtain ⟨u, rfl, r⟩ := one_rep r1
  cases r with
  | lst e rr =>
    rename_i a xs
    refine ⟨a, xs, rfl, sqL_of g1.sub e, q _ G1 H1 g1 (it_enumG (Sq := fun H => SqL K H a xs) rr (fun G2 H2 e1 e2 => sqL_of e2 (e1 _ _ e)) (fun i H q hi => ⟨xs, xs[i], q, by simp [hi]⟩) (fun H q => ⟨xs, q, Nat.le_refl _⟩) fun i H v H' q y => ?_)⟩
    obtain ⟨T, x, h1, h2, h3, h4⟩ := y
    exact ⟨T, x, h1, h2, h3, h4 xs q⟩
theorem it_enumF {ds : List D} (h : EdA K t ρ [.tupF ds]) : ItE K (iEnumT K t) ρ (pairI 0 ds) := fun G H σ s l R q => h G H σ s l _ fun vs G1 H1 g1 r1 => by
  obtain ⟨u, rfl, r⟩ := one_rep r1
  cases r with
  | tupF e hd rr =>
    rename_i a o xs
    refine ⟨a, xs, rfl, sqTF_of g1.sub e, q _ G1 H1 g1 (it_enumG (Sq := fun H => SqT K H a xs) rr (fun G2 H2 e1 e2 => sqTF_of e2 (e1 _ _ e)) (fun i H q hi => ⟨xs, xs[i], q, by simp [hi]⟩) (fun H q => ⟨xs, q, Nat.le_refl _⟩) fun i H v H' q y => ?_)⟩
    obtain ⟨T, x, h1, h2, h3, h4⟩ := y
    exact ⟨T, x, h1, h2, h3, h4 xs q⟩
def zipD : List D → List D → List D
  | a :: as, b :: bs => .tup [a, b] :: zipD as bs
  | _, _ => []
theorem zipD_len : ∀ (as bs : List D), as.length = bs.length → (zipD as bs).length = as.length
  | [], [], _ => rfl
  | [], _ :: _, h => by simp at h
  | _ :: _, [], h => by simp at h
  | a :: as, b :: bs, h => by
    show (zipD as bs).length + 1 = as.length + 1
    rw [zipD_len as bs (by simpa using h)]
theorem zipD_get : ∀ (as bs : List D) (i : Nat) (a b : D), as[i]? = some a → bs[i]? = some b → (zipD as bs)[i]? = some (.tup [a, b])
  | [], _, _, _, _, h, _ => by simp at h
  | _ :: _, [], _, _, _, _, h => by simp at h
  | a :: as, b :: bs, 0, _, _, h1, h2 => by
    simp at h1 h2; subst h1 h2; rfl
  | a :: as, b :: bs, i + 1, x, y, h1, h2 => zipD_get as bs i x y (by simpa using h1) (by simpa using h2)
theorem it_zipG {as bs : List D} {xs ys : List V} {J : It} {G1 : Hp} {Sq : Hp → Prop} (hl : as.length = bs.length) (r1 : Reps K G1 xs as) (r2 : Reps K G1 ys bs) (hq : ∀ G2 H2, Same G1 G2 → Same G2 H2 → Sq H2)
    (hg : ∀ i H, Sq H → i < xs.length → J.go i H) (hs : ∀ H, Sq H → J.stop xs.length H) (hy : ∀ i H v H', Sq H → J.yld i H v H' → ∃ T x y, v = .ref T ∧ H T = none ∧ H' = upd H T (.tup [x, y]) ∧ xs[i]? = some x ∧ ys[i]? = some y) : ItD K J G1 (zipD as bs) := fun G2 H2 e1 e2 => by
  have q := hq G2 H2 e1 e2
  rw [zipD_len as bs hl, ← r1.length]
  refine ⟨fun i hi => hg i H2 q hi, hs H2 q, fun i x H3 hi y => ?_⟩
  obtain ⟨T, x', y', rfl, hT, rfl, hx, hy'⟩ := hy i H2 x H3 q y
  obtain ⟨d, h3, h4⟩ := r1.get' hx
  obtain ⟨d2, h5, h6⟩ := r2.get' hy'
  have ss := same_new (o := .tup [x', y']) (free_sub e2 hT)
  exact ⟨_, _, zipD_get as bs i d d2 h3 h5, Go.alloc e2 hT, .tup upd_same (.cons ((h4.mono e1).mono ss) (.cons ((h6.mono e1).mono ss) .nil))⟩
theorem it_zipT {as bs : List D} (h : EdA K t ρ [.tup as, .tup bs]) (hl : as.length = bs.length) : ItE K (RZ.iZipA K t) ρ (zipD as bs) := fun G H σ s l R q => h G H σ s l _ fun vs G1 H1 g1 r1 => by
  obtain ⟨u, v, rfl, ra, rb⟩ := two_rep r1
  cases ra with
  | tup e1 k1 =>
    cases rb with
    | tup e2 k2 =>
      rename_i a xs b ys
      have el : xs.length = ys.length := by rw [k1.length, k2.length, hl]
      refine ⟨a, b, xs, ys, rfl, .inr ⟨sqT_of g1.sub e1, sqT_of g1.sub e2, q _ G1 H1 g1 (it_zipG (Sq := fun H => SqT K H a xs ∧ SqT K H b ys) hl k1 k2 (fun G2 H2 f1 f2 => ⟨sqT_of f2 (f1 _ _ e1), sqT_of f2 (f1 _ _ e2)⟩) (fun i H q hi => ⟨xs, ys, xs[i], ys[i]'(by omega), q.1, q.2, by simp [hi], by simp [← el, hi]⟩) (fun H q => ⟨xs, ys, q.1, q.2, .inl (Nat.le_refl _)⟩) fun i H v H' q y => ?_)⟩⟩
      obtain ⟨T, x, y, h1, h2, h3, h4, h5⟩ := y
      exact ⟨T, x, y, h1, h2, h3, h4 xs q.1, h5 ys q.2⟩
theorem it_zipL {as bs : List D} (h : EdA K t ρ [.lst as, .lst bs]) (hl : as.length = bs.length) : ItE K (RZ.iZipA K t) ρ (zipD as bs) := fun G H σ s l R q => h G H σ s l _ fun vs G1 H1 g1 r1 => by
  obtain ⟨u, v, rfl, ra, rb⟩ := two_rep r1
  cases ra with
  | lst e1 k1 =>
    cases rb with
    | lst e2 k2 =>
      rename_i a xs b ys
      have el : xs.length = ys.length := by rw [k1.length, k2.length, hl]
      refine ⟨a, b, xs, ys, rfl, .inl ⟨sqL_of g1.sub e1, sqL_of g1.sub e2, q _ G1 H1 g1 (it_zipG (Sq := fun H => SqL K H a xs ∧ SqL K H b ys) hl k1 k2 (fun G2 H2 f1 f2 => ⟨sqL_of f2 (f1 _ _ e1), sqL_of f2 (f1 _ _ e2)⟩) (fun i H q hi => ⟨xs, ys, xs[i], ys[i]'(by omega), q.1, q.2, by simp [hi], by simp [← el, hi]⟩) (fun H q => ⟨xs, ys, q.1, q.2, .inl (Nat.le_refl _)⟩) fun i H v H' q y => ?_)⟩⟩
      obtain ⟨T, x, y, h1, h2, h3, h4, h5⟩ := y
      exact ⟨T, x, y, h1, h2, h3, h4 xs q.1, h5 ys q.2⟩
theorem it_zipLT {as bs : List D} (h : EdA K t ρ [.lst as, .tup bs]) (hl : as.length = bs.length) : ItE K (iZipLT K t) ρ (zipD as bs) := fun G H σ s l R q => h G H σ s l _ fun vs G1 H1 g1 r1 => by
  obtain ⟨u, v, rfl, ra, rb⟩ := two_rep r1
  cases ra with
  | lst e1 k1 =>
    cases rb with
    | tup e2 k2 =>
      rename_i a xs b ys
      have el : xs.length = ys.length := by rw [k1.length, k2.length, hl]
      refine ⟨a, b, xs, ys, rfl, sqL_of g1.sub e1, sqT_of g1.sub e2, q _ G1 H1 g1 (it_zipG (Sq := fun H => SqL K H a xs ∧ SqT K H b ys) hl k1 k2 (fun G2 H2 f1 f2 => ⟨sqL_of f2 (f1 _ _ e1), sqT_of f2 (f1 _ _ e2)⟩) (fun i H q hi => ⟨xs, ys, xs[i], ys[i]'(by omega), q.1, q.2, by simp [hi], by simp [← el, hi]⟩) (fun H q => ⟨xs, ys, q.1, q.2, rfl, el.symm⟩) fun i H v H' q y => ?_)⟩
      obtain ⟨T, x, y, h1, h2, h3, h4, h5⟩ := y
      exact ⟨T, x, y, h1, h2, h3, h4 xs q.1, h5 ys q.2⟩
end
/-! ### instances made of data -/
def putAll (l : List (Str × D)) : List (Str × D) := l.foldl (fun acc p => putD p.1 p.2 acc) []
end Am
/-! The data of stores as plain Lean, and how they stand as data of the logic. -/
namespace Am
open PySem PySem.Spec PyProof.Rows L2

structure Cls4 where
  S : Addr
  M : Addr
  L : Addr
  W : Addr
structure ClsOk (K : PySem.W.Frag) (c : Cls4) (mg : Str → Option Value) : Prop where
  clS : Cls K c.S
  clM : Cls K c.M
  clL : Cls K c.L
  clW : Cls K c.W
  S_text : NoAttr K c.S "text"
  S_file : NoAttr K c.S "file"
  S_nodes : NoAttr K c.S "nodes"
  S_rooms : NoAttr K c.S "rooms"
  S_fresh : NoAttr K c.S "fresh"
  S_mends : NoAttr K c.S "mends"
  S_readers : NoAttr K c.S "readers"
  M_label : NoAttr K c.M "label"
  M_kind : NoAttr K c.M "kind"
  M_nodes : NoAttr K c.M "nodes"
  M_helpers : NoAttr K c.M "helpers"
  M_amounts : NoAttr K c.M "amounts"
  M_swap : NoAttr K c.M "swap"
  L_store : NoAttr K c.L "store"
  L_moves : NoAttr K c.L "moves"
  L_rows : NoAttr K c.L "rows"
  W_total : NoAttr K c.W "total"
  W_steps : NoAttr K c.W "steps"
  gW : mg "Way" = some (.ref c.W)
  W_ha : PySem.W.findIn K (.ref c.W) "__class__" = some (some (.builtin "object.__class__"))
  W_hn : PySem.W.specialIn K (.builtin "object.__class__") "__get__" = some (some (.builtin "getset_descriptor.__get__"))
  W_htk : PySem.W.takesIn K (.builtin "object.__class__") = some true
  W_hm : PySem.W.mroIn K c.W (.type "object") = some true
  W_isi : PySem.W.kitOne K (.ref c.W) (.ref c.W) = some true

abbrev sD (l : List Str) : List D := l.map D.str
abbrev iD (l : List Int) : List D := l.map D.int
def optI : Option Int → D
  | none => .non
  | some i => .int i
def optN : Option Nat → D
  | none => .non
  | some i => .int (i : Nat)
inductive Mnd where
  | one (label v : Str) (hs : List Str) (as : List Int)
  | two (label u v : Str) (h1 h2 : List Str) (a1 a2 : List Int) (swap : Int)
def Mnd.label : Mnd → Str
  | .one l _ _ _ => l
  | .two l _ _ _ _ _ _ _ => l
def Mnd.nodes : Mnd → List Str
  | .one _ v _ _ => [v]
  | .two _ u v _ _ _ _ _ => [u, v]
structure Sto where
  text : Str
  file : Int
  nodes : List Str
  rooms : List Int
  fresh : List Str
  mends : List Mnd
  readers : List (List (Str × Option Int))
def encM (c : Cls4) : Mnd → D
  | .one l v hs as => .ins c.M [("label", .str l), ("kind", .str "one"), ("nodes", .tup [.str v]), ("helpers", .tup (sD hs)), ("amounts", .tup (iD as)), ("swap", .non)]
  | .two l u v h1 h2 a1 a2 sw => .ins c.M [("label", .str l), ("kind", .str "pair"), ("nodes", .tupF [.str u, .str v]), ("helpers", .tup [.tup (sD h1), .tup (sD h2)]), ("amounts", .tup [.tup (iD a1), .tup (iD a2)]), ("swap", .int sw)]
def encI (p : Str × Option Int) : D := .tup [.str p.1, optI p.2]
def encR (r : List (Str × Option Int)) : D := .tup (r.map encI)
def encS (c : Cls4) (s : Sto) : D := .ins c.S [("text", .str s.text), ("file", .int s.file), ("nodes", .tupF (sD s.nodes)), ("rooms", .tup (iD s.rooms)), ("fresh", .tupF (sD s.fresh)), ("mends", .tup (s.mends.map (encM c))), ("readers", .tup (s.readers.map encR))]

/-! ### masks -/
def maskOf (nodes names : List Str) : Nat := (names.map fun n => 2 ^ nodes.idxOf n).sum
def lotOf (nodes : List Str) (m : Nat) : List Str := (nodes.zipIdx.filter fun p => m.testBit p.2).map (·.1)
def clr (m b : Nat) : Nat := m - (m &&& b)
def outs (nodes : List Str) (m : Nat) : List Str → List Int → Int
  | h :: hs, a :: as => (if m.testBit (nodes.idxOf h) then 0 else a) + outs nodes m hs as
  | _, _ => 0
def least : Option Int → Option Int → Option Int
  | none, b => b
  | some a, none => some a
  | some a, some b => some (if b < a then b else a)
/-- the price of one choice of known ones -/
def pp1 (r0 r1 l0 l1 s : Int) (t0 t1 k0 k1 : Bool) : Int :=
  (if k0 then l0 else 0) + (if k1 then l1 else 0) + (if t0 then (if k0 then (if (if k1 then 0 else s) < r0 then (if k1 then 0 else s) else r0) else r0) else 0) + (if t1 then (if k1 then (if (if k0 then 0 else s) < r1 then (if k0 then 0 else s) else r1) else r1) else 0)
def ppO (r0 r1 l0 l1 s : Int) (t0 t1 : Bool) : Option Int :=
  least (least (least (least none (some (pp1 r0 r1 l0 l1 s t0 t1 false false))) (some (pp1 r0 r1 l0 l1 s t0 t1 false true))) (some (pp1 r0 r1 l0 l1 s t0 t1 true false))) (some (pp1 r0 r1 l0 l1 s t0 t1 true true))
def roomOf (s : Sto) (v : Str) : Int := s.rooms.getD (s.nodes.idxOf v) 0
abbrev Stp := Int × List Str × Nat
def stepsM (s : Sto) (mask : Nat) : Mnd → List Stp
  | .one _ v hs as => [(0, [], clr mask (maskOf s.nodes [v])), (if outs s.nodes mask hs as < roomOf s v then outs s.nodes mask hs as else roomOf s v, [v], clr mask (maskOf s.nodes [v]) ||| maskOf s.nodes [v])]
  | .two _ u v h1 h2 a1 a2 sw => (0, [], clr mask (maskOf s.nodes [u, v])) :: [(true, false), (false, true), (true, true)].map fun t =>
      let names := s.nodes.filter fun n => if n = u then t.1 else if n = v then t.2 else false
      ((ppO (roomOf s u) (roomOf s v) (outs s.nodes mask h1 a1) (outs s.nodes mask h2 a2) sw t.1 t.2).getD 0, names, clr mask (maskOf s.nodes [u, v]) ||| maskOf s.nodes names)
def encP (p : Stp) : D := .tup [.int p.1, .tup (sD p.2.1), .int (p.2.2 : Nat)]
def endP (nodes : List Str) (m : Nat) : List (Str × Option Int) → Option Int
  | [] => some 0
  | (n, l) :: r => if m.testBit (nodes.idxOf n) then endP nodes m r else match l with
    | none => none
    | some x => (endP nodes m r).map (x + ·)
abbrev Mv := Str × Stp
def encV (p : Mv) : D := .tup [.str p.1, encP p.2]
def movesOf (s : Sto) (mask : Nat) : List Mv := s.mends.flatMap fun md => (stepsM s mask md).map fun st => (md.label, st)
abbrev Row := List (Option Int)
def row0 (s : Sto) (r : List (Str × Option Int)) : Row := (List.range (2 ^ s.nodes.length)).map fun m => endP s.nodes m r
def best1 (last : Row) (mv : List Mv) (own : Option Int) : Option Int := mv.foldl (fun best p => match last.getD p.2.2.2 none with
  | none => best
  | some x => least best (some (p.2.1 + x))) own
def nxt (s : Sto) (last : Row) : Row := last.zipIdx.map fun p => best1 last (movesOf s p.2) p.1
def rowK (s : Sto) (r : List (Str × Option Int)) : Nat → Row
  | 0 => row0 s r
  | k + 1 => nxt s (rowK s r k)
def encW (r : Row) : D := .lst (r.map optI)

/-! ### what is asked of a store -/
structure MndOk (nodes : List Str) (m : Mnd) : Prop where
  one : ∀ l v hs as, m = .one l v hs as → v ∈ nodes ∧ (∀ h ∈ hs, h ∈ nodes) ∧ hs.length = as.length ∧ hs.length ≤ 7 ∧ ∀ a ∈ as, 0 ≤ a
  two : ∀ l u v h1 h2 a1 a2 sw, m = .two l u v h1 h2 a1 a2 sw → u ∈ nodes ∧ v ∈ nodes ∧ u ≠ v ∧ (∀ h ∈ h1, h ∈ nodes) ∧ (∀ h ∈ h2, h ∈ nodes) ∧ h1.length = a1.length ∧ h2.length = a2.length ∧ h1.length ≤ 7 ∧ h2.length ≤ 7 ∧ (∀ a ∈ a1, 0 ≤ a) ∧ (∀ a ∈ a2, 0 ≤ a) ∧ 0 ≤ sw
structure Okay (s : Sto) : Prop where
  nd : s.nodes.Nodup
  few : s.nodes.length ≤ 5
  rl : s.rooms.length = s.nodes.length
  r0 : ∀ a ∈ s.rooms, 0 ≤ a
  mends : ∀ m ∈ s.mends, MndOk s.nodes m
  mfew : s.mends.length ≤ 20
  lab : (s.mends.map Mnd.label).Nodup
  readers : ∀ r ∈ s.readers, ∀ p ∈ r, p.1 ∈ s.nodes ∧ ∀ x, p.2 = some x → 0 ≤ x
  rfew : s.readers.length ≤ 20
  rlen : ∀ r ∈ s.readers, r.length ≤ 20

/-! ### promises of lots.py -/
def R_bit_of : List D → D → Prop := fun ds d => ∃ k : Nat, k ≤ 100 ∧ ds = [.int k] ∧ d = .int ((2 ^ k : Nat) : Int)
def R_has_bit : List D → D → Prop := fun ds d => ∃ m k : Nat, ds = [.int m, .int k] ∧ d = .bl (m.testBit k)
def R_mask_of (c : Cls4) : List D → D → Prop := fun ds d => ∃ s names, Okay s ∧ (∀ n ∈ names, n ∈ s.nodes) ∧ names.length ≤ 20 ∧ (ds = [encS c s, .tup (sD names)] ∨ ds = [encS c s, .tupF (sD names)]) ∧ d = .int (maskOf s.nodes names : Nat)
def R_lot_of (c : Cls4) : List D → D → Prop := fun ds d => ∃ s, ∃ m : Nat, Okay s ∧ ds = [encS c s, .int m] ∧ d = .tup (sD (lotOf s.nodes m))
def R_told_lot (c : Cls4) : List D → D → Prop := fun ds d => ∃ s, ∃ m : Nat, Okay s ∧ m < 2 ^ s.nodes.length ∧ ds = [encS c s, .tup (sD (lotOf s.nodes m))] ∧ d = .int m
def R_told_mends : List D → D → Prop := fun ds d => ∃ j : Option Nat, ds = [optN j] ∧ d = optN j
def R_told_reader (c : Cls4) : List D → D → Prop := fun ds d => ∃ s, ∃ r : Nat, Okay s ∧ r < s.readers.length ∧ ds = [encS c s, .int r] ∧ d = .int r
def R_outside (c : Cls4) : List D → D → Prop := fun ds d => ∃ s hs as, ∃ m : Nat, Okay s ∧ (∀ h ∈ hs, h ∈ s.nodes) ∧ hs.length = as.length ∧ hs.length ≤ 20 ∧ ds = [encS c s, .int m, .tup (sD hs), .tup (iD as)] ∧ d = .int (outs s.nodes m hs as)
def R_least : List D → D → Prop := fun ds d => ∃ a b : Option Int, ds = [optI a, optI b] ∧ d = optI (least a b)
def R_pair_price : List D → D → Prop := fun ds d => ∃ (r0 r1 l0 l1 s : Int) (t0 t1 : Bool), ds = [.lst [.int r0, .int r1], .lst [.int l0, .int l1], .int s, .tup [.bl t0, .bl t1]] ∧ d = optI (ppO r0 r1 l0 l1 s t0 t1)
def R_steps_from (c : Cls4) : List D → D → Prop := fun ds d => ∃ s md, ∃ m : Nat, Okay s ∧ MndOk s.nodes md ∧ ds = [encS c s, .int m, encM c md] ∧ d = .lst ((stepsM s m md).map encP)
def R_end_price (c : Cls4) : List D → D → Prop := fun ds d => ∃ s rd, ∃ m r : Nat, Okay s ∧ s.readers[r]? = some rd ∧ ds = [encS c s, .int m, .int r] ∧ d = optI (endP s.nodes m rd)
def R_is_whole : List D → D → Prop := fun ds d => ∃ i : Int, ds = [.int i] ∧ d = .bl true
end Am
/-! Fields of stores and mends; bits; small lemmas. -/
namespace Am
open PySem PySem.Spec PyProof.Rows L2
section
variable {K : PySem.W.Frag} {c : Cls4} {mg : Str → Option Value} {ρ : Ro} {te : TE} {s : Sto}
theorem ed_S_text (hc : ClsOk K c mg) (h : EvD K te ρ (encS c s)) : EvD K (tFld K te "text") ρ (.str s.text) := ed_fld h hc.clS hc.S_text rfl
theorem ed_S_file (hc : ClsOk K c mg) (h : EvD K te ρ (encS c s)) : EvD K (tFld K te "file") ρ (.int s.file) := ed_fld h hc.clS hc.S_file rfl
theorem ed_S_nodes (hc : ClsOk K c mg) (h : EvD K te ρ (encS c s)) : EvD K (tFld K te "nodes") ρ (.tupF (sD s.nodes)) := ed_fld h hc.clS hc.S_nodes rfl
theorem ed_S_rooms (hc : ClsOk K c mg) (h : EvD K te ρ (encS c s)) : EvD K (tFld K te "rooms") ρ (.tup (iD s.rooms)) := ed_fld h hc.clS hc.S_rooms rfl
theorem ed_S_mends (hc : ClsOk K c mg) (h : EvD K te ρ (encS c s)) : EvD K (tFld K te "mends") ρ (.tup (s.mends.map (encM c))) := ed_fld h hc.clS hc.S_mends rfl
theorem ed_S_readers (hc : ClsOk K c mg) (h : EvD K te ρ (encS c s)) : EvD K (tFld K te "readers") ρ (.tup (s.readers.map encR)) := ed_fld h hc.clS hc.S_readers rfl
def kindZ : Mnd → Str
  | .one _ _ _ _ => "one"
  | .two _ _ _ _ _ _ _ _ => "pair"
theorem ed_M_label (hc : ClsOk K c mg) {m : Mnd} (h : EvD K te ρ (encM c m)) : EvD K (tFld K te "label") ρ (.str m.label) := by cases m <;> exact ed_fld h hc.clM hc.M_label rfl
theorem ed_M_kind (hc : ClsOk K c mg) {m : Mnd} (h : EvD K te ρ (encM c m)) : EvD K (tFld K te "kind") ρ (.str (kindZ m)) := by cases m <;> exact ed_fld h hc.clM hc.M_kind rfl
section
variable {l v u : Str} {hs h1 h2 : List Str} {as a1 a2 : List Int} {sw : Int}
theorem ed_M_nodes1 (hc : ClsOk K c mg) (h : EvD K te ρ (encM c (.one l v hs as))) : EvD K (tFld K te "nodes") ρ (.tup (sD [v])) := ed_fld h hc.clM hc.M_nodes rfl
theorem ed_M_nodes2 (hc : ClsOk K c mg) (h : EvD K te ρ (encM c (.two l u v h1 h2 a1 a2 sw))) : EvD K (tFld K te "nodes") ρ (.tupF (sD [u, v])) := ed_fld h hc.clM hc.M_nodes rfl
theorem ed_M_helpers1 (hc : ClsOk K c mg) (h : EvD K te ρ (encM c (.one l v hs as))) : EvD K (tFld K te "helpers") ρ (.tup (sD hs)) := ed_fld h hc.clM hc.M_helpers rfl
theorem ed_M_amounts1 (hc : ClsOk K c mg) (h : EvD K te ρ (encM c (.one l v hs as))) : EvD K (tFld K te "amounts") ρ (.tup (iD as)) := ed_fld h hc.clM hc.M_amounts rfl
theorem ed_M_helpers2 (hc : ClsOk K c mg) (h : EvD K te ρ (encM c (.two l u v h1 h2 a1 a2 sw))) : EvD K (tFld K te "helpers") ρ (.tup [.tup (sD h1), .tup (sD h2)]) := ed_fld h hc.clM hc.M_helpers rfl
theorem ed_M_amounts2 (hc : ClsOk K c mg) (h : EvD K te ρ (encM c (.two l u v h1 h2 a1 a2 sw))) : EvD K (tFld K te "amounts") ρ (.tup [.tup (iD a1), .tup (iD a2)]) := ed_fld h hc.clM hc.M_amounts rfl
theorem ed_M_swap2 (hc : ClsOk K c mg) (h : EvD K te ρ (encM c (.two l u v h1 h2 a1 a2 sw))) : EvD K (tFld K te "swap") ρ (.int sw) := ed_fld h hc.clM hc.M_swap rfl
end
/-- a comprehension of ints, of texts -/
theorem ed_lcI {α : Type} {wi : TI} {g : TG} {tt : TT} {vs : List Nat} {items : List α} (enc : α → D) (p : α → Bool) (f : α → Int) (hi : ItE K wi ρ (items.map enc)) (hl : items.length ≤ 100000)
    (ht : ∀ x ∈ items, ∃ is ρ2, Tg K g (enc x) is (wipeR ρ vs) ρ2 ∧ (∀ i ∈ is, i ∈ vs) ∧ EdT K tt ρ2 (p x) ∧ (p x = true → EvD K te ρ2 (.int (f x)))) :
    EvD K (tLc wi g tt te vs) ρ (.lst (((items.filter p).map f).map D.int)) := by
  rw [List.map_map]
  exact ed_lc enc p (fun x => .int (f x)) hi hl ht
theorem ed_lcI0 {α : Type} {wi : TI} {g : TG} {vs : List Nat} {items : List α} (enc : α → D) (f : α → Int) (hi : ItE K wi ρ (items.map enc)) (hl : items.length ≤ 100000)
    (ht : ∀ x ∈ items, ∃ is ρ2, Tg K g (enc x) is (wipeR ρ vs) ρ2 ∧ (∀ i ∈ is, i ∈ vs) ∧ EvD K te ρ2 (.int (f x))) :
    EvD K (tLc wi g tYes te vs) ρ (.lst ((items.map f).map D.int)) := by
  rw [List.map_map]
  exact ed_lc0 enc (fun x => .int (f x)) hi hl ht
theorem ed_lcS {α : Type} {wi : TI} {g : TG} {tt : TT} {vs : List Nat} {items : List α} (enc : α → D) (p : α → Bool) (f : α → Str) (hi : ItE K wi ρ (items.map enc)) (hl : items.length ≤ 100000)
    (ht : ∀ x ∈ items, ∃ is ρ2, Tg K g (enc x) is (wipeR ρ vs) ρ2 ∧ (∀ i ∈ is, i ∈ vs) ∧ EdT K tt ρ2 (p x) ∧ (p x = true → EvD K te ρ2 (.str (f x)))) :
    EvD K (tLc wi g tt te vs) ρ (.lst (sD ((items.filter p).map f))) := by
  show EvD K _ _ (.lst (((items.filter p).map f).map D.str))
  rw [List.map_map]
  exact ed_lc enc p (fun x => .str (f x)) hi hl ht
theorem ed_lcS0 {α : Type} {wi : TI} {g : TG} {vs : List Nat} {items : List α} (enc : α → D) (f : α → Str) (hi : ItE K wi ρ (items.map enc)) (hl : items.length ≤ 100000)
    (ht : ∀ x ∈ items, ∃ is ρ2, Tg K g (enc x) is (wipeR ρ vs) ρ2 ∧ (∀ i ∈ is, i ∈ vs) ∧ EvD K te ρ2 (.str (f x))) :
    EvD K (tLc wi g tYes te vs) ρ (.lst (sD (items.map f))) := by
  show EvD K _ _ (.lst ((items.map f).map D.str))
  rw [List.map_map]
  exact ed_lc0 enc (fun x => .str (f x)) hi hl ht
theorem ed_lcB0 {α : Type} {wi : TI} {g : TG} {vs : List Nat} {items : List α} (enc : α → D) (f : α → Bool) (hi : ItE K wi ρ (items.map enc)) (hl : items.length ≤ 100000)
    (ht : ∀ x ∈ items, ∃ is ρ2, Tg K g (enc x) is (wipeR ρ vs) ρ2 ∧ (∀ i ∈ is, i ∈ vs) ∧ EvD K te ρ2 (.bl (f x))) :
    EvD K (tLc wi g tYes te vs) ρ (.lst ((items.map f).map D.bl)) := by
  rw [List.map_map]
  exact ed_lc0 enc (fun x => .bl (f x)) hi hl ht
end
def encZ (p : Str × Nat) : D := .tup [.int (p.2 : Nat), .str p.1]
theorem pairI_zip : ∀ (l : List Str) (k : Nat), pairI k (sD l) = (l.zipIdx k).map encZ
  | [], _ => rfl
  | a :: l, k => by
    show D.tup [.int (k : Nat), .str a] :: pairI (k + 1) (sD l) = _
    rw [pairI_zip l (k + 1)]
    rfl
def encSI (p : Str × Int) : D := .tup [.str p.1, .int p.2]
theorem zipD_zip : ∀ (l : List Str) (m : List Int), zipD (sD l) (iD m) = (l.zip m).map encSI
  | [], [] => rfl
  | [], _ :: _ => rfl
  | _ :: _, [] => rfl
  | a :: l, b :: m => by
    show D.tup [.str a, .int b] :: zipD (sD l) (iD m) = _
    rw [zipD_zip l m]
    rfl
/-! ### bits -/
theorem sum_bits (m : Nat) : ∀ n, (((List.range n).filter fun k => m.testBit k).map fun k => 2 ^ k).sum = m % 2 ^ n
  | 0 => by simp [Nat.mod_one]
  | n + 1 => by
    rw [List.range_succ, List.filter_append, List.map_append, List.sum_append, sum_bits m n, Nat.pow_succ, Nat.mod_mul]
    simp only [List.filter_cons, List.filter_nil]
    have h := Nat.mod_two_eq_zero_or_one (m / 2 ^ n)
    rcases h with h | h
    · have : m.testBit n = false := by rw [Nat.testBit_eq_decide_div_mod_eq]; simp [h]
      simp [this, h]
    · have : m.testBit n = true := by rw [Nat.testBit_eq_decide_div_mod_eq]; simp [h]
      simp [this, h]
theorem sum_filter_zip {β : Type} (f : Nat → Nat) (q : Nat → Bool) : ∀ (l : List β) (k : Nat), ((l.zipIdx k).filter fun p => q p.2).map (fun p => f p.2) = ((List.range' k l.length).filter q).map f
  | [], _ => rfl
  | a :: l, k => by
    rw [List.zipIdx_cons, List.length_cons, List.range'_succ, List.filter_cons, List.filter_cons]
    have ih := sum_filter_zip f q l (k + 1)
    by_cases h : q k = true
    · rw [if_pos h, if_pos h, List.map_cons, List.map_cons, ih]
    · rw [if_neg h, if_neg h, ih]
theorem mem_lotOf {nodes : List Str} (nd : nodes.Nodup) {m : Nat} {a : Str} {k : Nat} (h : nodes[k]? = some a) : a ∈ lotOf nodes m ↔ m.testBit k = true := by
  unfold lotOf
  simp only [List.mem_map, List.mem_filter]
  constructor
  · rintro ⟨⟨b, j⟩, ⟨hm, ht⟩, rfl⟩
    have hj : nodes[j]? = some b := by simpa using List.mem_zipIdx_iff_getElem?.mp hm
    have : j = k := nd_ix nd hj h
    subst this
    exact ht
  · intro ht
    exact ⟨(a, k), ⟨List.mem_zipIdx_iff_getElem?.mpr (by simpa using h), ht⟩, rfl⟩
theorem zip_at {nodes : List Str} {p : Str × Nat} (h : p ∈ nodes.zipIdx) : nodes[p.2]? = some p.1 := by
  obtain ⟨a, k⟩ := p
  simpa using List.mem_zipIdx_iff_getElem?.mp h
theorem sum_lot {nodes : List Str} (nd : nodes.Nodup) {m : Nat} (hm : m < 2 ^ nodes.length) : ((nodes.zipIdx.filter fun p => decide (p.1 ∈ lotOf nodes m)).map fun p => 2 ^ p.2).sum = m := by
  have e : nodes.zipIdx.filter (fun p => decide (p.1 ∈ lotOf nodes m)) = nodes.zipIdx.filter fun p => m.testBit p.2 := List.filter_congr fun p hp => by
    have := mem_lotOf nd (m := m) (zip_at hp)
    by_cases h : m.testBit p.2 = true
    · rw [decide_eq_true (this.mpr h), h]
    · rw [decide_eq_false (fun z => h (this.mp z))]
      simpa using h
  rw [e, sum_filter_zip (fun k => 2 ^ k) (fun k => m.testBit k) nodes 0, ← List.range_eq_range', sum_bits, Nat.mod_eq_of_lt hm]
theorem sum_cast : ∀ l : List Nat, (l.map fun n : Nat => (n : Int)).sum = ((l.sum : Nat) : Int)
  | [] => rfl
  | a :: l => by
    rw [List.map_cons, List.sum_cons, List.sum_cons, sum_cast l]
    omega
theorem idx_at {nodes : List Str} {a : Str} (h : a ∈ nodes) : nodes[nodes.idxOf a]? = some a := by
  have hi := List.idxOf_lt_length_iff.mpr h
  rw [List.getElem?_eq_getElem hi, List.getElem_idxOf hi]
theorem mem_lot {nodes : List Str} (nd : nodes.Nodup) {m : Nat} {a : Str} (h : a ∈ nodes) : a ∈ lotOf nodes m ↔ m.testBit (nodes.idxOf a) = true := mem_lotOf nd (idx_at h)
theorem lot_sub {nodes : List Str} {m : Nat} {a : Str} (h : a ∈ lotOf nodes m) : a ∈ nodes := by
  unfold lotOf at h
  obtain ⟨p, hp, rfl⟩ := List.mem_map.mp h
  exact List.mem_of_getElem? (zip_at (List.mem_filter.mp hp).1)
/-! ### equal data -/
theorem ofPs_map {α : Type} (f : α → PyData) : ∀ l : List α, ofPs (l.map f) = l.map fun x => ofP (f x)
  | [] => rfl
  | a :: l => by
    show ofP (f a) :: ofPs (l.map f) = ofP (f a) :: l.map fun x => ofP (f x)
    rw [ofPs_map f l]
instance : PySem.W.Datum (Option Int) where
  toD
    | none => .none
    | some i => .int i
  plain a := by cases a <;> rfl
  eqv a b := by
    cases a <;> cases b <;> simp only [PyData.eqv] <;> first | rfl | (rw [PySem.W.beq_decide]; simp) | simp
  depth := 0
  depth_le a := by cases a <;> exact Nat.le_refl _
theorem ofP_optI (o : Option Int) : ofP (PySem.W.Datum.toD o) = optI o := by cases o <;> rfl
def toT {α : Type} [DecidableEq α] [PySem.W.Datum α] (l : List α) : PyData := PySem.W.Datum.toD (PySem.W.Tup.mk l)
mutual
theorem pl_plain : ∀ d : PyData, d.plain = true → plP d = true
  | .none, _ => rfl
  | .bool _, _ => rfl
  | .int _, _ => rfl
  | .str _, _ => rfl
  | .list ds, h => pl_plains ds (by simpa only [PyData.plain] using h)
  | .tuple ds, h => pl_plains ds (by simpa only [PyData.plain] using h)
  | .dict _, h => by simp [PyData.plain] at h
theorem pl_plains : ∀ ds : List PyData, PyData.plainAll ds = true → plPs ds = true
  | [], _ => rfl
  | d :: ds, h => by
    have h2 : d.plain = true ∧ PyData.plainAll ds = true := by simpa [PyData.plainAll] using h
    show (plP d && plPs ds) = true
    rw [pl_plain d h2.1, pl_plains ds h2.2]
    rfl
end
section
variable {K : PySem.W.Frag} {α : Type} [DecidableEq α] [PySem.W.Datum α]
/-- == and != of typed data -/
theorem rv_eqT {a b : α} {x y : D} (hx : x = ofP (PySem.W.Datum.toD a)) (hy : y = ofP (PySem.W.Datum.toD b)) (hd : PySem.W.Datum.depth α ≤ 60) : RvD K (rEqP K) x y (.bl (decide (a = b))) := by
  subst hx hy
  have h := rv_eqP (K := K) (pl_plain _ (PySem.W.Datum.plain a)) (pl_plain _ (PySem.W.Datum.plain b)) (PySem.W.Datum.plain a) (PySem.W.Datum.plain b) (Nat.le_trans (PySem.W.Datum.depth_le a) hd)
  rwa [PySem.W.Datum.eqv] at h
theorem rv_neT {a b : α} {x y : D} (hx : x = ofP (PySem.W.Datum.toD a)) (hy : y = ofP (PySem.W.Datum.toD b)) (hd : PySem.W.Datum.depth α ≤ 60) : RvD K (rNeP K) x y (.bl (!decide (a = b))) := by
  subst hx hy
  have h := rv_neP (K := K) (pl_plain _ (PySem.W.Datum.plain a)) (pl_plain _ (PySem.W.Datum.plain b)) (PySem.W.Datum.plain a) (PySem.W.Datum.plain b) (Nat.le_trans (PySem.W.Datum.depth_le a) hd)
  rwa [PySem.W.Datum.eqv] at h
theorem rv_notInT' {a : α} {bs : List α} {x y : D} (hx : x = ofP (PySem.W.Datum.toD a)) (hy : y = ofP (PySem.W.Datum.toD bs)) (hd : PySem.W.Datum.depth α ≤ 60) : RvD K (rNotInP K) x y (.bl (!decide (a ∈ bs))) := by
  subst hx hy
  have h := rv_notInP (K := K) (pl_plain _ (PySem.W.Datum.plain a)) (pl_plains (bs.map PySem.W.Datum.toD) (PySem.W.plainAll_map bs)) (PySem.W.Datum.plain a) (PySem.W.plainAll_map bs) (Nat.le_trans (PySem.W.Datum.depth_le a) hd)
  rwa [PySem.W.any_datum] at h
end
theorem tupS_of (l : List Str) : (D.tup (sD l)) = ofP (toT l) := by
  show _ = D.tup (ofPs _)
  rw [ofPs_map]
  rfl
theorem lstS_of (l : List Str) : (D.lst (sD l)) = ofP (PySem.W.Datum.toD l) := by
  show _ = D.lst (ofPs _)
  rw [ofPs_map]
  rfl
end Am
namespace Am
open PySem PySem.Spec PyProof.Rows L2
theorem len_bit_of : ∀ ds d, R_bit_of ds d → ds.length = 1 := fun _ _ ⟨_, _, h, _⟩ => by rw [h]; rfl
abbrev s_bit_of : Stmt := topS 9
theorem sc_bit_of : FnScope ["k"] ["k"] (defScope s_bit_of) := ⟨rfl, rfl, rfl, by decide +kernel, rfl, by decide +kernel, by decide +kernel⟩
set_option maxHeartbeats 16000000 in
theorem ok_bit_of {P : Program} {w : World} {K : PySem.W.Frag} {mg : Str → Option Value} {base : Heap} {c : Cls4} {f : Addr} {fd : FuncData} (B : Blt mg) (hc : ClsOk K c mg) (F : FD K "bit_of" "bit_of" s_bit_of f fd) : FnOk P w K mg base CX0 1 f fd ["k"] (spP K R_bit_of) := by
  have sc := sc_bit_of
  refine F.ok sc (fun vs H Q E h => len_P (n := 1) len_bit_of h) (fun cdv A outer s H vs Q E hr h => ?_)
  have hu := hu_of hr
  refine ⟨_, PSs.nox ((pss_one (ps_ret (pe_op op_shl pe_int (pv 0))))), read_P h ?_⟩
  rintro ds d ⟨k, hk, rfl, rfl⟩
  refine run_ret (ed_op (ed_int 1) (ed_var rfl) (rv_intC ⟨by omega, by omega, by decide⟩)) ?_
  show D.int (1 * 2 ^ (k : Int).toNat) = D.int ((2 ^ k : Nat) : Int)
  rw [Int.one_mul, Int.toNat_natCast, Int.natCast_pow]
  rfl
theorem len_has_bit : ∀ ds d, R_has_bit ds d → ds.length = 2 := fun _ _ ⟨_, _, h, _⟩ => by rw [h]; rfl
abbrev s_has_bit : Stmt := topS 10
theorem sc_has_bit : FnScope ["mask", "k"] ["mask", "k"] (defScope s_has_bit) := ⟨rfl, rfl, rfl, by decide +kernel, rfl, by decide +kernel, by decide +kernel⟩
set_option maxHeartbeats 16000000 in
theorem ok_has_bit {P : Program} {w : World} {K : PySem.W.Frag} {mg : Str → Option Value} {base : Heap} {c : Cls4} {f : Addr} {fd : FuncData} (B : Blt mg) (hc : ClsOk K c mg) (F : FD K "has_bit" "has_bit" s_has_bit f fd) : FnOk P w K mg base CX0 1 f fd ["mask", "k"] (spP K R_has_bit) := by
  have sc := sc_has_bit
  refine F.ok sc (fun vs H Q E h => len_P (n := 2) len_has_bit h) (fun cdv A outer s H vs Q E hr h => ?_)
  have hu := hu_of hr
  refine ⟨_, PSs.nox ((pss_one (ps_ret (pe_cmpR op_eq (pe_op op_mod (pe_op op_shr (pv 0) (pv 1)) pe_int) pe_int (nomark _))))), read_P h ?_⟩
  rintro ds d ⟨m, k, rfl, rfl⟩
  refine run_ret (ed_op (ed_op (ed_op (ed_var rfl) (ed_var rfl) (rv_intC (by omega))) (ed_int 2) (rv_intC (by decide))) (ed_int 1) (rv_eq rfl rfl rfl)) ?_
  show D.bl (decide (V.int ((m : Int) / 2 ^ (k : Int).toNat % 2) = V.int 1)) = D.bl (m.testBit k)
  rw [Nat.testBit_eq_decide_div_mod_eq, Int.toNat_natCast]
  refine congrArg D.bl (decide_eq_decide.mpr ?_)
  rw [V.int.injEq]
  have e : (m : Int) / 2 ^ k % 2 = ((m / 2 ^ k % 2 : Nat) : Int) := by rw [Int.natCast_emod, Int.natCast_ediv, Int.natCast_pow]; rfl
  rw [e]
  omega
theorem len_mask_of {c : Cls4} : ∀ ds d, R_mask_of c ds d → ds.length = 2 := fun _ _ ⟨_, _, _, _, _, h, _⟩ => by rcases h with h | h <;> rw [h] <;> rfl
theorem mask_sum (nodes names : List Str) : (names.map fun n => ((2 ^ nodes.idxOf n : Nat) : Int)).sum = ((maskOf nodes names : Nat) : Int) := by
  unfold maskOf
  rw [← sum_cast, List.map_map]
  rfl
theorem idx_few {s : Sto} (ok : Okay s) {n : Str} (h : n ∈ s.nodes) : s.nodes.idxOf n ≤ 100 := by
  have := List.idxOf_lt_length_iff.mpr h
  have := ok.few
  omega
abbrev s_mask_of : Stmt := topS 11
theorem sc_mask_of : FnScope ["store", "names", "name"] ["store", "names"] (defScope s_mask_of) := ⟨rfl, rfl, rfl, by decide +kernel, rfl, by decide +kernel, by decide +kernel⟩
set_option maxHeartbeats 16000000 in
theorem ok_mask_of {P : Program} {w : World} {K : PySem.W.Frag} {mg : Str → Option Value} {base : Heap} {c : Cls4} {f : Addr} {fd : FuncData} (B : Blt mg) (hc : ClsOk K c mg)
    (h_bit_of : Fn P w K mg base "bit_of" 1 ["k"] (spP K R_bit_of)) (F : FD K "mask_of" "mask_of" s_mask_of f fd) : FnOk P w K mg base CX0 2 f fd ["store", "names"] (spP K (R_mask_of c)) := by
  have sc := sc_mask_of
  refine F.ok sc (fun vs H Q E h => len_P (n := 2) len_mask_of h) (fun cdv A outer s H vs Q E hr h => ?_)
  have hu := hu_of hr
  refine ⟨_, PSs.nox ((pss_one (ps_ret (pe_callB (xc_sum (K := K) rfl) (by rfl) B.sum boot_sum (pa_cons (pe_lc (own := [("name", 2)]) rfl sc.nd (xi_tup (K := K) (pv 1)) (blkOk_by (own := [("name", 2)]) (N := ["store", "names", "name"]) (sc := defScope s_mask_of) (by decide +kernel)) (fun _ _ _ _ _ => (pg_name (i := 2) sc.nd rfl (Or.inl rfl))) (fun _ _ _ _ _ => pts_nil) (fun _ _ _ _ _ => (pe_fn h_bit_of (hr.mono (by decide)) (by rfl) (pa_cons (xe_tupIndex (xe_fld (K := K) (pv 0) rfl) (pa_cons (pv 2) pa_nil)) pa_nil)))) pa_nil))))), read_P h ?_⟩
  rintro ds d ⟨s, names, ok, hn, hl, hds, rfl⟩
  rcases hds with rfl | rfl
  · refine run_ret (ed_cb (ea_cons (ed_lcI0 D.str (fun n => ((2 ^ s.nodes.idxOf n : Nat) : Int)) (it_tup (ed_var rfl)) (by omega) fun n hn' => ⟨_, _, tg_name, by simp,
      ed_call (ea_cons (ed_tupIx (ed_S_nodes hc (ed_var rfl)) (ea_cons (ed_var rfl) ea_nil) (hn n hn')) ea_nil) ⟨_, idx_few ok (hn n hn'), rfl, rfl⟩⟩) ea_nil) rc_sum) ?_
    exact congrArg D.int (mask_sum s.nodes names)
  · refine run_ret (ed_cb (ea_cons (ed_lcI0 D.str (fun n => ((2 ^ s.nodes.idxOf n : Nat) : Int)) (it_tupF (ed_var rfl)) (by omega) fun n hn' => ⟨_, _, tg_name, by simp,
      ed_call (ea_cons (ed_tupIx (ed_S_nodes hc (ed_var rfl)) (ea_cons (ed_var rfl) ea_nil) (hn n hn')) ea_nil) ⟨_, idx_few ok (hn n hn'), rfl, rfl⟩⟩) ea_nil) rc_sum) ?_
    exact congrArg D.int (mask_sum s.nodes names)
theorem len_lot_of {c : Cls4} : ∀ ds d, R_lot_of c ds d → ds.length = 2 := fun _ _ ⟨_, _, _, h, _⟩ => by rw [h]; rfl
abbrev s_lot_of : Stmt := topS 12
theorem sc_lot_of : FnScope ["store", "mask", "k", "name"] ["store", "mask"] (defScope s_lot_of) := ⟨rfl, rfl, rfl, by decide +kernel, rfl, by decide +kernel, by decide +kernel⟩
set_option maxHeartbeats 16000000 in
theorem ok_lot_of {P : Program} {w : World} {K : PySem.W.Frag} {mg : Str → Option Value} {base : Heap} {c : Cls4} {f : Addr} {fd : FuncData} (B : Blt mg) (hc : ClsOk K c mg)
    (h_has_bit : Fn P w K mg base "has_bit" 1 ["mask", "k"] (spP K R_has_bit)) (F : FD K "lot_of" "lot_of" s_lot_of f fd) : FnOk P w K mg base CX0 2 f fd ["store", "mask"] (spP K (R_lot_of c)) := by
  have sc := sc_lot_of
  refine F.ok sc (fun vs H Q E h => len_P (n := 2) len_lot_of h) (fun cdv A outer s H vs Q E hr h => ?_)
  have hu := hu_of hr
  refine ⟨_, PSs.nox ((pss_one (ps_ret (pe_callTy (xc_tuple (K := K)) (by rfl) B.tuple boot_tuple (pa_cons (pe_lc (own := [("k", 2), ("name", 3)]) rfl sc.nd (xi_enumT (K := K) (by rfl) B.enumerate (pa_cons (xe_fld (K := K) (pv 0) rfl) pa_nil)) (blkOk_by (own := [("k", 2), ("name", 3)]) (N := ["store", "mask", "k", "name"]) (sc := defScope s_lot_of) (by decide +kernel)) (fun _ _ _ _ _ => (xg_tup (K := K) (n := 2) rfl (pgs_cons (pg_name (i := 2) sc.nd rfl (Or.inl rfl)) (pgs_cons (pg_name (i := 3) sc.nd rfl (Or.inl rfl)) pgs_nil)))) (fun _ _ _ _ _ => (pts_one (pt_val (pe_fn h_has_bit (hr.mono (by decide)) (by rfl) (pa_cons (pv 1) (pa_cons (pv 2) pa_nil)))))) (fun _ _ _ _ _ => (pv 3))) pa_nil))))), read_P h ?_⟩
  rintro ds d ⟨s, m, ok, rfl, rfl⟩
  have hl : s.nodes.zipIdx.length ≤ 100000 := by have := ok.few; rw [List.length_zipIdx]; omega
  refine run_ret (ed_cb (ea_cons (ed_lcS encZ (fun p => m.testBit p.2) (·.1) ((it_enumF (ea_cons (ed_S_nodes hc (ed_var rfl)) ea_nil)).is (pairI_zip s.nodes 0)) hl fun p hp => ⟨_, _, tg_two, by simp,
    et_B (ed_call (ea_cons (ed_var rfl) (ea_cons (ed_var rfl) ea_nil)) ⟨m, p.2, rfl, rfl⟩), fun _ => ed_var rfl⟩) ea_nil) rc_tuple) ?_
  rfl
theorem len_told_lot {c : Cls4} : ∀ ds d, R_told_lot c ds d → ds.length = 2 := fun _ _ ⟨_, _, _, _, h, _⟩ => by rw [h]; rfl
theorem kit_tt {K : PySem.W.Frag} : PySem.W.kitOne K (.type "tuple") (.type "tuple") = some true := kit_ty (by decide +kernel)
theorem kit_ss {K : PySem.W.Frag} : PySem.W.kitOne K (.type "str") (.type "str") = some true := kit_ty (by decide +kernel)
abbrev s_told_lot : Stmt := topS 13
theorem sc_told_lot : FnScope ["store", "lot", "mask", "k", "name"] ["store", "lot"] (defScope s_told_lot) := ⟨rfl, rfl, rfl, by decide +kernel, rfl, by decide +kernel, by decide +kernel⟩
set_option maxHeartbeats 16000000 in
theorem ok_told_lot {P : Program} {w : World} {K : PySem.W.Frag} {mg : Str → Option Value} {base : Heap} {c : Cls4} {f : Addr} {fd : FuncData} (B : Blt mg) (hc : ClsOk K c mg)
    (h_bit_of : Fn P w K mg base "bit_of" 1 ["k"] (spP K R_bit_of))
    (h_lot_of : Fn P w K mg base "lot_of" 2 ["store", "mask"] (spP K (R_lot_of c))) (F : FD K "told_lot" "told_lot" s_told_lot f fd) : FnOk P w K mg base CX0 3 f fd ["store", "lot"] (spP K (R_told_lot c)) := by
  have sc := sc_told_lot
  refine F.ok sc (fun vs H Q E h => len_P (n := 2) len_told_lot h) (fun cdv A outer s H vs Q E hr h => ?_)
  have hu := hu_of hr
  refine ⟨_, PSs.nox ((pss_cons (ps_if (PW.pt (pw_or (pt_not (pt_val (pe_callB (xc_isi (K := K)) (by rfl) B.isinstance boot_isinstance (pa_cons (pv 1) (pa_cons (pe_bltn (v := .ty "tuple") (by rfl) B.tuple boot_tuple rfl) pa_nil))))) (pw_or1 (pt_not (pt_val (pe_callB (xc_all (K := K) rfl) (by rfl) B.all boot_all (pa_cons (pe_lc (own := [("name", 4)]) rfl sc.nd (xi_tup (K := K) (pv 1)) (blkOk_by (own := [("name", 4)]) (N := ["store", "lot", "mask", "k", "name"]) (sc := defScope s_told_lot) (by decide +kernel)) (fun _ _ _ _ _ => (pg_name (i := 4) sc.nd rfl (Or.inl rfl))) (fun _ _ _ _ _ => pts_nil) (fun _ _ _ _ _ => (pe_and (pe_callB (xc_isi (K := K)) (by rfl) B.isinstance boot_isinstance (pa_cons (pv 4) (pa_cons (pe_bltn (v := .ty "str") (by rfl) B.str boot_str rfl) pa_nil))) (pe_one (pe_cmpR (xo_in (K := K)) (pv 4) (xe_fld (K := K) (pv 0) rfl) rfl))))) pa_nil)))))))
        (pss_one ps_never)
        pss_nil) 
      (pss_cons (ps_set (i := 2) sc.nd rfl (Or.inl rfl) (pe_callB (xc_sum (K := K) rfl) (by rfl) B.sum boot_sum (pa_cons (pe_lc (own := [("k", 3), ("name", 4)]) rfl sc.nd (xi_enumT (K := K) (by rfl) B.enumerate (pa_cons (xe_fld (K := K) (pv 0) rfl) pa_nil)) (blkOk_by (own := [("k", 3), ("name", 4)]) (N := ["store", "lot", "mask", "k", "name"]) (sc := defScope s_told_lot) (by decide +kernel)) (fun _ _ _ _ _ => (xg_tup (K := K) (n := 2) rfl (pgs_cons (pg_name (i := 3) sc.nd rfl (Or.inl rfl)) (pgs_cons (pg_name (i := 4) sc.nd rfl (Or.inl rfl)) pgs_nil)))) (fun _ _ _ _ _ => (pts_one (pt_cmpR (xo_in (K := K)) (pv 4) (pv 1) rfl))) (fun _ _ _ _ _ => (pe_fn h_bit_of (hr.mono (by decide)) (by rfl) (pa_cons (pv 3) pa_nil)))) pa_nil))) 
      (pss_cons (ps_if (pt_cmpR (xo_neP (K := K) hr.units) (pe_fn h_lot_of (hr.mono (by decide)) (by rfl) (pa_cons (pv 0) (pa_cons (pv 2) pa_nil))) (pv 1) (nomark _))
        (pss_one ps_never)
        pss_nil) 
      (pss_one (ps_ret (pv 2))))))), read_P h ?_⟩
  rintro ds d ⟨s, m, ok, hm, rfl, rfl⟩
  have hl : s.nodes.zipIdx.length ≤ 100000 := by have := ok.few; rw [List.length_zipIdx]; omega
  have hl2 : (lotOf s.nodes m).length ≤ 100000 := by
    unfold lotOf
    rw [List.length_map]
    exact Nat.le_trans (List.length_filter_le _ _) hl
  have hall : ((lotOf s.nodes m).map fun n => (true && decide (n ∈ s.nodes))).all id = true := by
    rw [List.all_map]
    refine List.all_eq_true.mpr fun n hn => ?_
    show (true && decide (n ∈ s.nodes)) = true
    rw [decide_eq_true (lot_sub hn)]
    rfl
  refine run_seq (run_no (EdT.is (et_or (et_not (et_B (ed_isi (ed_var rfl) rfl kit_tt))) fun _ => et_not (et_B (ed_cb (ea_cons (ed_lcB0 D.str (fun n => (true && decide (n ∈ s.nodes))) (it_tup (ed_var rfl)) hl2 fun n hn => ⟨_, _, tg_name, by simp,
    ed_andV (ed_isi (ed_var rfl) rfl kit_ss) fun _ => ed_op (ed_var rfl) (ed_S_nodes hc (ed_var rfl)) rv_inF⟩) ea_nil) rc_all))) (by rw [hall]; rfl)) (run_next ?_))
  refine run_seq (run_asg (ed_cb (ea_cons (ed_lcI encZ (fun p => decide (p.1 ∈ lotOf s.nodes m)) (fun p => ((2 ^ p.2 : Nat) : Int)) ((it_enumF (ea_cons (ed_S_nodes hc (ed_var rfl)) ea_nil)).is (pairI_zip s.nodes 0)) hl fun p hp => ⟨_, _, tg_two, by simp,
    et_test (ed_op (ed_var rfl) (ed_var rfl) rv_inT), fun _ => ed_call (ea_cons (ed_var rfl) ea_nil) ⟨p.2, by
      have := (List.getElem?_eq_some_iff.mp (zip_at hp)).1
      have := ok.few
      omega, rfl, rfl⟩⟩) ea_nil) rc_sum) ?_)
  have es : (((s.nodes.zipIdx.filter fun p => decide (p.1 ∈ lotOf s.nodes m)).map fun p => ((2 ^ p.2 : Nat) : Int))).sum = (m : Int) := by
    have := sum_cast ((s.nodes.zipIdx.filter fun p => decide (p.1 ∈ lotOf s.nodes m)).map fun p => 2 ^ p.2)
    rw [sum_lot ok.nd hm, List.map_map] at this
    exact this
  rw [es]
  refine run_seq (run_no (EdT.is (et_test (ed_op (ed_call (ea_cons (ed_var rfl) (ea_cons (ed_var rfl) ea_nil)) ⟨s, m, ok, rfl, rfl⟩) (ed_var rfl) (rv_neT (tupS_of _) (tupS_of _) (by decide)))) (by simp)) (run_next ?_))
  exact run_ret (ed_var rfl) rfl
theorem len_told_mends : ∀ ds d, R_told_mends ds d → ds.length = 1 := fun _ _ ⟨_, h, _⟩ => by rw [h]; rfl
abbrev s_told_mends : Stmt := topS 14
theorem sc_told_mends : FnScope ["mends"] ["mends"] (defScope s_told_mends) := ⟨rfl, rfl, rfl, by decide +kernel, rfl, by decide +kernel, by decide +kernel⟩
set_option maxHeartbeats 16000000 in
theorem ok_told_mends {P : Program} {w : World} {K : PySem.W.Frag} {mg : Str → Option Value} {base : Heap} {c : Cls4} {f : Addr} {fd : FuncData} (B : Blt mg) (hc : ClsOk K c mg)
    (h_is_whole : Fn P w K mg base "is_whole" 1 ["value"] (spP K R_is_whole)) (F : FD K "told_mends" "told_mends" s_told_mends f fd) : FnOk P w K mg base CX0 2 f fd ["mends"] (spP K R_told_mends) := by
  have sc := sc_told_mends
  refine F.ok sc (fun vs H Q E h => len_P (n := 1) len_told_mends h) (fun cdv A outer s H vs Q E hr h => ?_)
  have hu := hu_of hr
  refine ⟨_, PSs.nox ((pss_cons (ps_if (PW.pt (pw_and (pt_cmpR xo_notN (pv 0) pe_non (nomark _)) (pw_and1 (PW.pt (pw_or (pt_not (pt_val (pe_fn h_is_whole (hr.mono (by decide)) (by rfl) (pa_cons (pv 0) pa_nil)))) (pw_or1 (pt_cmpR op_lt (pv 0) pe_int (nomark _))))))))
        (pss_one ps_never)
        pss_nil) 
      (pss_one (ps_ret (pv 0))))), read_P h ?_⟩
  rintro ds d ⟨j, rfl, rfl⟩
  cases j with
  | none =>
    refine run_seq (run_no (EdT.is (et_and (b := false) (et_test (ed_op (ed_var rfl) ed_non rv_notN)) fun h => (by cases h)) rfl) (run_next ?_))
    exact run_ret (ed_var rfl) rfl
  | some n =>
    refine run_seq (run_no (EdT.is (et_and (et_test (ed_op (ed_var rfl) ed_non rv_notN)) fun h => et_or (et_not (et_B (ed_call (ea_cons (ed_var rfl) ea_nil) ⟨_, rfl, rfl⟩))) fun _ => et_test (ed_op (ed_var rfl) (ed_int 0) rv_bl)) ?_) (run_next ?_))
    · have : decide ((n : Int) < 0) = false := decide_eq_false (by omega)
      rw [this]
      rfl
    · exact run_ret (ed_var rfl) rfl
theorem len_told_reader {c : Cls4} : ∀ ds d, R_told_reader c ds d → ds.length = 2 := fun _ _ ⟨_, _, _, _, h, _⟩ => by rw [h]; rfl
abbrev s_told_reader : Stmt := topS 15
theorem sc_told_reader : FnScope ["store", "reader"] ["store", "reader"] (defScope s_told_reader) := ⟨rfl, rfl, rfl, by decide +kernel, rfl, by decide +kernel, by decide +kernel⟩
set_option maxHeartbeats 16000000 in
theorem ok_told_reader {P : Program} {w : World} {K : PySem.W.Frag} {mg : Str → Option Value} {base : Heap} {c : Cls4} {f : Addr} {fd : FuncData} (B : Blt mg) (hc : ClsOk K c mg)
    (h_is_whole : Fn P w K mg base "is_whole" 1 ["value"] (spP K R_is_whole)) (F : FD K "told_reader" "told_reader" s_told_reader f fd) : FnOk P w K mg base CX0 2 f fd ["store", "reader"] (spP K (R_told_reader c)) := by
  have sc := sc_told_reader
  refine F.ok sc (fun vs H Q E h => len_P (n := 2) len_told_reader h) (fun cdv A outer s H vs Q E hr h => ?_)
  have hu := hu_of hr
  refine ⟨_, PSs.nox ((pss_cons (ps_if (PW.pt (pw_or (pt_not (pt_val (pe_fn h_is_whole (hr.mono (by decide)) (by rfl) (pa_cons (pv 1) pa_nil)))) (pw_or (pt_cmpR op_lt (pv 1) pe_int (nomark _)) (pw_or1 (pt_cmpR op_ge (pv 1) (pe_callB (xc_len (K := K)) (by rfl) B.len boot_len (pa_cons (xe_fld (K := K) (pv 0) rfl) pa_nil)) (nomark _))))))
        (pss_one ps_never)
        pss_nil) 
      (pss_one (ps_ret (pv 1))))), read_P h ?_⟩
  rintro ds d ⟨s, r, ok, hr', rfl, rfl⟩
  refine run_seq (run_no (EdT.is (et_or (et_not (et_B (ed_call (ea_cons (ed_var rfl) ea_nil) ⟨_, rfl, rfl⟩))) fun _ => et_or (et_test (ed_op (ed_var rfl) (ed_int 0) rv_bl)) fun _ => et_test (ed_op (ed_var rfl) (ed_cb (ea_cons (ed_S_readers hc (ed_var rfl)) ea_nil) rc_lenT) rv_bl)) ?_) (run_next ?_))
  · have h1 : decide ((r : Int) < 0) = false := decide_eq_false (by omega)
    have h2 : decide ((((s.readers.map encR).length : Nat) : Int) ≤ (r : Int)) = false := decide_eq_false (by rw [List.length_map]; omega)
    rw [h1, h2]
    rfl
  · exact run_ret (ed_var rfl) rfl
theorem len_is_whole : ∀ ds d, R_is_whole ds d → ds.length = 1 := fun _ _ ⟨_, h, _⟩ => by rw [h]; rfl
theorem kit_ii {K : PySem.W.Frag} : PySem.W.kitOne K (.type "int") (.type "int") = some true := kit_ty (by decide +kernel)
theorem kit_ib {K : PySem.W.Frag} : PySem.W.kitOne K (.type "int") (.type "bool") = some false := kit_ty (by decide +kernel)
abbrev s_is_whole : Stmt := topS 7
theorem sc_is_whole : FnScope ["value"] ["value"] (defScope s_is_whole) := ⟨rfl, rfl, rfl, by decide +kernel, rfl, by decide +kernel, by decide +kernel⟩
set_option maxHeartbeats 16000000 in
theorem ok_is_whole {P : Program} {w : World} {K : PySem.W.Frag} {mg : Str → Option Value} {base : Heap} {c : Cls4} {f : Addr} {fd : FuncData} (B : Blt mg) (hc : ClsOk K c mg) (F : FD K "is_whole" "is_whole" s_is_whole f fd) : FnOk P w K mg base CX0 1 f fd ["value"] (spP K R_is_whole) := by
  have sc := sc_is_whole
  refine F.ok sc (fun vs H Q E h => len_P (n := 1) len_is_whole h) (fun cdv A outer s H vs Q E hr h => ?_)
  have hu := hu_of hr
  refine ⟨_, PSs.nox ((pss_one (ps_ret (pe_and (pe_callB (xc_isi (K := K)) (by rfl) B.isinstance boot_isinstance (pa_cons (pv 0) (pa_cons (pe_bltn (v := .ty "int") (by rfl) B.int boot_int rfl) pa_nil))) (pe_one (pe_not (pe_callB (xc_isi (K := K)) (by rfl) B.isinstance boot_isinstance (pa_cons (pv 0) (pa_cons (pe_bltn (v := .ty "bool") (by rfl) B.bool boot_bool rfl) pa_nil))))))))), read_P h ?_⟩
  rintro ds d ⟨i, rfl, rfl⟩
  refine run_ret (ed_andV (ed_isi (ed_var rfl) rfl kit_ii) fun _ => ed_notV (ed_isi (ed_var rfl) rfl kit_ib)) rfl
theorem len_least : ∀ ds d, R_least ds d → ds.length = 2 := fun _ _ ⟨_, _, h, _⟩ => by rw [h]; rfl
abbrev s_least : Stmt := topS 17
theorem sc_least : FnScope ["one", "two"] ["one", "two"] (defScope s_least) := ⟨rfl, rfl, rfl, by decide +kernel, rfl, by decide +kernel, by decide +kernel⟩
set_option maxHeartbeats 16000000 in
theorem ok_least {P : Program} {w : World} {K : PySem.W.Frag} {mg : Str → Option Value} {base : Heap} {c : Cls4} {f : Addr} {fd : FuncData} (B : Blt mg) (hc : ClsOk K c mg) (F : FD K "least" "least" s_least f fd) : FnOk P w K mg base CX0 1 f fd ["one", "two"] (spP K R_least) := by
  have sc := sc_least
  refine F.ok sc (fun vs H Q E h => len_P (n := 2) len_least h) (fun cdv A outer s H vs Q E hr h => ?_)
  have hu := hu_of hr
  refine ⟨_, PSs.nox ((pss_cons (ps_if (PW.pt (pw_or (pt_cmpR xo_isN (pv 0) pe_non (nomark _)) (pw_or1 (pt_cmpR xo_isN (pv 1) pe_non (nomark _)))))
        (pss_one (ps_ret (pe_ifExp (pt_cmpR xo_isN (pv 0) pe_non (nomark _)) (pv 1) (pv 0))))
        pss_nil) 
      (pss_one (ps_ret (pe_callB (xc_min2 rfl) (by rfl) B.min boot_min (pa_cons (pv 0) (pa_cons (pv 1) pa_nil))))))), read_P h ?_⟩
  rintro ds d ⟨a, b, rfl, rfl⟩
  cases a with
  | none =>
    refine run_seq (run_yes (EdT.is (et_or (b := false) (et_test (ed_op (ed_var rfl) ed_non rv_isN)) fun h => (by cases h)) rfl) ?_)
    exact run_ret (ed_if (et_test (ed_op (ed_var rfl) ed_non rv_isN)) (fun _ => ed_var rfl) fun h => (nomatch h)) rfl
  | some a =>
    cases b with
    | none =>
      refine run_seq (run_yes (EdT.is (et_or (et_test (ed_op (ed_var rfl) ed_non rv_isN)) fun h => et_test (ed_op (ed_var rfl) ed_non rv_isN)) rfl) ?_)
      exact run_ret (ed_if (et_test (ed_op (ed_var rfl) ed_non rv_isN)) (fun h => (nomatch h)) fun _ => ed_var rfl) rfl
    | some b =>
      refine run_seq (run_no (EdT.is (et_or (et_test (ed_op (ed_var rfl) ed_non rv_isN)) fun h => et_test (ed_op (ed_var rfl) ed_non rv_isN)) rfl) (run_next ?_))
      exact run_ret (ed_cb (ea_cons (ed_var rfl) (ea_cons (ed_var rfl) ea_nil)) rc_min2) rfl
end Am
namespace Am
open PySem PySem.Spec PyProof.Rows L2
theorem len_outside {c : Cls4} : ∀ ds d, R_outside c ds d → ds.length = 4 := fun _ _ ⟨_, _, _, _, _, _, _, _, h, _⟩ => by rw [h]; rfl
theorem outs_snoc (nodes : List Str) (m : Nat) : ∀ (hs : List Str) (as : List Int) (i : Nat) (h : Str) (a : Int), hs[i]? = some h → as[i]? = some a → hs.length = as.length →
    outs nodes m (hs.take (i + 1)) (as.take (i + 1)) = outs nodes m (hs.take i) (as.take i) + (if m.testBit (nodes.idxOf h) then 0 else a)
  | [], _, _, _, _, h1, _, _ => by simp at h1
  | _ :: _, [], _, _, _, _, h2, _ => by simp at h2
  | x :: hs, y :: as, 0, h, a, h1, h2, _ => by
    simp at h1 h2
    subst h1 h2
    simp [outs]
  | x :: hs, y :: as, i + 1, h, a, h1, h2, hl => by
    have ih := outs_snoc nodes m hs as i h a (by simpa using h1) (by simpa using h2) (by simpa using hl)
    show (if m.testBit (nodes.idxOf x) then 0 else y) + outs nodes m (hs.take (i + 1)) (as.take (i + 1)) = ((if m.testBit (nodes.idxOf x) then 0 else y) + outs nodes m (hs.take i) (as.take i)) + _
    rw [ih]
    omega
theorem zip_get {α β : Type} {as : List α} {bs : List β} {i : Nat} {p : α × β} (h : (as.zip bs)[i]? = some p) : as[i]? = some p.1 ∧ bs[i]? = some p.2 := by
  rw [List.getElem?_zip_eq_some] at h
  exact h
abbrev s_outside : Stmt := topS 16
theorem sc_outside : FnScope ["store", "mask", "helpers", "amounts", "found", "name", "amount"] ["store", "mask", "helpers", "amounts"] (defScope s_outside) := ⟨rfl, rfl, rfl, by decide +kernel, rfl, by decide +kernel, by decide +kernel⟩
set_option maxHeartbeats 16000000 in
theorem ok_outside {P : Program} {w : World} {K : PySem.W.Frag} {mg : Str → Option Value} {base : Heap} {c : Cls4} {f : Addr} {fd : FuncData} (B : Blt mg) (hc : ClsOk K c mg)
    (h_has_bit : Fn P w K mg base "has_bit" 1 ["mask", "k"] (spP K R_has_bit)) (F : FD K "outside" "outside" s_outside f fd) : FnOk P w K mg base CX0 2 f fd ["store", "mask", "helpers", "amounts"] (spP K (R_outside c)) := by
  have sc := sc_outside
  refine F.ok sc (fun vs H Q E h => len_P (n := 4) len_outside h) (fun cdv A outer s H vs Q E hr h => ?_)
  have hu := hu_of hr
  refine ⟨_, PSs.nox ((pss_cons (ps_set (i := 4) sc.nd rfl (Or.inl rfl) pe_int) 
      (pss_cons (ps_for PassesOwn.never rfl (xi_zip (K := K) (by rfl) B.zip (pa_cons (pv 2) (pa_cons (pv 3) pa_nil))) (xg_tup (K := K) (n := 2) rfl (pgs_cons (pg_name (i := 5) sc.nd rfl (Or.inl rfl)) (pgs_cons (pg_name (i := 6) sc.nd rfl (Or.inl rfl)) pgs_nil)))
        (pss_one (ps_if (pt_not (pt_val (pe_fn h_has_bit (hr.mono (by decide)) (by rfl) (pa_cons (pv 1) (pa_cons (xe_tupIndex (xe_fld (K := K) (pv 0) rfl) (pa_cons (pv 5) pa_nil)) pa_nil)))))
          (pss_one (ps_aug (i := 4) sc.nd rfl (Or.inl rfl) (pv 6) ip_add))
          pss_nil))) 
      (pss_one (ps_ret (pv 4)))))), read_P h ?_⟩
  rintro ds d ⟨s, hs, as, m, ok, hn, hl, hl2, rfl, rfl⟩
  refine run_seq (run_asg (ed_int 0) ?_)
  refine run_seq (run_for (items := (hs.zip as).map encSI) ((it_zipT (ea_cons (ed_var rfl) (ea_cons (ed_var rfl) ea_nil)) (by rw [List.length_map, List.length_map, hl])).is (zipD_zip hs as))
    (fun i ρ μ => ∃ x y, ρ = [some (encS c s), some (.int m), some (.tup (sD hs)), some (.tup (iD as)), some (.int (outs s.nodes m (hs.take i) (as.take i))), x, y] ∧ μ = []) ⟨none, none, rfl, rfl⟩ (fun i d ρ1 μ1 hi hI => ?_) fun ρ1 μ1 hI => ?_)
  · obtain ⟨x, y, rfl, rfl⟩ := hI
    rw [List.getElem?_map] at hi
    cases hp : (hs.zip as)[i]? with
    | none => rw [hp] at hi; cases hi
    | some p =>
      rw [hp] at hi
      have hi : encSI p = d := Option.some.inj hi
      subst hi
      obtain ⟨h1, h2⟩ := zip_get hp
      have es := outs_snoc s.nodes m hs as i p.1 p.2 h1 h2 hl
      have hm : p.1 ∈ s.nodes := hn _ (List.mem_of_getElem? h1)
      refine ⟨_, _, tg_two, run_if (et_not (et_B (ed_call (ea_cons (ed_var rfl) (ea_cons (ed_tupIx (ed_S_nodes hc (ed_var rfl)) (ea_cons (ed_var rfl) ea_nil) hm) ea_nil)) ⟨m, _, rfl, rfl⟩))) (fun hb => ?_) fun hb => ?_⟩
      · refine run_aug rfl (ed_var rfl) ⟨some (.str p.1), some (.int p.2), ?_, rfl⟩
        have hb' : m.testBit (s.nodes.idxOf p.1) = false := by simpa using hb
        rw [es, hb']
        rfl
      · refine run_next ⟨some (.str p.1), some (.int p.2), ?_, rfl⟩
        have hb' : m.testBit (s.nodes.idxOf p.1) = true := by simpa using hb
        rw [es, hb', if_pos rfl, Int.add_zero]
        rfl
  · obtain ⟨x, y, rfl, rfl⟩ := hI
    refine run_ret (ed_var rfl) ?_
    rw [List.length_map, List.length_zip, hl, Nat.min_self]
    rw [List.take_of_length_le (Nat.le_of_eq hl), List.take_length]
theorem len_end_price {c : Cls4} : ∀ ds d, R_end_price c ds d → ds.length = 3 := fun _ _ ⟨_, _, _, _, _, _, h, _⟩ => by rw [h]; rfl
/-- what the loop of end_price holds -/
def endK (nodes : List Str) (m : Nat) : Int → List (Str × Option Int) → Option Int
  | acc, [] => some acc
  | acc, (n, l) :: r => if m.testBit (nodes.idxOf n) then endK nodes m acc r else match l with
    | none => none
    | some x => endK nodes m (acc + x) r
theorem endK_eq (nodes : List Str) (m : Nat) : ∀ (r : List (Str × Option Int)) (acc : Int), endK nodes m acc r = (endP nodes m r).map (acc + ·)
  | [], acc => by simp [endK, endP]
  | (n, l) :: r, acc => by
    unfold endK endP
    cases m.testBit (nodes.idxOf n) with
    | true => simpa using endK_eq nodes m r acc
    | false =>
      cases l with
      | none => rfl
      | some x =>
        show endK nodes m (acc + x) r = ((endP nodes m r).map (x + ·)).map (acc + ·)
        rw [endK_eq nodes m r (acc + x), Option.map_map]
        congr 1
        funext z
        show acc + x + z = acc + (x + z)
        omega
theorem atI_ofNat {α : Type} {xs : List α} {i : Nat} {x : α} (h : xs[i]? = some x) : atI xs (i : Int) = some x := atI_nat h
abbrev s_end_price : Stmt := topS 20
theorem sc_end_price : FnScope ["store", "mask", "reader", "found", "name", "limit"] ["store", "mask", "reader"] (defScope s_end_price) := ⟨rfl, rfl, rfl, by decide +kernel, rfl, by decide +kernel, by decide +kernel⟩
set_option maxHeartbeats 16000000 in
theorem ok_end_price {P : Program} {w : World} {K : PySem.W.Frag} {mg : Str → Option Value} {base : Heap} {c : Cls4} {f : Addr} {fd : FuncData} (B : Blt mg) (hc : ClsOk K c mg)
    (h_has_bit : Fn P w K mg base "has_bit" 1 ["mask", "k"] (spP K R_has_bit)) (F : FD K "end_price" "end_price" s_end_price f fd) : FnOk P w K mg base CX0 2 f fd ["store", "mask", "reader"] (spP K (R_end_price c)) := by
  have sc := sc_end_price
  refine F.ok sc (fun vs H Q E h => len_P (n := 3) len_end_price h) (fun cdv A outer s H vs Q E hr h => ?_)
  have hu := hu_of hr
  refine ⟨_, PSs.nox ((pss_cons (ps_set (i := 3) sc.nd rfl (Or.inl rfl) pe_int) 
      (pss_cons (ps_for PassesOwn.never rfl (xi_tup (K := K) (pe_ix (xx_tup (K := K)) (xe_fld (K := K) (pv 0) rfl) (pv 2) (fun _ _ => rfl))) (xg_tup (K := K) (n := 2) rfl (pgs_cons (pg_name (i := 4) sc.nd rfl (Or.inl rfl)) (pgs_cons (pg_name (i := 5) sc.nd rfl (Or.inl rfl)) pgs_nil)))
        (pss_one (ps_if (pt_not (pt_val (pe_fn h_has_bit (hr.mono (by decide)) (by rfl) (pa_cons (pv 1) (pa_cons (xe_tupIndex (xe_fld (K := K) (pv 0) rfl) (pa_cons (pv 4) pa_nil)) pa_nil)))))
          (pss_cons (ps_if (pt_cmpR xo_isN (pv 5) pe_non (nomark _))
            (pss_one (ps_ret pe_non))
            pss_nil) 
          (pss_one (ps_aug (i := 3) sc.nd rfl (Or.inl rfl) (pv 5) ip_add)))
          pss_nil))) 
      (pss_one (ps_ret (pv 3)))))), read_P h ?_⟩
  rintro ds d ⟨s, rd, m, r, ok, hrd, rfl, rfl⟩
  refine run_seq (run_asg (ed_int 0) ?_)
  have hR : (s.readers.map encR)[r]? = some (encR rd) := by rw [List.getElem?_map, hrd]; rfl
  have hmem : rd ∈ s.readers := List.mem_of_getElem? hrd
  refine run_seq (run_for (items := rd.map encI) (it_tup (ed_op (ed_S_readers hc (ed_var rfl)) (ed_var rfl) (rv_ixT (atI_ofNat hR))))
    (fun i ρ μ => ∃ x y, ∃ acc : Int, ρ = [some (encS c s), some (.int m), some (.int r), some (.int acc), x, y] ∧ μ = [] ∧ endP s.nodes m rd = endK s.nodes m acc (rd.drop i)) ⟨none, none, 0, rfl, rfl, by
      rw [endK_eq, List.drop_zero]
      cases endP s.nodes m rd with
      | none => rfl
      | some v => simp⟩ (fun i d ρ1 μ1 hi hI => ?_) fun ρ1 μ1 hI => ?_)
  · obtain ⟨x, y, acc, rfl, rfl, he⟩ := hI
    rw [List.getElem?_map] at hi
    cases hp : rd[i]? with
    | none => rw [hp] at hi; cases hi
    | some p =>
      rw [hp] at hi
      have hi : encI p = d := Option.some.inj hi
      subst hi
      have hm : p.1 ∈ s.nodes := (ok.readers rd hmem p (List.mem_of_getElem? hp)).1
      have hdr : rd.drop i = p :: rd.drop (i + 1) := by
        have hlt := (List.getElem?_eq_some_iff.mp hp).1
        rw [List.drop_eq_getElem_cons hlt]
        have := (List.getElem?_eq_some_iff.mp hp).2
        rw [this]
      rw [hdr] at he
      obtain ⟨n, l⟩ := p
      refine ⟨_, _, tg_two, run_if (et_not (et_B (ed_call (ea_cons (ed_var rfl) (ea_cons (ed_tupIx (ed_S_nodes hc (ed_var rfl)) (ea_cons (ed_var rfl) ea_nil) hm) ea_nil)) ⟨m, _, rfl, rfl⟩))) (fun hb => ?_) fun hb => ?_⟩
      · have hb' : m.testBit (s.nodes.idxOf n) = false := by simpa using hb
        unfold endK at he
        rw [hb'] at he
        cases l with
        | none =>
          refine run_seq (run_yes (et_test (ed_op (ed_var rfl) ed_non rv_isN)) (run_ret ed_non ?_))
          rw [he]
          rfl
        | some x =>
          refine run_seq (run_no (et_test (ed_op (ed_var rfl) ed_non rv_isN)) (run_next ?_))
          exact run_aug rfl (ed_var rfl) ⟨some (.str n), some (.int x), acc + x, rfl, rfl, he⟩
      · have hb' : m.testBit (s.nodes.idxOf n) = true := by simpa using hb
        unfold endK at he
        rw [hb', if_pos rfl] at he
        exact run_next ⟨some (.str n), some (optI l), acc, rfl, rfl, he⟩
  · obtain ⟨x, y, acc, rfl, rfl, he⟩ := hI
    rw [List.length_map, List.drop_length] at he
    refine run_ret (ed_var rfl) ?_
    rw [he]
    rfl
theorem len_pair_price : ∀ ds d, R_pair_price ds d → ds.length = 4 := fun _ _ ⟨_, _, _, _, _, _, _, h, _⟩ => by rw [h]; rfl
def bools : List Bool := [false, true]
def encIB (p : Int × Bool) : D := .tup [.int p.1, .bl p.2]
theorem sum2 (l0 l1 : Int) (k0 k1 : Bool) : ((([(l0, k0), (l1, k1)] : List (Int × Bool)).filter (·.2)).map (·.1)).sum = (if k0 then l0 else 0) + (if k1 then l1 else 0) := by
  cases k0 <;> cases k1 <;> simp
def ppB (r0 r1 l0 l1 s : Int) (t0 t1 k0 : Bool) (b : Option Int) (ks : List Bool) : Option Int := ks.foldl (fun b k1 => least b (some (pp1 r0 r1 l0 l1 s t0 t1 k0 k1))) b
def ppC (r0 r1 l0 l1 s : Int) (t0 t1 : Bool) (ks : List Bool) : Option Int := ks.foldl (fun b k0 => ppB r0 r1 l0 l1 s t0 t1 k0 b bools) none
theorem ppC_eq (r0 r1 l0 l1 s : Int) (t0 t1 : Bool) : ppC r0 r1 l0 l1 s t0 t1 bools = ppO r0 r1 l0 l1 s t0 t1 := rfl
theorem foldl_take {α β : Type} (f : β → α → β) (b : β) (l : List α) (i : Nat) (x : α) (h : l[i]? = some x) : (l.take (i + 1)).foldl f b = f ((l.take i).foldl f b) x := by
  rw [List.take_add_one, h, List.foldl_append]
  rfl
abbrev s_pair_price : Stmt := topS 18
theorem sc_pair_price : FnScope ["rooms", "loads", "swap", "taken", "best", "first", "second", "known", "price", "k", "own", "load", "is_known"] ["rooms", "loads", "swap", "taken"] (defScope s_pair_price) := ⟨rfl, rfl, rfl, by decide +kernel, rfl, by decide +kernel, by decide +kernel⟩
set_option maxHeartbeats 16000000 in
theorem ok_pair_price {P : Program} {w : World} {K : PySem.W.Frag} {mg : Str → Option Value} {base : Heap} {c : Cls4} {f : Addr} {fd : FuncData} (B : Blt mg) (hc : ClsOk K c mg)
    (h_least : Fn P w K mg base "least" 1 ["one", "two"] (spP K R_least)) (F : FD K "pair_price" "pair_price" s_pair_price f fd) : FnOk P w K mg base CX0 2 f fd ["rooms", "loads", "swap", "taken"] (spP K R_pair_price) := by
  have sc := sc_pair_price
  refine F.ok sc (fun vs H Q E h => len_P (n := 4) len_pair_price h) (fun cdv A outer s H vs Q E hr h => ?_)
  have hu := hu_of hr
  refine ⟨_, PSs.nox ((pss_cons (ps_set (i := 4) sc.nd rfl (Or.inl rfl) pe_non) 
      (pss_cons (ps_for PassesOwn.never rfl (xi_tup (K := K) (pe_tup (pa_cons pe_bl (pa_cons pe_bl pa_nil)))) (pg_name (i := 5) sc.nd rfl (Or.inl rfl))
        (pss_one (ps_for PassesOwn.never rfl (xi_tup (K := K) (pe_tup (pa_cons pe_bl (pa_cons pe_bl pa_nil)))) (pg_name (i := 6) sc.nd rfl (Or.inl rfl))
          (pss_cons (ps_set (i := 7) sc.nd rfl (Or.inl rfl) (pe_tup (pa_cons (pv 5) (pa_cons (pv 6) pa_nil)))) 
          (pss_cons (ps_set (i := 8) sc.nd rfl (Or.inl rfl) (pe_callB (xc_sum (K := K) rfl) (by rfl) B.sum boot_sum (pa_cons (pe_lc (own := [("load", 11), ("is_known", 12)]) rfl sc.nd (xi_zipLT (K := K) (by rfl) B.zip (pa_cons (pv 1) (pa_cons (pv 7) pa_nil))) (blkOk_by (own := [("load", 11), ("is_known", 12)]) (N := ["rooms", "loads", "swap", "taken", "best", "first", "second", "known", "price", "k", "own", "load", "is_known"]) (sc := defScope s_pair_price) (by decide +kernel)) (fun _ _ _ _ _ => (xg_tup (K := K) (n := 2) rfl (pgs_cons (pg_name (i := 11) sc.nd rfl (Or.inl rfl)) (pgs_cons (pg_name (i := 12) sc.nd rfl (Or.inl rfl)) pgs_nil)))) (fun _ _ _ _ _ => (pts_one (pt_val (pv 12)))) (fun _ _ _ _ _ => (pv 11))) pa_nil))) 
          (pss_cons (ps_for PassesOwn.never rfl (pi_range1 (by rfl) B.range (pa_cons pe_int pa_nil)) (pg_name (i := 9) sc.nd rfl (Or.inl rfl))
            (pss_one (ps_if (pt_val (pe_ix (xx_tup (K := K)) (pv 3) (pv 9) (fun _ _ => rfl)))
              (pss_cons (ps_set (i := 10) sc.nd rfl (Or.inl rfl) (pe_ifExp (pt_val (pe_ix (xx_tup (K := K)) (pv 7) (pe_op op_sub pe_int (pv 9)) (fun _ _ => rfl))) pe_int (pv 2))) 
              (pss_one (ps_aug (i := 8) sc.nd rfl (Or.inl rfl) (pe_ifExp (pt_val (pe_ix (xx_tup (K := K)) (pv 7) (pv 9) (fun _ _ => rfl))) (pe_callB (xc_min2 rfl) (by rfl) B.min boot_min (pa_cons (pe_ix (xx_list (K := K)) (pv 0) (pv 9) (fun _ _ => rfl)) (pa_cons (pv 10) pa_nil))) (pe_ix (xx_list (K := K)) (pv 0) (pv 9) (fun _ _ => rfl))) ip_add)))
              pss_nil))) 
          (pss_one (ps_set (i := 4) sc.nd rfl (Or.inl rfl) (pe_fn h_least (hr.mono (by decide)) (by rfl) (pa_cons (pv 4) (pa_cons (pv 8) pa_nil))))))))))) 
      (pss_one (ps_ret (pv 4)))))), read_P h ?_⟩
  rintro ds d ⟨r0, r1, l0, l1, s, t0, t1, rfl, rfl⟩
  refine run_seq (run_asg ed_non ?_)
  refine run_seq (run_for (items := bools.map D.bl) (it_tup (ed_tup (ea_cons (ed_bl _) (ea_cons (ed_bl _) ea_nil)) (by decide)))
    (fun i ρ μ => ∃ x5 x6 x7 x8 x9 x10 x11 x12, ρ = [some (.lst [.int r0, .int r1]), some (.lst [.int l0, .int l1]), some (.int s), some (.tup [.bl t0, .bl t1]), some (optI (ppC r0 r1 l0 l1 s t0 t1 (bools.take i))), x5, x6, x7, x8, x9, x10, x11, x12] ∧ μ = [])
    ⟨_, _, _, _, _, _, _, _, rfl, rfl⟩ (fun i d ρ1 μ1 hi hI => ?_) fun ρ1 μ1 hI => ?_)
  · obtain ⟨x5, x6, x7, x8, x9, x10, x11, x12, rfl, rfl⟩ := hI
    rw [List.getElem?_map] at hi
    obtain ⟨k0, hk0, rfl⟩ := Option.map_eq_some_iff.mp hi
    refine ⟨_, _, tg_name, ?_⟩
    refine run_for (items := bools.map D.bl) (it_tup (ed_tup (ea_cons (ed_bl _) (ea_cons (ed_bl _) ea_nil)) (by decide)))
      (fun j ρ μ => ∃ x6 x7 x8 x9 x10 x11 x12, ρ = [some (.lst [.int r0, .int r1]), some (.lst [.int l0, .int l1]), some (.int s), some (.tup [.bl t0, .bl t1]), some (optI (ppB r0 r1 l0 l1 s t0 t1 k0 (ppC r0 r1 l0 l1 s t0 t1 (bools.take i)) (bools.take j))), some (.bl k0), x6, x7, x8, x9, x10, x11, x12] ∧ μ = [])
      ⟨_, _, _, _, _, _, _, rfl, rfl⟩ (fun j d ρ1 μ1 hj hI => ?_) fun ρ1 μ1 hI => ?_
    · obtain ⟨x6, x7, x8, x9, x10, x11, x12, rfl, rfl⟩ := hI
      rw [List.getElem?_map] at hj
      obtain ⟨k1, hk1, rfl⟩ := Option.map_eq_some_iff.mp hj
      refine ⟨_, _, tg_name, ?_⟩
      refine run_seq (run_asg (ed_tup (ea_cons (ed_var rfl) (ea_cons (ed_var rfl) ea_nil)) (by decide : 2 ≤ 100000)) ?_)
      refine run_seq (run_asg (ed_cb (ea_cons (ed_lcI (items := [(l0, k0), (l1, k1)]) encIB (·.2) (·.1) ((it_zipLT (as := [.int l0, .int l1]) (bs := [.bl k0, .bl k1]) (ea_cons (ed_var rfl) (ea_cons (ed_var rfl) ea_nil)) rfl).is rfl) (by decide : 2 ≤ 100000) fun p hp => ⟨_, _, tg_two, by simp,
        et_B (ed_var rfl), fun _ => ed_var rfl⟩) ea_nil) rc_sum) ?_)
      rw [sum2]
      generalize hb : ppB r0 r1 l0 l1 s t0 t1 k0 (ppC r0 r1 l0 l1 s t0 t1 (bools.take i)) (bools.take j) = bst
      have hfin : ppB r0 r1 l0 l1 s t0 t1 k0 (ppC r0 r1 l0 l1 s t0 t1 (bools.take i)) (bools.take (j + 1)) = least bst (some (pp1 r0 r1 l0 l1 s t0 t1 k0 k1)) := by
        rw [← hb]
        exact foldl_take _ _ _ _ _ hk1
      rw [hfin]
      refine run_seq (Run.imp (Φ' := { nx := fun ρ μ => ∃ x9 x10 x7 z, ρ = [some (.lst [.int r0, .int r1]), some (.lst [.int l0, .int l1]), some (.int s), some (.tup [.bl t0, .bl t1]), some (optI bst), some (.bl k0), some (.bl k1), x7, some (.int z), x9, x10, x11, x12] ∧ z = pp1 r0 r1 l0 l1 s t0 t1 k0 k1 ∧ μ = [] })
        (run_forU (it_rng1 (ea_cons (ed_int 2) ea_nil) (by decide) (by decide)) ?_) ?_ (fun _ _ h => h.elim) (fun _ _ h => h.elim) (fun _ _ h => h.elim))
      · cases t0 <;> cases t1 <;> cases k0 <;> cases k1 <;> (
          refine ⟨_, _, tg_name, ?_⟩
          first
            | refine run_no (et_B (ed_op (ed_var rfl) (ed_var rfl) (rv_ixT rfl))) (run_next ?_)
            | refine run_yes (et_B (ed_op (ed_var rfl) (ed_var rfl) (rv_ixT rfl))) (run_seq (run_asg (d := .int _) (by first
                | exact ed_if (b := true) (et_B (ed_op (ed_var rfl) (ed_op (ed_int 1) (ed_var rfl) rv_int) (rv_ixT rfl))) (fun _ => ed_int 0) (fun h => Bool.noConfusion h)
                | exact ed_if (b := false) (et_B (ed_op (ed_var rfl) (ed_op (ed_int 1) (ed_var rfl) rv_int) (rv_ixT rfl))) (fun h => Bool.noConfusion h) (fun _ => ed_var rfl)) (run_aug rfl (b := _) (by first
                | exact ed_if (b := true) (et_B (ed_op (ed_var rfl) (ed_var rfl) (rv_ixT rfl))) (fun _ => ed_cb (ea_cons (ed_op (ed_var rfl) (ed_var rfl) (rv_ixL rfl)) (ea_cons (ed_var rfl) ea_nil)) rc_min2) (fun h => Bool.noConfusion h)
                | exact ed_if (b := false) (et_B (ed_op (ed_var rfl) (ed_var rfl) (rv_ixT rfl))) (fun h => Bool.noConfusion h) (fun _ => ed_op (ed_var rfl) (ed_var rfl) (rv_ixL rfl))) ?_)))
          refine ⟨_, _, tg_name, ?_⟩
          first
            | refine run_no (et_B (ed_op (ed_var rfl) (ed_var rfl) (rv_ixT rfl))) (run_next ?_)
            | refine run_yes (et_B (ed_op (ed_var rfl) (ed_var rfl) (rv_ixT rfl))) (run_seq (run_asg (d := .int _) (by first
                | exact ed_if (b := true) (et_B (ed_op (ed_var rfl) (ed_op (ed_int 1) (ed_var rfl) rv_int) (rv_ixT rfl))) (fun _ => ed_int 0) (fun h => Bool.noConfusion h)
                | exact ed_if (b := false) (et_B (ed_op (ed_var rfl) (ed_op (ed_int 1) (ed_var rfl) rv_int) (rv_ixT rfl))) (fun h => Bool.noConfusion h) (fun _ => ed_var rfl)) (run_aug rfl (b := _) (by first
                | exact ed_if (b := true) (et_B (ed_op (ed_var rfl) (ed_var rfl) (rv_ixT rfl))) (fun _ => ed_cb (ea_cons (ed_op (ed_var rfl) (ed_var rfl) (rv_ixL rfl)) (ea_cons (ed_var rfl) ea_nil)) rc_min2) (fun h => Bool.noConfusion h)
                | exact ed_if (b := false) (et_B (ed_op (ed_var rfl) (ed_var rfl) (rv_ixT rfl))) (fun h => Bool.noConfusion h) (fun _ => ed_op (ed_var rfl) (ed_var rfl) (rv_ixL rfl))) ?_)))
          refine ⟨_, _, _, _, rfl, ?_, rfl⟩
          simp [pp1])
      · rintro ρ' μ' ⟨x9, x10, x7, _, rfl, rfl, rfl⟩
        refine run_asg (ed_call (ea_cons (ed_var rfl) (ea_cons (ed_var rfl) ea_nil)) ⟨bst, some _, rfl, rfl⟩) ⟨_, _, _, _, _, _, _, rfl, rfl⟩
    · obtain ⟨x6, x7, x8, x9, x10, x11, x12, rfl, rfl⟩ := hI
      have e : ppC r0 r1 l0 l1 s t0 t1 (bools.take (i + 1)) = ppB r0 r1 l0 l1 s t0 t1 k0 (ppC r0 r1 l0 l1 s t0 t1 (bools.take i)) bools := foldl_take _ _ _ _ _ hk0
      rw [e]
      exact ⟨_, _, _, _, _, _, _, _, rfl, rfl⟩
  · obtain ⟨x5, x6, x7, x8, x9, x10, x11, x12, rfl, rfl⟩ := hI
    refine run_ret (ed_var rfl) ?_
    rw [List.length_map, List.take_length, ppC_eq]
end Am
namespace Am
open PySem PySem.Spec PyProof.Rows L2
theorem bit_clr (m b : Nat) : Builtin.bitAnd (m : Int) (Builtin.bitNot (b : Int)) = ((clr m b : Nat) : Int) := by
  have h1 : decide ((0 : Int) ≤ (m : Int)) = true := decide_eq_true (by omega)
  have h2 : decide ((0 : Int) ≤ Builtin.bitNot (b : Int)) = false := decide_eq_false (by unfold Builtin.bitNot; omega)
  unfold Builtin.bitAnd
  rw [h1, h2]
  show (m : Int) - ((m : Int).toNat &&& (Builtin.bitNot (Builtin.bitNot (b : Int))).toNat : Nat) = _
  have e : Builtin.bitNot (Builtin.bitNot (b : Int)) = (b : Int) := by unfold Builtin.bitNot; omega
  rw [e, Int.toNat_natCast, Int.toNat_natCast]
  unfold clr
  have : m &&& b ≤ m := Nat.and_le_left
  omega
theorem bit_or (m b : Nat) : Builtin.bitOr (m : Int) (b : Int) = ((m ||| b : Nat) : Int) := by
  rw [Bits.bitOr_pp (by omega) (by omega), Int.toNat_natCast, Int.toNat_natCast]
theorem least_some (a : Option Int) (x : Int) : ∃ v, least a (some x) = some v := by
  cases a with
  | none => exact ⟨x, rfl⟩
  | some a => exact ⟨_, rfl⟩
theorem ppO_some (r0 r1 l0 l1 s : Int) (t0 t1 : Bool) : optI (ppO r0 r1 l0 l1 s t0 t1) = .int ((ppO r0 r1 l0 l1 s t0 t1).getD 0) := by
  obtain ⟨v, h⟩ := least_some (least (least (least none (some (pp1 r0 r1 l0 l1 s t0 t1 false false))) (some (pp1 r0 r1 l0 l1 s t0 t1 false true))) (some (pp1 r0 r1 l0 l1 s t0 t1 true false))) (pp1 r0 r1 l0 l1 s t0 t1 true true)
  have e : ppO r0 r1 l0 l1 s t0 t1 = some v := h
  rw [e]
  rfl
theorem room_at {s : Sto} (ok : Okay s) {n : Str} (h : n ∈ s.nodes) : atI (iD s.rooms) ((s.nodes.idxOf n : Nat) : Int) = some (.int (roomOf s n)) := by
  have hi := List.idxOf_lt_length_iff.mpr h
  have hr : s.nodes.idxOf n < s.rooms.length := by rw [ok.rl]; exact hi
  refine atI_ofNat ?_
  rw [List.getElem?_map, List.getElem?_eq_getElem hr]
  unfold roomOf
  rw [List.getD_eq_getElem?_getD, List.getElem?_eq_getElem hr]
  rfl
def encBB (t : Bool × Bool) : D := .tup [.bl t.1, .bl t.2]
def taken3 : List (Bool × Bool) := [(true, false), (false, true), (true, true)]
def stepT (s : Sto) (mask : Nat) (u v : Str) (h1 h2 : List Str) (a1 a2 : List Int) (sw : Int) (t : Bool × Bool) : Stp :=
  ((ppO (roomOf s u) (roomOf s v) (outs s.nodes mask h1 a1) (outs s.nodes mask h2 a2) sw t.1 t.2).getD 0, s.nodes.filter (fun n => if n = u then t.1 else if n = v then t.2 else false), clr mask (maskOf s.nodes [u, v]) ||| maskOf s.nodes (s.nodes.filter fun n => if n = u then t.1 else if n = v then t.2 else false))
theorem stepsM_two (s : Sto) (mask : Nat) (l u v : Str) (h1 h2 : List Str) (a1 a2 : List Int) (sw : Int) : stepsM s mask (.two l u v h1 h2 a1 a2 sw) = (0, [], clr mask (maskOf s.nodes [u, v])) :: taken3.map (stepT s mask u v h1 h2 a1 a2 sw) := rfl
theorem len_steps_from {c : Cls4} : ∀ ds d, R_steps_from c ds d → ds.length = 3 := fun _ _ ⟨_, _, _, _, _, h, _⟩ => by rw [h]; rfl
theorem ix_two {u v n : Str} {t : Bool × Bool} (h : n ∈ [u, v]) : atI [D.bl t.1, .bl t.2] (([u, v].idxOf n : Nat) : Int) = some (.bl (if n = u then t.1 else if n = v then t.2 else false)) := by
  by_cases e : n = u
  · subst e
    rw [if_pos rfl, List.idxOf_cons_self]
    rfl
  · have e2 : n = v := by
      rcases List.mem_cons.mp h with z | z
      · exact absurd z e
      · simpa using z
    subst e2
    have : [u, n].idxOf n = 1 := by
      have hb : (u == n) = false := beq_eq_false_iff_ne.mpr fun z => e z.symm
      simp [List.idxOf_cons, hb]
    rw [if_neg e, if_pos rfl, this]
    rfl
abbrev s_steps_from : Stmt := topS 19
theorem sc_steps_from : FnScope ["store", "mask", "mend", "rooms", "bare", "load", "loads", "found", "taken", "names", "name", "amounts"] ["store", "mask", "mend"] (defScope s_steps_from) := ⟨rfl, rfl, rfl, by decide +kernel, rfl, by decide +kernel, by decide +kernel⟩
set_option maxHeartbeats 16000000 in
theorem ok_steps_from {P : Program} {w : World} {K : PySem.W.Frag} {mg : Str → Option Value} {base : Heap} {c : Cls4} {f : Addr} {fd : FuncData} (B : Blt mg) (hc : ClsOk K c mg)
    (h_mask_of : Fn P w K mg base "mask_of" 2 ["store", "names"] (spP K (R_mask_of c)))
    (h_outside : Fn P w K mg base "outside" 2 ["store", "mask", "helpers", "amounts"] (spP K (R_outside c)))
    (h_pair_price : Fn P w K mg base "pair_price" 2 ["rooms", "loads", "swap", "taken"] (spP K R_pair_price)) (F : FD K "steps_from" "steps_from" s_steps_from f fd) : FnOk P w K mg base CX0 3 f fd ["store", "mask", "mend"] (spP K (R_steps_from c)) := by
  have sc := sc_steps_from
  refine F.ok sc (fun vs H Q E h => len_P (n := 3) len_steps_from h) (fun cdv A outer s H vs Q E hr h => ?_)
  have hu := hu_of hr
  refine ⟨_, PSs.nox ((pss_cons (ps_setLc (i := 3) (own := [("name", 10)]) rfl sc.nd rfl rfl (sw_true rfl rfl rfl (by decide +kernel)) (xi_tup (K := K) (xe_fld (K := K) (pv 2) rfl)) (blkOk_by (own := [("name", 10)]) (N := ["store", "mask", "mend", "rooms", "bare", "load", "loads", "found", "taken", "names", "name", "amounts"]) (sc := defScope s_steps_from) (by decide +kernel)) (fun _ _ _ _ _ => (pg_name (i := 10) sc.nd rfl (Or.inl rfl))) (fun _ _ _ _ _ => pts_nil) (fun _ _ _ _ _ => (pe_ix (xx_tup (K := K)) (xe_fld (K := K) (pv 0) rfl) (xe_tupIndex (xe_fld (K := K) (pv 0) rfl) (pa_cons (pv 10) pa_nil)) (fun _ _ => rfl)))) 
      (pss_cons (ps_set (i := 4) sc.nd rfl (Or.inl rfl) (pe_op op_and (pv 1) (pe_un un_inv (pe_fn h_mask_of (hr.mono (by decide)) (by rfl) (pa_cons (pv 0) (pa_cons (xe_fld (K := K) (pv 2) rfl) pa_nil)))))) 
      (pss_cons (ps_if (pt_cmpR op_eq (xe_fld (K := K) (pv 2) rfl) pe_str (nomark _))
        (pss_cons (ps_set (i := 5) sc.nd rfl (Or.inl rfl) (pe_fn h_outside (hr.mono (by decide)) (by rfl) (pa_cons (pv 0) (pa_cons (pv 1) (pa_cons (xe_fld (K := K) (pv 2) rfl) (pa_cons (xe_fld (K := K) (pv 2) rfl) pa_nil)))))) 
        (pss_one (ps_ret (pe_lst (pa_cons (pe_tup (pa_cons pe_int (pa_cons (pe_tup pa_nil) (pa_cons (pv 4) pa_nil)))) (pa_cons (pe_tup (pa_cons (pe_callB (xc_min2 rfl) (by rfl) B.min boot_min (pa_cons (pe_ix (xx_list (K := K)) (pv 3) pe_int (fun _ _ => rfl)) (pa_cons (pv 5) pa_nil))) (pa_cons (xe_fld (K := K) (pv 2) rfl) (pa_cons (pe_op op_or (pv 4) (pe_fn h_mask_of (hr.mono (by decide)) (by rfl) (pa_cons (pv 0) (pa_cons (xe_fld (K := K) (pv 2) rfl) pa_nil)))) pa_nil)))) pa_nil))))))
        pss_nil) 
      (pss_cons (ps_setLc (i := 6) (own := [("names", 9), ("amounts", 11)]) rfl sc.nd rfl rfl (sw_true rfl rfl rfl (by decide +kernel)) (xi_zip (K := K) (by rfl) B.zip (pa_cons (xe_fld (K := K) (pv 2) rfl) (pa_cons (xe_fld (K := K) (pv 2) rfl) pa_nil))) (blkOk_by (own := [("names", 9), ("amounts", 11)]) (N := ["store", "mask", "mend", "rooms", "bare", "load", "loads", "found", "taken", "names", "name", "amounts"]) (sc := defScope s_steps_from) (by decide +kernel)) (fun _ _ _ _ _ => (xg_tup (K := K) (n := 2) rfl (pgs_cons (pg_name (i := 9) sc.nd rfl (Or.inl rfl)) (pgs_cons (pg_name (i := 11) sc.nd rfl (Or.inl rfl)) pgs_nil)))) (fun _ _ _ _ _ => pts_nil) (fun _ _ _ _ _ => (pe_fn h_outside (hr.mono (by decide)) (by rfl) (pa_cons (pv 0) (pa_cons (pv 1) (pa_cons (pv 9) (pa_cons (pv 11) pa_nil))))))) 
      (pss_cons (ps_set (i := 7) sc.nd rfl (Or.inl rfl) (pe_lst (pa_cons (pe_tup (pa_cons pe_int (pa_cons (pe_tup pa_nil) (pa_cons (pv 4) pa_nil)))) pa_nil))) 
      (pss_cons (ps_for PassesOwn.never rfl (xi_tup (K := K) (pe_tup (pa_cons (pe_tup (pa_cons pe_bl (pa_cons pe_bl pa_nil))) (pa_cons (pe_tup (pa_cons pe_bl (pa_cons pe_bl pa_nil))) (pa_cons (pe_tup (pa_cons pe_bl (pa_cons pe_bl pa_nil))) pa_nil))))) (pg_name (i := 8) sc.nd rfl (Or.inr rfl))
        (pss_cons (ps_set (i := 9) sc.nd rfl (Or.inl rfl) (pe_callTy (xc_tuple (K := K)) (by rfl) B.tuple boot_tuple (pa_cons (pe_lc (own := [("name", 10)]) rfl sc.nd (xi_tup (K := K) (xe_fld (K := K) (pv 0) rfl)) (blkOk_by (own := [("name", 10)]) (N := ["store", "mask", "mend", "rooms", "bare", "load", "loads", "found", "taken", "names", "name", "amounts"]) (sc := defScope s_steps_from) (by decide +kernel)) (fun _ _ _ _ _ => (pg_name (i := 10) sc.nd rfl (Or.inl rfl))) (fun _ _ _ _ _ => (pts_one (PW.pt (pw_and (pt_cmpR (xo_in (K := K)) (pv 10) (xe_fld (K := K) (pv 2) rfl) rfl) (pw_and1 (pt_val (pe_ix (xx_tup (K := K)) (pv 8) (xe_tupIndex (xe_fld (K := K) (pv 2) rfl) (pa_cons (pv 10) pa_nil)) (fun _ _ => rfl)))))))) (fun _ _ _ _ _ => (pv 10))) pa_nil))) 
        (pss_one (ps_expr (xe_bm (K := K) PySem.F.plainAttrs_list PySem.F.slot_list_append PySem.F.type_list_append mt_append (pv 7) (pa_cons (pe_tup (pa_cons (pe_fn h_pair_price (hr.mono (by decide)) (by rfl) (pa_cons (pv 3) (pa_cons (pv 6) (pa_cons (xe_fld (K := K) (pv 2) rfl) (pa_cons (pv 8) pa_nil))))) (pa_cons (pv 9) (pa_cons (pe_op op_or (pv 4) (pe_fn h_mask_of (hr.mono (by decide)) (by rfl) (pa_cons (pv 0) (pa_cons (pv 9) pa_nil)))) pa_nil)))) pa_nil)))))) 
      (pss_one (ps_ret (pv 7)))))))))), read_P h ?_⟩
  rintro ds d ⟨s, md, m, ok, mok, rfl, rfl⟩
  have few := ok.few
  cases md with
  | one l v hs as =>
    obtain ⟨hv, hhs, hlen, hl7, _⟩ := mok.one l v hs as rfl
    have hvv : ∀ n ∈ ([v] : List Str), n ∈ s.nodes := by simpa using hv
    refine run_seq (run_asg (ed_lcI0 (items := [v]) D.str (fun n => roomOf s n) (it_tup (ed_M_nodes1 hc (ed_var rfl))) (by decide : 1 ≤ 100000) fun n hn => ⟨_, _, tg_name, by simp,
      ed_op (ed_S_rooms hc (ed_var rfl)) (ed_tupIx (ed_S_nodes hc (ed_var rfl)) (ea_cons (ed_var rfl) ea_nil) (hvv n hn)) (rv_ixT (room_at ok (hvv n hn)))⟩) ?_)
    refine run_seq (run_asg (EvD.is (ed_op (ed_var rfl) (ed_un (ed_call (ea_cons (ed_var rfl) (ea_cons (ed_M_nodes1 hc (ed_var rfl)) ea_nil)) ⟨s, [v], ok, hvv, (show 1 ≤ 20 by decide), .inl rfl, rfl⟩) (z := .int (Builtin.bitNot (maskOf s.nodes [v] : Nat))) (fun G H u sm ru Q q => by cases ru; exact ⟨_, rfl, q _ _ _ (Go.refl sm) (.int _)⟩)) rv_int) (y := .int (clr m (maskOf s.nodes [v]) : Nat)) (by rw [bit_clr])) ?_)
    refine run_seq (run_yes (EdT.is (et_test (ed_op (ed_M_kind hc (ed_var rfl)) (ed_str _) (rv_eq rfl rfl rfl))) rfl) ?_)
    refine run_seq (run_asg (ed_call (ea_cons (ed_var rfl) (ea_cons (ed_var rfl) (ea_cons (ed_M_helpers1 hc (ed_var rfl)) (ea_cons (ed_M_amounts1 hc (ed_var rfl)) ea_nil)))) ⟨s, hs, as, m, ok, hhs, hlen, by omega, rfl, rfl⟩) ?_)
    refine run_ret (ed_lst (ea_cons (ed_tup (ea_cons (ed_int 0) (ea_cons (ed_tup ea_nil (by decide : 0 ≤ 100000)) (ea_cons (ed_var rfl) ea_nil))) (by decide : 3 ≤ 100000)) (ea_cons (ed_tup (ea_cons (ed_cb (ea_cons (ed_op (ed_var rfl) (ed_int 0) (rv_ixL rfl)) (ea_cons (ed_var rfl) ea_nil)) rc_min2)
      (ea_cons (ed_M_nodes1 hc (ed_var rfl)) (ea_cons (EvD.is (ed_op (ed_var rfl) (ed_call (ea_cons (ed_var rfl) (ea_cons (ed_M_nodes1 hc (ed_var rfl)) ea_nil)) ⟨s, [v], ok, hvv, (show 1 ≤ 20 by decide), .inl rfl, rfl⟩) rv_int) (y := .int ((clr m (maskOf s.nodes [v]) ||| maskOf s.nodes [v] : Nat) : Int)) (by rw [bit_or])) ea_nil))) (by decide : 3 ≤ 100000)) ea_nil)) (by decide : 2 ≤ 100000)) ?_
    rfl
  | two l u v h1 h2 a1 a2 sw =>
    obtain ⟨hu', hv, huv, hh1, hh2, e1, e2, l1, l2, _, _, _⟩ := mok.two l u v h1 h2 a1 a2 sw rfl
    have hvv : ∀ n ∈ ([u, v] : List Str), n ∈ s.nodes := by simp; exact ⟨hu', hv⟩
    refine run_seq (run_asg (ed_lcI0 (items := [u, v]) D.str (fun n => roomOf s n) (it_tupF (ed_M_nodes2 hc (ed_var rfl))) (by decide : 2 ≤ 100000) fun n hn => ⟨_, _, tg_name, by simp,
      ed_op (ed_S_rooms hc (ed_var rfl)) (ed_tupIx (ed_S_nodes hc (ed_var rfl)) (ea_cons (ed_var rfl) ea_nil) (hvv n hn)) (rv_ixT (room_at ok (hvv n hn)))⟩) ?_)
    refine run_seq (run_asg (EvD.is (ed_op (ed_var rfl) (ed_un (ed_call (ea_cons (ed_var rfl) (ea_cons (ed_M_nodes2 hc (ed_var rfl)) ea_nil)) ⟨s, [u, v], ok, hvv, (show 2 ≤ 20 by decide), .inr rfl, rfl⟩) (z := .int (Builtin.bitNot (maskOf s.nodes [u, v] : Nat))) (fun G H u sm ru Q q => by cases ru; exact ⟨_, rfl, q _ _ _ (Go.refl sm) (.int _)⟩)) rv_int) (y := .int (clr m (maskOf s.nodes [u, v]) : Nat)) (by rw [bit_clr])) ?_)
    refine run_seq (run_no (EdT.is (et_test (ed_op (ed_M_kind hc (ed_var rfl)) (ed_str _) (rv_eq rfl rfl rfl))) rfl) (run_next ?_))
    refine run_seq (run_asg (ed_lcI0 (items := [(h1, a1), (h2, a2)]) (fun p => D.tup [.tup (sD p.1), .tup (iD p.2)]) (fun p => outs s.nodes m p.1 p.2) (it_zipT (ea_cons (ed_M_helpers2 hc (ed_var rfl)) (ea_cons (ed_M_amounts2 hc (ed_var rfl)) ea_nil)) rfl) (by decide : 2 ≤ 100000) fun p hp => ⟨_, _, tg_two, by simp,
      ed_call (ea_cons (ed_var rfl) (ea_cons (ed_var rfl) (ea_cons (ed_var rfl) (ea_cons (ed_var rfl) ea_nil)))) ⟨s, p.1, p.2, m, ok, by
        rcases List.mem_cons.mp hp with rfl | hp
        · exact hh1
        · simp at hp; subst hp; exact hh2, by
        rcases List.mem_cons.mp hp with rfl | hp
        · exact e1
        · simp at hp; subst hp; exact e2, by
        rcases List.mem_cons.mp hp with rfl | hp
        · show h1.length ≤ 20; omega
        · simp at hp; subst hp; show h2.length ≤ 20; omega, rfl, rfl⟩⟩) ?_)
    refine run_seq (run_asgG (ev_lstC (eva_of (ea_cons (ed_tup (ea_cons (ed_int 0) (ea_cons (ed_tup ea_nil (by decide : 0 ≤ 100000)) (ea_cons (ed_var rfl) ea_nil))) (by decide : 3 ≤ 100000)) ea_nil) ⟨(show 1 ≤ 100000 by decide), fun p hpM hpμ => ?_⟩)))
    let bare : Nat := clr m (maskOf s.nodes [u, v])
    refine run_seq (run_for (items := taken3.map encBB) (it_tup (ed_tup (ea_cons (ed_tup (ea_cons (ed_bl _) (ea_cons (ed_bl _) ea_nil)) (by decide : 2 ≤ 100000)) (ea_cons (ed_tup (ea_cons (ed_bl _) (ea_cons (ed_bl _) ea_nil)) (by decide : 2 ≤ 100000)) (ea_cons (ed_tup (ea_cons (ed_bl _) (ea_cons (ed_bl _) ea_nil)) (by decide : 2 ≤ 100000)) ea_nil))) (by decide : 3 ≤ 100000)))
      (fun i ρ μ => ∃ x y, ρ = [some (encS c s), some (.int m), some (encM c (.two l u v h1 h2 a1 a2 sw)), some (.lst [.int (roomOf s u), .int (roomOf s v)]), some (.int (bare : Nat)), none, some (.lst [.int (outs s.nodes m h1 a1), .int (outs s.nodes m h2 a2)]), some (.loc p), x, y, none, none] ∧
        μ = [(p, .lst (encP (0, [], bare) :: (taken3.take i).map fun t => encP (stepT s m u v h1 h2 a1 a2 sw t)))]) ⟨none, none, rfl, rfl⟩ (fun i d ρ1 μ1 hi hI => ?_) fun ρ1 μ1 hI => ?_)
    · obtain ⟨x, y, rfl, rfl⟩ := hI
      rw [List.getElem?_map] at hi
      cases hp : taken3[i]? with
      | none => rw [hp] at hi; cases hi
      | some t =>
        rw [hp] at hi
        have hi : encBB t = d := Option.some.inj hi
        subst hi
        have hi3 : i < 3 := (List.getElem?_eq_some_iff.mp hp).1
        have etk : taken3.take (i + 1) = taken3.take i ++ [t] := by rw [List.take_add_one, hp]; rfl
        let nm : List Str := s.nodes.filter (fun n => if n = u then t.1 else if n = v then t.2 else false)
        have enm : s.nodes.filter (fun n => (decide (n ∈ [u, v]) && (if n = u then t.1 else if n = v then t.2 else false))) = nm := List.filter_congr fun n _ => by
          by_cases z : n ∈ [u, v]
          · rw [decide_eq_true z, Bool.true_and]
          · have z1 : ¬ n = u := fun q => z (by simp [q])
            have z2 : ¬ n = v := fun q => z (by simp [q])
            rw [decide_eq_false z, if_neg z1, if_neg z2]
            rfl
        have hnm : ∀ n ∈ nm, n ∈ s.nodes := fun n hn => (List.mem_filter.mp hn).1
        have lnm : nm.length ≤ 20 := Nat.le_trans (List.length_filter_le _ _) (by omega)
        refine ⟨_, _, tg_name, run_seq (run_asg (EvD.is (y := .tup (sD nm)) (ed_cb (ea_cons (ed_lcS D.str (fun n => (decide (n ∈ [u, v]) && (if n = u then t.1 else if n = v then t.2 else false))) (fun n => n) (it_tupF (ed_S_nodes hc (ed_var rfl))) (by omega) fun n hn => ⟨_, _, tg_name, by simp,
          et_and (et_test (ed_op (ed_var rfl) (ed_M_nodes2 hc (ed_var rfl)) rv_inF)) fun hb => et_B (ed_op (ed_var rfl) (ed_tupIx (ed_M_nodes2 hc (ed_var rfl)) (ea_cons (ed_var rfl) ea_nil) (of_decide_eq_true hb)) (rv_ixT (ix_two (of_decide_eq_true hb)))), fun _ => ed_var rfl⟩) ea_nil) rc_tuple) (by rw [List.map_id', enm])) ?_)⟩
        refine run_app (i := 0) rfl rfl (ed_tup (ea_cons (EvD.is (ed_call (ea_cons (ed_var rfl) (ea_cons (ed_var rfl) (ea_cons (ed_M_swap2 hc (ed_var rfl)) (ea_cons (ed_var rfl) ea_nil)))) ⟨_, _, _, _, _, t.1, t.2, rfl, rfl⟩) (ppO_some _ _ _ _ _ _ _)) (ea_cons (ed_var rfl) (ea_cons (EvD.is (ed_op (ed_var rfl) (ed_call (ea_cons (ed_var rfl) (ea_cons (ed_var rfl) ea_nil)) ⟨s, nm, ok, hnm, lnm, .inl rfl, rfl⟩) rv_int) (y := .int ((bare ||| maskOf s.nodes nm : Nat) : Int)) (by rw [bit_or])) ea_nil))) (by decide : 3 ≤ 100000)) (by
            rw [List.length_cons, List.length_map]
            have := List.length_take_le i taken3
            omega) ⟨_, _, rfl, ?_⟩
        rw [etk, List.map_append]
        rfl
    · obtain ⟨x, y, rfl, rfl⟩ := hI
      refine run_freeze (i := 7) (by simp) rfl (run_ret (ed_var rfl) ?_)
      rw [stepsM_two]
      rfl
end Am
/-! More rules: comprehensions of two clauses, walks over cells, instances made, freezing of a field. -/
namespace Am
open PySem PySem.Spec PyProof.Rows L2
section
variable {K : PySem.W.Frag} {M : List Addr} {ρ : Ro} {μ : Mem} {ta tb te : TE} {Φ : Post} {ts : TS}
theorem flat_take {α β : Type} (F : α → List β) {items : List α} {i : Nat} (h : i < items.length) : (items.take (i + 1)).flatMap F = (items.take i).flatMap F ++ F items[i] := by
  rw [List.take_add_one, List.getElem?_eq_getElem h, List.flatMap_append]
  simp
theorem flat_le {α β : Type} (F : α → List β) {items : List α} {i : Nat} (h : i < items.length) : ((items.take i).flatMap F).length + (F items[i]).length ≤ (items.flatMap F).length := by
  conv => rhs; rw [← List.take_append_drop (i + 1) items, List.flatMap_append, List.length_append, flat_take F h, List.length_append]
  omega
theorem ed_lc2 {α β : Type} {wi wi1 : TI} {g g1 : TG} {vs vs1 : List Nat} {items : List α} (enc : α → D) (sub : α → List β) (enc1 : β → D) (f : α → β → D) (hi : ItE K wi ρ (items.map enc)) (hl : (items.flatMap fun x => (sub x).map (f x)).length ≤ 100000)
    (ht : ∀ x ∈ items, ∃ is ρ2, Tg K g (enc x) is (wipeR ρ vs) ρ2 ∧ (∀ i ∈ is, i ∈ vs) ∧ ItE K wi1 ρ2 ((sub x).map enc1) ∧ ∀ y ∈ sub x, ∃ is1 ρ3, Tg K g1 (enc1 y) is1 (wipeR ρ2 vs1) ρ3 ∧ (∀ i ∈ is1, i ∈ vs1) ∧ EvD K te ρ3 (f x y)) :
    EvD K (tLc2 wi g tYes wi1 g1 tYes te vs vs1) ρ (.lst (items.flatMap fun x => (sub x).map (f x))) := fun G H σ s l Q q => hi G H σ s l _ fun J G1 H1 gg1 it D hD => by
  let St := fun (i : Nat) (H' : Hp) => ∃ (G' : Hp) (xs : List V), Go [] G1 H1 G' H' ∧ H' D = some (.lst xs) ∧ G' D = none ∧ Reps K G' xs ((items.take i).flatMap fun x => (sub x).map (f x))
  refine ⟨fun i m H' => i ≤ items.length ∧ m = items.length - i ∧ St i H', ⟨items.length, Nat.zero_le _, rfl, G1, [], Go.cell gg1.sub hD, upd_same, free_sub gg1.sub hD, ?_⟩, fun i m H' hW => ?_⟩
  · rw [List.take_zero]
    exact .nil
  · obtain ⟨hle, hm, G', xs, g2, hDx, gD, rx⟩ := hW
    obtain ⟨i1, i2, i3⟩ := it G' H' g2.g g2.sub
    rw [List.length_map] at i1 i2 i3
    by_cases hlt : i < items.length
    · refine .inr ⟨i1 i hlt, St (i + 1), fun H'' st => ⟨items.length - (i + 1), by omega, hlt, rfl, st⟩, fun x H2 y => ?_⟩
      obtain ⟨G2, d, e1, g3, r3⟩ := i3 i x H2 hlt y
      have hget : items[i]? = some items[i] := List.getElem?_eq_getElem hlt
      rw [List.getElem?_map, hget] at e1
      have e1 : enc items[i] = d := Option.some.inj e1
      subst e1
      obtain ⟨is, ρ2, tg, his, hit, hsub⟩ := ht items[i] (List.getElem_mem hlt)
      have l1 : Sl K G2 (L2.wipe σ vs) (wipeR ρ vs) := (l.mono (gg1.g.trans (g2.g.trans g3.g))).wipe vs
      refine tg x (L2.wipe σ vs) G2 H2 _ r3 g3.sub l1 fun σ' hw l2 => ⟨?_, ?_⟩
      · have e2 := hw vs his
        have e3 : L2.wipe (L2.wipe σ vs) vs = L2.wipe σ vs := wipe_wipe vs vs fun _ h => h
        rw [e2, e3]
      · have gD2 : G2 D = none := g3.new D _ hDx rfl gD
        have hD2 : H2 D = some (.lst xs) := g3.keep D _ (by simp) hDx
        show wi1 σ' H2 _
        refine hit G2 H2 σ' g3.sub l2 _ fun J1 G4 H4 g4 it1 => ?_
        have gD4 : G4 D = none := g4.new D _ hD2 rfl gD2
        have hD4 : H4 D = some (.lst xs) := g4.keep D _ (by simp) hD2
        let S1 := fun (j : Nat) (H' : Hp) => ∃ (G' : Hp) (ys : List V), Same G4 G' ∧ Go [] G1 H1 G' H' ∧ H' D = some (.lst ys) ∧ G' D = none ∧ Reps K G' ys (((items.take i).flatMap fun x => (sub x).map (f x)) ++ ((sub items[i]).take j).map (f items[i]))
        refine ⟨fun j k H' => j ≤ (sub items[i]).length ∧ k = (sub items[i]).length - j ∧ S1 j H', ⟨(sub items[i]).length, Nat.zero_le _, rfl, G4, xs, Same.refl _, g2.trans (g3.trans g4), hD4, gD4, ?_⟩, fun j k H' hW1 => ?_⟩
        · rw [List.take_zero]
          show Reps K G4 xs (_ ++ [])
          rw [List.append_nil]
          exact rx.mono (g3.g.trans g4.g)
        · obtain ⟨hle1, hk, G5, ys, s5, g5, hD5, gD5, r5⟩ := hW1
          obtain ⟨j1, j2, j3⟩ := it1 G5 H' s5 g5.sub
          rw [List.length_map] at j1 j2 j3
          by_cases hlt1 : j < (sub items[i]).length
          · refine .inr ⟨j1 j hlt1, S1 (j + 1), fun H'' st => ⟨(sub items[i]).length - (j + 1), by omega, hlt1, rfl, st⟩, fun x1 H6 y1 => ?_⟩
            obtain ⟨G6, d1, e6, g6, r6⟩ := j3 j x1 H6 hlt1 y1
            have hget1 : (sub items[i])[j]? = some (sub items[i])[j] := List.getElem?_eq_getElem hlt1
            rw [List.getElem?_map, hget1] at e6
            have e6 : enc1 (sub items[i])[j] = d1 := Option.some.inj e6
            subst e6
            obtain ⟨is1, ρ3, tg1, his1, hte⟩ := hsub _ (List.getElem_mem hlt1)
            have l6 : Sl K G6 (L2.wipe σ' vs1) (wipeR ρ2 vs1) := (l2.mono (g4.g.trans (s5.trans g6.g))).wipe vs1
            refine tg1 x1 (L2.wipe σ' vs1) G6 H6 _ r6 g6.sub l6 fun σ3 hw1 l3 => ⟨?_, ?_⟩
            · have e2 := hw1 vs1 his1
              have e3 : L2.wipe (L2.wipe σ' vs1) vs1 = L2.wipe σ' vs1 := wipe_wipe vs1 vs1 fun _ h => h
              rw [e2, e3]
            · have gD6 : G6 D = none := g6.new D _ hD5 rfl gD5
              have hD6 : H6 D = some (.lst ys) := g6.keep D _ (by simp) hD5
              show te σ3 H6 _
              refine hte G6 H6 σ3 g6.sub l3 _ fun w G7 H7 g7 r7 => ?_
              have gD7 : G7 D = none := g7.new D _ hD6 rfl gD6
              have hD7 : H7 D = some (.lst ys) := g7.keep D _ (by simp) hD6
              have lx : ys.length ≤ 100000 := by
                rw [r5.length, List.length_append, List.length_map]
                have h1 := flat_le (fun x => (sub x).map (f x)) hlt
                simp only [List.length_map] at h1
                have h2 := List.length_take_le j (sub items[i])
                have h3 : ((sub items[i]).take j).length ≤ (sub items[i]).length := by rw [List.length_take]; omega
                exact Nat.le_trans (Nat.le_trans (Nat.add_le_add_left h3 _) h1) hl
              refine ⟨ys, hD7, Nat.lt_of_le_of_lt lx (by decide), G7, ys ++ [w], s5.trans (g6.g.trans g7.g), ?_, upd_same, gD7, ?_⟩
              · have ga : Go [] G1 H1 G7 H7 := g5.trans (g6.trans g7)
                refine ⟨ga.g, fun a u h => ?_, fun a u m h => ?_, fun a h => upd_some (ga.dom a h), fun a u h n => ?_, ga.new⟩
                · rw [upd_ne (ne_of_none h gD7)]; exact ga.sub a u h
                · rw [upd_ne (ne_of_none h hD)]; exact ga.keep a u m h
                · rw [upd_ne (ne_of_none h hD)]; exact ga.cel a u h n
              · have etk : (sub items[i]).take (j + 1) = (sub items[i]).take j ++ [(sub items[i])[j]] := by rw [List.take_add_one, hget1]; rfl
                rw [etk, List.map_append, ← List.append_assoc]
                exact (r5.mono (g6.g.trans g7.g)).snoc r7
          · have ej : j = (sub items[i]).length := by omega
            subst ej
            refine .inl ⟨j2, G5, ys, g5, hD5, gD5, ?_⟩
            rw [flat_take _ hlt]
            rwa [List.take_length] at r5
    · have ei : i = items.length := by omega
      subst ei
      refine .inl ⟨i2, ?_⟩
      rw [List.take_length] at rx
      have gu : Go [] G1 H1 (upd G' D (.lst xs)) H' := by
        refine ⟨g2.g.trans (same_new gD), fun a u h => ?_, g2.keep, g2.dom, g2.cel, fun a u h nu n => ?_⟩
        · by_cases e : a = D
          · subst e; rw [upd_same] at h; rw [hDx]; exact h
          · rw [upd_ne e] at h; exact g2.sub a u h
        · have ne : a ≠ D := ne_of_none h hD
          rw [upd_ne ne]; exact g2.new a u h nu n
      exact q _ _ _ (gg1.trans gu) (.lst upd_same (rx.mono (same_new gD)))
/-! ### walks over what a cell holds -/
def ItV (K : PySem.W.Frag) (M : List Addr) (wi : TI) (ρ : Ro) (μ : Mem) (P : List D → Mem → Prop) : Prop := ∀ (G0 H0 G H : Hp) (σ : L2.St), Stt K M G0 H0 G H σ ρ μ → ∀ R : It → Hp → Prop,
  (∀ J items G' H' μ', Same G G' → Stt K M G0 H0 G' H' σ ρ μ' → ItD K J G' items → P items μ' → R J H') → wi σ H R
theorem iv_of {wi : TI} {items : List D} {P : List D → Mem → Prop} (h : ItE K wi ρ items) (p : P items μ) : ItV K M wi ρ μ P := fun G0 H0 G H σ s R q => h G H σ s.sub s.sl R fun J G' H' g it => q J items G' H' μ g.g (s.step g) it p
theorem iv_list {P : List D → Mem → Prop} (h : Ev K M te ρ μ fun d μ1 => ∃ ds, d = .lst ds ∧ P ds μ1) : ItV K M (iList K te) ρ μ P := fun G0 H0 G H σ s R q => h G0 H0 G H σ s _ fun v d G1 H1 μ1 e1 s1 r1 ⟨ds, ed, p⟩ => by
  subst ed
  cases r1 with
  | lst h1 r1 =>
    rename_i a xs
    refine ⟨a, rfl, ⟨xs, .inl (.inl (s1.sub _ _ h1))⟩, q _ ds G1 H1 μ1 e1 s1 (fun G2 H2 e1 e2 => ?_) p⟩
    have hq : SqL K H2 a xs := .inl (.inl (e2 _ _ (e1 _ _ h1)))
    refine ⟨fun i hi => ⟨xs, xs[i]'(by rw [r1.length]; exact hi), hq, by simp [r1.length, hi]⟩, ⟨xs, hq, by rw [r1.length]; exact Nat.le_refl _⟩, fun i x H3 hi y => ?_⟩
    obtain ⟨rfl, y⟩ := y
    have y := y xs hq
    obtain ⟨d, h3, h4⟩ := r1.get' y
    exact ⟨G2, d, h3, Go.refl e2, h4.mono e1⟩
theorem run_forV {wi : TI} {g : TG} {items : List D} (I : Nat → Ro → Mem → Prop) (hi : ItV K M wi ρ μ fun its μ1 => its = items ∧ I 0 ρ μ1)
    (hs : ∀ (i : Nat) d ρ1 μ1, items[i]? = some d → I i ρ1 μ1 → ∃ is ρ2, Tg K g d is ρ1 ρ2 ∧ Run K M ts ρ2 μ1 { nx := I (i + 1), ct := I (i + 1), bk := Φ.nx, rt := Φ.rt })
    (hd : ∀ ρ1 μ1, I items.length ρ1 μ1 → Φ.nx ρ1 μ1) : Run K M (tFor wi g ts) ρ μ Φ := fun Dn G0 H0 G H σ s k =>
  hi G0 H0 G H σ s _ fun J its G1 H1 μ0 gg s1 it ⟨ei, h0⟩ => by
    subst ei
    let W := fun (i : Nat) (σ' : L2.St) (H' : Hp) => ∃ G' ρ1 μ1, Same G1 G' ∧ Stt K M G0 H0 G' H' σ' ρ1 μ1 ∧ I i ρ1 μ1
    refine ⟨fun i m σ' H' => i ≤ its.length ∧ m = its.length - i ∧ W i σ' H', ⟨its.length, Nat.zero_le _, rfl, G1, ρ, μ0, Same.refl _, s1, h0⟩, fun i m σ' H' hW => ?_⟩
    obtain ⟨hle, hm, G', ρ1, μ1, eG, s2, inv⟩ := hW
    obtain ⟨i1, i2, i3⟩ := it G' H' eG s2.sub
    by_cases hlt : i < its.length
    · refine .inr ⟨i1 i hlt, W (i + 1), fun σ'' H'' w => ⟨its.length - (i + 1), by omega, hlt, rfl, w⟩, fun x H2 y => ?_⟩
      obtain ⟨G2, d, e1, g3, r3⟩ := i3 i x H2 hlt y
      obtain ⟨is, ρ2, tg, body⟩ := hs i d ρ1 μ1 e1 inv
      have s3 := s2.step g3
      refine tg x σ' G2 H2 _ r3 s3.sub s3.sl fun σ2 _ l2 => ?_
      have s4 := s3.slots l2
      refine body _ G0 H0 G2 H2 σ2 s4 ⟨fun a b c d' e f q w => ?_, fun a a2 b c c2 d' e f q q2 w => ?_, fun a b c d' e f q w => ?_, fun a b c d' e f q w => ?_⟩
      · exact ⟨d', b, c, eG.trans (g3.g.trans f), q, w⟩
      · exact k.rt a a2 b c c2 d' e (gg.trans (eG.trans (g3.g.trans f))) q q2 w
      · exact k.nx a b c d' e (gg.trans (eG.trans (g3.g.trans f))) q w
      · exact ⟨d', b, c, eG.trans (g3.g.trans f), q, w⟩
    · have ei : i = its.length := by omega
      subst ei
      exact .inl ⟨i2, k.nx _ _ _ _ _ (gg.trans eG) s2 (hd ρ1 μ1 inv)⟩
/-! ### instances -/
theorem ed_make {R : List D → Mem → (D → Mem → Prop) → Prop} {ta : TA} {E : XK} {C : Addr} {ds : List D} {fds : List (Str × D)} (ha : EdA K ta ρ ds)
    (hR : ∀ p, ∃ Φ, R (.loc p :: ds) [(p, .ins C [])] Φ ∧ ∀ d μ', Φ d μ' → d = .non ∧ μ' = [(p, .ins C fds)]) : EvD K (tMake C (spM K R) [] E ta) ρ (.ins C fds) := fun G H σ s l Q q => ha G H σ s l _ fun vs G1 H1 g1 r1 x dx hx hdx hne => by
  obtain ⟨Φ, hr, hp⟩ := hR x
  show spM K R (.ref x :: (vs ++ [])) _ _ E
  rw [List.append_nil]
  have ga : Go [] G1 H1 G1 (upd H1 dx (.own x)) := Go.cell g1.sub hdx
  have hx2 : upd H1 dx (HO.own x) x = none := by rw [upd_ne fun z => hne z.symm]; exact hx
  have gb : Go [] G1 (upd H1 dx (.own x)) G1 (upd (upd H1 dx (.own x)) x (.ins C dx [])) := Go.cell ga.sub hx2
  refine ⟨G1, _, [(x, .ins C [])], Φ, gb.sub, .cons (.loc x) r1, ⟨fun c hc => ?_, by simp⟩, hr, fun v d μ' G' H' g2 r2 c2 e2 p => ?_⟩
  · simp only [List.mem_singleton] at hc
    subst hc
    exact ⟨⟨dx, [], upd_same, rfl, .nil⟩, free_sub g1.sub hx⟩
  · obtain ⟨rfl, rfl⟩ := hp d μ' p
    cases r2
    refine ⟨rfl, ?_⟩
    obtain ⟨⟨dx', fs, hx', k1, rr⟩, gx⟩ := c2.at_ _ (List.mem_singleton.mpr rfl)
    have hg : Same G' (upd G' x (.ins C dx' fs)) := same_new gx
    have g3 : Go [] H1 H1 H1 H1 := Go.refl (Same.refl _)
    refine q _ (upd G' x (.ins C dx' fs)) H' (g1.trans ⟨(ga.trans gb).g.trans (g2.g.trans hg), fun a o h => ?_, fun a o m h => ?_, fun a h => g2.dom a ((ga.trans gb).dom a h), fun a o h n => ?_, fun a o h no n => ?_⟩) (.ins upd_same k1 (rr.mono hg))
    · by_cases e : a = x
      · subst e; rw [upd_same] at h; rw [hx']; exact h
      · rw [upd_ne e] at h; exact g2.sub a o h
    · have ne : a ≠ x := fun z => by rw [z, hx] at h; cases h
      exact g2.keep a o (by simpa using ne) ((ga.trans gb).keep a o (by simp) h)
    · have ⟨o1, h1, n1⟩ := (ga.trans gb).cel a o h n
      exact g2.cel a o1 h1 n1
    · have ne : a ≠ x := ne_of_none h hx
      rw [upd_ne ne]
      have ⟨o1, h1, n1⟩ := (ga.trans gb).cel a o h no
      exact g2.new a o1 h1 n1 n
/-! ### freezing what a field holds -/
theorem putD_keys {f : Str} {v : D} : ∀ {l : List (Str × D)}, (l.lookup f).isSome = true → (putD f v l).map (·.1) = l.map (·.1)
  | [], h => by simp at h
  | (g, x) :: l, h => by
    unfold putD
    by_cases e : g = f
    · rw [if_pos e]; rfl
    · rw [if_neg e]
      have hb : (f == g) = false := beq_eq_false_iff_ne.mpr fun z => e z.symm
      rw [List.lookup_cons, hb] at h
      show g :: (putD f v l).map (·.1) = g :: l.map (·.1)
      rw [putD_keys h]
theorem putD_recast {G : Hp} {f : Str} {x y : D} (hxy : ∀ v, Rep K G v x → Rep K G v y) : ∀ {fs : List (Str × V)} {fds : List (Str × D)}, fs.map (·.1) = fds.map (·.1) → Reps K G (fs.map (·.2)) (fds.map (·.2)) → fds.lookup f = some x → Reps K G (fs.map (·.2)) ((putD f y fds).map (·.2))
  | [], [], _, _, h => by simp at h
  | [], _ :: _, h, _, _ => by simp at h
  | _ :: _, [], h, _, _ => by simp at h
  | (g, v) :: fs, (g', d') :: fds, e, .cons r rr, h => by
    simp only [List.map_cons, List.cons.injEq] at e
    obtain ⟨e1, e2⟩ := e
    subst e1
    unfold putD
    by_cases q : g = f
    · subst q
      rw [List.lookup_cons_self] at h
      cases h
      rw [if_pos rfl]
      exact .cons (hxy v r) rr
    · rw [if_neg q]
      have hb : (f == g) = false := beq_eq_false_iff_ne.mpr fun z => q z.symm
      rw [List.lookup_cons, hb] at h
      exact .cons r (putD_recast hxy (fs := fs) (fds := fds) e2 rr h)
theorem run_freezeF {p q : Addr} {C : Addr} {f : Str} {ds : List D} {fds : List (Str × D)} {μ' : Mem} (hp : p ∉ M) (hf : fds.lookup f = some (.loc p)) (h : Run K M ts ρ ((q, .ins C (putD f (.lst ds) fds)) :: μ') Φ) : Run K M ts ρ ((p, .lst ds) :: (q, .ins C fds) :: μ') Φ := fun Dn G0 H0 G H σ s k => by
  obtain ⟨⟨xs, hx, rr⟩, gp⟩ := s.ce.at_ _ (List.mem_cons_self ..)
  have s1 := s.freeze hp hx
  have gg : Same G (upd G p (.lst xs)) := same_new gp
  have r2 : Rep K (upd G p (.lst xs)) (.ref p) (.lst ds) := .lst upd_same (rr.mono gg)
  refine h Dn G0 H0 _ H σ ⟨s1.go, s1.sl, ⟨fun c hc => ?_, s1.ce.nd⟩, fun c hc => ?_, s1.base⟩ (k.mono gg)
  · rcases List.mem_cons.mp hc with rfl | hc
    · obtain ⟨⟨dx, fs, hq, k1, r1⟩, gq⟩ := s1.ce.at_ _ (List.mem_cons_self ..)
      refine ⟨⟨dx, fs, hq, ?_, putD_recast (fun v hv => ?_) k1 r1 hf⟩, gq⟩
      · rw [putD_keys (by rw [hf]; rfl)]; exact k1
      · cases hv; exact r2
    · exact s1.ce.at_ c (List.mem_cons_of_mem _ hc)
  · rcases List.mem_cons.mp hc with rfl | hc
    · exact s1.own (q, .ins C fds) (List.mem_cons_self ..)
    · exact s1.own c (List.mem_cons_of_mem _ hc)
end
end Am
/-! Plain facts: bits of masks, where moves lead, rows. -/
namespace Am
open PySem PySem.Spec PyProof.Rows L2
def bitsOf : List Bool → Nat
  | [] => 0
  | b :: r => b.toNat + 2 * bitsOf r
theorem bitsOf_lt : ∀ l : List Bool, bitsOf l < 2 ^ l.length
  | [] => by decide
  | b :: r => by
    have := bitsOf_lt r
    rw [List.length_cons, Nat.pow_succ]
    unfold bitsOf
    have := Bool.toNat_le b
    omega
theorem bitsOf_bit : ∀ (l : List Bool) (k : Nat), (bitsOf l).testBit k = l.getD k false
  | [], k => by simp [bitsOf]
  | b :: r, 0 => by
    unfold bitsOf
    rw [Nat.testBit_zero]
    cases b <;> simp <;> omega
  | b :: r, k + 1 => by
    unfold bitsOf
    rw [Nat.testBit_succ]
    have : (b.toNat + 2 * bitsOf r) / 2 = bitsOf r := by have := Bool.toNat_le b; omega
    rw [this, bitsOf_bit r k]
    simp
theorem idx_of_at {nodes : List Str} (nd : nodes.Nodup) {k : Nat} {a : Str} (h : nodes[k]? = some a) : nodes.idxOf a = k := nd_ix nd (idx_at (List.mem_of_getElem? h)) h
theorem sum_zip_bits (p : Str → Bool) : ∀ (l : List Str) (k : Nat), (((l.zipIdx k).filter fun q => p q.1).map fun q => 2 ^ q.2).sum = 2 ^ k * bitsOf (l.map p)
  | [], k => by simp [bitsOf]
  | a :: l, k => by
    rw [List.zipIdx_cons, List.filter_cons, List.map_cons]
    have ih := sum_zip_bits p l (k + 1)
    cases h : p a with
    | true =>
      simp only [if_true, List.map_cons, List.sum_cons, ih]
      rw [show bitsOf (true :: l.map p) = true.toNat + 2 * bitsOf (l.map p) from rfl, Nat.pow_succ]
      show 2 ^ k + 2 ^ k * 2 * bitsOf (l.map p) = 2 ^ k * (1 + 2 * bitsOf (l.map p))
      rw [Nat.mul_add, Nat.mul_one, Nat.mul_assoc]
    | false =>
      simp only [Bool.false_eq_true, if_false, ih]
      rw [show bitsOf (false :: l.map p) = false.toNat + 2 * bitsOf (l.map p) from rfl, Nat.pow_succ]
      show 2 ^ k * 2 * bitsOf (l.map p) = 2 ^ k * (0 + 2 * bitsOf (l.map p))
      rw [Nat.zero_add, Nat.mul_assoc]
theorem filter_zip (p : Str → Bool) : ∀ (l : List Str) (k : Nat), ((l.zipIdx k).filter fun q => p q.1).map (·.1) = l.filter p
  | [], _ => rfl
  | a :: l, k => by
    rw [List.zipIdx_cons, List.filter_cons, List.filter_cons]
    have ih := filter_zip p l (k + 1)
    cases h : p a with
    | true => simp only [if_true, List.map_cons, ih]
    | false => simp only [Bool.false_eq_true, if_false, ih]
theorem maskOf_filter {nodes : List Str} (nd : nodes.Nodup) (p : Str → Bool) : maskOf nodes (nodes.filter p) = bitsOf (nodes.map p) := by
  have h := sum_zip_bits p nodes 0
  rw [Nat.pow_zero, Nat.one_mul] at h
  rw [← h, ← filter_zip p nodes 0]
  unfold maskOf
  rw [List.map_map]
  congr 1
  refine List.map_congr_left fun q hq => ?_
  show 2 ^ nodes.idxOf q.1 = 2 ^ q.2
  rw [idx_of_at nd (zip_at (List.mem_filter.mp hq).1)]
theorem maskOf_bit {nodes : List Str} (nd : nodes.Nodup) (p : Str → Bool) {k : Nat} {a : Str} (h : nodes[k]? = some a) : (maskOf nodes (nodes.filter p)).testBit k = p a := by
  rw [maskOf_filter nd, bitsOf_bit, List.getD_eq_getElem?_getD, List.getElem?_map, h]
  rfl
theorem maskOf_lt {nodes : List Str} (nd : nodes.Nodup) (p : Str → Bool) : maskOf nodes (nodes.filter p) < 2 ^ nodes.length := by
  rw [maskOf_filter nd]
  have := bitsOf_lt (nodes.map p)
  rwa [List.length_map] at this
theorem filter_one {nodes : List Str} (nd : nodes.Nodup) {v : Str} (h : v ∈ nodes) : nodes.filter (fun a => a == v) = [v] := by
  induction nodes with
  | nil => simp at h
  | cons a l ih =>
    rw [List.nodup_cons] at nd
    by_cases e : a = v
    · subst e
      rw [List.filter_cons, if_pos (by simp)]
      congr 1
      rw [List.filter_eq_nil_iff]
      intro x hx hb
      exact nd.1 ((beq_iff_eq.mp hb) ▸ hx)
    · rw [List.filter_cons, if_neg (by simpa using e)]
      exact ih nd.2 (by
        rcases List.mem_cons.mp h with z | z
        · exact absurd z.symm e
        · exact z)
theorem mask_one {nodes : List Str} (nd : nodes.Nodup) {v : Str} (h : v ∈ nodes) : maskOf nodes [v] = maskOf nodes (nodes.filter fun a => a == v) := by rw [filter_one nd h]
theorem sum_perm {l m : List Nat} (h : l.Perm m) : l.sum = m.sum := by
  induction h with
  | nil => rfl
  | cons _ _ ih => rw [List.sum_cons, List.sum_cons, ih]
  | swap a b l => rw [List.sum_cons, List.sum_cons, List.sum_cons, List.sum_cons]; omega
  | trans _ _ a b => rw [a, b]
theorem mask_perm {nodes a b : List Str} (h : a.Perm b) : maskOf nodes a = maskOf nodes b := sum_perm (h.map _)
theorem nodup_perm {a b : List Str} (na : a.Nodup) (nb : b.Nodup) (h : ∀ x, x ∈ a ↔ x ∈ b) : a.Perm b := (List.perm_ext_iff_of_nodup na nb).mpr h
theorem mask_two {nodes : List Str} (nd : nodes.Nodup) {u v : Str} (hu : u ∈ nodes) (hv : v ∈ nodes) (ne : u ≠ v) : maskOf nodes [u, v] = maskOf nodes (nodes.filter fun a => a == u || a == v) := by
  refine mask_perm (nodup_perm (by simp [ne]) (nd.filter _) fun x => ?_)
  simp only [List.mem_cons, List.not_mem_nil, or_false, List.mem_filter, Bool.or_eq_true, beq_iff_eq]
  constructor
  · rintro (rfl | rfl)
    · exact ⟨hu, .inl rfl⟩
    · exact ⟨hv, .inr rfl⟩
  · exact fun h => h.2
theorem clr_dec : ∀ m : Fin 32, ∀ b : Fin 32, ∀ k : Fin 5, (clr m.val b.val).testBit k.val = (m.val.testBit k.val && !b.val.testBit k.val) := by decide +kernel
theorem clr_bit {m b k : Nat} (hm : m < 32) (hb : b < 32) : (clr m b).testBit k = (m.testBit k && !b.testBit k) := by
  by_cases hk : k < 5
  · exact clr_dec ⟨m, hm⟩ ⟨b, hb⟩ ⟨k, hk⟩
  · have h2 : (32 : Nat) ≤ 2 ^ k := by
      have := Nat.pow_le_pow_right (n := 2) (by decide) (Nat.le_of_not_lt hk)
      simpa using this
    have e1 : (clr m b).testBit k = false := Nat.testBit_lt_two_pow (by unfold clr; omega)
    have e2 : m.testBit k = false := Nat.testBit_lt_two_pow (by omega)
    rw [e1, e2]
    rfl
theorem clr_le (m b : Nat) : clr m b ≤ m := Nat.sub_le _ _
theorem pow_few {s : Sto} (ok : Okay s) : 2 ^ s.nodes.length ≤ 32 := Nat.le_trans (Nat.pow_le_pow_right (by decide) ok.few) (by decide)
theorem steps_lt {s : Sto} (ok : Okay s) {md : Mnd} (mok : MndOk s.nodes md) {m : Nat} (hm : m < 2 ^ s.nodes.length) {st : Stp} (h : st ∈ stepsM s m md) : st.2.2 < 2 ^ s.nodes.length := by
  have hc : ∀ b, clr m b < 2 ^ s.nodes.length := fun b => Nat.lt_of_le_of_lt (clr_le m b) hm
  cases md with
  | one l v hs as =>
    obtain ⟨hv, _⟩ := mok.one l v hs as rfl
    simp only [stepsM, List.mem_cons, List.not_mem_nil, or_false] at h
    rcases h with rfl | rfl
    · exact hc _
    · exact Nat.or_lt_two_pow (hc _) (by rw [mask_one ok.nd hv]; exact maskOf_lt ok.nd _)
  | two l u v h1 h2 a1 a2 sw =>
    rw [stepsM_two] at h
    rcases List.mem_cons.mp h with rfl | h
    · exact hc _
    · obtain ⟨t, _, rfl⟩ := List.mem_map.mp h
      exact Nat.or_lt_two_pow (hc _) (maskOf_lt ok.nd _)
theorem moves_lt {s : Sto} (ok : Okay s) {m : Nat} (hm : m < 2 ^ s.nodes.length) {p : Mv} (h : p ∈ movesOf s m) : p.2.2.2 < 2 ^ s.nodes.length := by
  unfold movesOf at h
  obtain ⟨md, hmd, h⟩ := List.mem_flatMap.mp h
  obtain ⟨st, hst, rfl⟩ := List.mem_map.mp h
  exact steps_lt ok (ok.mends md hmd) hm hst
theorem steps_few (s : Sto) (m : Nat) (md : Mnd) : (stepsM s m md).length ≤ 4 := by cases md <;> simp [stepsM]
theorem flat_few {α β : Type} (F : α → List β) (n : Nat) : ∀ l : List α, (∀ x ∈ l, (F x).length ≤ n) → (l.flatMap F).length ≤ l.length * n
  | [], _ => by simp
  | a :: l, h => by
    rw [List.flatMap_cons, List.length_append, List.length_cons, Nat.succ_mul]
    have h1 := flat_few F n l fun x hx => h x (List.mem_cons_of_mem _ hx)
    have h2 := h a (List.mem_cons_self ..)
    omega
theorem moves_few {s : Sto} (ok : Okay s) (m : Nat) : (movesOf s m).length ≤ 80 := by
  have := flat_few (fun md => (stepsM s m md).map fun st => (md.label, st)) 4 s.mends fun x _ => by
    rw [List.length_map]; exact steps_few s m x
  have := ok.mfew
  unfold movesOf
  omega
/-! rows -/
theorem row0_len (s : Sto) (r) : (row0 s r).length = 2 ^ s.nodes.length := by simp [row0]
theorem nxt_len (s : Sto) (l : Row) : (nxt s l).length = l.length := by simp [nxt]
theorem rowK_len (s : Sto) (r) : ∀ k, (rowK s r k).length = 2 ^ s.nodes.length
  | 0 => row0_len s r
  | k + 1 => (nxt_len s _).trans (rowK_len s r k)
theorem nxt_get (s : Sto) {l : Row} {i : Nat} {o : Option Int} (h : l[i]? = some o) : (nxt s l)[i]? = some (best1 l (movesOf s i) o) := by
  unfold nxt
  rw [List.getElem?_map, List.getElem?_zipIdx, h]
  simp
def stb (s : Sto) (r : List (Str × Option Int)) (k : Nat) : Bool := decide (rowK s r (k + 1) = rowK s r k)
def lastK (s : Sto) (r : List (Str × Option Int)) : Nat := ((List.range 200).find? (stb s r)).getD 0
def Fix (s : Sto) (r : List (Str × Option Int)) : Prop := ∃ k, k < 200 ∧ rowK s r (k + 1) = rowK s r k
section
variable {s : Sto} {r : List (Str × Option Int)}
theorem lastK_find (h : Fix s r) : (List.range 200).find? (stb s r) = some (lastK s r) := by
  unfold lastK
  cases q : (List.range 200).find? (stb s r) with
  | some k => rfl
  | none =>
    obtain ⟨k, hk, e⟩ := h
    have := List.find?_eq_none.mp q k (List.mem_range.mpr hk)
    exact absurd (decide_eq_true e) this
theorem lastK_lt (h : Fix s r) : lastK s r < 200 := List.mem_range.mp (List.mem_of_find?_eq_some (lastK_find h))
theorem lastK_fix (h : Fix s r) : rowK s r (lastK s r + 1) = rowK s r (lastK s r) := by
  have h1 : stb s r (lastK s r) = true := List.find?_some (lastK_find h)
  exact of_decide_eq_true h1
theorem lastK_first (h : Fix s r) {j : Nat} (hj : j < lastK s r) : rowK s r (j + 1) ≠ rowK s r j := by
  have := List.find?_range_eq_some.mp (lastK_find h)
  have := this.2.2 j hj
  intro e
  simp [stb, e] at this
theorem row_after (h : Fix s r) : ∀ d, rowK s r (lastK s r + d) = rowK s r (lastK s r)
  | 0 => rfl
  | d + 1 => by
    show nxt s (rowK s r (lastK s r + d)) = _
    rw [row_after h d]
    exact lastK_fix h
end
def idxJ (s : Sto) (r : List (Str × Option Int)) : Option Nat → Nat
  | none => lastK s r
  | some n => min n (lastK s r)
def rowsOf (s : Sto) (r : List (Str × Option Int)) : List Row := (List.range (lastK s r + 1)).map (rowK s r)
theorem rowsOf_get {s : Sto} {r} {k : Nat} (h : k ≤ lastK s r) : (rowsOf s r)[k]? = some (rowK s r k) := by
  unfold rowsOf
  rw [List.getElem?_map, List.getElem?_range (by omega)]
  rfl
theorem rowsOf_len (s : Sto) (r) : (rowsOf s r).length = lastK s r + 1 := by simp [rowsOf]
def mvD (s : Sto) : D := .lst ((List.range (2 ^ s.nodes.length)).map fun m => .lst ((movesOf s m).map encV))
def encL (c : Cls4) (s : Sto) (r : List (Str × Option Int)) : D := .ins c.L [("store", encS c s), ("moves", mvD s), ("rows", .lst ((rowsOf s r).map encW))]
/-! the steps -/
abbrev Sp2 := Str × List Str
def encSp (p : Sp2) : D := .tup [.str p.1, .tup (sD p.2)]
def isBest (s : Sto) (r : List (Str × Option Int)) (mask left : Nat) (p : Mv) : Bool := match (rowK s r (left - 1)).getD p.2.2.2 none with
  | none => false
  | some x => decide (some (p.2.1 + x) = (rowK s r left).getD mask none)
def trace (s : Sto) (r : List (Str × Option Int)) : Nat → Nat → List Sp2
  | 0, _ => []
  | l + 1, mask => if (rowK s r (l + 1)).getD mask none = (rowK s r l).getD mask none then trace s r l mask else match (movesOf s mask).find? (isBest s r mask (l + 1)) with
    | none => []
    | some p => (p.1, p.2.2.1) :: trace s r l p.2.2.2
theorem best1_or (last : Row) : ∀ (mv : List Mv) (own : Option Int), best1 last mv own = own ∨ ∃ p ∈ mv, ∃ x, last.getD p.2.2.2 none = some x ∧ best1 last mv own = some (p.2.1 + x)
  | [], own => .inl rfl
  | p :: mv, own => by
    unfold best1
    rw [List.foldl_cons]
    cases h : last.getD p.2.2.2 none with
    | none =>
      rcases best1_or last mv own with e | ⟨q, hq, x, h1, h2⟩
      · exact .inl e
      · exact .inr ⟨q, List.mem_cons_of_mem _ hq, x, h1, h2⟩
    | some x =>
      rcases best1_or last mv (least own (some (p.2.1 + x))) with e | ⟨q, hq, y, h1, h2⟩
      · have hl : least own (some (p.2.1 + x)) = own ∨ least own (some (p.2.1 + x)) = some (p.2.1 + x) := by
          cases own with
          | none => exact .inr rfl
          | some a =>
            unfold least
            by_cases z : p.2.1 + x < a
            · exact .inr (by simp [z])
            · exact .inl (by simp [z])
        rcases hl with z | z
        · exact .inl (e.trans z)
        · exact .inr ⟨p, List.mem_cons_self .., x, h, e.trans z⟩
      · exact .inr ⟨q, List.mem_cons_of_mem _ hq, y, h1, h2⟩
theorem getD_row {l : Row} {i : Nat} (h : i < l.length) : l[i]? = some (l.getD i none) := by
  rw [List.getD_eq_getElem?_getD, List.getElem?_eq_getElem h]
  rfl
/-- where a row changes there is a best step -/
theorem best_is {s : Sto} {r} {mask l : Nat} (hm : mask < 2 ^ s.nodes.length) (h : (rowK s r (l + 1)).getD mask none ≠ (rowK s r l).getD mask none) : ∃ p, (movesOf s mask).find? (isBest s r mask (l + 1)) = some p := by
  have h1 := getD_row (l := rowK s r l) (i := mask) (by rw [rowK_len]; exact hm)
  have h2 : (rowK s r (l + 1)).getD mask none = best1 (rowK s r l) (movesOf s mask) ((rowK s r l).getD mask none) := by
    rw [List.getD_eq_getElem?_getD]
    show ((nxt s (rowK s r l))[mask]?).getD none = _
    rw [nxt_get s h1]
    rfl
  rcases best1_or (rowK s r l) (movesOf s mask) ((rowK s r l).getD mask none) with e | ⟨p, hp, x, h3, h4⟩
  · exact absurd (h2.trans e) h
  · have hb : isBest s r mask (l + 1) p = true := by
      unfold isBest
      rw [show l + 1 - 1 = l from rfl, h3]
      exact decide_eq_true (by rw [h2, h4])
    cases q : (movesOf s mask).find? (isBest s r mask (l + 1)) with
    | some p => exact ⟨p, rfl⟩
    | none => exact absurd hb (List.find?_eq_none.mp q p hp)
/-! ### promises of Layers and way -/
def cellL (c : Cls4) (s : Sto) (q : Addr) : Own := .ins c.L [("store", encS c s), ("moves", mvD s), ("rows", .loc q)]
def R_longer (c : Cls4) : List D → Mem → (D → Mem → Prop) → Prop := fun ds μ Φ => ∃ s p q rows last, Okay s ∧ last.length = 2 ^ s.nodes.length ∧ ds = [.loc p] ∧ μ = [(p, cellL c s q), (q, .lst (rows ++ [encW last]))] ∧ Φ = fun d μ' => d = encW (nxt s last) ∧ μ' = μ
def R_Linit (c : Cls4) : List D → Mem → (D → Mem → Prop) → Prop := fun ds μ Φ => ∃ s rd, ∃ r : Nat, ∃ p, Okay s ∧ s.readers[r]? = some rd ∧ Fix s rd ∧ ds = [.loc p, encS c s, .int r] ∧ μ = [(p, .ins c.L [])] ∧ Φ = fun d μ' => d = .non ∧ μ' = [(p, .ins c.L [("store", encS c s), ("moves", mvD s), ("rows", .lst ((rowsOf s rd).map encW))])]
def R_within (c : Cls4) : List D → D → Prop := fun ds d => ∃ s rd, ∃ j : Option Nat, Fix s rd ∧ ds = [encL c s rd, optN j] ∧ d = encW (rowK s rd (idxJ s rd j))
def R_best (c : Cls4) : List D → D → Prop := fun ds d => ∃ s rd, ∃ mask l : Nat, ∃ p, Okay s ∧ Fix s rd ∧ mask < 2 ^ s.nodes.length ∧ l + 1 ≤ lastK s rd ∧ (movesOf s mask).find? (isBest s rd mask (l + 1)) = some p ∧ ds = [encL c s rd, .int mask, .int ((l + 1 : Nat) : Int)] ∧ d = encV p
def stepsW (s : Sto) (rd : List (Str × Option Int)) (j : Option Nat) (mask : Nat) : List Sp2 := trace s rd ((rowsOf s rd).idxOf (rowK s rd (idxJ s rd j))) mask
def R_stepsOf (c : Cls4) : List D → D → Prop := fun ds d => ∃ s rd, ∃ j : Option Nat, ∃ mask : Nat, Okay s ∧ Fix s rd ∧ mask < 2 ^ s.nodes.length ∧ ds = [encL c s rd, .int mask, optN j] ∧ d = .tup ((stepsW s rd j mask).map encSp)
def encWay (c : Cls4) (t : Option Int) (ss : List Sp2) : D := .ins c.W [("total", optI t), ("steps", .tup (ss.map encSp))]
def R_Winit (c : Cls4) : List D → Mem → (D → Mem → Prop) → Prop := fun ds μ Φ => ∃ p t ss, ds = [.loc p, t, ss] ∧ μ = [(p, .ins c.W [])] ∧ Φ = fun d μ' => d = .non ∧ μ' = [(p, .ins c.W [("total", t), ("steps", ss)])]
def wayT (s : Sto) (rd : List (Str × Option Int)) (j : Option Nat) (m : Nat) : Option Int := (rowK s rd (idxJ s rd j)).getD m none
def wayS (s : Sto) (rd : List (Str × Option Int)) (j : Option Nat) (m : Nat) : List Sp2 := if wayT s rd j m = none then [] else stepsW s rd j m
def R_way (c : Cls4) : List D → D → Prop := fun ds d => ∃ s rd, ∃ r m : Nat, ∃ j, Okay s ∧ s.readers[r]? = some rd ∧ Fix s rd ∧ m < 2 ^ s.nodes.length ∧ ds = [encS c s, .tup (sD (lotOf s.nodes m)), .int r, optN j] ∧ d = encWay c (wayT s rd j m) (wayS s rd j m)
theorem trace_len (s : Sto) (r) : ∀ l mask, (trace s r l mask).length ≤ l
  | 0, _ => Nat.le_refl _
  | l + 1, mask => by
    unfold trace
    split
    · exact Nat.le_succ_of_le (trace_len s r l mask)
    · split
      · exact Nat.zero_le _
      · exact Nat.succ_le_succ (trace_len s r l _)
end Am
namespace Am
open PySem PySem.Spec PyProof.Rows L2
theorem ru_neg {K : PySem.W.Frag} {i : Int} : RuD K (rU fun i => .int (-i)) (.int i) (.int (-i)) := fun G H u sm ru Q q => by cases ru; exact ⟨_, rfl, q _ _ _ (Go.refl sm) (.int _)⟩
theorem atI_last {α : Type} (l : List α) (x : α) : atI (l ++ [x]) (-1) = some x := by
  have hl : ((l ++ [x]).length : Int) = (l.length : Int) + 1 := by rw [List.length_append]; rfl
  have e : ixN (l ++ [x]).length (-1) = some l.length := by
    unfold ixN
    rw [if_neg (by decide), if_pos (by rw [hl]; omega), hl]
    congr 1
    omega
  unfold atI
  rw [e]
  simp
theorem pairI_map {α : Type} (f : α → D) : ∀ (l : List α) (k : Nat), pairI k (l.map f) = (l.zipIdx k).map fun p => .tup [.int (p.2 : Nat), f p.1]
  | [], _ => rfl
  | a :: l, k => by
    show D.tup [.int (k : Nat), f a] :: pairI (k + 1) (l.map f) = _
    rw [pairI_map f l (k + 1)]
    rfl
theorem mv_at {s : Sto} {m : Nat} (h : m < 2 ^ s.nodes.length) : atI ((List.range (2 ^ s.nodes.length)).map fun m => D.lst ((movesOf s m).map encV)) (m : Int) = some (.lst ((movesOf s m).map encV)) := by
  refine atI_nat ?_
  rw [List.getElem?_map, List.getElem?_range h]
  rfl
theorem row_at {l : Row} {i : Nat} (h : i < l.length) : atI (l.map optI) (i : Int) = some (optI (l.getD i none)) := by
  refine atI_nat ?_
  rw [List.getElem?_map, getD_row h]
  rfl
theorem best1_snoc (last : Row) (mv : List Mv) (p : Mv) (own : Option Int) : best1 last (mv ++ [p]) own = match last.getD p.2.2.2 none with
  | none => best1 last mv own
  | some x => least (best1 last mv own) (some (p.2.1 + x)) := by
  unfold best1
  rw [List.foldl_append]
  rfl
theorem isNon_optI (o : Option Int) : isNon (optI o) = !o.isSome := by cases o <;> rfl
theorem len_Layers_longer {c : Cls4} : ∀ ds μ Φ, R_longer c ds μ Φ → ds.length = 1 := fun _ _ _ ⟨_, _, _, _, _, _, _, h, _⟩ => by rw [h]; rfl
abbrev s_Layers_longer : Stmt := inClass (topS 21) 1
theorem sc_Layers_longer : FnScope ["self", "last", "found", "mask", "own", "best", "label", "step"] ["self"] (defScope s_Layers_longer) := ⟨rfl, rfl, rfl, by decide +kernel, rfl, by decide +kernel, by decide +kernel⟩
set_option maxHeartbeats 16000000 in
theorem ok_Layers_longer {P : Program} {w : World} {K : PySem.W.Frag} {mg : Str → Option Value} {base : Heap} {c : Cls4} {f : Addr} {fd : FuncData} (B : Blt mg) (hc : ClsOk K c mg)
    (h_least : Fn P w K mg base "least" 1 ["one", "two"] (spP K R_least)) (F : FD K "longer" "Layers.longer" s_Layers_longer f fd) : FnOk P w K mg base CX0 2 f fd ["self"] (spM K (R_longer c)) := by
  have sc := sc_Layers_longer
  refine F.ok sc (fun vs H Q E h => len_M (n := 1) len_Layers_longer h) (fun cdv A outer s H vs Q E hr h => ?_)
  have hu := hu_of hr
  refine ⟨_, PSs.nox ((pss_cons (ps_par (i := 1) (j := 2) (by rfl) sc.nd rfl rfl (by decide) rfl rfl (pa_cons (pe_ix (xx_list (K := K)) (xe_fld (K := K) (pv 0) rfl) (pe_un un_neg pe_int) (fun _ _ => rfl)) (pa_cons (pe_lst pa_nil) pa_nil)) (by rfl)) 
      (pss_cons (ps_for PassesOwn.never rfl (xi_enum (K := K) (by rfl) B.enumerate (pa_cons (pv 1) pa_nil)) (xg_tup (K := K) (n := 2) rfl (pgs_cons (pg_name (i := 3) sc.nd rfl (Or.inl rfl)) (pgs_cons (pg_name (i := 4) sc.nd rfl (Or.inl rfl)) pgs_nil)))
        (pss_cons (ps_set (i := 5) sc.nd rfl (Or.inl rfl) (pv 4)) 
        (pss_cons (ps_for PassesOwn.never rfl (xi_list (K := K) (pe_ix (xx_list (K := K)) (xe_fld (K := K) (pv 0) rfl) (pv 3) (fun _ _ => rfl))) (xg_tup (K := K) (n := 2) rfl (pgs_cons (pg_name (i := 6) sc.nd rfl (Or.inl rfl)) (pgs_cons (pg_name (i := 7) sc.nd rfl (Or.inl rfl)) pgs_nil)))
          (pss_one (ps_if (pt_cmpR xo_notN (pe_ix (xx_list (K := K)) (pv 1) (pe_ix (xx_tup (K := K)) (pv 7) pe_int (fun _ _ => rfl)) (fun _ _ => rfl)) pe_non (nomark _))
            (pss_one (ps_set (i := 5) sc.nd rfl (Or.inl rfl) (pe_fn h_least (hr.mono (by decide)) (by rfl) (pa_cons (pv 5) (pa_cons (pe_op op_add (pe_ix (xx_tup (K := K)) (pv 7) pe_int (fun _ _ => rfl)) (pe_ix (xx_list (K := K)) (pv 1) (pe_ix (xx_tup (K := K)) (pv 7) pe_int (fun _ _ => rfl)) (fun _ _ => rfl))) pa_nil)))))
            pss_nil))) 
        (pss_one (ps_expr (xe_bm (K := K) PySem.F.plainAttrs_list PySem.F.slot_list_append PySem.F.type_list_append mt_append (pv 2) (pa_cons (pv 5) pa_nil))))))) 
      (pss_one (ps_ret (pv 2)))))), read_M h ?_⟩
  rintro ds μ Φ ⟨s, p, q, rows, last, ok, hl, rfl, rfl, rfl⟩ nd
  have few := pow_few ok
  refine run_seq (run_parG (eva_cons (P1 := fun d μ1 => d = encW last ∧ μ1 = [(p, cellL c s q), (q, .lst (rows ++ [encW last]))]) (ev_ixC (p := q) (k := -1) (ev_fldC (i := 0) (ed_var rfl) rfl hc.clL hc.L_rows rfl ⟨rfl, ev_of (ed_un (ed_int 1) ru_neg) ⟨rfl, 1, _, rfl, _, atI_last _ _, rfl, rfl⟩⟩)) ?_))
  rintro _ _ ⟨rfl, rfl⟩
  refine eva_cons (P1 := fun d μ1 => ∃ f, f ∉ ([p, q] : List Addr) ∧ d = .loc f ∧ μ1 = [(f, .lst []), (p, cellL c s q), (q, .lst (rows ++ [encW last]))]) (ev_lstC (eva_of ea_nil ⟨Nat.zero_le _, fun f hfM hfμ => ⟨f, hfM, rfl, rfl⟩⟩)) ?_
  rintro _ _ ⟨f, hf, rfl, rfl⟩
  refine eva_of ea_nil ⟨_, _, rfl, ?_⟩
  refine run_seq (run_for (items := (last.zipIdx 0).map fun p => .tup [.int (p.2 : Nat), optI p.1]) ((it_enumL (ea_cons (ed_var rfl) ea_nil)).is (pairI_map optI last 0))
    (fun i ρ μ => ∃ x3 x4 x5 x6 x7, ρ = [some (.loc p), some (encW last), some (.loc f), x3, x4, x5, x6, x7] ∧ μ = [(f, .lst (((nxt s last).take i).map optI)), (p, cellL c s q), (q, .lst (rows ++ [encW last]))]) ⟨_, _, _, _, _, rfl, rfl⟩ (fun i d ρ1 μ1 hi hI => ?_) fun ρ1 μ1 hI => ?_)
  · obtain ⟨x3, x4, x5, x6, x7, rfl, rfl⟩ := hI
    rw [List.getElem?_map, List.getElem?_zipIdx] at hi
    cases ho : last[i]? with
    | none => rw [ho] at hi; cases hi
    | some own =>
      rw [ho] at hi
      have hi : D.tup [.int ((0 + i : Nat) : Int), optI own] = d := Option.some.inj hi
      rw [Nat.zero_add] at hi
      subst hi
      have hil : i < 2 ^ s.nodes.length := by have := (List.getElem?_eq_some_iff.mp ho).1; omega
      have etk : (nxt s last).take (i + 1) = (nxt s last).take i ++ [best1 last (movesOf s i) own] := by rw [List.take_add_one, nxt_get s ho]; rfl
      refine ⟨_, _, tg_two, run_seq (run_asg (ed_var rfl) ?_)⟩
      refine run_seq (run_forV (items := (movesOf s i).map encV) (fun j ρ μ => ∃ x6 x7, ρ = [some (.loc p), some (encW last), some (.loc f), some (.int (i : Nat)), some (optI own), some (optI (best1 last ((movesOf s i).take j) own)), x6, x7] ∧ μ = [(f, .lst (((nxt s last).take i).map optI)), (p, cellL c s q), (q, .lst (rows ++ [encW last]))])
        (iv_list (ev_op (P1 := fun d μ1 => d = mvD s ∧ μ1 = [(f, .lst (((nxt s last).take i).map optI)), (p, cellL c s q), (q, .lst (rows ++ [encW last]))]) (ev_fldC (i := 1) (ed_var rfl) rfl hc.clL hc.L_moves rfl ⟨rfl, rfl⟩) (by
          rintro _ _ ⟨rfl, rfl⟩
          exact ev_of (ed_var rfl) ⟨_, rv_ixL (mv_at hil), _, rfl, rfl, x6, x7, rfl, rfl⟩))) (fun j d ρ2 μ2 hj hJ => ?_) fun ρ2 μ2 hJ => ?_)
      · obtain ⟨x6, x7, rfl, rfl⟩ := hJ
        rw [List.getElem?_map] at hj
        cases hp : (movesOf s i)[j]? with
        | none => rw [hp] at hj; cases hj
        | some mv =>
          rw [hp] at hj
          have hj : encV mv = d := Option.some.inj hj
          subst hj
          have hto : mv.2.2.2 < last.length := by rw [hl]; exact moves_lt ok hil (List.mem_of_getElem? hp)
          have etj : (movesOf s i).take (j + 1) = (movesOf s i).take j ++ [mv] := by rw [List.take_add_one, hp]; rfl
          have hat := row_at hto
          refine ⟨_, _, tg_two, run_if (EdT.is (et_test (ed_op (ed_op (ed_var rfl) (ed_op (ed_var rfl) (ed_int 2) (rv_ixT rfl)) (rv_ixL hat)) ed_non rv_notN)) (congrArg (!·) (isNon_optI _))) (fun hb => ?_) fun hb => ?_⟩
          · cases hx : last.getD mv.2.2.2 none with
            | none => rw [hx] at hb; cases hb
            | some x =>
              rw [hx] at hat
              refine run_asg (ed_call (ea_cons (ed_var rfl) (ea_cons (ed_op (ed_op (ed_var rfl) (ed_int 0) (rv_ixT rfl)) (ed_op (ed_var rfl) (ed_op (ed_var rfl) (ed_int 2) (rv_ixT rfl)) (rv_ixL hat)) rv_int) ea_nil)) ⟨_, some (mv.2.1 + x), rfl, rfl⟩) ⟨some (.str mv.1), some (encP mv.2), ?_, rfl⟩
              rw [etj, best1_snoc, hx]
              rfl
          · cases hx : last.getD mv.2.2.2 none with
            | some x => rw [hx] at hb; cases hb
            | none =>
              refine run_next ⟨some (.str mv.1), some (encP mv.2), ?_, rfl⟩
              rw [etj, best1_snoc, hx]
              rfl
      · obtain ⟨x6, x7, rfl, rfl⟩ := hJ
        rw [List.length_map, List.take_length]
        refine run_app (i := 0) rfl rfl (ed_var rfl) (by
          rw [List.length_map]
          have := List.length_take_le i (nxt s last)
          omega) ⟨_, _, _, _, _, rfl, ?_⟩
        rw [etk, List.map_append]
        rfl
  · obtain ⟨x3, x4, x5, x6, x7, rfl, rfl⟩ := hI
    refine run_freeze (i := 2) hf rfl (run_ret (ed_var rfl) ⟨_, List.Sublist.refl _, rfl, ?_, rfl⟩)
    have : (nxt s last).take ((last.zipIdx 0).map fun p => D.tup [.int (p.2 : Nat), optI p.1]).length = nxt s last := List.take_of_length_le (by rw [List.length_map, List.length_zipIdx, nxt_len]; exact Nat.le_refl _)
    rw [this]
    rfl
theorem len_Layers_within {c : Cls4} : ∀ ds d, R_within c ds d → ds.length = 2 := fun _ _ ⟨_, _, _, _, h, _⟩ => by rw [h]; rfl
theorem rows_at {s : Sto} {r : List (Str × Option Int)} {k : Nat} (h : k ≤ lastK s r) : atI ((rowsOf s r).map encW) (k : Int) = some (encW (rowK s r k)) := by
  refine atI_nat ?_
  rw [List.getElem?_map, rowsOf_get h]
  rfl
theorem rows_last (s : Sto) (r : List (Str × Option Int)) : atI ((rowsOf s r).map encW) (-1) = some (encW (rowK s r (lastK s r))) := by
  unfold rowsOf
  rw [List.range_succ, List.map_append, List.map_append]
  exact atI_last _ _
section
variable {K : PySem.W.Frag} {c : Cls4} {mg : Str → Option Value} {ρ : Ro} {te : TE} {s : Sto} {r : List (Str × Option Int)}
theorem ed_L_rows (hc : ClsOk K c mg) (h : EvD K te ρ (encL c s r)) : EvD K (tFld K te "rows") ρ (.lst ((rowsOf s r).map encW)) := ed_fld h hc.clL hc.L_rows rfl
theorem ed_L_moves (hc : ClsOk K c mg) (h : EvD K te ρ (encL c s r)) : EvD K (tFld K te "moves") ρ (mvD s) := ed_fld h hc.clL hc.L_moves rfl
end
abbrev s_Layers_within : Stmt := inClass (topS 21) 2
theorem sc_Layers_within : FnScope ["self", "mends"] ["self", "mends"] (defScope s_Layers_within) := ⟨rfl, rfl, rfl, by decide +kernel, rfl, by decide +kernel, by decide +kernel⟩
set_option maxHeartbeats 16000000 in
theorem ok_Layers_within {P : Program} {w : World} {K : PySem.W.Frag} {mg : Str → Option Value} {base : Heap} {c : Cls4} {f : Addr} {fd : FuncData} (B : Blt mg) (hc : ClsOk K c mg) (F : FD K "within" "Layers.within" s_Layers_within f fd) : FnOk P w K mg base CX0 1 f fd ["self", "mends"] (spP K (R_within c)) := by
  have sc := sc_Layers_within
  refine F.ok sc (fun vs H Q E h => len_P (n := 2) len_Layers_within h) (fun cdv A outer s H vs Q E hr h => ?_)
  have hu := hu_of hr
  refine ⟨_, PSs.nox ((pss_one (ps_ret (pe_ifExp (PW.pt (pw_or (pt_cmpR xo_isN (pv 1) pe_non (nomark _)) (pw_or1 (pt_cmpR op_ge (pv 1) (pe_callB (xc_len (K := K)) (by rfl) B.len boot_len (pa_cons (xe_fld (K := K) (pv 0) rfl) pa_nil)) (nomark _))))) (pe_ix (xx_list (K := K)) (xe_fld (K := K) (pv 0) rfl) (pe_un un_neg pe_int) (fun _ _ => rfl)) (pe_ix (xx_list (K := K)) (xe_fld (K := K) (pv 0) rfl) (pv 1) (fun _ _ => rfl)))))), read_P h ?_⟩
  rintro ds d ⟨s, rd, j, fx, rfl, rfl⟩
  cases j with
  | none =>
    refine run_ret (ed_if (EdT.is (et_or (b := true) (et_test (ed_op (ed_var rfl) ed_non rv_isN)) fun h => Bool.noConfusion h) rfl) (fun _ => ed_op (ed_L_rows hc (ed_var rfl)) (ed_un (ed_int 1) ru_neg) (rv_ixL (rows_last s rd))) fun h => Bool.noConfusion h) ?_
    rfl
  | some n =>
    refine run_ret (ed_if (b := decide (lastK s rd + 1 ≤ n)) (EdT.is (et_or (et_test (ed_op (ed_var rfl) ed_non rv_isN)) fun h => et_test (ed_op (ed_var rfl) (ed_cb (ea_cons (ed_L_rows hc (ed_var rfl)) ea_nil) rc_lenL) rv_bl)) ?_) (fun hb => ed_op (ed_L_rows hc (ed_var rfl)) (ed_un (ed_int 1) ru_neg) (rv_ixL (z := encW (rowK s rd (idxJ s rd (some n)))) ?_)) fun hb => ed_op (ed_L_rows hc (ed_var rfl)) (ed_var rfl) (rv_ixL (z := encW (rowK s rd (idxJ s rd (some n)))) ?_)) rfl
    · rw [List.length_map, rowsOf_len]
      show (false || decide (((lastK s rd + 1 : Nat) : Int) ≤ (n : Int))) = _
      rw [Bool.false_or]
      exact decide_eq_decide.mpr (by omega)
    · have := of_decide_eq_true hb
      rw [show idxJ s rd (some n) = lastK s rd from Nat.min_eq_right (by omega)]
      exact rows_last s rd
    · have := of_decide_eq_false hb
      rw [show idxJ s rd (some n) = n from Nat.min_eq_left (by omega)]
      exact rows_at (by omega)
theorem len_Layers_best_step {c : Cls4} : ∀ ds d, R_best c ds d → ds.length = 3 := fun _ _ ⟨_, _, _, _, _, _, _, _, _, _, h, _⟩ => by rw [h]; rfl
abbrev s_Layers_best_step : Stmt := inClass (topS 21) 4
theorem sc_Layers_best_step : FnScope ["self", "mask", "left", "label", "step", "rest"] ["self", "mask", "left"] (defScope s_Layers_best_step) := ⟨rfl, rfl, rfl, by decide +kernel, rfl, by decide +kernel, by decide +kernel⟩
set_option maxHeartbeats 16000000 in
theorem ok_Layers_best_step {P : Program} {w : World} {K : PySem.W.Frag} {mg : Str → Option Value} {base : Heap} {c : Cls4} {f : Addr} {fd : FuncData} (B : Blt mg) (hc : ClsOk K c mg) (F : FD K "best_step" "Layers.best_step" s_Layers_best_step f fd) : FnOk P w K mg base CX0 1 f fd ["self", "mask", "left"] (spP K (R_best c)) := by
  have sc := sc_Layers_best_step
  refine F.ok sc (fun vs H Q E h => len_P (n := 3) len_Layers_best_step h) (fun cdv A outer s H vs Q E hr h => ?_)
  have hu := hu_of hr
  refine ⟨_, PSs.nox ((pss_one (ps_for PassesOwn.never rfl (xi_list (K := K) (pe_ix (xx_list (K := K)) (xe_fld (K := K) (pv 0) rfl) (pv 1) (fun _ _ => rfl))) (xg_tup (K := K) (n := 2) rfl (pgs_cons (pg_name (i := 3) sc.nd rfl (Or.inl rfl)) (pgs_cons (pg_name (i := 4) sc.nd rfl (Or.inl rfl)) pgs_nil)))
        (pss_cons (ps_set (i := 5) sc.nd rfl (Or.inl rfl) (pe_ix (xx_list (K := K)) (pe_ix (xx_list (K := K)) (xe_fld (K := K) (pv 0) rfl) (pe_op op_sub (pv 2) pe_int) (fun _ _ => rfl)) (pe_ix (xx_tup (K := K)) (pv 4) pe_int (fun _ _ => rfl)) (fun _ _ => rfl))) 
        (pss_one (ps_if (PW.pt (pw_and (pt_cmpR xo_notN (pv 5) pe_non (nomark _)) (pw_and1 (pt_cmpR op_eq (pe_op op_add (pe_ix (xx_tup (K := K)) (pv 4) pe_int (fun _ _ => rfl)) (pv 5)) (pe_ix (xx_list (K := K)) (pe_ix (xx_list (K := K)) (xe_fld (K := K) (pv 0) rfl) (pv 2) (fun _ _ => rfl)) (pv 1) (fun _ _ => rfl)) (nomark _)))))
          (pss_one (ps_ret (pe_tup (pa_cons (pv 3) (pa_cons (pv 4) pa_nil)))))
          pss_nil)))))), read_P h ?_⟩
  rintro ds d ⟨s, rd, mask, l, p, ok, fx, hm, hl, hp, rfl, rfl⟩
  refine run_for (items := (movesOf s mask).map encV) (it_list (ed_op (ed_L_moves hc (ed_var rfl)) (ed_var rfl) (rv_ixL (mv_at hm))))
    (fun i ρ μ => (∃ x3 x4 x5, ρ = [some (encL c s rd), some (.int mask), some (.int ((l + 1 : Nat) : Int)), x3, x4, x5] ∧ μ = []) ∧ ∀ j < i, ∀ q, (movesOf s mask)[j]? = some q → isBest s rd mask (l + 1) q = false) ⟨⟨_, _, _, rfl, rfl⟩, fun j hj => absurd hj (Nat.not_lt_zero _)⟩ (fun i d ρ1 μ1 hi hI => ?_) fun ρ1 μ1 hI => ?_
  · obtain ⟨⟨x3, x4, x5, rfl, rfl⟩, hno⟩ := hI
    rw [List.getElem?_map] at hi
    cases hq : (movesOf s mask)[i]? with
    | none => rw [hq] at hi; cases hi
    | some mv =>
      rw [hq] at hi
      have hi : encV mv = d := Option.some.inj hi
      subst hi
      have hto : mv.2.2.2 < 2 ^ s.nodes.length := moves_lt ok hm (List.mem_of_getElem? hq)
      have hat := row_at (l := rowK s rd l) (i := mv.2.2.2) (by rw [rowK_len]; exact hto)
      have hat2 := row_at (l := rowK s rd (l + 1)) (i := mask) (by rw [rowK_len]; exact hm)
      have hl1 : atI ((rowsOf s rd).map encW) (((l + 1 : Nat) : Int) - 1) = some (encW (rowK s rd l)) := by
        have : ((l + 1 : Nat) : Int) - 1 = (l : Int) := by omega
        rw [this]
        exact rows_at (by omega)
      refine ⟨_, _, tg_two, run_seq (run_asg (ed_op (ed_op (ed_L_rows hc (ed_var rfl)) (ed_op (ed_var rfl) (ed_int 1) rv_int) (rv_ixL hl1)) (ed_op (ed_var rfl) (ed_int 2) (rv_ixT rfl)) (rv_ixL hat)) ?_)⟩
      have hstep : isBest s rd mask (l + 1) mv = false → ∀ j < i + 1, ∀ q, (movesOf s mask)[j]? = some q → isBest s rd mask (l + 1) q = false := fun hb j hj q hjq => by
        by_cases e : j = i
        · subst e
          rw [hq] at hjq
          cases hjq
          exact hb
        · exact hno j (by omega) q hjq
      cases hx : (rowK s rd l).getD mv.2.2.2 none with
      | none =>
        refine run_no (EdT.is (et_and (b := false) (et_test (ed_op (ed_var rfl) ed_non rv_notN)) fun h => Bool.noConfusion h) rfl) (run_next ⟨⟨_, _, _, rfl, rfl⟩, hstep ?_⟩)
        unfold isBest
        rw [show l + 1 - 1 = l from rfl, hx]
      | some x =>
        have hb : isBest s rd mask (l + 1) mv = decide (some (mv.2.1 + x) = (rowK s rd (l + 1)).getD mask none) := by
          unfold isBest
          rw [show l + 1 - 1 = l from rfl, hx]
        have hop : ∃ b, RvD K rEq (.int (mv.2.1 + x)) (optI ((rowK s rd (l + 1)).getD mask none)) (.bl b) ∧ b = isBest s rd mask (l + 1) mv := by
          rw [hb]
          cases (rowK s rd (l + 1)).getD mask none with
          | none => exact ⟨_, rv_eq rfl rfl rfl, by simp⟩
          | some y => exact ⟨_, rv_eq rfl rfl rfl, by simp⟩
        obtain ⟨b, hop, hbb⟩ := hop
        subst hbb
        refine run_if (EdT.is (et_and (et_test (ed_op (ed_var rfl) ed_non rv_notN)) fun _ => et_test (ed_op (ed_op (ed_op (ed_var rfl) (ed_int 0) (rv_ixT rfl)) (ed_var rfl) rv_int) (ed_op (ed_op (ed_L_rows hc (ed_var rfl)) (ed_var rfl) (rv_ixL (rows_at hl))) (ed_var rfl) (rv_ixL hat2)) hop)) (show (true && _) = _ from Bool.true_and _)) (fun h => ?_) fun h => ?_
        · refine run_ret (ed_tup (ea_cons (ed_var rfl) (ea_cons (ed_var rfl) ea_nil)) (show 2 ≤ 100000 by decide)) ?_
          have : (movesOf s mask).find? (isBest s rd mask (l + 1)) = some mv := by
            obtain ⟨hi1, hi2⟩ := List.getElem?_eq_some_iff.mp hq
            refine List.find?_eq_some_iff_getElem.mpr ⟨h, i, hi1, hi2, fun j hj => ?_⟩
            have := hno j hj _ (List.getElem?_eq_getElem (Nat.lt_trans hj hi1))
            rw [this]
            rfl
          rw [this] at hp
          cases hp
          rfl
        · exact run_next ⟨⟨_, _, _, rfl, rfl⟩, hstep h⟩
  · obtain ⟨_, hno⟩ := hI
    exfalso
    have hb := List.find?_some hp
    obtain ⟨j, hj, e⟩ := List.getElem_of_mem (List.mem_of_find?_eq_some hp)
    have := hno j (by rw [List.length_map]; exact hj) p (by rw [List.getElem?_eq_getElem hj, e])
    rw [this] at hb
    cases hb
end Am
namespace Am
open PySem PySem.Spec PyProof.Rows L2
section
variable {K : PySem.W.Frag} {M : List Addr} {ρ : Ro} {μ : Mem} {ta tb te : TE} {Φ : Post} {ts : TS}
theorem run_then (h : Run K M ts ρ μ { Φ with nx := fun ρ' μ' => Run K M tNext ρ' μ' Φ }) : Run K M ts ρ μ Φ := fun Dn G0 H0 G H σ s k =>
  h Dn G0 H0 G H σ s ⟨fun σ' ρ' μ' G' H' e s' (q : Run K M tNext ρ' μ' Φ) => q Dn G0 H0 G' H' σ' s' (k.mono e), k.rt, k.bk, k.ct⟩
theorem cl_opt (o : Option Int) : (PySem.W.Datum.toD o : PyData).canLay0 = true := by cases o <;> first | rfl | simp [PySem.W.Datum.toD, PyData.canLay0]
theorem cl_all {α : Type} {f : α → PyData} (h : ∀ x, (f x).canLay0 = true) : ∀ l : List α, PyData.canLayAll0 (l.map f) = true
  | [] => by simp [PyData.canLayAll0]
  | a :: l => by simp [PyData.canLayAll0, h a, cl_all h l]
theorem cl_row (r : Row) : (PySem.W.Datum.toD r : PyData).canLay0 = true := by
  show (PyData.list (r.map PySem.W.Datum.toD)).canLay0 = true
  simpa [PyData.canLay0] using cl_all cl_opt r
theorem encW_eq (r : Row) : encW r = ofP (PySem.W.Datum.toD r) := by
  show _ = D.lst (ofPs (r.map PySem.W.Datum.toD))
  rw [ofPs_map]
  refine congrArg D.lst (List.map_congr_left fun o _ => (ofP_optI o).symm)
theorem rows_eq (l : List Row) : (D.lst (l.map encW)) = ofP (PySem.W.Datum.toD l) := by
  show _ = D.lst (ofPs (l.map PySem.W.Datum.toD))
  rw [ofPs_map]
  refine congrArg D.lst (List.map_congr_left fun o _ => encW_eq o)
theorem ed_index {rows : List Row} {x : Row} (ho : EvD K te ρ (.lst (rows.map encW))) (ha : EvD K ta ρ (encW x)) (hx : x ∈ rows) : EvD K (tBM K "list" (rIndexD K) te (tCons ta tNil)) ρ (.int ((rows.idxOf x : Nat) : Int)) := fun G H σ s l Q q => ho G H σ s l _ fun v G1 H1 g1 r1 => by
  have r1' := r1
  rw [rows_eq] at r1'
  cases r1 with
  | lst e rr =>
    rename_i a xs
    refine ⟨.inl ⟨rfl, _, .inl (.inl (g1.sub _ _ e))⟩, ha G1 H1 σ g1.sub (l.mono g1.g) _ fun w G2 H2 g2 r2 => ?_⟩
    rw [encW_eq] at r2
    have hi := List.idxOf_lt_length_iff.mpr hx
    have sh : ∀ r : Row, SeqAt.shaped (PySem.W.Datum.toD r) = true := fun r => by
      unfold SeqAt.shaped
      rw [cl_row r, Bool.true_and]
      exact decide_eq_true (Nat.le_trans (PySem.W.Datum.depth_le r) (by decide))
    refine ⟨a, w, PySem.W.Datum.toD x, rows.map PySem.W.Datum.toD, rows.idxOf x, PySem.W.Datum.toD x, rfl, rfl, dp_of g2.sub (PySem.W.Datum.toD rows) _ (pl_plain _ (PySem.W.Datum.plain rows)) (r1'.mono g2.g), dp_of g2.sub _ _ (pl_plain _ (PySem.W.Datum.plain x)) r2, ?_, sh x, ?_, ?_, fun m z' hm hz => ?_, q _ _ _ (g1.trans g2) (.int _)⟩
    · unfold SeqAt.shaped
      rw [show (PyData.list (rows.map PySem.W.Datum.toD)).canLay0 = true by simpa [PyData.canLay0] using cl_all cl_row rows, Bool.true_and]
      exact decide_eq_true (Nat.le_trans (PySem.W.Datum.depth_le rows) (by decide))
    · rw [List.getElem?_map, List.getElem?_eq_getElem hi, List.getElem_idxOf hi]
      rfl
    · rw [PySem.W.Datum.eqv]
      simp
    · rw [List.getElem?_map] at hz
      cases hr : rows[m]? with
      | none => rw [hr] at hz; cases hz
      | some r =>
        rw [hr] at hz
        have hz : PySem.W.Datum.toD r = z' := Option.some.inj hz
        subst hz
        rw [PySem.W.Datum.eqv]
        refine decide_eq_false fun e => ?_
        have hml : m < rows.length := Nat.lt_trans hm hi
        have h2 := List.not_of_lt_findIdx (p := (· == x)) (xs := rows) (i := m) (by simpa [List.idxOf] using hm)
        rw [List.getElem?_eq_getElem hml] at hr
        rw [Option.some.inj hr, e] at h2
        simp at h2
end
theorem len_Layers_steps_of {c : Cls4} : ∀ ds d, R_stepsOf c ds d → ds.length = 3 := fun _ _ ⟨_, _, _, _, _, _, _, h, _⟩ => by rw [h]; rfl
theorem idxJ_le (s : Sto) (rd : List (Str × Option Int)) (j : Option Nat) : idxJ s rd j ≤ lastK s rd := by
  cases j with
  | none => exact Nat.le_refl _
  | some n => exact Nat.min_le_right _ _
theorem idx_row (s : Sto) (rd : List (Str × Option Int)) (j : Option Nat) : (rowsOf s rd).idxOf (rowK s rd (idxJ s rd j)) ≤ idxJ s rd j := by
  have h := rowsOf_get (idxJ_le s rd j)
  rcases Nat.lt_or_ge (idxJ s rd j) ((rowsOf s rd).idxOf (rowK s rd (idxJ s rd j))) with z | z
  · have hl := (List.getElem?_eq_some_iff.mp h).1
    have h2 := List.not_of_lt_findIdx (p := (· == rowK s rd (idxJ s rd j))) (xs := rowsOf s rd) (i := idxJ s rd j) (by simpa [List.idxOf] using z)
    have h3 := (List.getElem?_eq_some_iff.mp h).2
    rw [h3] at h2
    simp at h2
  · exact z
theorem row_mem (s : Sto) (rd : List (Str × Option Int)) (j : Option Nat) : rowK s rd (idxJ s rd j) ∈ rowsOf s rd := List.mem_of_getElem? (rowsOf_get (idxJ_le s rd j))
abbrev s_Layers_steps_of : Stmt := inClass (topS 21) 3
theorem sc_Layers_steps_of : FnScope ["self", "mask", "mends", "left", "found", "label", "step"] ["self", "mask", "mends"] (defScope s_Layers_steps_of) := ⟨rfl, rfl, rfl, by decide +kernel, rfl, by decide +kernel, by decide +kernel⟩
set_option maxHeartbeats 16000000 in
theorem ok_Layers_steps_of {P : Program} {w : World} {K : PySem.W.Frag} {mg : Str → Option Value} {base : Heap} {c : Cls4} {f : Addr} {fd : FuncData} (B : Blt mg) (hc : ClsOk K c mg)
    (h_Layers_within : Mt P w K mg base c.L "within" 1 ["self", "mends"] (spP K (R_within c)))
    (h_Layers_best_step : Mt P w K mg base c.L "best_step" 1 ["self", "mask", "left"] (spP K (R_best c))) (F : FD K "steps_of" "Layers.steps_of" s_Layers_steps_of f fd) : FnOk P w K mg base CX0 2 f fd ["self", "mask", "mends"] (spP K (R_stepsOf c)) := by
  have sc := sc_Layers_steps_of
  refine F.ok sc (fun vs H Q E h => len_P (n := 3) len_Layers_steps_of h) (fun cdv A outer s H vs Q E hr h => ?_)
  have hu := hu_of hr
  refine ⟨_, PSs.nox ((pss_cons (ps_par (i := 3) (j := 4) (by rfl) sc.nd rfl rfl (by decide) rfl rfl (pa_cons (xe_bm (K := K) PySem.F.plainAttrs_list PySem.F.slot_list_index PySem.F.type_list_index (xm_indexD (K := K) hr.units1) (xe_fld (K := K) (pv 0) rfl) (pa_cons (pe_mt h_Layers_within (pv 0) (hr.mono (by decide)) (pa_cons (pv 2) pa_nil)) pa_nil)) (pa_cons (pe_lst pa_nil) pa_nil)) (by rfl)) 
      (pss_cons (ps_while PassesOwn.never (pt_cmpR op_gt (pv 3) pe_int (nomark _))
        (pss_cons (ps_if (pt_cmpR op_ne (pe_ix (xx_list (K := K)) (pe_ix (xx_list (K := K)) (xe_fld (K := K) (pv 0) rfl) (pv 3) (fun _ _ => rfl)) (pv 1) (fun _ _ => rfl)) (pe_ix (xx_list (K := K)) (pe_ix (xx_list (K := K)) (xe_fld (K := K) (pv 0) rfl) (pe_op op_sub (pv 3) pe_int) (fun _ _ => rfl)) (pv 1) (fun _ _ => rfl)) (nomark _))
          (pss_cons (ps_asg (pe_mt h_Layers_best_step (pv 0) (hr.mono (by decide)) (pa_cons (pv 1) (pa_cons (pv 3) pa_nil))) (xg_tup (K := K) (n := 2) rfl (pgs_cons (pg_name (i := 5) sc.nd rfl (Or.inl rfl)) (pgs_cons (pg_name (i := 6) sc.nd rfl (Or.inl rfl)) pgs_nil)))) 
          (pss_cons (ps_expr (xe_bm (K := K) PySem.F.plainAttrs_list PySem.F.slot_list_append PySem.F.type_list_append mt_append (pv 4) (pa_cons (pe_tup (pa_cons (pv 5) (pa_cons (pe_ix (xx_tup (K := K)) (pv 6) pe_int (fun _ _ => rfl)) pa_nil))) pa_nil))) 
          (pss_one (ps_set (i := 1) sc.nd rfl (Or.inl rfl) (pe_ix (xx_tup (K := K)) (pv 6) pe_int (fun _ _ => rfl))))))
          pss_nil) 
        (pss_one (ps_aug (i := 3) sc.nd rfl (Or.inl rfl) pe_int ip_sub)))) 
      (pss_one (ps_ret (pe_callTy (xc_tuple (K := K)) (by rfl) B.tuple boot_tuple (pa_cons (pv 4) pa_nil))))))), read_P h ?_⟩
  rintro ds d ⟨s, rd, j, mask, ok, fx, hm, rfl, rfl⟩
  have l200 := lastK_lt fx
  have hleft := Nat.le_trans (idx_row s rd j) (idxJ_le s rd j)
  let total := stepsW s rd j mask
  have ltot : total.length ≤ 200 := by
    have := trace_len s rd ((rowsOf s rd).idxOf (rowK s rd (idxJ s rd j))) mask
    show (trace s rd _ mask).length ≤ 200
    omega
  refine run_seq (run_parG (eva_cons (P1 := fun d μ1 => d = .int (((rowsOf s rd).idxOf (rowK s rd (idxJ s rd j)) : Nat) : Int) ∧ μ1 = []) (ev_of (ed_index (ed_L_rows hc (ed_var rfl)) (ed_meth (ed_var rfl) rfl (ea_cons (ed_var rfl) ea_nil) ⟨s, rd, j, fx, rfl, rfl⟩) (row_mem s rd j)) ⟨rfl, rfl⟩) ?_))
  rintro _ _ ⟨rfl, rfl⟩
  refine eva_cons (P1 := fun d μ1 => ∃ f, d = .loc f ∧ μ1 = [(f, .lst [])]) (ev_lstC (eva_of ea_nil ⟨Nat.zero_le _, fun f hfM hfμ => ⟨f, rfl, rfl⟩⟩)) ?_
  rintro _ _ ⟨f, rfl, rfl⟩
  refine eva_of ea_nil ⟨_, _, rfl, ?_⟩
  refine run_seq (run_while (fun m ρ μ => ∃ mask x5 x6 acc, ρ = [some (encL c s rd), some (.int ((mask : Nat) : Int)), some (optN j), some (.int (m : Nat)), some (.loc f), x5, x6] ∧ μ = [(f, .lst (acc.map encSp))] ∧ mask < 2 ^ s.nodes.length ∧ m ≤ lastK s rd ∧ acc ++ trace s rd m mask = total)
    ((rowsOf s rd).idxOf (rowK s rd (idxJ s rd j))) ⟨mask, none, none, [], rfl, rfl, hm, hleft, rfl⟩ ?_)
  rintro m _ _ ⟨mask1, x5, x6, acc, rfl, rfl, hm1, hml, htot⟩
  refine evt_of (et_test (ed_op (ed_var rfl) (ed_int 0) rv_bl)) ?_
  cases m with
  | zero =>
    rw [if_neg (by decide)]
    refine run_freeze (i := 4) (by simp) rfl (run_ret (ed_cb (ea_cons (ed_var rfl) ea_nil) rc_tuple) ?_)
    unfold trace at htot
    rw [List.append_nil] at htot
    rw [htot]
  | succ l =>
    rw [if_pos (by
      refine decide_eq_true ?_
      show (0 : Int) < ((l + 1 : Nat) : Int)
      omega)]
    have hatA := row_at (l := rowK s rd (l + 1)) (i := mask1) (by rw [rowK_len]; exact hm1)
    have hatB := row_at (l := rowK s rd l) (i := mask1) (by rw [rowK_len]; exact hm1)
    have hl1 : atI ((rowsOf s rd).map encW) (((l + 1 : Nat) : Int) - 1) = some (encW (rowK s rd l)) := by
      have : ((l + 1 : Nat) : Int) - 1 = (l : Int) := by omega
      rw [this]
      exact rows_at (by omega)
    have hop : ∃ b, RvD K rNe (optI ((rowK s rd (l + 1)).getD mask1 none)) (optI ((rowK s rd l).getD mask1 none)) (.bl b) ∧ b = !decide ((rowK s rd (l + 1)).getD mask1 none = (rowK s rd l).getD mask1 none) := by
      cases (rowK s rd (l + 1)).getD mask1 none <;> cases (rowK s rd l).getD mask1 none <;> exact ⟨_, rv_ne rfl rfl rfl, by simp⟩
    obtain ⟨b, hop, hbb⟩ := hop
    have haug : ∀ {x : Int}, x = ((l + 1 : Nat) : Int) - 1 → x = (l : Int) := fun h => by omega
    refine run_seq (run_if (et_test (ed_op (ed_op (ed_op (ed_L_rows hc (ed_var rfl)) (ed_var rfl) (rv_ixL (rows_at hml))) (ed_var rfl) (rv_ixL hatA)) (ed_op (ed_op (ed_L_rows hc (ed_var rfl)) (ed_op (ed_var rfl) (ed_int 1) rv_int) (rv_ixL hl1)) (ed_var rfl) (rv_ixL hatB)) hop)) (fun hb => ?_) fun hb => ?_)
    · rw [hbb] at hb
      have hne : (rowK s rd (l + 1)).getD mask1 none ≠ (rowK s rd l).getD mask1 none := by simpa using hb
      obtain ⟨p, hp⟩ := best_is hm1 hne
      have htr : trace s rd (l + 1) mask1 = (p.1, p.2.2.1) :: trace s rd l p.2.2.2 := by
        conv => lhs; unfold trace
        rw [if_neg hne, hp]
      rw [htr] at htot
      refine run_seq (run_asgT (ed_meth (ed_var rfl) rfl (ea_cons (ed_var rfl) (ea_cons (ed_var rfl) ea_nil)) ⟨s, rd, mask1, l, p, ok, fx, hm1, hml, hp, rfl, rfl⟩) tg_two ?_)
      refine run_seq (run_app (i := 0) rfl rfl (ed_tup (ea_cons (ed_var rfl) (ea_cons (ed_op (ed_var rfl) (ed_int 1) (rv_ixT rfl)) ea_nil)) (show 2 ≤ 100000 by decide)) (by
        rw [List.length_map]
        have := congrArg List.length htot
        rw [List.length_append, List.length_cons] at this
        omega) ?_)
      refine run_asg (ed_op (ed_var rfl) (ed_int 2) (rv_ixT rfl)) ?_
      refine run_aug rfl (ed_int 1) ⟨l, Nat.lt_succ_self _, p.2.2.2, some (.str p.1), some (encP p.2), acc ++ [(p.1, p.2.2.1)], ?_, ?_, moves_lt ok hm1 (List.mem_of_find?_eq_some hp), by omega, by rw [← htot, List.append_assoc]; rfl⟩
      · show [_, _, _, some (D.int (((l + 1 : Nat) : Int) - 1)), _, _, _] = _
        rw [haug rfl]
      · rw [List.map_append]
        rfl
    · rw [hbb] at hb
      have heq : (rowK s rd (l + 1)).getD mask1 none = (rowK s rd l).getD mask1 none := by simpa using hb
      have htr : trace s rd (l + 1) mask1 = trace s rd l mask1 := by
        conv => lhs; unfold trace
        rw [if_pos heq]
      rw [htr] at htot
      refine run_next (run_aug rfl (ed_int 1) ⟨l, Nat.lt_succ_self _, mask1, x5, x6, acc, ?_, rfl, hm1, by omega, htot⟩)
      show [_, _, _, some (D.int (((l + 1 : Nat) : Int) - 1)), _, _, _] = _
      rw [haug rfl]
theorem len_Way___init__ {c : Cls4} : ∀ ds μ Φ, R_Winit c ds μ Φ → ds.length = 3 := fun _ _ _ ⟨_, _, _, h, _⟩ => by rw [h]; rfl
abbrev s_Way___init__ : Stmt := inClass (topS 23) 0
theorem sc_Way___init__ : FnScope ["self", "total", "steps"] ["self", "total", "steps"] (defScope s_Way___init__) := ⟨rfl, rfl, rfl, by decide +kernel, rfl, by decide +kernel, by decide +kernel⟩
set_option maxHeartbeats 16000000 in
theorem ok_Way___init__ {P : Program} {w : World} {K : PySem.W.Frag} {mg : Str → Option Value} {base : Heap} {c : Cls4} {f : Addr} {fd : FuncData} (B : Blt mg) (hc : ClsOk K c mg) (F : FD K "__init__" "Way.__init__" s_Way___init__ f fd) : FnOk P w K mg base CX0 1 f fd ["self", "total", "steps"] (spM K (R_Winit c)) := by
  have sc := sc_Way___init__
  refine F.ok sc (fun vs H Q E h => len_M (n := 3) len_Way___init__ h) (fun cdv A outer s H vs Q E hr h => ?_)
  have hu := hu_of hr
  refine ⟨_, PSs.nox ((pss_cons (xs_fld (K := K) (pv 0) (pv 1) rfl) 
      (pss_one (xs_fld (K := K) (pv 0) (pv 2) rfl)))), read_M h ?_⟩
  rintro ds μ Φ ⟨p, t, ss, rfl, rfl, rfl⟩ nd
  refine run_seq (run_fld (i := 0) rfl rfl hc.clW hc.W_total (ed_var rfl) (show 0 < 1000 by decide) ?_)
  refine run_fld (i := 0) rfl rfl hc.clW hc.W_steps (ed_var rfl) (show 1 < 1000 by decide) ?_
  exact ⟨_, List.Sublist.refl _, rfl, rfl, rfl⟩
theorem len_way {c : Cls4} : ∀ ds d, R_way c ds d → ds.length = 4 := fun _ _ ⟨_, _, _, _, _, _, _, _, _, h, _⟩ => by rw [h]; rfl
abbrev s_way : Stmt := topS 24
theorem sc_way : FnScope ["store", "lot", "reader", "mends", "mask", "layers", "found"] ["store", "lot", "reader", "mends"] (defScope s_way) := ⟨rfl, rfl, rfl, by decide +kernel, rfl, by decide +kernel, by decide +kernel⟩
set_option maxHeartbeats 16000000 in
theorem ok_way {P : Program} {w : World} {K : PySem.W.Frag} {mg : Str → Option Value} {base : Heap} {c : Cls4} {f : Addr} {fd : FuncData} (B : Blt mg) (hc : ClsOk K c mg)
    (h_told_lot : Fn P w K mg base "told_lot" 3 ["store", "lot"] (spP K (R_told_lot c)))
    (h_Layers : Mr P w K mg base "Layers" c.L 4 ["self", "store", "reader"] (spM K (R_Linit c)))
    (h_told_reader : Fn P w K mg base "told_reader" 2 ["store", "reader"] (spP K (R_told_reader c)))
    (h_Layers_within : Mt P w K mg base c.L "within" 1 ["self", "mends"] (spP K (R_within c)))
    (h_told_mends : Fn P w K mg base "told_mends" 2 ["mends"] (spP K R_told_mends))
    (h_Way : Mr P w K mg base "Way" c.W 1 ["self", "total", "steps"] (spM K (R_Winit c)))
    (h_Layers_steps_of : Mt P w K mg base c.L "steps_of" 2 ["self", "mask", "mends"] (spP K (R_stepsOf c))) (F : FunD K "way" "way" (defArgs s_way) (defBody s_way) (defScope s_way) [.non] [] f fd) : FnOk P w K mg base CX0 6 f fd ["store", "lot", "reader", "mends"] (spP K (R_way c)) := by
  have sc := sc_way
  refine F.ok sc (fun vs H Q E h => len_P (n := 4) len_way h) (fun cdv A outer s H vs Q E hr h => ?_)
  have hu := hu_of hr
  refine ⟨_, PSs.nox ((pss_cons (ps_set (i := 4) sc.nd rfl (Or.inl rfl) (pe_fn h_told_lot (hr.mono (by decide)) (by rfl) (pa_cons (pv 0) (pa_cons (pv 1) pa_nil)))) 
      (pss_cons (ps_set (i := 5) sc.nd rfl (Or.inl rfl) (pe_mkr h_Layers (hr.mono (by decide)) (by rfl) (pa_cons (pv 0) (pa_cons (pe_fn h_told_reader (hr.mono (by decide)) (by rfl) (pa_cons (pv 0) (pa_cons (pv 2) pa_nil))) pa_nil)))) 
      (pss_cons (ps_set (i := 6) sc.nd rfl (Or.inl rfl) (pe_ix (xx_list (K := K)) (pe_mt h_Layers_within (pv 5) (hr.mono (by decide)) (pa_cons (pe_fn h_told_mends (hr.mono (by decide)) (by rfl) (pa_cons (pv 3) pa_nil)) pa_nil)) (pv 4) (fun _ _ => rfl))) 
      (pss_one (ps_ret (pe_mkr h_Way (hr.mono (by decide)) (by rfl) (pa_cons (pv 6) (pa_cons (pe_ifExp (pt_cmpR xo_isN (pv 6) pe_non (nomark _)) (pe_tup pa_nil) (pe_mt h_Layers_steps_of (pv 5) (hr.mono (by decide)) (pa_cons (pv 4) (pa_cons (pv 3) pa_nil)))) pa_nil))))))))), read_P h ?_⟩
  rintro ds d ⟨s, rd, r, m, j, ok, hrd, fx, hm, rfl, rfl⟩
  refine run_seq (run_asg (ed_call (ea_cons (ed_var rfl) (ea_cons (ed_var rfl) ea_nil)) ⟨s, m, ok, hm, rfl, rfl⟩) ?_)
  refine run_seq (run_asg (ed_make (fds := [("store", encS c s), ("moves", mvD s), ("rows", .lst ((rowsOf s rd).map encW))]) (ea_cons (ed_var rfl) (ea_cons (ed_call (ea_cons (ed_var rfl) (ea_cons (ed_var rfl) ea_nil)) ⟨s, r, ok, (List.getElem?_eq_some_iff.mp hrd).1, rfl, rfl⟩) ea_nil)) fun p => ⟨_, ⟨s, rd, r, p, ok, hrd, fx, rfl, rfl, rfl⟩, fun d μ' h => h⟩) ?_)
  have hat := row_at (l := rowK s rd (idxJ s rd j)) (i := m) (by rw [rowK_len]; exact hm)
  refine run_seq (run_asg (ed_op (ed_meth (ed_var rfl) rfl (ea_cons (ed_call (ea_cons (ed_var rfl) ea_nil) ⟨j, rfl, rfl⟩) ea_nil) ⟨s, rd, j, fx, rfl, rfl⟩) (ed_var rfl) (rv_ixL hat)) ?_)
  refine run_ret (ed_make (fds := [("total", optI (wayT s rd j m)), ("steps", .tup ((wayS s rd j m).map encSp))]) (ea_cons (ed_var rfl) (ea_cons (ed_if (et_test (ed_op (ed_var rfl) ed_non rv_isN)) (fun hb => EvD.is (ed_tup ea_nil (Nat.zero_le _)) ?_) fun hb => EvD.is (ed_meth (ed_var rfl) rfl (ea_cons (ed_var rfl) (ea_cons (ed_var rfl) ea_nil)) ⟨s, rd, j, m, ok, fx, hm, rfl, rfl⟩) ?_) ea_nil)) fun p => ⟨_, ⟨p, _, _, rfl, rfl, rfl⟩, fun d μ' h => h⟩) rfl
  · rw [isNon_optI] at hb
    have : wayT s rd j m = none := by
      show (rowK s rd (idxJ s rd j)).getD m none = none
      cases h : (rowK s rd (idxJ s rd j)).getD m none with
      | none => rfl
      | some x => rw [h] at hb; cases hb
    unfold wayS
    rw [if_pos this]
    rfl
  · rw [isNon_optI] at hb
    have : wayT s rd j m ≠ none := fun z => by
      have z : (rowK s rd (idxJ s rd j)).getD m none = none := z
      rw [z] at hb
      cases hb
    unfold wayS
    rw [if_neg this]
end Am
namespace Am
open PySem PySem.Spec PyProof.Rows L2
theorem len_Layers___init__ {c : Cls4} : ∀ ds μ Φ, R_Linit c ds μ Φ → ds.length = 3 := fun _ _ _ ⟨_, _, _, _, _, _, _, h, _⟩ => by rw [h]; rfl
theorem moves_flat (s : Sto) (m : Nat) : (s.mends.flatMap fun md => (stepsM s m md).map fun st => D.tup [.str md.label, encP st]) = (movesOf s m).map encV := by
  unfold movesOf
  rw [List.map_flatMap]
  refine congrArg (fun f => s.mends.flatMap f) (funext fun md => ?_)
  rw [List.map_map]
  rfl
theorem rows_take (s : Sto) (rd : List (Str × Option Int)) (k : Nat) : (List.range (k + 1)).map (rowK s rd) = (List.range k).map (rowK s rd) ++ [rowK s rd k] := by rw [List.range_succ, List.map_append]; rfl
theorem pow_cast (n : Nat) : (1 : Int) * 2 ^ ((n : Nat) : Int).toNat = ((2 ^ n : Nat) : Int) := by
  rw [Int.one_mul, Int.toNat_natCast, Int.natCast_pow]
  rfl
abbrev s_Layers___init__ : Stmt := inClass (topS 21) 0
theorem sc_Layers___init__ : FnScope ["self", "store", "reader", "mask", "longer", "mend", "step"] ["self", "store", "reader"] (defScope s_Layers___init__) := ⟨rfl, rfl, rfl, by decide +kernel, rfl, by decide +kernel, by decide +kernel⟩
set_option maxHeartbeats 16000000 in
theorem ok_Layers___init__ {P : Program} {w : World} {K : PySem.W.Frag} {mg : Str → Option Value} {base : Heap} {c : Cls4} {f : Addr} {fd : FuncData} (B : Blt mg) (hc : ClsOk K c mg)
    (h_steps_from : Fn P w K mg base "steps_from" 3 ["store", "mask", "mend"] (spP K (R_steps_from c)))
    (h_end_price : Fn P w K mg base "end_price" 2 ["store", "mask", "reader"] (spP K (R_end_price c)))
    (h_Layers_longer : Mt P w K mg base c.L "longer" 2 ["self"] (spM K (R_longer c))) (F : FD K "__init__" "Layers.__init__" s_Layers___init__ f fd) : FnOk P w K mg base CX0 4 f fd ["self", "store", "reader"] (spM K (R_Linit c)) := by
  have sc := sc_Layers___init__
  refine F.ok sc (fun vs H Q E h => len_M (n := 3) len_Layers___init__ h) (fun cdv A outer s H vs Q E hr h => ?_)
  have hu := hu_of hr
  refine ⟨_, PSs.nox ((pss_cons (xs_fld (K := K) (pv 0) (pv 1) rfl) 
      (pss_cons (xs_fld (K := K) (pv 0) (pe_lst pa_nil) rfl) 
      (pss_cons (ps_for PassesOwn.never rfl (pi_range1 (by rfl) B.range (pa_cons (pe_op op_shl pe_int (pe_callB (xc_len (K := K)) (by rfl) B.len boot_len (pa_cons (xe_fld (K := K) (pv 1) rfl) pa_nil))) pa_nil)) (pg_name (i := 3) sc.nd rfl (Or.inr rfl))
        (pss_one (ps_expr (xe_bm (K := K) PySem.F.plainAttrs_list PySem.F.slot_list_append PySem.F.type_list_append mt_append (xe_fld (K := K) (pv 0) rfl) (pa_cons (pe_lc2 (own := [("mend", 5), ("step", 6)]) (vs1 := [6]) rfl sc.nd (xi_tup (K := K) (xe_fld (K := K) (pv 1) rfl)) (blkOk_by (own := [("mend", 5), ("step", 6)]) (N := ["self", "store", "reader", "mask", "longer", "mend", "step"]) (sc := defScope s_Layers___init__) (by decide +kernel)) (by decide) (fun _ _ _ _ _ => (pg_name (i := 5) sc.nd rfl (Or.inl rfl))) (fun _ _ _ _ _ => pts_nil) (fun _ _ _ _ _ => (xi_list (K := K) (pe_fn h_steps_from (hr.mono (by decide)) (by rfl) (pa_cons (pv 1) (pa_cons (pv 3) (pa_cons (pv 5) pa_nil)))))) (fun _ _ _ _ _ => (pg_name (i := 6) sc.nd rfl (Or.inl rfl))) (fun _ _ _ _ _ => pts_nil) (fun _ _ _ _ _ => (pe_tup (pa_cons (xe_fld (K := K) (pv 5) rfl) (pa_cons (pv 6) pa_nil))))) pa_nil))))) 
      (pss_cons (xs_fld (K := K) (pv 0) (pe_lst (pa_cons (pe_lc (own := [("mask", 3)]) rfl sc.nd (pi_range1 (by rfl) B.range (pa_cons (pe_op op_shl pe_int (pe_callB (xc_len (K := K)) (by rfl) B.len boot_len (pa_cons (xe_fld (K := K) (pv 1) rfl) pa_nil))) pa_nil)) (blkOk_by (own := [("mask", 3)]) (N := ["self", "store", "reader", "mask", "longer", "mend", "step"]) (sc := defScope s_Layers___init__) (by decide +kernel)) (fun _ _ _ _ _ => (pg_name (i := 3) sc.nd rfl (Or.inl rfl))) (fun _ _ _ _ _ => pts_nil) (fun _ _ _ _ _ => (pe_fn h_end_price (hr.mono (by decide)) (by rfl) (pa_cons (pv 1) (pa_cons (pv 3) (pa_cons (pv 2) pa_nil)))))) pa_nil)) rfl) 
      (pss_one (ps_while PassesOwn.never (pt_val pe_bl)
        (pss_cons (ps_set (i := 4) sc.nd rfl (Or.inl rfl) (pe_mt0 h_Layers_longer (pv 0) (hr.mono (by decide)))) 
        (pss_cons (ps_if (pt_cmpR (xo_eqP (K := K) hr.units) (pv 4) (pe_ix (xx_list (K := K)) (xe_fld (K := K) (pv 0) rfl) (pe_un un_neg pe_int) (fun _ _ => rfl)) (nomark _))
          (pss_one ps_break)
          pss_nil) 
        (pss_one (ps_expr (xe_bm (K := K) PySem.F.plainAttrs_list PySem.F.slot_list_append PySem.F.type_list_append mt_append (xe_fld (K := K) (pv 0) rfl) (pa_cons (pv 4) pa_nil))))))))))))), read_M h ?_⟩
  rintro ds μ Φ ⟨s, rd, r, p, ok, hrd, fx, rfl, rfl, rfl⟩ nd
  have l200 := lastK_lt fx
  have few := pow_few ok
  have hpow : ((2 ^ s.nodes.length : Nat) : Int).toNat = 2 ^ s.nodes.length := Int.toNat_natCast _
  have erange : ∀ ρ : Ro, ρ[1]? = some (some (encS c s)) → EdA K (tCons (tOp (rI CPow fun i j => .int (i * 2 ^ j.toNat)) (tC (.int 1)) (tCB (rLenA K) (tCons (tFld K (tVar 1) "nodes") tNil))) tNil) ρ [.int ((2 ^ s.nodes.length : Nat) : Int)] := fun ρ h1 =>
    ea_cons (EvD.is (ed_op (ed_int 1) (ed_cb (ea_cons (ed_S_nodes hc (ed_var h1)) ea_nil) rc_lenF) (rv_intC ⟨by omega, by rw [List.length_map]; have := ok.few; omega, by decide⟩)) (by rw [List.length_map, pow_cast])) ea_nil
  refine run_seq (run_fld (i := 0) rfl rfl hc.clL hc.L_store (ed_var rfl) (show 0 < 1000 by decide) ?_)
  refine run_seq (run_fldG (p := p) (C := c.L) (ev_lstC (eva_of ea_nil ⟨Nat.zero_le _, fun m hmM hmμ => ⟨ed_var rfl, 1, _, rfl, (show 1 < 1000 by decide), ?_⟩⟩)) hc.clL hc.L_moves)
  refine run_seq (run_for (items := (List.range (2 ^ s.nodes.length)).map fun i : Nat => .int (i : Int)) (ItE.is (it_rng1 (erange _ rfl) (by omega) (by omega)) (by rw [hpow])) (fun i ρ μ => ∃ x3, ρ = [some (.loc p), some (encS c s), some (.int r), x3, none, none, none] ∧ μ = [(m, .lst ((List.range i).map fun m => .lst ((movesOf s m).map encV))), (p, .ins c.L [("store", encS c s), ("moves", .loc m)])]) ⟨none, rfl, rfl⟩ (fun i d ρ1 μ1 hi hI => ?_) fun ρ1 μ1 hI => ?_)
  · obtain ⟨x3, rfl, rfl⟩ := hI
    rw [List.getElem?_map] at hi
    cases hr2 : (List.range (2 ^ s.nodes.length))[i]? with
    | none => rw [hr2] at hi; cases hi
    | some k =>
      rw [hr2] at hi
      have hi : D.int (k : Int) = d := Option.some.inj hi
      subst hi
      obtain ⟨hk1, hk2⟩ := List.getElem?_eq_some_iff.mp hr2
      rw [List.getElem_range] at hk2
      subst hk2
      rw [List.length_range] at hk1
      refine ⟨_, _, tg_name, run_appG (p := m) (ev_fldC (i := 1) (ed_var rfl) rfl hc.clL hc.L_moves rfl ⟨rfl, ⟨0, _, rfl⟩, ev_of (ed_lc2 (items := s.mends) (encM c) (stepsM s i) encP (fun md st => D.tup [.str md.label, encP st]) (it_tup (ed_S_mends hc (ed_var rfl))) ?_ fun md hmd => ⟨_, _, tg_name, by simp, it_list (ed_call (ea_cons (ed_var rfl) (ea_cons (ed_var rfl) (ea_cons (ed_var rfl) ea_nil))) ⟨s, md, i, ok, ok.mends md hmd, rfl, rfl⟩), fun st hst => ⟨_, _, tg_name, by simp, ed_tup (ea_cons (ed_M_label hc (ed_var rfl)) (ea_cons (ed_var rfl) ea_nil)) (show 2 ≤ 100000 by decide)⟩⟩) ⟨0, _, rfl, ?_, ?_⟩⟩)⟩
      · rw [moves_flat, List.length_map]
        have := moves_few ok i
        omega
      · rw [List.length_map, List.length_range]
        omega
      · refine ⟨_, rfl, ?_⟩
        rw [List.range_succ, List.map_append, moves_flat]
        rfl
  obtain ⟨x3, rfl, rfl⟩ := hI
  rw [List.length_map, List.length_range]
  refine run_freezeF (f := "moves") hmM rfl ?_
  refine run_seq (run_fldG (p := p) (C := c.L) (ev_lstC (eva_of (ea_cons (ed_lc0 (items := List.range (2 ^ s.nodes.length)) (fun i : Nat => .int (i : Int)) (fun m => optI (endP s.nodes m rd)) (ItE.is (it_rng1 (erange _ rfl) (by omega) (by omega)) (by rw [hpow])) (by rw [List.length_range]; omega) fun k hk => ⟨_, _, tg_name, by simp, ed_call (ea_cons (ed_var rfl) (ea_cons (ed_var rfl) (ea_cons (ed_var rfl) ea_nil))) ⟨s, rd, k, r, ok, hrd, rfl, rfl⟩⟩) ea_nil) ⟨(show 1 ≤ 100000 by decide), fun q hqM hqμ => ⟨ed_var rfl, 1, _, rfl, (show 2 < 1000 by decide), ?_⟩⟩)) hc.clL hc.L_rows)
  have hqp : q ≠ p := fun z => hqM (by rw [z]; exact List.mem_singleton.mpr rfl)
  have hndq : (([(q, Own.lst []), (p, Own.lst [])] : Mem).map (·.1)).Nodup := by simp [hqp]
  refine run_then ?_
  refine run_while (fun m ρ μ => ∃ k x3 x4, m = 200 - k ∧ k ≤ lastK s rd ∧ ρ = [some (.loc p), some (encS c s), some (.int r), x3, x4, none, none] ∧ μ = [(q, .lst (((List.range (k + 1)).map (rowK s rd)).map encW)), (p, cellL c s q)]) 200 ⟨0, x3, none, rfl, Nat.zero_le _, rfl, ?_⟩ ?_
  · have e0 : (List.range (2 ^ s.nodes.length)).map (fun m => optI (endP s.nodes m rd)) = (row0 s rd).map optI := by
      unfold row0
      rw [List.map_map]
      rfl
    rw [e0]
    rfl
  rintro m0 _ _ ⟨k, x3, x4, rfl, hk, rfl, rfl⟩
  refine evt_of (et_test (ed_bl true)) ?_
  rw [if_pos rfl]
  have ek : ((List.range (k + 1)).map (rowK s rd)).map encW = ((List.range k).map (rowK s rd)).map encW ++ [encW (rowK s rd k)] := by rw [rows_take, List.map_append]; rfl
  have hndμ : ((([(q, .lst (((List.range (k + 1)).map (rowK s rd)).map encW)), (p, cellL c s q)] : Mem)).map (·.1)).Nodup := by simp [hqp]
  have hndμ' : ((([(p, cellL c s q), (q, .lst (((List.range (k + 1)).map (rowK s rd)).map encW))] : Mem)).map (·.1)).Nodup := by simp [hqp.symm]
  refine run_seq (run_asgG (ev_meth (ev_of (ed_var rfl) ⟨p, _, 1, rfl, rfl, rfl, eva_of ea_nil ⟨[(p, cellL c s q), (q, .lst (((List.range (k + 1)).map (rowK s rd)).map encW))], by simp, hndμ', _, ⟨s, p, q, _, rowK s rd k, ok, rowK_len s rd k, rfl, by rw [ek], rfl⟩, ?_⟩⟩)))
  rintro d μ1' _ ⟨rfl, rfl⟩
  rw [putμ_self hndμ hndμ' (by simp)]
  refine run_seq (run_ifG (evt_test (ev_op (P1 := fun d μ1 => d = encW (rowK s rd (k + 1)) ∧ μ1 = [(q, .lst (((List.range (k + 1)).map (rowK s rd)).map encW)), (p, cellL c s q)]) (ev_of (ed_var rfl) ⟨rfl, rfl⟩) ?_)))
  rintro _ _ ⟨rfl, rfl⟩
  refine ev_ixC (p := q) (k := -1) (ev_fldC (i := 1) (ed_var rfl) rfl hc.clL hc.L_rows rfl ⟨rfl, ev_of (ed_un (ed_int 1) ru_neg) ⟨rfl, 0, _, rfl, encW (rowK s rd k), by rw [ek]; exact atI_last _ _, _, rv_eqT (encW_eq _) (encW_eq _) (by decide), _, rfl, ?_⟩⟩)
  by_cases e : rowK s rd (k + 1) = rowK s rd k
  · rw [decide_eq_true e, if_pos rfl]
    have hkl : k = lastK s rd := by
      rcases Nat.lt_or_ge k (lastK s rd) with z | z
      · exact absurd e (lastK_first fx z)
      · omega
    subst hkl
    refine run_break ?_
    refine run_freezeF (f := "rows") (by simpa using hqp) rfl (run_next ⟨_, List.Sublist.refl _, rfl, rfl, ?_⟩)
    rfl
  · rw [decide_eq_false e, if_neg (by decide)]
    have hkl : k + 1 ≤ lastK s rd := by
      rcases Nat.lt_or_ge k (lastK s rd) with z | z
      · exact z
      · have : k = lastK s rd := by omega
        rw [this] at e
        exact absurd (lastK_fix fx) e
    refine run_next (run_appG (p := q) (ev_fldC (i := 1) (ed_var rfl) rfl hc.clL hc.L_rows rfl ⟨rfl, ⟨0, _, rfl⟩, ev_of (ed_var rfl) ⟨0, _, rfl, ?_, ?_⟩⟩))
    · rw [List.length_map, List.length_map, List.length_range]
      omega
    · refine ⟨200 - (k + 1), by omega, k + 1, _, _, rfl, hkl, rfl, ?_⟩
      rw [rows_take s rd (k + 1), List.map_append]
      rfl
end Am
/-! Rules of my own: == of dicts with tuple keys; dict(pairs) with tuple keys. -/
namespace PySem.W
open Lean Elab Tactic Meta PySem PySem.Calls PyProof.Rows PyProof.V PySem.Spec
section
variable {prog : Program} {w : World} {K : Type} [DecidableEq K] {knd : HeapKind prog w K} {A : Around} {E : Value → Shared → Prop} {s : Shared}
inductive HitsH {K : Type} [DecidableEq K] (A : Around) (xb : List (K × Addr × Value)) : List (K × Addr × Value) → Bool → Prop
  | nil : HitsH A xb [] true
  | miss {k : K} {p : Addr × Value} {r : List (K × Addr × Value)} : atKey xb k = none → HitsH A xb ((k, p) :: r) false
  | hit {k : K} {p q : Addr × Value} {r : List (K × Addr × Value)} {e b : Bool} : atKey xb k = some q → (∀ s, SeqAt.EqAt A s p.2 q.2 e) → HitsH A xb r b → HitsH A xb ((k, p) :: r) (e && b)
theorem HitsH.inv {xb : List (K × Addr × Value)} {k : K} {p : Addr × Value} {r : List (K × Addr × Value)} {b : Bool} (h : HitsH A xb ((k, p) :: r) b) :
    (atKey xb k = none ∧ b = false) ∨ ∃ q e b', atKey xb k = some q ∧ (∀ s, SeqAt.EqAt A s p.2 q.2 e) ∧ HitsH A xb r b' ∧ b = (e && b') := by
  cases h with
  | miss hn => exact .inl ⟨hn, rfl⟩
  | hit hy he hr => exact .inr ⟨_, _, _, hy, he, hr, rfl⟩
theorem samePairsH {nm : String} {a b : Addr} {xa xb : List (K × Addr × Value)} {r : Bool} {Q : Bool → Shared → Prop} (ha : (a == sysModules) = false) (hb : (b == sysModules) = false) (hu : knd.room A)
    (da : s.heap.DictOfH knd a xa) (db : s.heap.DictOfH knd b xb) (hits : xa.length = xb.length → HitsH A xb xa r) (h : Q (xa.length == xb.length && r) s) :
    wpAny (model prog w) A (Builtin.Dict.samePairs nm a b) Q E s := by
  obtain ⟨oa, es, ep, hoa, _, hda, hea, hia, hna⟩ := da
  obtain ⟨ob, es', ep', hob, _, hdb, heb, hib, hnb⟩ := db
  have hla : xa.length = es.size := by rw [← Array.length_toList, hea, List.length_map]
  have hlb : xb.length = es'.size := by rw [← Array.length_toList, heb, List.length_map]
  rw [hla, hlb] at h
  unfold Builtin.Dict.samePairs Builtin.Dict.showsAll
  rw [if_neg (show ¬ (a == sysModules) = true by rw [ha]; exact Bool.false_ne_true), if_neg (show ¬ (b == sysModules) = true by rw [hb]; exact Bool.false_ne_true)]
  refine wpAny_bind (wpAny_pure (wpAny_bind (wpAny_pure ?_)))
  refine wpAny_bind (wpAny_dictEntries hoa hda ?_)
  dsimp only
  refine wpAny_bind (wpAny_dictEntries hob hdb ?_)
  by_cases hsz : es.size = es'.size
  case neg =>
    rw [if_pos (by simpa using hsz)]
    have hbf : (es.size == es'.size) = false := by simpa using hsz
    rw [hbf, Bool.false_and] at h
    exact wpAny_bind (wpAny_rule (wpAny_pure h))
  case pos =>
    have h' : Q r s := by simpa [hsz] using h
    have hits' := hits (by rw [hla, hlb]; exact hsz)
    rw [if_neg (by rw [hsz]; simp)]
    refine wpAny_bind (wpAny_dictEpoch hoa hda ?_)
    refine wpAny_bind ?_
    rw [Std.Legacy.Range.forIn_eq_forIn_range']
    simp only [Std.Legacy.Range.size, Nat.sub_zero, Nat.add_sub_cancel, Nat.div_one]
    refine wpAny_forIn_list _
      (fun rest q s' => s' = s ∧ q = (none, ()) ∧ ∃ i, rest = List.range' i (es.size - i) ∧ i ≤ es.size ∧ HitsH A xb (xa.drop i) r)
      _ ?_ ?_ _ _ ⟨rfl, rfl, 0, by simp, Nat.zero_le _, hits'⟩
    · rintro x rest q s' ⟨rfl, rfl, i, hr, hi, hpre⟩
      have hlt : i < es.size := by
        rcases Nat.lt_or_ge i es.size with h | h
        · exact h
        · rw [Nat.sub_eq_zero_of_le h] at hr; simp at hr
      obtain ⟨rfl, hrest⟩ : x = i ∧ rest = List.range' (i + 1) (es.size - (i + 1)) := by
        have e : es.size - i = (es.size - (i + 1)) + 1 := by omega
        rw [e, List.range'_succ] at hr
        injection hr with h1 h2
        exact ⟨h1, h2⟩
      have hlt' : x < xa.length := by rw [hla]; exact hlt
      obtain ⟨k, p, v, hkv⟩ : ∃ k p v, xa[x] = (k, p, v) := ⟨_, _, _, rfl⟩
      have hdrop : xa.drop x = (k, p, v) :: xa.drop (x + 1) := by rw [← hkv]; exact List.drop_eq_getElem_cons hlt'
      have hent : es[x]? = some (entryOfKey knd (k, p, v)) := by rw [entry_at hea x, List.getElem?_eq_getElem hlt', hkv]; rfl
      refine wpAny_bind (wpAny_dictEntries hoa hda ?_)
      rw [hent]
      rw [hdrop] at hpre
      have hkis : knd.is s'.heap k p := by
        have := hia xa[x] (List.getElem_mem hlt')
        rwa [hkv] at this
      show wpAny _ _ (holding [Value.ref p, v] _ >>= _) _ _ _
      refine wpAny_bind (wpAny_holding (wpAny_bind (wpAny_dictFind_heap hu hkis hob hdb heb hib hnb (fun hno => ?_) fun j q hj => ?_)))
      · have hn := atKey_none_of_get hno
        rcases hpre.inv with ⟨_, er⟩ | ⟨y, _, _, hy, _⟩
        · rw [er] at h'
          refine wpAny_pure ?_
          show wpAny _ _ (if (!false) = true then _ else _) _ _ _
          rw [if_pos (by decide)]
          exact wpAny_pure (wpAny_pure h')
        · rw [hn] at hy; exact nomatch hy
      · have hv' := atKey_of_get hnb hj
        refine wpAny_bind (wpAny_dictEntries hob hdb ?_)
        rw [entry_at heb j, hj]
        rcases hpre.inv with ⟨hn, _⟩ | ⟨y, e, b', hy, he, hrr, er⟩
        · rw [hv'] at hn; exact nomatch hn
        · have ey : q = y := Option.some.inj (hv'.symm.trans hy)
          rw [← ey] at he
          refine wpAny_holding (he s' _ _ _ _ ?_)
          cases e with
          | false =>
            rw [er, Bool.false_and] at h'
            show wpAny _ _ (if (!false) = true then _ else _) _ _ _
            rw [if_pos (by decide)]
            exact wpAny_pure (wpAny_pure h')
          | true =>
            rw [Bool.true_and] at er
            rw [← er] at hrr
            show wpAny _ _ (if (!true) = true then _ else _) _ _ _
            rw [if_neg (by decide)]
            refine wpAny_bind (wpAny_dictEpoch hoa hda ?_)
            rw [if_neg (by simp)]
            exact wpAny_pure ⟨rfl, rfl, x + 1, hrest, hlt, hrr⟩
    · rintro q s' ⟨rfl, rfl, i, hr, hi, hpre⟩
      have hin : i = es.size := by
        rcases Nat.lt_or_ge i es.size with h | h
        · have e : es.size - i = (es.size - (i + 1)) + 1 := by omega
          rw [e, List.range'_succ] at hr; exact nomatch hr
        · exact Nat.le_antisymm hi h
      refine wpAny_pure ?_
      rw [hin, ← hla, List.drop_length] at hpre
      cases hpre
      exact h'
theorem rcP_dictsH {a b : Addr} {xa xb : List (K × Addr × Value)} {r : Bool} (ha : (a == sysModules) = false) (hb : (b == sysModules) = false)
    (da : s.heap.DictOfH knd a xa) (db : s.heap.DictOfH knd b xb) (hu : A.units < cLine) (hu1 : knd.room A.in1) (hits : xa.length = xb.length → HitsH A.in1 xb xa r) (E Q : Value → Shared → Prop) (h : Q (.bool (xa.length == xb.length && r)) s) : wpAny (model prog w) A (richCompare .Eq (.ref a) (.ref b)) Q E s := by
  refine wpAny_richCompare_same_room (op := .Eq) da.typeIs db.typeIs PySem.F.slot_dict_eq (wpAny_call_entry PySem.F.slot_dict_eq da.typeIs PySem.F.entry_dict_eq ?_ (PySem.F.args_dict_eq_2 _ _)) hu
  show wpAny _ _ (Builtin.Dict.dictSlotArgs "__eq__" ⟨[.ref a, .ref b], []⟩ >>= _) _ _ s
  refine wpAny_bind ?_
  unfold Builtin.Dict.dictSlotArgs
  refine wpAny_bind (wpAny_notOrdered_dict da.typeIs ?_)
  show wpAny _ _ (pure (Value.ref a, Value.ref b)) _ _ s
  refine wpAny_pure ?_
  refine wpAny_bind (wpAny_isInstance (T := "dict") db.typeIs PySem.F.sub_dict_dict ?_)
  simp only [Bool.not_true, Bool.false_eq_true, if_false]
  refine wpAny_bind (wpAny_pure (wpAny_bind (wpAny_pure ?_)))
  refine wpAny_bind (samePairsH ha hb hu1 da db hits ?_)
  refine wpAny_pure ⟨_, rfl, ?_, ?_⟩
  · exact fun x => nomatch x
  · simpa using h
end
end PySem.W
namespace Am
open PySem PySem.Spec PyProof.Rows L2
/-- a == b, two dicts with tuple keys, their values flat: r says whether they are equal, given that they are as long -/
def sameT (ks ls : List (List Key × V)) : Bool := ks.length == ls.length && ks.all fun p => match valV ls p.1 with
  | none => false
  | some u => L2.eqV p.2 u
def rEqT (K : PySem.W.Frag) : R2 := fun x y H Q => ∃ (a b : Addr) (ks ls : List (List Key × V)), x = .ref a ∧ y = .ref b ∧ Rd H a (.dT ks) ∧ Rd H b (.dT ls) ∧ (∀ p ∈ ks, flatV p.2 = true) ∧ (∀ p ∈ ls, flatV p.2 = true) ∧ Q (.bl (sameT ks ls)) H
theorem kt_hits {A : Around} {H : Hp} {ls : List (List Key × V)} {xb : List (List Key × Addr × Value)} (rb : KT H ls xb) (fb : ∀ p ∈ ls, flatV p.2 = true) : ∀ {ks : List (List Key × V)} {xa : List (List Key × Addr × Value)}, KT H ks xa → (∀ p ∈ ks, flatV p.2 = true) →
    PySem.W.HitsH A xb xa (ks.all fun p => match valV ls p.1 with | none => false | some u => L2.eqV p.2 u) := by
  intro ks xa ra
  induction ra with
  | nil => intro _; exact .nil
  | @cons p q ps qs h t ih =>
    intro fa
    obtain ⟨h1, _, h3⟩ := h
    have ih := ih fun z hz => fa z (List.mem_cons_of_mem _ hz)
    have rr := rb.val p.1
    obtain ⟨k, q⟩ := q
    have h1 : p.1 = k := h1
    subst h1
    rw [List.all_cons]
    cases hv : valV ls p.1 with
    | none =>
      rw [hv] at rr
      have hn : atKey xb p.1 = none := by
        cases z : atKey xb p.1 with
        | none => rfl
        | some y => rw [z] at rr; exact False.elim rr
      rw [Bool.false_and]
      exact .miss hn
    | some u =>
      rw [hv] at rr
      cases z : atKey xb p.1 with
      | none => rw [z] at rr; exact False.elim rr
      | some y =>
        rw [z] at rr
        have rr : RelV u y.2 := rr
        have fu : flatV u = true := by
          unfold valV at hv
          obtain ⟨kv, h4, h5⟩ := Option.map_eq_some_iff.mp hv
          rw [← h5]
          exact fb kv (List.mem_of_find?_eq_some h4)
        exact .hit z (fun s => eqAt_V h3 rr (fa p List.mem_cons_self) fu) ih
section
variable {X : Cx}
theorem op_eqT0 (hu : X.A.units + 64 < cLine) : OpR X (compareOp .Eq) (rEqT X.K) := by
  intro pins s σ H x y v u Q I rx ry h
  obtain ⟨a, b, ks, ls, rfl, rfl, ha, hb, fa, fb, q⟩ := h
  cases (show v = Value.ref a from rx)
  cases (show u = Value.ref b from ry)
  obtain ⟨_, ya, xa, ra, da⟩ := dt_rd I.hok ha
  obtain ⟨_, yb, xb, rb, db⟩ := dt_rd I.hok hb
  refine PySem.W.rcP_dictsH ya yb da db (by omega) (show X.A.in1.units < cLine from by show X.A.units + 1 < cLine; omega) (fun _ => kt_hits rb fb ra fa) _ _ ⟨.bl (sameT ks ls), H, I, ?_, q⟩
  have e1 : ks.length = xa.length := Paired.length ra
  have e2 : ls.length = xb.length := Paired.length rb
  show Value.bool _ = Value.bool _
  unfold sameT
  rw [e1, e2]
theorem xo_eqT {K : PySem.W.Frag} (hu : X.A.units + 64 < cLine) (hK : X.K = K := by rfl) : OpR X (compareOp .Eq) (rEqT K) := by subst hK; exact op_eqT0 hu
end
/-! ### dict(pairs), the keys tuples -/
def rDictT (K : PySem.W.Frag) : List V → Hp → VK → Prop := fun xs H Q => ∃ (a : Addr) (ps : List Addr) (kvs : List (List Key × V)), xs = [.ref a] ∧ SqL K H a (ps.map V.ref) ∧ Paired (fun p kv => ∃ b, SqT K H p [.ref b, kv.2] ∧ H b = some (.tup (kv.1.map kV))) ps kvs ∧
  (kvs.map (·.1)).Nodup ∧ ∀ p, H p = none → Q (.ref p) (upd H p (.dT kvs))
section
variable {X : Cx}
theorem pairsT_of {pins : List (Addr × Obj)} {σ : L2.St} {H : Hp} {s : Shared} (I : Inv X pins σ H s) : ∀ {ps : List Addr} {kvs : List (List Key × V)}, Paired (fun p kv => ∃ b, SqT X.K H p [.ref b, kv.2] ∧ H b = some (.tup (kv.1.map kV))) ps kvs →
    ∃ xs : List (List Key × Addr × Value), KT H kvs xs ∧ xs.length = ps.length ∧ ∀ (j : Nat) (q : List Key × Addr × Value), xs[j]? = some q → ∃ b : Addr, ps[j]? = some b ∧ IsTup s.heap b #[.ref q.2.1, q.2.2]
  | _, _, .nil => ⟨[], .nil, rfl, fun j q e => by simp at e⟩
  | _, _, .cons (a := p) (b := kv) h t => by
    obtain ⟨prs, r, hl, hp⟩ := pairsT_of I t
    obtain ⟨b, h1, h2⟩ := h
    obtain ⟨its, rv, ht, _⟩ := I.tuple h1
    obtain ⟨u, y, ei, ru, ry⟩ := vals2 rv
    subst ei
    obtain rfl : u = Value.ref b := ru
    refine ⟨(kv.1, b, y) :: prs, .cons ⟨rfl, h2, ry⟩ r, by rw [List.length_cons, List.length_cons, hl], fun j q e => ?_⟩
    cases j with
    | zero =>
      have e' : (kv.1, b, y) = q := Option.some.inj e
      subst e'
      exact ⟨p, rfl, ht⟩
    | succ j =>
      obtain ⟨b, e1, e2⟩ := hp j q (by simpa using e)
      exact ⟨b, by simpa using e1, e2⟩
theorem ktKeys {H : Hp} {kvs : List (List Key × V)} {xs : List (List Key × Addr × Value)} (r : KT H kvs xs) : kvs.map (·.1) = xs.map (·.1) := by
  induction r with
  | nil => rfl
  | cons h t ih => rw [List.map_cons, List.map_cons, ih, h.1]
theorem ktMem {H : Hp} {kvs : List (List Key × V)} {xs : List (List Key × Addr × Value)} (r : KT H kvs xs) : ∀ x ∈ xs, H x.2.1 = some (.tup (x.1.map kV)) := by
  induction r with
  | nil => intro x hx; exact nomatch hx
  | @cons p q ps qs h t ih =>
    intro x hx
    rcases List.mem_cons.mp hx with e | hx
    · subst e
      rw [← h.1]; exact h.2.1
    · exact ih x hx
theorem call_dictT0 (hcalm : X.calm = true) (hu : X.A.units + 64 < cLine) : CallR X (.type "dict") (rDictT X.K) := by
  intro pins s σ H xs us Q I r q
  obtain ⟨a, ps, kvs, ex, hq, hp, hnd, q⟩ := q
  subst ex
  obtain ⟨u, eu, rx⟩ := vals1 r
  subst eu
  cases rx
  obtain ⟨its, rv, pl, hz⟩ := I.list hq
  have ei := refs_at rv
  subst ei
  rw [List.length_map] at hz
  obtain ⟨xs, rel, hl, hpr⟩ := pairsT_of I hp
  obtain ⟨o, n, ho, hc, hd, hdat⟩ := pl
  have hlk : kvs.length = xs.length := Paired.length rel
  have hnx : (xs.map (·.1)).Nodup := by rw [← ktKeys rel]; exact hnd
  have P := PySem.PairArg.list (prog := X.prog) (w := X.w) a ((ps.map Value.ref).toArray) (fun j => (ps[j]?).getD 0) (xs.map fun x => (Value.ref x.2.1, x.2.2))
  have ok : PySem.PlainSeq "list" s.heap a ((ps.map Value.ref).toArray) ∧ PySem.PairItems s.heap ((ps.map Value.ref).toArray) (fun j => (ps[j]?).getD 0) (xs.map fun x => (Value.ref x.2.1, x.2.2)) := by
    refine ⟨⟨o, n, ho, hc, hd, hdat⟩, by simp [hl], fun j k v hj => ?_⟩
    rw [List.getElem?_map] at hj
    cases hx : xs[j]? with
    | none => rw [hx] at hj; cases hj
    | some x =>
      rw [hx] at hj
      have hj : (Value.ref x.2.1, x.2.2) = (k, v) := Option.some.inj hj
      cases hj
      obtain ⟨b, e1, e2⟩ := hpr j x hx
      refine ⟨by simp [e1], .inl ?_⟩
      have e3 : (fun j => (ps[j]?).getD 0) j = b := by simp [e1]
      rw [e3]
      exact e2
  refine PySem.call_dict_pairsH (knd := tupleKind (mixKind X.prog X.w)) (ps := xs) P (I.ok.hd hcalm) (show X.A.units + 1 + 1 < cLine by omega) ok ⟨by simp, fun i key v hr => ?_⟩ (fun h' hk x hx => ?_) (by rw [List.length_map, hl]; exact hz) fun h' tk hd' k => ?_
  · have hr : (xs.map fun x => (Value.ref x.2.1, x.2.2))[i]? = some (key, v) := hr
    rw [List.getElem?_map] at hr
    cases hx : xs[i]? with
    | none => rw [hx] at hr; cases hr
    | some x =>
      rw [hx] at hr
      have hr : (Value.ref x.2.1, x.2.2) = (key, v) := Option.some.inj hr
      cases hr
      exact ⟨x.1, x.2.1, rfl, rfl⟩
  · exact PySem.tupleKind_stays.stays (fun b o vs m e _ => hk b o (Nat.ne_of_lt (Heap.lt_size e)) (fun z => nomatch z) e) (key_of I.hok (ktMem rel x hx))
  · have hm : (s.heap.objs.size == sysModules) = false := beq_eq_false_iff_ne.mpr (Nat.ne_of_gt I.big)
    rw [PySem.storedAllH_nil_of_nodup xs hnx] at hd'
    obtain ⟨o', es, ep, g1, g2, g3, g4, g5, g6⟩ := hd'
    have hn := I.hok.fresh (Nat.le_refl s.heap.objs.size)
    have new : ObjOk X.prog X.w (upd H s.heap.objs.size (.dT kvs)) h' s.heap.objs.size (.dT kvs) :=
      ⟨by rw [hlk, hl]; exact hz, hm, xs, rel.keeps fun b ys e => by rw [upd_ne (ne_of_none e hn)]; exact e, o', es, ep, g1, g2, g3, g4, g6⟩
    exact ⟨.ref s.heap.objs.size, upd H s.heap.objs.size (.dT kvs), I.laid (t' := tk) (fun b o e => k b o (fun z => nomatch z) e) (Nat.le_refl _) new, rfl, q _ hn⟩
theorem xc_dictT {K : PySem.W.Frag} (hcalm : X.calm = true) (hu : X.A.units + 64 < cLine) (hK : X.K = K := by rfl) : CallR X (.type "dict") (rDictT K) := by subst hK; exact call_dictT0 hcalm hu
end
end Am
/-! Dicts; comprehensions that change cells; slices. -/
namespace Am
open PySem PySem.Spec PyProof.Rows L2
def kD : Key → D
  | .inl i => .int i
  | .inr s => .str s
abbrev kS (l : List Str) : List Key := l.map Sum.inr
theorem kS_sD (l : List Str) : (kS l).map kD = sD l := by
  rw [List.map_map]
  rfl
section
variable {κ : Type} [DecidableEq κ]
def valD (kds : List (κ × D)) (k : κ) : Option D := (kds.find? fun kv => decide (kv.1 = k)).map (·.2)
def putK' (kds : List (κ × D)) (k : κ) (d : D) : List (κ × D) :=
  if (kds.any fun kv => decide (kv.1 = k)) = true then kds.map (fun kv => if kv.1 = k then (kv.1, d) else kv) else kds ++ [(k, d)]
theorem valD_pos {p : κ × D} {r : List (κ × D)} {k : κ} (e : p.1 = k) : valD (p :: r) k = some p.2 := by simp [valD, List.find?_cons, e]
theorem valD_neg {p : κ × D} {r : List (κ × D)} {k : κ} (e : ¬ p.1 = k) : valD (p :: r) k = valD r k := by simp [valD, List.find?_cons, e]
variable {K : PySem.W.Frag} {G : Hp}
theorem val_rep {k : κ} {d : D} : ∀ {kvs : List (κ × V)} {kds : List (κ × D)}, kvs.map (·.1) = kds.map (·.1) → Reps K G (kvs.map (·.2)) (kds.map (·.2)) → valD kds k = some d → ∃ v, valV kvs k = some v ∧ Rep K G v d
  | [], [], _, _, h => by simp [valD] at h
  | [], _ :: _, h, _, _ => by simp at h
  | _ :: _, [], h, _, _ => by simp at h
  | (g, v) :: fs, (g', d') :: fds, e, .cons r rr, h => by
    simp only [List.map_cons, List.cons.injEq] at e
    obtain ⟨e1, e2⟩ := e
    subst e1
    by_cases q : g = k
    · rw [valD_pos (p := (g, d')) q] at h
      cases h
      exact ⟨v, valV_pos (p := (g, v)) q, r⟩
    · rw [valD_neg (p := (g, d')) q] at h
      obtain ⟨w, h1, h2⟩ := val_rep (kvs := fs) (kds := fds) e2 rr h
      exact ⟨w, by rw [valV_neg (p := (g, v)) q]; exact h1, h2⟩
theorem val_rep0 {k : κ} : ∀ {kvs : List (κ × V)} {kds : List (κ × D)}, kvs.map (·.1) = kds.map (·.1) → valD kds k = none → valV kvs k = none
  | [], [], _, _ => rfl
  | [], _ :: _, h, _ => by simp at h
  | _ :: _, [], h, _ => by simp at h
  | (g, v) :: fs, (g', d') :: fds, e, h => by
    simp only [List.map_cons, List.cons.injEq] at e
    obtain ⟨e1, e2⟩ := e
    subst e1
    by_cases q : g = k
    · rw [valD_pos (p := (g, d')) q] at h
      cases h
    · rw [valD_neg (p := (g, d')) q] at h
      rw [valV_neg (p := (g, v)) q]
      exact val_rep0 e2 h
theorem any_keys {kvs : List (κ × V)} {kds : List (κ × D)} {k : κ} (e : kvs.map (·.1) = kds.map (·.1)) : (kvs.any fun kv => decide (kv.1 = k)) = kds.any fun kv => decide (kv.1 = k) := by
  have h1 : (kvs.any fun kv => decide (kv.1 = k)) = (kvs.map (·.1)).any fun x => decide (x = k) := by rw [List.any_map]; rfl
  have h2 : (kds.any fun kv => decide (kv.1 = k)) = (kds.map (·.1)).any fun x => decide (x = k) := by rw [List.any_map]; rfl
  rw [h1, h2, e]
theorem put_map {k : κ} {v : V} {d : D} (hr : Rep K G v d) : ∀ {kvs : List (κ × V)} {kds : List (κ × D)}, kvs.map (·.1) = kds.map (·.1) → Reps K G (kvs.map (·.2)) (kds.map (·.2)) →
    (kvs.map (fun kv => if kv.1 = k then (kv.1, v) else kv)).map (·.1) = (kds.map (fun kv => if kv.1 = k then (kv.1, d) else kv)).map (·.1) ∧ Reps K G ((kvs.map (fun kv => if kv.1 = k then (kv.1, v) else kv)).map (·.2)) ((kds.map (fun kv => if kv.1 = k then (kv.1, d) else kv)).map (·.2))
  | [], [], _, _ => ⟨rfl, .nil⟩
  | [], _ :: _, h, _ => by simp at h
  | _ :: _, [], h, _ => by simp at h
  | (g, w) :: fs, (g', d') :: fds, e, .cons r rr => by
    simp only [List.map_cons, List.cons.injEq] at e
    obtain ⟨e1, e2⟩ := e
    subst e1
    obtain ⟨h1, h2⟩ := put_map hr (k := k) (kvs := fs) (kds := fds) e2 rr
    by_cases q : g = k
    · refine ⟨?_, ?_⟩
      · rw [List.map_cons, List.map_cons, List.map_cons, List.map_cons, h1]
        simp [q]
      · simp only [List.map_cons]
        rw [if_pos q, if_pos q]
        exact .cons hr h2
    · refine ⟨?_, ?_⟩
      · rw [List.map_cons, List.map_cons, List.map_cons, List.map_cons, h1]
        simp [q]
      · simp only [List.map_cons]
        rw [if_neg q, if_neg q]
        exact .cons r h2
theorem put_rep {k : κ} {v : V} {d : D} (hr : Rep K G v d) {kvs : List (κ × V)} {kds : List (κ × D)} (e : kvs.map (·.1) = kds.map (·.1)) (rr : Reps K G (kvs.map (·.2)) (kds.map (·.2))) :
    (putK kvs k v).map (·.1) = (putK' kds k d).map (·.1) ∧ Reps K G ((putK kvs k v).map (·.2)) ((putK' kds k d).map (·.2)) := by
  unfold putK putK'
  rw [any_keys e]
  by_cases a : (kds.any fun kv => decide (kv.1 = k)) = true
  · rw [if_pos a, if_pos a]
    exact put_map hr e rr
  · rw [if_neg a, if_neg a, List.map_append, List.map_append, List.map_append, List.map_append]
    exact ⟨by rw [e]; rfl, rr.snoc hr⟩
end
theorem kDs_rep {K : PySem.W.Frag} {G : Hp} : ∀ {vs : List V} {l : List Str}, Reps K G vs (sD l) → vs = (kS l).map kV
  | _, [], .nil => rfl
  | _, _ :: _, .cons (.str s) r => congrArg (V.str s :: ·) (kDs_rep r)
section
variable {K : PySem.W.Frag} {M : List Addr} {ρ : Ro} {μ : Mem} {ta tb te td ty tv : TE} {d x y z : D} {Φ : Post} {ts : TS} {P : D → Mem → Prop}
/-! ### what stands in a dict -/
theorem ed_dget {kds : List (Key × D)} {s : Str} (ho : EvD K td ρ (.dk kds)) (hk : EvD K ty ρ (.str s)) (h : valD kds (.inr s) = some d) : EvD K (tDGet td ty) ρ d := fun G H σ st l Q q =>
  ho G H σ st l _ fun v G1 H1 g1 r1 => hk G1 H1 σ g1.sub (l.mono g1.g) _ fun w G2 H2 g2 r2 => by
    cases r2
    have r3 := r1.mono g2.g
    cases r3 with
    | dk e k r =>
      obtain ⟨u, h1, h2⟩ := val_rep k r h
      exact ⟨_, u, rfl, .inl ⟨_, .inr s, .inl (g2.sub _ _ e), rfl, h1.symm⟩, q _ _ _ (g1.trans g2) h2⟩
theorem ed_dgetT {kds : List (List Key × D)} {s : List Str} (ho : EvD K td ρ (.dt kds)) (hk : EvD K ty ρ (.tup (sD s))) (h : valD kds (kS s) = some d) : EvD K (tDGet td ty) ρ d := fun G H σ st l Q q =>
  ho G H σ st l _ fun v G1 H1 g1 r1 => hk G1 H1 σ g1.sub (l.mono g1.g) _ fun w G2 H2 g2 r2 => by
    have r3 := r1.mono g2.g
    cases r2 with
    | tup e2 rr =>
      rw [kDs_rep rr] at e2
      cases r3 with
      | dt e k r =>
        obtain ⟨u, h1, h2⟩ := val_rep k r h
        exact ⟨_, u, rfl, .inr ⟨_, kS s, _, .inl (g2.sub _ _ e), rfl, g2.sub _ _ e2, h1.symm⟩, q _ _ _ (g1.trans g2) h2⟩
theorem ed_dgetF {kds : List (List Key × D)} {s : List Str} (ho : EvD K td ρ (.dtF kds)) (hk : EvD K ty ρ (.tup (sD s))) (h : valD kds (kS s) = some d) : EvD K (tDGet td ty) ρ d := fun G H σ st l Q q =>
  ho G H σ st l _ fun v G1 H1 g1 r1 => hk G1 H1 σ g1.sub (l.mono g1.g) _ fun w G2 H2 g2 r2 => by
    have r3 := r1.mono g2.g
    cases r2 with
    | tup e2 rr =>
      rw [kDs_rep rr] at e2
      cases r3 with
      | dtF e k r =>
        obtain ⟨u, h1, h2⟩ := val_rep k r h
        exact ⟨_, u, rfl, .inr ⟨_, kS s, _, .inr ⟨_, g2.sub _ _ e⟩, rfl, g2.sub _ _ e2, h1.symm⟩, q _ _ _ (g1.trans g2) h2⟩
theorem et_dnotin {kds : List (Key × D)} {s : Str} (hk : EvD K ty ρ (.str s)) (ho : EvD K td ρ (.dk kds)) : EvD K (tDNotIn ty td) ρ (.bl (!(valD kds (.inr s)).isSome)) := fun G H σ st l Q q =>
  hk G H σ st l _ fun w G1 H1 g1 r1 => ho G1 H1 σ g1.sub (l.mono g1.g) _ fun v G2 H2 g2 r2 => by
    cases r1
    cases r2 with
    | dk e k r =>
      cases hv : valD kds (.inr s) with
      | some d =>
        obtain ⟨u, h1, h2⟩ := val_rep k r hv
        exact ⟨_, some u, rfl, .inl ⟨_, .inr s, .inl (g2.sub _ _ e), rfl, h1.symm⟩, q _ _ _ (g1.trans g2) (by rw [hv]; exact .bl _)⟩
      | none =>
        exact ⟨_, none, rfl, .inl ⟨_, .inr s, .inl (g2.sub _ _ e), rfl, (val_rep0 k hv).symm⟩, q _ _ _ (g1.trans g2) (by rw [hv]; exact .bl _)⟩
/-! from cells -/
theorem ev_dgetG {p : Addr} (ho : Ev K M td ρ μ fun x μ1 => x = .loc p ∧ Ev K M ty ρ μ1 fun y μ2 => ∃ s, y = .str s ∧ ∃ (i : Nat) (kds : List (Key × D)), μ2[i]? = some (p, .dk kds) ∧ ∃ d, valD kds (.inr s) = some d ∧ P d μ2) : Ev K M (tDGet td ty) ρ μ P := fun G0 H0 G H σ st Q q =>
  ho G0 H0 G H σ st _ fun v x G1 H1 μ1 e1 s1 r1 ⟨ex, hk⟩ => hk G0 H0 G1 H1 σ s1 _ fun w y G2 H2 μ2 e2 s2 r2 ⟨s, ey, i, kds, hi, d, hd, p2⟩ => by
    subst ex ey
    cases r1; cases r2
    obtain ⟨⟨kvs, h1, k1, rr⟩, _⟩ := s2.ce.at_ _ (List.mem_of_getElem? hi)
    obtain ⟨u, h2, h3⟩ := val_rep k1 rr hd
    exact ⟨p, u, rfl, .inl ⟨kvs, .inr s, .inl h1, rfl, h2.symm⟩, q _ _ _ _ _ (e1.trans e2) s2 h3 p2⟩
theorem ev_dget {p : Addr} {j i : Nat} {s : Str} {kds : List (Key × D)} (hj : ρ[j]? = some (some (.loc p))) (hi : μ[i]? = some (p, .dk kds)) (hd : valD kds (.inr s) = some d) (h : P d μ) : Ev K M (tDGet (tVar j) (tC (.str s))) ρ μ P :=
  ev_dgetG (p := p) (ev_of (ed_var hj) ⟨rfl, ev_of (ed_str s) ⟨s, rfl, i, kds, hi, d, hd, h⟩⟩)
theorem ev_dgetTG {p : Addr} (ho : Ev K M td ρ μ fun x μ1 => x = .loc p ∧ Ev K M ty ρ μ1 fun y μ2 => ∃ s : List Str, y = .tup (sD s) ∧ ∃ (i : Nat) (kds : List (List Key × D)), μ2[i]? = some (p, .dt kds) ∧ ∃ d, valD kds (kS s) = some d ∧ P d μ2) : Ev K M (tDGet td ty) ρ μ P := fun G0 H0 G H σ st Q q =>
  ho G0 H0 G H σ st _ fun v x G1 H1 μ1 e1 s1 r1 ⟨ex, hk⟩ => hk G0 H0 G1 H1 σ s1 _ fun w y G2 H2 μ2 e2 s2 r2 ⟨s, ey, i, kds, hi, d, hd, p2⟩ => by
    subst ex ey
    cases r1
    cases r2 with
    | tup e3 r3 =>
      rw [kDs_rep r3] at e3
      obtain ⟨⟨kvs, h1, k1, rr⟩, _⟩ := s2.ce.at_ _ (List.mem_of_getElem? hi)
      obtain ⟨u, h2, h3⟩ := val_rep k1 rr hd
      exact ⟨p, u, rfl, .inr ⟨kvs, kS s, _, .inl h1, rfl, s2.sub _ _ e3, h2.symm⟩, q _ _ _ _ _ (e1.trans e2) s2 h3 p2⟩
theorem run_dputG {p : Addr} {s : Str} (h : Ev K M tv ρ μ fun d μ1 => EvD K td ρ (.loc p) ∧ EvD K ty ρ (.str s) ∧ ∃ (i : Nat) (kds : List (Key × D)), μ1[i]? = some (p, .dk kds) ∧ kds.length < 100000 ∧ Φ.nx ρ (μ1.set i (p, .dk (putK' kds (.inr s) d)))) :
    Run K M (sDPut td ty tv) ρ μ Φ := fun Dn G0 H0 G H σ st k => h G0 H0 G H σ st _ fun v d G1 H1 μ1 e1 s1 r1 ⟨ho, hy, i, kds, hi, hl, q⟩ => ho G1 H1 σ s1.sub s1.sl _ fun w G2 H2 g2 r2 => hy G2 H2 σ g2.sub (s1.sl.mono g2.g) _ fun u G3 H3 g3 r3 => by
  cases r2; cases r3
  have s3 := s1.step (g2.trans g3)
  obtain ⟨⟨kvs, hx, k1, rr⟩, _⟩ := s3.ce.at_ _ (List.mem_of_getElem? hi)
  obtain ⟨k2, r4⟩ := put_rep (k := (.inr s : Key)) (r1.mono (g2.g.trans g3.g)) k1 rr
  have hlen : kvs.length < sizeLine := by
    have e := rr.length
    rw [List.length_map, List.length_map] at e
    rw [e]
    exact Nat.lt_of_lt_of_le hl (by decide)
  refine ⟨p, _, rfl, .inl ⟨kvs, .inr s, hx, rfl, hlen, rfl⟩, ?_⟩
  have s4 := s3.write (u := .dk (putK' kds (.inr s) d)) (List.mem_of_getElem? hi) (o := .dK (putK kvs (.inr s) v)) ⟨_, upd_same, k2, r4⟩
  rw [setμ_at s3.ce.nd hi] at s4
  exact k.nx _ _ _ _ _ (e1.trans (g2.g.trans g3.g)) s4 q
theorem run_dputTG {p : Addr} {s : List Str} (h : Ev K M tv ρ μ fun d μ1 => EvD K td ρ (.loc p) ∧ EvD K ty ρ (.tup (sD s)) ∧ ∃ (i : Nat) (kds : List (List Key × D)), μ1[i]? = some (p, .dt kds) ∧ kds.length < 100000 ∧ Φ.nx ρ (μ1.set i (p, .dt (putK' kds (kS s) d)))) :
    Run K M (sDPut td ty tv) ρ μ Φ := fun Dn G0 H0 G H σ st k => h G0 H0 G H σ st _ fun v d G1 H1 μ1 e1 s1 r1 ⟨ho, hy, i, kds, hi, hl, q⟩ => ho G1 H1 σ s1.sub s1.sl _ fun w G2 H2 g2 r2 => hy G2 H2 σ g2.sub (s1.sl.mono g2.g) _ fun u G3 H3 g3 r3 => by
  cases r2
  cases r3 with
  | tup e3 r3 =>
    rw [kDs_rep r3] at e3
    have s3 := s1.step (g2.trans g3)
    obtain ⟨⟨kvs, hx, k1, rr⟩, _⟩ := s3.ce.at_ _ (List.mem_of_getElem? hi)
    obtain ⟨k2, r4⟩ := put_rep (k := kS s) (r1.mono (g2.g.trans g3.g)) k1 rr
    have hlen : kvs.length < sizeLine := by
      have e := rr.length
      rw [List.length_map, List.length_map] at e
      rw [e]
      exact Nat.lt_of_lt_of_le hl (by decide)
    refine ⟨p, _, rfl, .inr ⟨kvs, kS s, _, hx, rfl, g3.sub _ _ e3, hlen, rfl⟩, ?_⟩
    have s4 := s3.write (u := .dt (putK' kds (kS s) d)) (List.mem_of_getElem? hi) (o := .dT (putK kvs (kS s) v)) ⟨_, upd_same, k2, r4⟩
    rw [setμ_at s3.ce.nd hi] at s4
    exact k.nx _ _ _ _ _ (e1.trans (g2.g.trans g3.g)) s4 q
/-! ### displays -/
theorem ev_dnewT (h : ∀ p, p ∉ M → p ∉ μ.map (·.1) → P (.loc p) ((p, .dt []) :: μ)) : Ev K M tDNewT ρ μ P := fun G0 H0 G H σ st Q q p hp =>
  q _ _ G _ _ (Same.refl _) (st.cell (u := .dt []) hp ⟨[], upd_same, rfl, .nil⟩) (.loc p) (h p (st.freshM hp) (st.freshμ hp))
def EvP (K : PySem.W.Frag) (M : List Addr) (trs : List (TE × TE)) (ρ : Ro) (μ : Mem) (P : List (Str × D) → Mem → Prop) : Prop := ∀ (G0 H0 G H : Hp) (σ : L2.St), Stt K M G0 H0 G H σ ρ μ → ∀ Q : List (V × V) → Hp → Prop,
  (∀ ps kds G' H' μ', Same G G' → Stt K M G0 H0 G' H' σ ρ μ' → ps.map (·.1) = kds.map (fun kd => V.str kd.1) → Reps K G' (ps.map (·.2)) (kds.map (·.2)) → P kds μ' → Q ps H') → tPairs trs σ H Q
theorem evp_nil {P : List (Str × D) → Mem → Prop} (h : P [] μ) : EvP K M [] ρ μ P := fun G0 H0 G H σ st Q q => q [] [] G H μ (Same.refl _) st rfl .nil h
theorem evp_cons {s : Str} {trs : List (TE × TE)} {P : List (Str × D) → Mem → Prop} (h : Ev K M tv ρ μ fun d μ1 => EvP K M trs ρ μ1 fun kds μ2 => P ((s, d) :: kds) μ2) : EvP K M ((tC (.str s), tv) :: trs) ρ μ P := fun G0 H0 G H σ st Q q =>
  h G0 H0 G H σ st _ fun v d G1 H1 μ1 e1 s1 r1 h2 => h2 G0 H0 G1 H1 σ s1 _ fun ps kds G2 H2 μ2 e2 s2 k2 r2 p2 => by
    refine q _ ((s, d) :: kds) G2 H2 μ2 (e1.trans e2) s2 ?_ (.cons (r1.mono e2) r2) p2
    show V.str s :: ps.map (·.1) = V.str s :: _
    rw [k2]
theorem mergeK_nodup : ∀ (l acc : List (Key × V)), ((acc ++ l).map (·.1)).Nodup → mergeK acc l = acc ++ l
  | [], acc, _ => by rw [List.append_nil]; rfl
  | (k, v) :: l, acc, h => by
    show mergeK (putK acc k v) l = _
    have hn : valV acc k = none := by
      cases z : valV acc k with
      | none => rfl
      | some u =>
        exfalso
        unfold valV at z
        obtain ⟨kv, h4, h5⟩ := Option.map_eq_some_iff.mp z
        have h6 := List.mem_of_find?_eq_some h4
        have h7 : kv.1 = k := of_decide_eq_true (List.find?_some (p := fun kv : Key × V => decide (kv.1 = k)) h4)
        rw [List.map_append, List.nodup_append] at h
        exact h.2.2 kv.1 (List.mem_map.mpr ⟨kv, h6, rfl⟩) k (by simp) h7
    rw [putK_new v hn, mergeK_nodup l (acc ++ [(k, v)]) (by simpa using h)]
    simp
theorem pairs_kv {ps : List (V × V)} : ∀ {kds : List (Str × D)}, ps.map (·.1) = kds.map (fun kd => V.str kd.1) → ∃ kvs : List (Key × V), ps = kvs.map (fun kv => (kV kv.1, kv.2)) ∧ kvs.map (·.1) = kds.map (fun kd => (.inr kd.1 : Key)) ∧ kvs.map (·.2) = ps.map (·.2) := by
  induction ps with
  | nil =>
    intro kds h
    cases kds with
    | nil => exact ⟨[], rfl, rfl, rfl⟩
    | cons _ _ => simp at h
  | cons p ps ih =>
    intro kds h
    cases kds with
    | nil => simp at h
    | cons kd kds =>
      simp only [List.map_cons, List.cons.injEq] at h
      obtain ⟨kvs, h1, h2, h3⟩ := ih h.2
      refine ⟨(.inr kd.1, p.2) :: kvs, ?_, ?_, ?_⟩
      · rw [List.map_cons, ← h1]
        show p :: ps = (V.str kd.1, p.2) :: ps
        rw [← h.1]
      · rw [List.map_cons, List.map_cons, h2]
      · rw [List.map_cons, List.map_cons, h3]
def skD (kds : List (Str × D)) : List (Key × D) := kds.map fun kd => (.inr kd.1, kd.2)
theorem ev_dispC {trs : List (TE × TE)} (h : ∀ p, p ∉ M → p ∉ μ.map (·.1) → EvP K M trs ρ ((p, .dk []) :: μ) fun kds μ1 => ∃ μ1', μ1 = (p, .dk []) :: μ1' ∧ (kds.map (·.1)).Nodup ∧ kds.length ≤ 15 ∧ P (.loc p) ((p, .dk (skD kds)) :: μ1')) : Ev K M (tDisp trs) ρ μ P := fun G0 H0 G H σ st Q q p hp => by
  have s0 := st.cell (u := .dk []) hp (o := .dK []) ⟨[], upd_same, rfl, .nil⟩
  refine h p (st.freshM hp) (st.freshμ hp) G0 H0 G _ σ s0 _ fun ps kds G1 H1 μ1 e1 s1 k1 r1 ⟨μ1', eμ, nd, l15, p1⟩ => ?_
  subst eμ
  obtain ⟨kvs, hps, hk, hv⟩ := pairs_kv k1
  obtain ⟨⟨kvs0, h1, h2, h3⟩, _⟩ := s1.ce.at_ _ (List.mem_cons_self ..)
  have h0 : kvs0 = [] := by cases kvs0 with | nil => rfl | cons _ _ => simp at h2
  subst h0
  have hlen : kvs.length = kds.length := by have := congrArg List.length hk; rwa [List.length_map, List.length_map] at this
  refine ⟨h1, kvs, hps, by rw [hlen]; exact l15, ?_⟩
  have hm : mergeK [] kvs = kvs := by
    have := mergeK_nodup kvs [] (by
      rw [List.nil_append, hk]
      have e : kds.map (fun kd => (.inr kd.1 : Key)) = (kds.map (·.1)).map Sum.inr := by rw [List.map_map]; rfl
      rw [e]
      exact List.Pairwise.map _ (fun a b ne => fun z => ne (Sum.inr.inj z)) nd)
    simpa using this
  rw [hm]
  have s2 := s1.write (u := .dk (skD kds)) (List.mem_cons_self ..) (o := .dK kvs) ⟨kvs, upd_same, by rw [hk]; unfold skD; rw [List.map_map]; rfl, by
    rw [hv]
    have e : (skD kds).map (·.2) = kds.map (·.2) := by unfold skD; rw [List.map_map]; rfl
    rw [e]
    exact r1⟩
  rw [setμ_at (i := 0) s1.ce.nd rfl] at s2
  exact q _ _ _ _ _ e1 s2 (.loc p) p1
/-! ### dict(pairs) -/
def rDictP (K : PySem.W.Frag) : List V → Hp → VK → Prop := fun xs H Q => ∃ (a : Addr) (ps : List Addr) (kvs : List (Key × V)), xs = [.ref a] ∧ SqL K H a (ps.map V.ref) ∧ Paired (fun p kv => SqT K H p [kV kv.1, kv.2]) ps kvs ∧
    ∀ p, H p = none → Q (.ref p) (upd H p (.dK (mergeK [] kvs)))
theorem xc_dictP {X : Cx} (hcalm : X.calm = true) (hK : X.K = K := by rfl) : CallR X (.type "dict") (rDictP K) := by subst hK; exact call_dictP hcalm
def pairsS (kds : List (Str × D)) : List D := kds.map fun kd => .tup [.str kd.1, kd.2]
theorem pairs_reps {G H : Hp} (s : Same G H) : ∀ {xs : List V} {kds : List (Str × D)}, Reps K G xs (pairsS kds) → ∃ (ps : List Addr) (kvs : List (Key × V)), xs = ps.map V.ref ∧ Paired (fun p kv => SqT K H p [kV kv.1, kv.2]) ps kvs ∧ kvs.map (·.1) = kds.map (fun kd => (.inr kd.1 : Key)) ∧ Reps K G (kvs.map (·.2)) (kds.map (·.2))
  | _, [], .nil => ⟨[], [], rfl, .nil, rfl, .nil⟩
  | _, kd :: kds, .cons (.tup e (.cons (.str _) (.cons r .nil))) rr => by
    obtain ⟨ps, kvs, h1, h2, h3, h4⟩ := pairs_reps s (kds := kds) rr
    rename_i a vs v
    exact ⟨a :: ps, (.inr kd.1, v) :: kvs, by rw [List.map_cons, ← h1], .cons (.inl (.inl (s _ _ e))) h2, by rw [List.map_cons, List.map_cons, h3], .cons r h4⟩
theorem rc_dict {kds : List (Str × D)} (nd : (kds.map (·.1)).Nodup) : RcD K (rDictP K) [.lst (pairsS kds)] (.dk (skD kds)) := fun G H us s ru Q q => by
  cases ru with
  | cons r rn =>
    cases rn
    cases r with
    | lst e r =>
      obtain ⟨ps, kvs, h1, h2, h3, h4⟩ := pairs_reps s r
      subst h1
      refine ⟨_, ps, kvs, rfl, .inl (.inl (s _ _ e)), h2, fun p hp => ?_⟩
      have hm : mergeK [] kvs = kvs := by
        have := mergeK_nodup kvs [] (by
          rw [List.nil_append, h3]
          have e : kds.map (fun kd => (.inr kd.1 : Key)) = (kds.map (·.1)).map Sum.inr := by rw [List.map_map]; rfl
          rw [e]
          exact List.Pairwise.map _ (fun a b ne => fun z => ne (Sum.inr.inj z)) nd)
        simpa using this
      rw [hm]
      refine q _ _ _ (Go.alloc s hp) (.dk upd_same (by rw [h3]; unfold skD; rw [List.map_map]; rfl) ?_)
      have e2 : (skD kds).map (·.2) = kds.map (·.2) := by unfold skD; rw [List.map_map]; rfl
      rw [e2]
      exact h4.mono (same_new (free_sub s hp))
def pairsT (kds : List (List Str × D)) : List D := kds.map fun kd => .tup [.tup (sD kd.1), kd.2]
def tkD (kds : List (List Str × D)) : List (List Key × D) := kds.map fun kd => (kS kd.1, kd.2)
theorem pairsT_reps {G H : Hp} (s : Same G H) : ∀ {xs : List V} {kds : List (List Str × D)}, Reps K G xs (pairsT kds) → ∃ (ps : List Addr) (kvs : List (List Key × V)), xs = ps.map V.ref ∧ Paired (fun p kv => ∃ b, SqT K H p [.ref b, kv.2] ∧ H b = some (.tup (kv.1.map kV))) ps kvs ∧ kvs.map (·.1) = kds.map (fun kd => kS kd.1) ∧ Reps K G (kvs.map (·.2)) (kds.map (·.2))
  | _, [], .nil => ⟨[], [], rfl, .nil, rfl, .nil⟩
  | _, kd :: kds, .cons (.tup e (.cons (.tup e2 r2) (.cons r .nil))) rr => by
    obtain ⟨ps, kvs, h1, h2, h3, h4⟩ := pairsT_reps s (kds := kds) rr
    rw [kDs_rep r2] at e2
    exact ⟨_ :: ps, (kS kd.1, _) :: kvs, by rw [List.map_cons, ← h1], .cons ⟨_, .inl (.inl (s _ _ e)), s _ _ e2⟩ h2, by rw [List.map_cons, List.map_cons, h3], .cons r h4⟩
theorem kS_inj {a b : List Str} (h : kS a = kS b) : a = b := by
  induction a generalizing b with
  | nil => cases b with
    | nil => rfl
    | cons _ _ => simp [kS] at h
  | cons x a ih => cases b with
    | nil => simp [kS] at h
    | cons y b =>
      simp only [kS, List.map_cons, List.cons.injEq, Sum.inr.injEq] at h
      rw [h.1, ih h.2]
theorem rc_dictT {kds : List (List Str × D)} (nd : (kds.map (·.1)).Nodup) : RcD K (rDictT K) [.lst (pairsT kds)] (.dt (tkD kds)) := fun G H us s ru Q q => by
  cases ru with
  | cons r rn =>
    cases rn
    cases r with
    | lst e r =>
      obtain ⟨ps, kvs, h1, h2, h3, h4⟩ := pairsT_reps s r
      subst h1
      refine ⟨_, ps, kvs, rfl, .inl (.inl (s _ _ e)), h2, ?_, fun p hp => ?_⟩
      · rw [h3]
        have e : kds.map (fun kd => kS kd.1) = (kds.map (·.1)).map kS := by rw [List.map_map]; rfl
        rw [e]
        exact List.Pairwise.map _ (fun a b ne => fun z => ne (kS_inj z)) nd
      · refine q _ _ _ (Go.alloc s hp) (.dt upd_same (by rw [h3]; unfold tkD; rw [List.map_map]; rfl) ?_)
        have e2 : (tkD kds).map (·.2) = kds.map (·.2) := by unfold tkD; rw [List.map_map]; rfl
        rw [e2]
        exact h4.mono (same_new (free_sub s hp))
theorem valD_kS {kds : List (List Str × D)} {s : List Str} : valD (tkD kds) (kS s) = (kds.find? fun kd => decide (kd.1 = s)).map (·.2) := by
  unfold valD tkD
  induction kds with
  | nil => rfl
  | cons kd kds ih =>
    rw [List.map_cons, List.find?_cons, List.find?_cons]
    by_cases e : kd.1 = s
    · rw [decide_eq_true e, decide_eq_true (congrArg kS e)]
      rfl
    · rw [decide_eq_false e, decide_eq_false (fun z => e (kS_inj z))]
      exact ih
theorem valD_sk {kds : List (Str × D)} {s : Str} : valD (skD kds) (.inr s) = (kds.find? fun kd => decide (kd.1 = s)).map (·.2) := by
  unfold valD skD
  induction kds with
  | nil => rfl
  | cons kd kds ih =>
    rw [List.map_cons, List.find?_cons, List.find?_cons]
    by_cases e : kd.1 = s
    · rw [decide_eq_true e, decide_eq_true (congrArg Sum.inr e)]
      rfl
    · rw [decide_eq_false e, decide_eq_false (fun z => e (Sum.inr.inj z))]
      exact ih
/-! ### freezing -/
def ownD : Own → D
  | .lst ds => .lst ds
  | .dk ds => .dk ds
  | .dt ds => .dt ds
  | .ins C fs => .ins C fs
theorem ownD_rep {p : Addr} {u : Own} {G H : Hp} (w : OwnAt K G H p u) (gp : G p = none) : ∃ o, H p = some o ∧ Rep K (upd G p o) (.ref p) (ownD u) := by
  cases u with
  | lst ds => obtain ⟨xs, e, r⟩ := w; exact ⟨_, e, .lst upd_same (r.mono (same_new gp))⟩
  | dk ds => obtain ⟨xs, e, k, r⟩ := w; exact ⟨_, e, .dk upd_same k (r.mono (same_new gp))⟩
  | dt ds => obtain ⟨xs, e, k, r⟩ := w; exact ⟨_, e, .dt upd_same k (r.mono (same_new gp))⟩
  | ins C ds => obtain ⟨dx, xs, e, k, r⟩ := w; exact ⟨_, e, .ins upd_same k (r.mono (same_new gp))⟩
theorem run_freezeU {p : Addr} {u : Own} {i : Nat} {μ' : Mem} (hp : p ∉ M) (hi : ρ[i]? = some (some (.loc p))) (h : Run K M ts (ρ.set i (some (ownD u))) μ' Φ) : Run K M ts ρ ((p, u) :: μ') Φ := fun Dn G0 H0 G H σ s k => by
  obtain ⟨w, gp⟩ := s.ce.at_ _ (List.mem_cons_self ..)
  obtain ⟨o, hx, r2⟩ := ownD_rep w gp
  have s1 := s.freeze hp hx
  have gg : Same G (upd G p o) := same_new gp
  obtain ⟨v, h1, h2⟩ := s.sl.get hi
  cases h2
  have s2 := s1.set i r2
  have eσ : σ.set i (some (.ref p)) = σ := by
    apply List.ext_getElem?
    intro j
    by_cases e : i = j
    · subst e
      rw [List.getElem?_set_self (by
        rcases Nat.lt_or_ge i σ.length with z | z
        · exact z
        · rw [List.getElem?_eq_none z] at h1; cases h1), h1]
    · rw [List.getElem?_set_ne e]
  rw [eσ] at s2
  exact h Dn G0 H0 _ H σ s2 (k.mono gg)
/-- an expression's own new cell, frozen where it stands -/
theorem ev_freeze {Q : D → Mem → Prop} (h : Ev K M te ρ μ fun d μ1 => ∃ p u μ', p ∉ M ∧ d = .loc p ∧ μ1 = (p, u) :: μ' ∧ Q (ownD u) μ') : Ev K M te ρ μ Q := fun G0 H0 G H σ s R q => h G0 H0 G H σ s R fun v d G1 H1 μ1 e1 s1 r1 ⟨p, u, μ', hp, ed, eμ, hq⟩ => by
  subst ed eμ
  cases r1
  obtain ⟨w, gp⟩ := s1.ce.at_ _ (List.mem_cons_self ..)
  obtain ⟨o, hx, r2⟩ := ownD_rep w gp
  exact q _ _ _ _ _ (e1.trans (same_new gp)) (s1.freeze hp hx) r2 hq
/-- what a dict with tuple keys holds -/
theorem run_freezeT {p q : Addr} {s : List Str} {ds : List D} {kds : List (List Key × D)} {μ' : Mem} (hp : p ∉ M) (hf : ∀ kv ∈ kds, kv.1 = kS s → kv.2 = .loc p) (hs : (valD kds (kS s)).isSome = true) (h : Run K M ts ρ ((q, .dt (putK' kds (kS s) (.lst ds))) :: μ') Φ) : Run K M ts ρ ((p, .lst ds) :: (q, .dt kds) :: μ') Φ := fun Dn G0 H0 G H σ s' k => by
  obtain ⟨⟨xs, hx, rr⟩, gp⟩ := s'.ce.at_ _ (List.mem_cons_self ..)
  have s1 := s'.freeze hp hx
  have gg : Same G (upd G p (.lst xs)) := same_new gp
  have r2 : Rep K (upd G p (.lst xs)) (.ref p) (.lst ds) := .lst upd_same (rr.mono gg)
  have hany : (kds.any fun kv => decide (kv.1 = kS s)) = true := by
    cases z : valD kds (kS s) with
    | none => rw [z] at hs; cases hs
    | some u =>
      unfold valD at z
      obtain ⟨kv, h4, h5⟩ := Option.map_eq_some_iff.mp z
      exact List.any_eq_true.mpr ⟨kv, List.mem_of_find?_eq_some h4, List.find?_some (p := fun kv : List Key × D => decide (kv.1 = kS s)) h4⟩
  have ep : putK' kds (kS s) (.lst ds) = kds.map (fun kv => if kv.1 = kS s then (kv.1, .lst ds) else kv) := by unfold putK'; rw [if_pos hany]
  refine h Dn G0 H0 _ H σ ⟨s1.go, s1.sl, ⟨fun c hc => ?_, s1.ce.nd⟩, fun c hc => ?_, s1.base⟩ (k.mono gg)
  · rcases List.mem_cons.mp hc with rfl | hc
    · obtain ⟨⟨kvs, hq, k1, r1⟩, gq⟩ := s1.ce.at_ _ (List.mem_cons_self ..)
      refine ⟨⟨kvs, hq, ?_, ?_⟩, gq⟩
      · rw [ep, k1, List.map_map]
        refine List.map_congr_left fun kv _ => ?_
        show kv.1 = (if kv.1 = kS s then (kv.1, D.lst ds) else kv).1
        by_cases e : kv.1 = kS s
        · rw [if_pos e]
        · rw [if_neg e]
      · rw [ep]
        clear ep hany hs
        have aux : ∀ {vs : List V} {kds : List (List Key × D)}, (∀ kv ∈ kds, kv.1 = kS s → kv.2 = .loc p) → Reps K (upd G p (.lst xs)) vs (kds.map (·.2)) → Reps K (upd G p (.lst xs)) vs ((kds.map (fun kv => if kv.1 = kS s then (kv.1, D.lst ds) else kv)).map (·.2)) := by
          intro vs kds
          induction kds generalizing vs with
          | nil => intro _ h; exact h
          | cons kd kds ih =>
            intro hf h
            rw [List.map_cons] at h
            cases h with
            | cons r rr =>
              simp only [List.map_cons]
              refine .cons ?_ (ih (fun kv hkv => hf kv (List.mem_cons_of_mem _ hkv)) rr)
              by_cases e : kd.1 = kS s
              · rw [if_pos e]
                rw [hf kd (List.mem_cons_self ..) e] at r
                cases r
                exact r2
              · rw [if_neg e]
                exact r
        exact aux hf r1
    · exact s1.ce.at_ c (List.mem_cons_of_mem _ hc)
  · rcases List.mem_cons.mp hc with rfl | hc
    · exact s1.own (q, .dt kds) (List.mem_cons_self ..)
    · exact s1.own c (List.mem_cons_of_mem _ hc)
/-! ### lists backwards, parts of lists -/
theorem ed_rev {ds : List D} (h : EvD K te ρ (.lst ds)) : EvD K (tRevL K te) ρ (.lst ds.reverse) := fun G H σ s l Q q => h G H σ s l _ fun v G1 H1 g1 r1 => by
  cases r1 with
  | lst e r => exact ⟨_, _, rfl, .inl (.inl (g1.sub _ _ e)), fun p hp => q _ _ _ (g1.trans (Go.alloc g1.sub hp)) (.lst upd_same ((r.reverse).mono (same_new (free_sub g1.sub hp))))⟩
theorem cutV_reps {G : Hp} {xs : List V} {ds : List D} (r : Reps K G xs ds) (lo hi : Option Int) : Reps K G (cutV xs lo hi) ((ds.drop (HT.sIx ds.length 0 lo)).take (HT.sIx ds.length ds.length hi - HT.sIx ds.length 0 lo)) := by
  unfold cutV
  rw [r.length]
  exact (r.drop _).take _
theorem ed_sl {ds : List D} {tl th : TO} {lo hi : Option Int} (h : EvD K te ρ (.lst ds)) (hl : EdO K tl ρ lo) (hh : EdO K th ρ hi) : EvD K (L2.tSl (rSlL K) te tl th) ρ (.lst ((ds.drop (HT.sIx ds.length 0 lo)).take (HT.sIx ds.length ds.length hi - HT.sIx ds.length 0 lo))) := fun G H σ s l Q q => h G H σ s l _ fun v G1 H1 g1 r1 => hl G1 H1 σ g1.sub (l.mono g1.g) _ fun G2 H2 g2 => hh G2 H2 σ g2.sub (l.mono (g1.g.trans g2.g)) _ fun G3 H3 g3 => by
  cases r1 with
  | lst e r =>
    have gg := g1.trans (g2.trans g3)
    exact ⟨_, _, rfl, .inl (.inl (g3.sub _ _ (g3.g _ _ (g2.g _ _ e)))), fun p hp => q _ _ _ (gg.trans (Go.alloc g3.sub hp)) (.lst upd_same ((cutV_reps (r.mono (g2.g.trans g3.g)) lo hi).mono (same_new (free_sub g3.sub hp))))⟩
theorem eo_none : EdO K tNoPart ρ none := fun G H σ s l Q q => q G H (Go.refl s)
theorem eo_some {i : Int} (h : EvD K te ρ (.int i)) : EdO K (tPart te) ρ (some i) := fun G H σ s l Q q => h G H σ s l _ fun v G1 H1 g1 r1 => by
  cases r1
  exact ⟨i, rfl, q _ _ g1⟩
/-! ### comprehensions that change cells -/
theorem ev_lc {wi : TI} {g : TG} {tt : TT} {vs : List Nat} {items : List D} (hi : ItE K wi ρ items) (hl : items.length ≤ 100000) (I : Nat → List D → Mem → Prop) (h0 : I 0 [] μ)
    (hs : ∀ (C : Addr) (i : Nat) d acc μ1, C ∉ M → C ∉ μ1.map (·.1) → items[i]? = some d → I i acc μ1 → acc.length ≤ i → ∃ is ρ2, Tg K g d is (wipeR ρ vs) ρ2 ∧ (∀ j ∈ is, j ∈ vs) ∧
      EvT K M tt ρ2 ((C, .lst acc) :: μ1) fun b μ2 => ∃ μ2', μ2 = (C, .lst acc) :: μ2' ∧ if b = true then Ev K M te ρ2 μ2 fun y μ3 => ∃ μ3', μ3 = (C, .lst acc) :: μ3' ∧ I (i + 1) (acc ++ [y]) μ3' else I (i + 1) acc μ2')
    (hd : ∀ acc μ1, I items.length acc μ1 → P (.lst acc) μ1) : Ev K M (tLc wi g tt te vs) ρ μ P := fun G0 H0 G H σ s Q q => hi G H σ s.sub s.sl _ fun J G1 H1 g1 it C hC => by
  have s1 := s.step g1
  have hCM := s1.freshM hC
  have s2 := s1.cell (u := .lst []) hC (o := .lst []) ⟨[], upd_same, .nil⟩
  let St := fun (i : Nat) (H' : Hp) => ∃ (G' : Hp) (acc : List D) (μ' : Mem), Same G1 G' ∧ Stt K M G0 H0 G' H' σ ρ ((C, .lst acc) :: μ') ∧ I i acc μ' ∧ acc.length ≤ i
  refine ⟨fun i m H' => i ≤ items.length ∧ m = items.length - i ∧ St i H', ⟨items.length, Nat.zero_le _, rfl, G1, [], μ, Same.refl _, s2, h0, Nat.le_refl _⟩, fun i m H' hW => ?_⟩
  obtain ⟨hle, hm, G', acc, μ', eG, s3, hI, hacc⟩ := hW
  obtain ⟨i1, i2, i3⟩ := it G' H' eG s3.sub
  by_cases hlt : i < items.length
  · refine .inr ⟨i1 i hlt, St (i + 1), fun H'' st => ⟨items.length - (i + 1), by omega, hlt, rfl, st⟩, fun x H2 y => ?_⟩
    obtain ⟨G2, d, e1, g3, r3⟩ := i3 i x H2 hlt y
    have s4 := s3.step g3
    have hnd := s4.ce.nd
    rw [List.map_cons, List.nodup_cons] at hnd
    obtain ⟨is, ρ2, tg, his, htt⟩ := hs C i d acc μ' hCM hnd.1 e1 hI hacc
    have l1 : Sl K G2 (L2.wipe σ vs) (wipeR ρ vs) := s4.sl.wipe vs
    refine tg x (L2.wipe σ vs) G2 H2 _ r3 s4.sub l1 fun σ' hw l2 => ⟨?_, ?_⟩
    · have e2 := hw vs his
      have e3 : L2.wipe (L2.wipe σ vs) vs = L2.wipe σ vs := wipe_wipe vs vs fun _ h => h
      rw [e2, e3]
    · have s5 : Stt K M G0 H0 G2 H2 σ' ρ2 ((C, .lst acc) :: μ') := ⟨s4.go, l2, s4.ce, s4.own, s4.base⟩
      refine htt G0 H0 G2 H2 σ' s5 _ fun b G3 H3 μ2 e5 s6 ⟨μ2', eμ, hb⟩ => ?_
      subst eμ
      cases b with
      | false =>
        have hb : I (i + 1) acc μ2' := hb
        show St (i + 1) H3
        exact ⟨G3, acc, μ2', eG.trans (g3.g.trans e5), ⟨s6.go, s4.sl.mono e5, s6.ce, s6.own, s6.base⟩, hb, Nat.le_succ_of_le hacc⟩
      | true =>
        show te σ' H3 _
        have hb : Ev K M te ρ2 ((C, .lst acc) :: μ2') _ := hb
        refine hb G0 H0 G3 H3 σ' s6 _ fun w y G4 H4 μ3 e6 s7 r7 ⟨μ3', eμ, hI3⟩ => ?_
        subst eμ
        obtain ⟨⟨xs, hx, rr⟩, _⟩ := s7.ce.at_ _ (List.mem_cons_self ..)
        have s8 := s7.write (u := .lst (acc ++ [y])) (List.mem_cons_self ..) (o := .lst (xs ++ [w])) ⟨_, upd_same, rr.snoc r7⟩
        rw [setμ_at (i := 0) s7.ce.nd rfl] at s8
        refine ⟨xs, hx, by rw [rr.length]; exact Nat.lt_of_le_of_lt (Nat.le_trans hacc (Nat.le_of_lt hlt)) (Nat.lt_of_le_of_lt hl (by decide)), G4, acc ++ [y], μ3', eG.trans (g3.g.trans (e5.trans e6)), ⟨s8.go, s4.sl.mono (e5.trans e6), s8.ce, s8.own, s8.base⟩, hI3, by rw [List.length_append]; exact Nat.succ_le_succ hacc⟩
  · have ei : i = items.length := by omega
    subst ei
    refine .inl ⟨i2, ?_⟩
    obtain ⟨⟨xs, hx, rr⟩, gp⟩ := s3.ce.at_ _ (List.mem_cons_self ..)
    have s9 := s3.freeze hCM hx
    exact q _ _ _ _ _ (g1.g.trans (eG.trans (same_new gp))) s9 (.lst upd_same (rr.mono (same_new gp))) (hd acc μ' hI)
theorem evt_yes {PT : Bool → Mem → Prop} (h : PT true μ) : EvT K M tYes ρ μ PT := fun G0 H0 G H σ s Q q => q _ _ _ _ (Same.refl _) s h
/-! ### walks over the keys of a dict that is locked -/
mutual
def noDt : D → Bool
  | .lst ds => noDts ds
  | .tup ds => noDts ds
  | .tupF ds => noDts ds
  | .dk kds => noDtk kds
  | .ins _ fs => noDtf fs
  | .dt _ => false
  | .dtF _ => false
  | .lstF _ => false
  | .non => true
  | .bl _ => true
  | .int _ => true
  | .str _ => true
  | .loc _ => true
def noDts : List D → Bool
  | [] => true
  | d :: ds => noDt d && noDts ds
def noDtk : List (Key × D) → Bool
  | [] => true
  | (_, d) :: ds => noDt d && noDtk ds
def noDtf : List (Str × D) → Bool
  | [] => true
  | (_, d) :: ds => noDt d && noDtf ds
end
theorem noDtk_eq : ∀ l : List (Key × D), noDtk l = noDts (l.map (·.2))
  | [] => by simp [noDtk, noDts]
  | (_, d) :: ds => by simp [noDtk, noDts, noDtk_eq ds]
theorem noDtf_eq : ∀ l : List (Str × D), noDtf l = noDts (l.map (·.2))
  | [] => by simp [noDtf, noDts]
  | (_, d) :: ds => by simp [noDtf, noDts, noDtf_eq ds]
/-- a place where a dict with tuple keys stands, plain or locked -/
def DtAt (G : Hp) (a : Addr) : Prop := ∀ o, G a = some o → (∃ kvs, o = .dT kvs) ∨ ∃ od kvs, o = .frz od (.dT kvs)
section
variable {G : Hp} {a : Addr} {u : HO}
theorem dtAt_ne (h : DtAt G a) {b : Addr} {o : HO} (e : G b = some o) (h1 : ∀ kvs, o ≠ .dT kvs) (h2 : ∀ od kvs, o ≠ .frz od (.dT kvs)) : b ≠ a := fun z => by
  subst z
  rcases h o e with ⟨kvs, q⟩ | ⟨od, kvs, q⟩
  · exact h1 kvs q
  · exact h2 od kvs q
mutual
theorem Rep.other (h : DtAt G a) : ∀ {v : V} {d : D}, noDt d = true → Rep K G v d → Rep K (upd G a u) v d
  | _, _, _, .non => .non
  | _, _, _, .bl b => .bl b
  | _, _, _, .int i => .int i
  | _, _, _, .str s => .str s
  | _, _, _, .loc p => .loc p
  | _, _, n, .lst e r => .lst (by rw [upd_ne (dtAt_ne h e (fun _ z => nomatch z) (fun _ _ z => nomatch z))]; exact e) (Reps.other h (by simpa [noDt] using n) r)
  | _, _, n, .tup e r => .tup (by rw [upd_ne (dtAt_ne h e (fun _ z => nomatch z) (fun _ _ z => nomatch z))]; exact e) (Reps.other h (by simpa [noDt] using n) r)
  | _, _, n, .tupF e k r => .tupF (by rw [upd_ne (dtAt_ne h e (fun _ z => nomatch z) (fun _ _ z => nomatch z))]; exact e) k (Reps.other h (by simpa [noDt] using n) r)
  | _, _, n, .dk e k r => .dk (by rw [upd_ne (dtAt_ne h e (fun _ z => nomatch z) (fun _ _ z => nomatch z))]; exact e) k (Reps.other h (by simpa [noDt, noDtk_eq] using n) r)
  | _, _, n, .ins e k r => .ins (by rw [upd_ne (dtAt_ne h e (fun _ z => nomatch z) (fun _ _ z => nomatch z))]; exact e) k (Reps.other h (by simpa [noDt, noDtf_eq] using n) r)
  | _, _, n, .dt _ _ _ => by simp [noDt] at n
  | _, _, n, .dtF _ _ _ => by simp [noDt] at n
  | _, _, n, .lstF _ _ => by simp [noDt] at n
theorem Reps.other (h : DtAt G a) : ∀ {vs : List V} {ds : List D}, noDts ds = true → Reps K G vs ds → Reps K (upd G a u) vs ds
  | _, _, _, .nil => .nil
  | _, d :: ds, n, .cons r rr => by
    have n2 : noDt d = true ∧ noDts ds = true := by simpa [noDts] using n
    exact .cons (Rep.other h n2.1 r) (Reps.other h n2.2 rr)
end
end
inductive LockTo : Ro → Ro → Prop
  | nil : LockTo [] []
  | drop {x : Option D} {ρ ρ' : Ro} : LockTo ρ ρ' → LockTo (x :: ρ) (none :: ρ')
  | keep {d : D} {ρ ρ' : Ro} : noDt d = true → LockTo ρ ρ' → LockTo (some d :: ρ) (some d :: ρ')
theorem sl_lockTo {G : Hp} {a : Addr} {u : HO} (h : DtAt G a) : ∀ {σ : L2.St} {ρ ρ' : Ro}, LockTo ρ ρ' → Sl K G σ ρ → Sl K (upd G a u) σ ρ'
  | _, _, _, .nil, .nil => .nil
  | _, _, _, .drop l, .skip r => .skip (sl_lockTo h l r)
  | _, _, _, .drop l, .val _ r => .skip (sl_lockTo h l r)
  | _, _, _, .keep n l, .val r t => .val (Rep.other h n r) (sl_lockTo h l t)
theorem ed_lock {j : Nat} {kds : List (List Key × D)} {ρ' : Ro} (hj : ρ[j]? = some (some (.dt kds))) (nk : noDts (kds.map (·.2)) = true) (nx : noDt x = true) (hl : LockTo ρ ρ') (h : EvD K te (ρ'.set j (some (.dtF kds))) x) : EvD K (tLockE te) ρ x := fun G H σ s l Q q => by
  obtain ⟨v, h1, h2⟩ := l.get hj
  cases h2 with
  | dt e k r =>
    rename_i d kvs
    refine ⟨d, .dT kvs, s _ _ e, True.intro, fun od => ?_⟩
    have da : DtAt G d := fun o z => by rw [e] at z; cases z; exact .inl ⟨kvs, rfl⟩
    have s1 : Same (upd G d (.frz od (.dT kvs))) (upd H d (.frz od (.dT kvs))) := same_upd2 s
    have rv : Rep K (upd G d (.frz od (.dT kvs))) (.ref d) (.dtF kds) := .dtF upd_same k (Reps.other da nk r)
    have l1 := (sl_lockTo (u := .frz od (.dT kvs)) da hl l).set rv j
    have eσ : σ.set j (some (.ref d)) = σ := by
      apply List.ext_getElem?
      intro i
      by_cases e : j = i
      · subst e
        rw [List.getElem?_set_self (by
          rcases Nat.lt_or_ge j σ.length with z | z
          · exact z
          · rw [List.getElem?_eq_none z] at h1; cases h1), h1]
      · rw [List.getElem?_set_ne e]
    rw [eσ] at l1
    refine h _ _ σ s1 l1 _ fun w G2 H2 g2 r2 => ?_
    have eG2 : G2 d = some (.frz od (.dT kvs)) := g2.g _ _ upd_same
    have da2 : DtAt G2 d := fun o z => by rw [eG2] at z; cases z; exact .inr ⟨od, kvs, rfl⟩
    refine ⟨g2.sub _ _ eG2, q w (upd G2 d (.dT kvs)) (upd H2 d (.dT kvs)) ⟨fun a o z => ?_, same_upd2 g2.sub, fun a o m z => ?_, fun a z => ?_, fun a o z no => ?_, fun a o z no n => ?_⟩ (Rep.other da2 nx r2)⟩
    · by_cases ea : a = d
      · subst ea; rw [upd_same]; rw [e] at z; exact z
      · rw [upd_ne ea]; exact g2.g a o (by rw [upd_ne ea]; exact z)
    · by_cases ea : a = d
      · subst ea; rw [upd_same]; rw [s _ _ e] at z; exact z
      · rw [upd_ne ea]; exact g2.keep a o m (by rw [upd_ne ea]; exact z)
    · by_cases ea : a = d
      · subst ea; rw [upd_same]; exact fun z => nomatch z
      · rw [upd_ne ea]; exact g2.dom a (by rw [upd_ne ea]; exact z)
    · by_cases ea : a = d
      · subst ea; exact ⟨_, upd_same, rfl⟩
      · rw [upd_ne ea]; exact g2.cel a o (by rw [upd_ne ea]; exact z) no
    · have ea : a ≠ d := fun z => by rw [z, e] at n; cases n
      rw [upd_ne ea]
      exact g2.new a o (by rw [upd_ne ea]; exact z) no (by rw [upd_ne ea]; exact n)
theorem it_keysF {l : List (List Str × D)} (h : EvD K te ρ (.dtF (tkD l))) : ItE K (iKeys te) ρ (l.map fun kd => .tup (sD kd.1)) := fun G H σ s sl R q => h G H σ s sl _ fun v G1 H1 g1 r1 => by
  cases r1 with
  | dtF e k r =>
    rename_i d o kvs
    refine ⟨d, o, rfl, .inr ⟨kvs, g1.sub _ _ e, q _ G1 H1 g1 fun G2 H2 e1 e2 => ?_⟩⟩
    have hq : H2 d = some (.frz o (.dT kvs)) := e2 _ _ (e1 _ _ e)
    have hl : kvs.length = l.length := by have := congrArg List.length k; simpa [tkD] using this
    rw [List.length_map]
    refine ⟨fun i hi => ⟨hq, by rw [hl]; exact hi⟩, ⟨hq, by rw [hl]; exact Nat.le_refl _⟩, fun i x H3 hi y => ?_⟩
    obtain ⟨rfl, ks, w, b, h1, rfl, hb⟩ := y
    have h2 : (kvs.map (·.1))[i]? = some ks := by rw [List.getElem?_map, h1]; rfl
    rw [k] at h2
    unfold tkD at h2
    rw [List.map_map, List.getElem?_map, List.getElem?_eq_getElem hi] at h2
    have h2 : kS (l[i]).1 = ks := Option.some.inj h2
    subst h2
    have gb : Same G2 (upd G2 b (.tup ((kS (l[i]).1).map kV))) := fun a o z => by
      by_cases ea : a = b
      · subst ea
        rw [upd_same]
        rw [e2 _ _ z] at hb
        exact hb.symm
      · rw [upd_ne ea]; exact z
    have gs : Same (upd G2 b (.tup ((kS (l[i]).1).map kV))) H3 := fun a o z => by
      by_cases ea : a = b
      · subst ea
        rw [upd_same] at z
        rw [hb]; exact z
      · rw [upd_ne ea] at z; exact e2 _ _ z
    refine ⟨upd G2 b (.tup ((kS (l[i]).1).map kV)), .tup (sD (l[i]).1), by rw [List.getElem?_map, List.getElem?_eq_getElem hi]; rfl, ⟨gb, gs, fun _ _ _ h => h, fun _ h => h, fun _ o h n => ⟨o, h, n⟩, fun a o h n z => ?_⟩, .tup upd_same ?_⟩
    · have ea : a ≠ b := fun q => by
        rw [q, hb] at h
        cases h
        cases n
      rw [upd_ne ea]; exact z
    · have : (kS (l[i]).1).map kV = (l[i]).1.map V.str := by rw [List.map_map]; rfl
      rw [this]
      exact str_reps _
end
end Am
/-! The law's own data: stores as dicts; the promises of the law's defs that read them. -/
namespace Am
open PySem PySem.Spec PyProof.Rows L2
def encTm : Mnd → D
  | .one l v hs as => .dk (skD [("label", .str l), ("kind", .str "one"), ("nodes", .lst (sD [v])), ("swap", .non), ("helpers", .lst [.lst (sD hs)]), ("amounts", .lst [.lst (iD as)])])
  | .two l u v h1 h2 a1 a2 sw => .dk (skD [("label", .str l), ("kind", .str "pair"), ("nodes", .lst (sD [u, v])), ("swap", .int sw), ("helpers", .lst [.lst (sD h1), .lst (sD h2)]), ("amounts", .lst [.lst (iD a1), .lst (iD a2)])])
def encTr (r : List (Str × Option Int)) : D := .lst (r.map encI)
def keysT (s : Sto) : List (Str × D) := [("nodes", .lst (sD s.nodes)), ("rooms", .lst (iD s.rooms)), ("new", .lst (sD s.fresh)), ("mends", .lst (s.mends.map encTm)), ("file", .int s.file), ("readers", .lst (s.readers.map encTr))]
def encT (s : Sto) : D := .dk (skD (keysT s))
section
variable {K : PySem.W.Frag} {ρ : Ro} {te ta : TE} {s : Sto}
theorem ed_T_nodes (h : EvD K te ρ (encT s)) : EvD K (tDGet te (tC (.str "nodes"))) ρ (.lst (sD s.nodes)) := ed_dget h (ed_str _) rfl
theorem ed_T_rooms (h : EvD K te ρ (encT s)) : EvD K (tDGet te (tC (.str "rooms"))) ρ (.lst (iD s.rooms)) := ed_dget h (ed_str _) rfl
theorem ed_T_new (h : EvD K te ρ (encT s)) : EvD K (tDGet te (tC (.str "new"))) ρ (.lst (sD s.fresh)) := ed_dget h (ed_str _) rfl
theorem ed_T_mends (h : EvD K te ρ (encT s)) : EvD K (tDGet te (tC (.str "mends"))) ρ (.lst (s.mends.map encTm)) := ed_dget h (ed_str _) rfl
theorem ed_T_file (h : EvD K te ρ (encT s)) : EvD K (tDGet te (tC (.str "file"))) ρ (.int s.file) := ed_dget h (ed_str _) rfl
theorem ed_T_readers (h : EvD K te ρ (encT s)) : EvD K (tDGet te (tC (.str "readers"))) ρ (.lst (s.readers.map encTr)) := ed_dget h (ed_str _) rfl
theorem ed_Tm_label {m : Mnd} (h : EvD K te ρ (encTm m)) : EvD K (tDGet te (tC (.str "label"))) ρ (.str m.label) := by cases m <;> exact ed_dget h (ed_str _) rfl
theorem ed_Tm_kind {m : Mnd} (h : EvD K te ρ (encTm m)) : EvD K (tDGet te (tC (.str "kind"))) ρ (.str (kindZ m)) := by cases m <;> exact ed_dget h (ed_str _) rfl
theorem ed_Tm_nodes {m : Mnd} (h : EvD K te ρ (encTm m)) : EvD K (tDGet te (tC (.str "nodes"))) ρ (.lst (sD m.nodes)) := by cases m <;> exact ed_dget h (ed_str _) rfl
section
variable {l v u : Str} {hs h1 h2 : List Str} {as a1 a2 : List Int} {sw : Int}
theorem ed_Tm_helpers1 (h : EvD K te ρ (encTm (.one l v hs as))) : EvD K (tDGet te (tC (.str "helpers"))) ρ (.lst [.lst (sD hs)]) := ed_dget h (ed_str _) rfl
theorem ed_Tm_amounts1 (h : EvD K te ρ (encTm (.one l v hs as))) : EvD K (tDGet te (tC (.str "amounts"))) ρ (.lst [.lst (iD as)]) := ed_dget h (ed_str _) rfl
theorem ed_Tm_helpers2 (h : EvD K te ρ (encTm (.two l u v h1 h2 a1 a2 sw))) : EvD K (tDGet te (tC (.str "helpers"))) ρ (.lst [.lst (sD h1), .lst (sD h2)]) := ed_dget h (ed_str _) rfl
theorem ed_Tm_amounts2 (h : EvD K te ρ (encTm (.two l u v h1 h2 a1 a2 sw))) : EvD K (tDGet te (tC (.str "amounts"))) ρ (.lst [.lst (iD a1), .lst (iD a2)]) := ed_dget h (ed_str _) rfl
theorem ed_Tm_swap2 (h : EvD K te ρ (encTm (.two l u v h1 h2 a1 a2 sw))) : EvD K (tDGet te (tC (.str "swap"))) ρ (.int sw) := ed_dget h (ed_str _) rfl
end
/-- l.index(x), a list of texts -/
theorem ed_indexS {l : List Str} {x : Str} (ho : EvD K te ρ (.lst (sD l))) (ha : EvD K ta ρ (.str x)) (hx : x ∈ l) : EvD K (tBM K "list" (rIndex K) te (tCons ta tNil)) ρ (.int ((l.idxOf x : Nat) : Int)) := fun G H σ st sl Q q => ho G H σ st sl _ fun v G1 H1 g1 r1 => by
  cases r1 with
  | lst e rr =>
    rename_i a xs
    have e2 := reps_str rr
    subst e2
    refine ⟨.inl ⟨rfl, _, .inl (.inl (g1.sub _ _ e))⟩, ha G1 H1 σ g1.sub (sl.mono g1.g) _ fun w G2 H2 g2 r2 => ?_⟩
    cases r2
    have hi := List.idxOf_lt_length_iff.mpr hx
    refine ⟨a, l.map V.str, .str x, l.idxOf x, .str x, rfl, rfl, .inl (.inl (g2.sub _ _ (g2.g _ _ e))), rfl, by rw [List.all_map]; exact List.all_eq_true.mpr fun _ _ => rfl, ?_, by simp [L2.eqV], fun m z' hm hz => ?_, q _ _ _ (g1.trans g2) (.int _)⟩
    · rw [List.getElem?_map, List.getElem?_eq_getElem hi, List.getElem_idxOf hi]
      rfl
    · rw [List.getElem?_map] at hz
      have hml : m < l.length := Nat.lt_trans hm hi
      rw [List.getElem?_eq_getElem hml] at hz
      have hz : V.str l[m] = z' := Option.some.inj hz
      subst hz
      have h2 := List.not_of_lt_findIdx (p := (· == x)) (xs := l) (i := m) (by simpa [List.idxOf] using hm)
      have h3 : ¬ l[m] = x := by simpa using h2
      simp [L2.eqV, h3]
/-- k in l, ints -/
theorem rv_inI {a : Int} {ss : List Int} : RvD K (rIn K false) (.int a) (.lst (iD ss)) (.bl (decide (a ∈ ss))) := .of fun G H u v s ru rv Q q => by
  cases ru
  cases rv with
  | lst e r =>
    have e2 := reps_int r
    subst e2
    refine ⟨_, _, rfl, .inl (.inl (.inl (s _ _ e))), rfl, by rw [List.all_map]; exact List.all_eq_true.mpr fun _ _ => rfl, ?_⟩
    have : (if false = true then !inV (.int a) (ss.map V.int) else inV (.int a) (ss.map V.int)) = decide (a ∈ ss) := by
      rw [if_neg (by decide)]
      unfold inV
      rw [List.any_map, Bool.eq_iff_iff, List.any_eq_true]
      simp only [Function.comp_apply, decide_eq_true_eq]
      constructor
      · rintro ⟨x, hx, h⟩
        have h : (x == a) = true := h
        rwa [← beq_iff_eq.mp h]
      · exact fun h => ⟨a, h, show (a == a) = true from beq_self_eq_true a⟩
    rw [this]
    exact q _ (.bl _)
def optV : Option Int → V
  | none => .non
  | some i => .int i
theorem reps_opt {G : Hp} : ∀ {xs : List V} {l : List (Option Int)}, Reps K G xs (l.map optI) → xs = l.map optV
  | _, [], .nil => rfl
  | _, none :: l, .cons .non r => congrArg (V.non :: ·) (reps_opt r)
  | _, some i :: l, .cons (.int _) r => congrArg (V.int i :: ·) (reps_opt r)
/-- None in l -/
theorem rv_inO {ss : List (Option Int)} : RvD K (rIn K false) .non (.lst (ss.map optI)) (.bl (decide (none ∈ ss))) := .of fun G H u v s ru rv Q q => by
  cases ru
  cases rv with
  | lst e r =>
    have e2 := reps_opt r
    subst e2
    refine ⟨_, _, rfl, .inl (.inl (.inl (s _ _ e))), rfl, by rw [List.all_map]; exact List.all_eq_true.mpr fun o _ => by cases o <;> rfl, ?_⟩
    have : (if false = true then !inV .non (ss.map optV) else inV .non (ss.map optV)) = decide (none ∈ ss) := by
      rw [if_neg (by decide)]
      unfold inV
      rw [List.any_map, Bool.eq_iff_iff, List.any_eq_true]
      simp only [Function.comp_apply, decide_eq_true_eq]
      constructor
      · rintro ⟨x, hx, h⟩
        cases x with
        | none => exact hx
        | some i => cases h
      · exact fun h => ⟨none, h, rfl⟩
    rw [this]
    exact q _ (.bl _)
end
/-! ### lots -/
theorem lot_filter {nodes : List Str} (nd : nodes.Nodup) (m : Nat) : lotOf nodes m = nodes.filter fun a => m.testBit (nodes.idxOf a) := by
  unfold lotOf
  rw [← filter_zip (fun a => m.testBit (nodes.idxOf a)) nodes 0]
  congr 1
  exact List.filter_congr fun p hp => by rw [idx_of_at nd (zip_at hp)]
theorem lot_eq {nodes : List Str} (nd : nodes.Nodup) {m : Nat} {p : Str → Bool} (h : ∀ a ∈ nodes, m.testBit (nodes.idxOf a) = p a) : lotOf nodes m = nodes.filter p := by
  rw [lot_filter nd]
  exact List.filter_congr h
def subs (l : List Str) : List (List Str) := l.foldl (fun f n => f ++ f.map (· ++ [n])) [[]]
theorem subs_snoc (l : List Str) (a : Str) : subs (l ++ [a]) = subs l ++ (subs l).map (· ++ [a]) := by
  unfold subs
  rw [List.foldl_append]
  rfl
theorem snoc_ind {α : Type} {P : List α → Prop} (h0 : P []) (h1 : ∀ l a, P l → P (l ++ [a])) (l : List α) : P l := by
  have aux : ∀ r : List α, P r.reverse := by
    intro r
    induction r with
    | nil => exact h0
    | cons a r ih => rw [List.reverse_cons]; exact h1 _ _ ih
  have := aux l.reverse
  rwa [List.reverse_reverse] at this
theorem subs_len : ∀ l : List Str, (subs l).length = 2 ^ l.length := by
  intro l
  refine snoc_ind (P := fun l => (subs l).length = 2 ^ l.length) rfl (fun l a ih => ?_) l
  · rw [subs_snoc, List.length_append, List.length_map, ih, List.length_append, List.length_singleton, Nat.pow_succ]; omega
theorem lot_snoc (l : List Str) (a : Str) (m : Nat) : lotOf (l ++ [a]) m = lotOf l m ++ if m.testBit l.length then [a] else [] := by
  unfold lotOf
  rw [List.zipIdx_append, List.filter_append, List.map_append]
  congr 1
  rw [Nat.zero_add]
  show (List.filter _ [(a, l.length)]).map _ = _
  rw [List.filter_cons]
  cases m.testBit l.length <;> rfl
theorem lot_low (l : List Str) {m : Nat} (hm : m < 2 ^ l.length) : lotOf l (2 ^ l.length + m) = lotOf l m := by
  unfold lotOf
  congr 1
  refine List.filter_congr fun p hp => ?_
  have := (List.getElem?_eq_some_iff.mp (zip_at hp)).1
  rw [Nat.testBit_two_pow_add_gt this]
theorem subs_lots : ∀ l : List Str, subs l = (List.range (2 ^ l.length)).map (lotOf l) := by
  intro l
  refine snoc_ind (P := fun l => subs l = (List.range (2 ^ l.length)).map (lotOf l)) rfl (fun l a ih => ?_) l
  · rw [subs_snoc, ih, List.length_append, List.length_singleton, Nat.pow_succ, Nat.mul_two, List.range_add, List.map_append]
    congr 1
    · refine List.map_congr_left fun m hm => ?_
      rw [lot_snoc, Nat.testBit_lt_two_pow (List.mem_range.mp hm)]
      simp
    · rw [List.map_map, List.map_map]
      refine List.map_congr_left fun m hm => ?_
      have hm := List.mem_range.mp hm
      show lotOf l m ++ [a] = lotOf (l ++ [a]) (2 ^ l.length + m)
      rw [lot_snoc, lot_low l hm, Nat.testBit_two_pow_add_eq, Nat.testBit_lt_two_pow hm]
      rfl
theorem lot_inj {nodes : List Str} (nd : nodes.Nodup) {m m' : Nat} (hm : m < 2 ^ nodes.length) (hm' : m' < 2 ^ nodes.length) (h : lotOf nodes m = lotOf nodes m') : m = m' := by
  refine Nat.eq_of_testBit_eq fun k => ?_
  rcases Nat.lt_or_ge k nodes.length with hk | hk
  · have e := List.getElem?_eq_getElem hk
    have h1 := mem_lotOf nd (m := m) e
    have h2 := mem_lotOf nd (m := m') e
    rw [h] at h1
    have := h1.symm.trans h2
    cases a : m.testBit k <;> cases b : m'.testBit k <;> simp_all
  · have hp := Nat.pow_le_pow_right (n := 2) (by decide) hk
    rw [Nat.testBit_lt_two_pow (Nat.lt_of_lt_of_le hm hp), Nat.testBit_lt_two_pow (Nat.lt_of_lt_of_le hm' hp)]
/-! ### promises -/
abbrev lotD (s : Sto) (m : Nat) : D := .tup (sD (lotOf s.nodes m))
def R_allLots : List D → D → Prop := fun ds d => ∃ s, Okay s ∧ ds = [encT s] ∧ d = .lst ((List.range (2 ^ s.nodes.length)).map (lotD s))
def R_lawLot : List D → D → Prop := fun ds d => ∃ s names, Okay s ∧ ds = [encT s, .lst (sD names)] ∧ d = .tup (sD (s.nodes.filter fun a => decide (a ∈ names)))
def R_load : List D → D → Prop := fun ds d => ∃ s hs as, ∃ m : Nat, Okay s ∧ (∀ h ∈ hs, h ∈ s.nodes) ∧ hs.length = as.length ∧ hs.length ≤ 20 ∧ ds = [lotD s m, .lst (sD hs), .lst (iD as)] ∧ d = .int (outs s.nodes m hs as)
def R_lprice : List D → D → Prop := fun ds d => ∃ s md st, ∃ m : Nat, Okay s ∧ MndOk s.nodes md ∧ st ∈ stepsM s m md ∧ ds = [encT s, lotD s m, encTm md, .tup (sD st.2.1)] ∧ d = .int st.1
def takesOf (s : Sto) (md : Mnd) : List (List Str) := subs (s.nodes.filter fun a => decide (a ∈ md.nodes))
def R_takes : List D → D → Prop := fun ds d => ∃ s md, Okay s ∧ MndOk s.nodes md ∧ ds = [encT s, encTm md] ∧ d = .lst ((takesOf s md).map fun t => .tup (sD t))
def R_next : List D → D → Prop := fun ds d => ∃ s md st, ∃ m : Nat, Okay s ∧ MndOk s.nodes md ∧ m < 2 ^ s.nodes.length ∧ st ∈ stepsM s m md ∧ ds = [encT s, lotD s m, encTm md, .tup (sD st.2.1)] ∧ d = lotD s st.2.2
def R_lend : List D → D → Prop := fun ds d => ∃ s rd, ∃ m r : Nat, Okay s ∧ s.readers[r]? = some rd ∧ ds = [encT s, lotD s m, .int r] ∧ d = optI (endP s.nodes m rd)
def startP (s : Sto) (m : Nat) : Int := ((s.nodes.zip s.rooms).map fun p => if (decide (p.1 ∈ lotOf s.nodes m) && !decide (p.1 ∈ s.fresh)) = true then p.2 else 0).sum
def R_start : List D → D → Prop := fun ds d => ∃ s, ∃ m : Nat, Okay s ∧ ds = [encT s, lotD s m] ∧ d = .int (startP s m)
def rowD (s : Sto) (l : Row) : D := .dt (tkD (l.zipIdx.map fun p => (lotOf s.nodes p.2, optI p.1)))
def R_lwithin : List D → D → Prop := fun ds d => ∃ s rd, ∃ j : Option Nat, Fix s rd ∧ ds = [.lst ((rowsOf s rd).map (rowD s)), optN j] ∧ d = rowD s (rowK s rd (idxJ s rd j))
/-! what the law's price of a pair is -/
theorem least_min (a b c e : Int) {k : Int} (hk : k ∈ [a, b, c, e]) (h : ∀ y, y ∈ [a, b, c, e] → k ≤ y) : k = (least (least (least (least none (some a)) (some c)) (some b)) (some e)).getD 0 := by
  have h1 := h a (by simp)
  have h2 := h b (by simp)
  have h3 := h c (by simp)
  have h4 := h e (by simp)
  have hk : k = a ∨ k = b ∨ k = c ∨ k = e := by simpa using hk
  show k = (least (least (least (some a) (some c)) (some b)) (some e)).getD 0
  simp only [least, Option.getD_some]
  split <;> split <;> split <;> omega
end Am
namespace Am
open PySem PySem.Spec PyProof.Rows L2
def tupD (t : List Str) : D := .tup (sD t)
theorem lotOf_len (l : List Str) (m : Nat) : (lotOf l m).length ≤ l.length := by
  unfold lotOf
  rw [List.length_map]
  exact Nat.le_trans (List.length_filter_le _ _) (by rw [List.length_zipIdx]; exact Nat.le_refl _)
theorem subs_mem {l t : List Str} (h : t ∈ subs l) : t.length ≤ l.length := by
  rw [subs_lots] at h
  obtain ⟨m, _, rfl⟩ := List.mem_map.mp h
  exact lotOf_len l m
theorem subs_take {l : List Str} {i : Nat} {a : Str} (h : l[i]? = some a) : subs (l.take (i + 1)) = subs (l.take i) ++ (subs (l.take i)).map (· ++ [a]) := by
  rw [List.take_add_one, h]
  exact subs_snoc _ _
theorem pow_take {l : List Str} (hl : l.length ≤ 5) (i : Nat) : 2 ^ (l.take i).length ≤ 32 := Nat.le_trans (Nat.pow_le_pow_right (by decide) (Nat.le_trans (by rw [List.length_take]; omega) hl)) (by decide)
/-- the step of both loops over sub-lots -/
theorem ed_subs {K : PySem.W.Frag} {ρ : Ro} {l : List Str} {i j k n : Nat} {a : Str} (hl : l.length ≤ 5) (h : l[i]? = some a) (hj : ρ[j]? = some (some (.lst ((subs (l.take i)).map tupD)))) (hk : ∀ t : List Str, ((wipeR ρ [n]).set n (some (tupD t)))[k]? = some (some (.str a))) (hn : ∀ t : List Str, ((wipeR ρ [n]).set n (some (tupD t)))[n]? = some (some (tupD t))) :
    EvD K (tOp rCat (tVar j) (tLc (iList K (tVar j)) (gName n) tYes (tOp (rCatA K) (tVar n) (tTup (tCons (tVar k) tNil))) [n])) ρ (.lst ((subs (l.take (i + 1))).map tupD)) := by
  have hs : (subs (l.take i)).length ≤ 32 := by rw [subs_len]; exact pow_take hl i
  rw [subs_take h, List.map_append, List.map_map]
  refine ed_op (ed_var hj) (ed_lc0 tupD (fun t => tupD (t ++ [a])) (it_list (ed_var hj)) (by omega) fun t ht => ⟨[n], _, tg_name, by simp, EvD.is (ed_op (ed_var (hn t)) (ed_tup (ea_cons (ed_var (hk t)) ea_nil) (show 1 ≤ 100000 by decide)) (rv_catA ?_)) ?_⟩) (rv_cat ?_)
  · have := subs_mem ht
    rw [List.length_take] at this
    rw [List.length_map, List.length_singleton]
    omega
  · show D.tup (sD t ++ sD [a]) = D.tup (sD (t ++ [a]))
    rw [← List.map_append]
  · rw [List.length_map, List.length_map]
    omega
theorem len__law_all_lots : ∀ ds d, R_allLots ds d → ds.length = 1 := fun _ _ ⟨_, _, h, _⟩ => by rw [h]; rfl
abbrev s__law_all_lots : Stmt := topS 56
theorem sc__law_all_lots : FnScope ["_law_store_here", "_law_found", "_law_name", "_law_lot"] ["_law_store_here"] (defScope s__law_all_lots) := ⟨rfl, rfl, rfl, by decide +kernel, rfl, by decide +kernel, by decide +kernel⟩
set_option maxHeartbeats 16000000 in
theorem ok__law_all_lots {P : Program} {w : World} {K : PySem.W.Frag} {mg : Str → Option Value} {base : Heap} {c : Cls4} {f : Addr} {fd : FuncData} (B : Blt mg) (hc : ClsOk K c mg) (F : FD K "_law_all_lots" "_law_all_lots" s__law_all_lots f fd) : FnOk P w K mg base CX0 1 f fd ["_law_store_here"] (spP K R_allLots) := by
  have sc := sc__law_all_lots
  refine F.ok sc (fun vs H Q E h => len_P (n := 1) len__law_all_lots h) (fun cdv A outer s H vs Q E hr h => ?_)
  have hu := hu_of hr
  refine ⟨_, PSs.nox ((pss_cons (ps_set (i := 1) sc.nd rfl (Or.inl rfl) (pe_lst (pa_cons (pe_tup pa_nil) pa_nil))) 
      (pss_cons (ps_for PassesOwn.never rfl (xi_list (K := K) (pe_dget hu (pv 0) pe_str (fun _ _ => rfl))) (pg_name (i := 2) sc.nd rfl (Or.inr rfl))
        (pss_one (ps_set (i := 1) sc.nd rfl (Or.inl rfl) (pe_op op_cat (pv 1) (pe_lc (own := [("_law_lot", 3)]) rfl sc.nd (xi_list (K := K) (pv 1)) (blkOk_by (own := [("_law_lot", 3)]) (N := ["_law_store_here", "_law_found", "_law_name", "_law_lot"]) (sc := defScope s__law_all_lots) (by decide +kernel)) (fun _ _ _ _ _ => (pg_name (i := 3) sc.nd rfl (Or.inl rfl))) (fun _ _ _ _ _ => pts_nil) (fun _ _ _ _ _ => (pe_op (xo_catA (K := K)) (pv 3) (pe_tup (pa_cons (pv 2) pa_nil))))))))) 
      (pss_one (ps_ret (pv 1)))))), read_P h ?_⟩
  rintro ds d ⟨s, ok, rfl, rfl⟩
  refine run_seq (run_asg (EvD.is (y := .lst ((subs (s.nodes.take 0)).map tupD)) (ed_lst (ea_cons (ed_tup ea_nil (Nat.zero_le _)) ea_nil) (show 1 ≤ 100000 by decide)) rfl) ?_)
  refine run_seq (run_for (items := sD s.nodes) (it_list (ed_T_nodes (ed_var rfl))) (fun i ρ μ => ∃ x, ρ = [some (encT s), some (.lst ((subs (s.nodes.take i)).map tupD)), x, none] ∧ μ = []) ⟨none, rfl, rfl⟩ (fun i d ρ1 μ1 hi hI => ?_) fun ρ1 μ1 hI => ?_)
  · obtain ⟨x, rfl, rfl⟩ := hI
    rw [List.getElem?_map] at hi
    cases ha : s.nodes[i]? with
    | none => rw [ha] at hi; cases hi
    | some a =>
      rw [ha] at hi
      have hi : D.str a = d := Option.some.inj hi
      subst hi
      exact ⟨_, _, tg_name, run_asg (ed_subs ok.few ha rfl (fun _ => rfl) (fun _ => rfl)) ⟨_, rfl, rfl⟩⟩
  · obtain ⟨x, rfl, rfl⟩ := hI
    refine run_ret (ed_var rfl) ?_
    rw [List.length_map, List.take_length, subs_lots, List.map_map]
    rfl
theorem len__law_lot_of : ∀ ds d, R_lawLot ds d → ds.length = 2 := fun _ _ ⟨_, _, _, h, _⟩ => by rw [h]; rfl
abbrev s__law_lot_of : Stmt := topS 57
theorem sc__law_lot_of : FnScope ["_law_store_here", "_law_names", "_law_name"] ["_law_store_here", "_law_names"] (defScope s__law_lot_of) := ⟨rfl, rfl, rfl, by decide +kernel, rfl, by decide +kernel, by decide +kernel⟩
set_option maxHeartbeats 16000000 in
theorem ok__law_lot_of {P : Program} {w : World} {K : PySem.W.Frag} {mg : Str → Option Value} {base : Heap} {c : Cls4} {f : Addr} {fd : FuncData} (B : Blt mg) (hc : ClsOk K c mg) (F : FD K "_law_lot_of" "_law_lot_of" s__law_lot_of f fd) : FnOk P w K mg base CX0 1 f fd ["_law_store_here", "_law_names"] (spP K R_lawLot) := by
  have sc := sc__law_lot_of
  refine F.ok sc (fun vs H Q E h => len_P (n := 2) len__law_lot_of h) (fun cdv A outer s H vs Q E hr h => ?_)
  have hu := hu_of hr
  refine ⟨_, PSs.nox ((pss_one (ps_ret (pe_callTy (xc_tuple (K := K)) (by rfl) B.tuple boot_tuple (pa_cons (pe_lc (own := [("_law_name", 2)]) rfl sc.nd (xi_list (K := K) (pe_dget hu (pv 0) pe_str (fun _ _ => rfl))) (blkOk_by (own := [("_law_name", 2)]) (N := ["_law_store_here", "_law_names", "_law_name"]) (sc := defScope s__law_lot_of) (by decide +kernel)) (fun _ _ _ _ _ => (pg_name (i := 2) sc.nd rfl (Or.inl rfl))) (fun _ _ _ _ _ => (pts_one (pt_cmpR (xo_in (K := K)) (pv 2) (pv 1) rfl))) (fun _ _ _ _ _ => (pv 2))) pa_nil))))), read_P h ?_⟩
  rintro ds d ⟨s, names, ok, rfl, rfl⟩
  refine run_ret (EvD.is (ed_cb (ea_cons (ed_lcS D.str (fun n => decide (n ∈ names)) (fun n => n) (it_list (ed_T_nodes (ed_var rfl))) (by have := ok.few; omega) fun n hn => ⟨_, _, tg_name, by simp, et_test (ed_op (ed_var rfl) (ed_var rfl) rv_inL), fun _ => ed_var rfl⟩) ea_nil) rc_tuple) (by rw [List.map_id'])) rfl
theorem outs_sum {nodes : List Str} (nd : nodes.Nodup) (m : Nat) : ∀ (hs : List Str) (as : List Int), (∀ h ∈ hs, h ∈ nodes) → (((hs.zip as).filter fun p => !decide (p.1 ∈ lotOf nodes m)).map (·.2)).sum = outs nodes m hs as
  | [], _, _ => rfl
  | _ :: _, [], _ => rfl
  | h :: hs, a :: as, hm => by
    have ih := outs_sum nd m hs as fun x hx => hm x (List.mem_cons_of_mem _ hx)
    have hb := mem_lot nd (m := m) (hm h (List.mem_cons_self ..))
    rw [List.zip_cons_cons, List.filter_cons]
    show _ = (if m.testBit (nodes.idxOf h) then 0 else a) + outs nodes m hs as
    by_cases e : h ∈ lotOf nodes m
    · rw [if_neg (by simpa using e), if_pos (hb.mp e), ih, Int.zero_add]
    · rw [if_pos (by simpa using e), if_neg (fun z => e (hb.mpr z)), List.map_cons, List.sum_cons, ih]
theorem len__law_load : ∀ ds d, R_load ds d → ds.length = 3 := fun _ _ ⟨_, _, _, _, _, _, _, _, h, _⟩ => by rw [h]; rfl
abbrev s__law_load : Stmt := topS 58
theorem sc__law_load : FnScope ["_law_lot", "_law_helpers", "_law_amounts", "_law_name", "_law_amount"] ["_law_lot", "_law_helpers", "_law_amounts"] (defScope s__law_load) := ⟨rfl, rfl, rfl, by decide +kernel, rfl, by decide +kernel, by decide +kernel⟩
set_option maxHeartbeats 16000000 in
theorem ok__law_load {P : Program} {w : World} {K : PySem.W.Frag} {mg : Str → Option Value} {base : Heap} {c : Cls4} {f : Addr} {fd : FuncData} (B : Blt mg) (hc : ClsOk K c mg) (F : FD K "_law_load" "_law_load" s__law_load f fd) : FnOk P w K mg base CX0 1 f fd ["_law_lot", "_law_helpers", "_law_amounts"] (spP K R_load) := by
  have sc := sc__law_load
  refine F.ok sc (fun vs H Q E h => len_P (n := 3) len__law_load h) (fun cdv A outer s H vs Q E hr h => ?_)
  have hu := hu_of hr
  refine ⟨_, PSs.nox ((pss_one (ps_ret (pe_callB (xc_sum (K := K) rfl) (by rfl) B.sum boot_sum (pa_cons (pe_lc (own := [("_law_name", 3), ("_law_amount", 4)]) rfl sc.nd (xi_zip (K := K) (by rfl) B.zip (pa_cons (pv 1) (pa_cons (pv 2) pa_nil))) (blkOk_by (own := [("_law_name", 3), ("_law_amount", 4)]) (N := ["_law_lot", "_law_helpers", "_law_amounts", "_law_name", "_law_amount"]) (sc := defScope s__law_load) (by decide +kernel)) (fun _ _ _ _ _ => (xg_tup (K := K) (n := 2) rfl (pgs_cons (pg_name (i := 3) sc.nd rfl (Or.inl rfl)) (pgs_cons (pg_name (i := 4) sc.nd rfl (Or.inl rfl)) pgs_nil)))) (fun _ _ _ _ _ => (pts_one (pt_cmpR (xo_notIn (K := K)) (pv 3) (pv 0) rfl))) (fun _ _ _ _ _ => (pv 4))) pa_nil))))), read_P h ?_⟩
  rintro ds d ⟨s, hs, as, m, ok, hn, hl, hl2, rfl, rfl⟩
  refine run_ret (ed_cb (ea_cons (ed_lcI encSI (fun p => !decide (p.1 ∈ lotOf s.nodes m)) (·.2) (ItE.is (it_zipL (ea_cons (ed_var rfl) (ea_cons (ed_var rfl) ea_nil)) (by rw [List.length_map, List.length_map, hl])) (zipD_zip hs as)) (by rw [List.length_zip]; omega) fun p hp => ⟨_, _, tg_two, by simp, et_test (ed_op (ed_var rfl) (ed_var rfl) rv_notInT), fun _ => ed_var rfl⟩) ea_nil) rc_sum) ?_
  rw [outs_sum ok.nd m hs as hn]
theorem len__law_takes : ∀ ds d, R_takes ds d → ds.length = 2 := fun _ _ ⟨_, _, _, _, h, _⟩ => by rw [h]; rfl
abbrev s__law_takes : Stmt := topS 60
theorem sc__law_takes : FnScope ["_law_store_here", "_law_mend", "_law_found", "_law_name", "_law_lot"] ["_law_store_here", "_law_mend"] (defScope s__law_takes) := ⟨rfl, rfl, rfl, by decide +kernel, rfl, by decide +kernel, by decide +kernel⟩
set_option maxHeartbeats 16000000 in
theorem ok__law_takes {P : Program} {w : World} {K : PySem.W.Frag} {mg : Str → Option Value} {base : Heap} {c : Cls4} {f : Addr} {fd : FuncData} (B : Blt mg) (hc : ClsOk K c mg)
    (h__law_lot_of : Fn P w K mg base "_law_lot_of" 1 ["_law_store_here", "_law_names"] (spP K R_lawLot)) (F : FD K "_law_takes" "_law_takes" s__law_takes f fd) : FnOk P w K mg base CX0 2 f fd ["_law_store_here", "_law_mend"] (spP K R_takes) := by
  have sc := sc__law_takes
  refine F.ok sc (fun vs H Q E h => len_P (n := 2) len__law_takes h) (fun cdv A outer s H vs Q E hr h => ?_)
  have hu := hu_of hr
  refine ⟨_, PSs.nox ((pss_cons (ps_set (i := 2) sc.nd rfl (Or.inl rfl) (pe_lst (pa_cons (pe_tup pa_nil) pa_nil))) 
      (pss_cons (ps_for PassesOwn.never rfl (xi_tup (K := K) (pe_fn h__law_lot_of (hr.mono (by decide)) (by rfl) (pa_cons (pv 0) (pa_cons (pe_dget hu (pv 1) pe_str (fun _ _ => rfl)) pa_nil)))) (pg_name (i := 3) sc.nd rfl (Or.inr rfl))
        (pss_one (ps_set (i := 2) sc.nd rfl (Or.inl rfl) (pe_op op_cat (pv 2) (pe_lc (own := [("_law_lot", 4)]) rfl sc.nd (xi_list (K := K) (pv 2)) (blkOk_by (own := [("_law_lot", 4)]) (N := ["_law_store_here", "_law_mend", "_law_found", "_law_name", "_law_lot"]) (sc := defScope s__law_takes) (by decide +kernel)) (fun _ _ _ _ _ => (pg_name (i := 4) sc.nd rfl (Or.inl rfl))) (fun _ _ _ _ _ => pts_nil) (fun _ _ _ _ _ => (pe_op (xo_catA (K := K)) (pv 4) (pe_tup (pa_cons (pv 3) pa_nil))))))))) 
      (pss_one (ps_ret (pv 2)))))), read_P h ?_⟩
  rintro ds d ⟨s, md, ok, mok, rfl, rfl⟩
  have few := ok.few
  have hl5 : (s.nodes.filter fun a => decide (a ∈ md.nodes)).length ≤ 5 := Nat.le_trans (List.length_filter_le _ _) few
  refine run_seq (run_asg (EvD.is (y := .lst ((subs ((s.nodes.filter fun a => decide (a ∈ md.nodes)).take 0)).map tupD)) (ed_lst (ea_cons (ed_tup ea_nil (Nat.zero_le _)) ea_nil) (show 1 ≤ 100000 by decide)) rfl) ?_)
  refine run_seq (run_for (items := sD (s.nodes.filter fun a => decide (a ∈ md.nodes))) (it_tup (ed_call (ea_cons (ed_var rfl) (ea_cons (ed_Tm_nodes (ed_var rfl)) ea_nil)) ⟨s, md.nodes, ok, rfl, rfl⟩)) (fun i ρ μ => ∃ x, ρ = [some (encT s), some (encTm md), some (.lst ((subs ((s.nodes.filter fun a => decide (a ∈ md.nodes)).take i)).map tupD)), x, none] ∧ μ = []) ⟨none, rfl, rfl⟩ (fun i d ρ1 μ1 hi hI => ?_) fun ρ1 μ1 hI => ?_)
  · obtain ⟨x, rfl, rfl⟩ := hI
    rw [List.getElem?_map] at hi
    cases ha : (s.nodes.filter fun a => decide (a ∈ md.nodes))[i]? with
    | none => rw [ha] at hi; cases hi
    | some a =>
      rw [ha] at hi
      have hi : D.str a = d := Option.some.inj hi
      subst hi
      exact ⟨_, _, tg_name, run_asg (ed_subs hl5 ha rfl (fun _ => rfl) (fun _ => rfl)) ⟨_, rfl, rfl⟩⟩
  · obtain ⟨x, rfl, rfl⟩ := hI
    refine run_ret (ed_var rfl) ?_
    rw [List.length_map, List.take_length]
    rfl
theorem len__law_end : ∀ ds d, R_lend ds d → ds.length = 3 := fun _ _ ⟨_, _, _, _, _, _, h, _⟩ => by rw [h]; rfl
def outL (nodes : List Str) (m : Nat) (rd : List (Str × Option Int)) : List (Option Int) := (rd.filter fun p => !decide (p.1 ∈ lotOf nodes m)).map (·.2)
theorem outL_cons {nodes : List Str} (nd : nodes.Nodup) (m : Nat) (n : Str) (l : Option Int) (rd : List (Str × Option Int)) (h : n ∈ nodes) : outL nodes m ((n, l) :: rd) = if m.testBit (nodes.idxOf n) then outL nodes m rd else l :: outL nodes m rd := by
  have hb := mem_lot nd (m := m) h
  unfold outL
  rw [List.filter_cons]
  by_cases e : n ∈ lotOf nodes m
  · rw [if_neg (by simpa using e), if_pos (hb.mp e)]
  · rw [if_pos (by simpa using e), if_neg (fun z => e (hb.mpr z)), List.map_cons]
theorem endP_none {nodes : List Str} (nd : nodes.Nodup) (m : Nat) : ∀ rd : List (Str × Option Int), (∀ p ∈ rd, p.1 ∈ nodes) → none ∈ outL nodes m rd → endP nodes m rd = none
  | [], _, h => by simp [outL] at h
  | (n, l) :: rd, hm, h => by
    rw [outL_cons nd m n l rd (hm _ (List.mem_cons_self ..))] at h
    have ih := endP_none nd m rd fun p hp => hm p (List.mem_cons_of_mem _ hp)
    unfold endP
    cases e : m.testBit (nodes.idxOf n) with
    | true =>
      rw [e] at h
      exact ih h
    | false =>
      rw [e] at h
      cases l with
      | none => rfl
      | some x =>
        have h : none ∈ some x :: outL nodes m rd := h
        have h : none ∈ outL nodes m rd := by simpa using h
        show (endP nodes m rd).map (x + ·) = none
        rw [ih h]
        rfl
theorem endP_some {nodes : List Str} (nd : nodes.Nodup) (m : Nat) : ∀ rd : List (Str × Option Int), (∀ p ∈ rd, p.1 ∈ nodes) → none ∉ outL nodes m rd → ∃ ns : List Int, outL nodes m rd = ns.map some ∧ endP nodes m rd = some ns.sum
  | [], _, h => ⟨[], rfl, rfl⟩
  | (n, l) :: rd, hm, h => by
    rw [outL_cons nd m n l rd (hm _ (List.mem_cons_self ..))] at h ⊢
    have ih := endP_some nd m rd fun p hp => hm p (List.mem_cons_of_mem _ hp)
    unfold endP
    cases e : m.testBit (nodes.idxOf n) with
    | true =>
      rw [e] at h
      exact ih h
    | false =>
      rw [e] at h
      cases l with
      | none => exact absurd (List.mem_cons_self ..) h
      | some x =>
        obtain ⟨ns, h1, h2⟩ := ih fun z => h (List.mem_cons_of_mem _ z)
        refine ⟨x :: ns, ?_, ?_⟩
        · show some x :: outL nodes m rd = _
          rw [h1]
          rfl
        · show (endP nodes m rd).map (x + ·) = _
          rw [h2]
          rfl
abbrev s__law_end : Stmt := topS 62
theorem sc__law_end : FnScope ["_law_store_here", "_law_lot", "_law_reader", "_law_outside", "_law_name", "_law_limit"] ["_law_store_here", "_law_lot", "_law_reader"] (defScope s__law_end) := ⟨rfl, rfl, rfl, by decide +kernel, rfl, by decide +kernel, by decide +kernel⟩
set_option maxHeartbeats 16000000 in
theorem ok__law_end {P : Program} {w : World} {K : PySem.W.Frag} {mg : Str → Option Value} {base : Heap} {c : Cls4} {f : Addr} {fd : FuncData} (B : Blt mg) (hc : ClsOk K c mg) (F : FD K "_law_end" "_law_end" s__law_end f fd) : FnOk P w K mg base CX0 1 f fd ["_law_store_here", "_law_lot", "_law_reader"] (spP K R_lend) := by
  have sc := sc__law_end
  refine F.ok sc (fun vs H Q E h => len_P (n := 3) len__law_end h) (fun cdv A outer s H vs Q E hr h => ?_)
  have hu := hu_of hr
  refine ⟨_, PSs.nox ((pss_cons (ps_setLc (i := 3) (own := [("_law_name", 4), ("_law_limit", 5)]) rfl sc.nd rfl rfl (sw_true rfl rfl rfl (by decide +kernel)) (xi_list (K := K) (pe_ix (xx_list (K := K)) (pe_dget hu (pv 0) pe_str (fun _ _ => rfl)) (pv 2) (fun _ _ => rfl))) (blkOk_by (own := [("_law_name", 4), ("_law_limit", 5)]) (N := ["_law_store_here", "_law_lot", "_law_reader", "_law_outside", "_law_name", "_law_limit"]) (sc := defScope s__law_end) (by decide +kernel)) (fun _ _ _ _ _ => (xg_tup (K := K) (n := 2) rfl (pgs_cons (pg_name (i := 4) sc.nd rfl (Or.inl rfl)) (pgs_cons (pg_name (i := 5) sc.nd rfl (Or.inl rfl)) pgs_nil)))) (fun _ _ _ _ _ => (pts_one (pt_cmpR (xo_notIn (K := K)) (pv 4) (pv 1) rfl))) (fun _ _ _ _ _ => (pv 5))) 
      (pss_one (ps_ret (pe_ifExp (pt_cmpR (xo_in (K := K)) pe_non (pv 3) rfl) pe_non (pe_callB (xc_sum (K := K) rfl) (by rfl) B.sum boot_sum (pa_cons (pv 3) pa_nil))))))), read_P h ?_⟩
  rintro ds d ⟨s, rd, m, r, ok, hrd, rfl, rfl⟩
  have hmem : rd ∈ s.readers := List.mem_of_getElem? hrd
  have hin : ∀ p ∈ rd, p.1 ∈ s.nodes := fun p hp => (ok.readers rd hmem p hp).1
  have hR : (s.readers.map encTr)[r]? = some (encTr rd) := by rw [List.getElem?_map, hrd]; rfl
  refine run_seq (run_asg (EvD.is (y := .lst ((outL s.nodes m rd).map optI)) (ed_lc encI (fun p => !decide (p.1 ∈ lotOf s.nodes m)) (fun p => optI p.2) (it_list (ed_op (ed_T_readers (ed_var rfl)) (ed_var rfl) (rv_ixL (atI_nat hR)))) (by have := ok.rlen rd hmem; omega) fun p hp => ⟨_, _, tg_two, by simp, et_test (ed_op (ed_var rfl) (ed_var rfl) rv_notInT), fun _ => ed_var rfl⟩) (by unfold outL; rw [List.map_map]; rfl)) ?_)
  refine run_ret (ed_if (et_test (ed_op ed_non (ed_var rfl) rv_inO)) (fun hb => EvD.is ed_non ?_) fun hb => ?_) rfl
  · rw [endP_none ok.nd m rd hin (of_decide_eq_true hb)]
    rfl
  · obtain ⟨ns, h1, h2⟩ := endP_some ok.nd m rd hin (of_decide_eq_false hb)
    rw [h2, h1, List.map_map]
    exact ed_cb (ea_cons (ed_var rfl) ea_nil) rc_sum
theorem len__law_start : ∀ ds d, R_start ds d → ds.length = 2 := fun _ _ ⟨_, _, _, h, _⟩ => by rw [h]; rfl
abbrev s__law_start : Stmt := topS 63
theorem sc__law_start : FnScope ["_law_store_here", "_law_lot", "_law_found", "_law_name", "_law_room"] ["_law_store_here", "_law_lot"] (defScope s__law_start) := ⟨rfl, rfl, rfl, by decide +kernel, rfl, by decide +kernel, by decide +kernel⟩
set_option maxHeartbeats 16000000 in
theorem ok__law_start {P : Program} {w : World} {K : PySem.W.Frag} {mg : Str → Option Value} {base : Heap} {c : Cls4} {f : Addr} {fd : FuncData} (B : Blt mg) (hc : ClsOk K c mg) (F : FD K "_law_start" "_law_start" s__law_start f fd) : FnOk P w K mg base CX0 1 f fd ["_law_store_here", "_law_lot"] (spP K R_start) := by
  have sc := sc__law_start
  refine F.ok sc (fun vs H Q E h => len_P (n := 2) len__law_start h) (fun cdv A outer s H vs Q E hr h => ?_)
  have hu := hu_of hr
  refine ⟨_, PSs.nox ((pss_cons (ps_set (i := 2) sc.nd rfl (Or.inl rfl) pe_int) 
      (pss_cons (ps_for PassesOwn.never rfl (xi_zip (K := K) (by rfl) B.zip (pa_cons (pe_dget hu (pv 0) pe_str (fun _ _ => rfl)) (pa_cons (pe_dget hu (pv 0) pe_str (fun _ _ => rfl)) pa_nil))) (xg_tup (K := K) (n := 2) rfl (pgs_cons (pg_name (i := 3) sc.nd rfl (Or.inl rfl)) (pgs_cons (pg_name (i := 4) sc.nd rfl (Or.inl rfl)) pgs_nil)))
        (pss_one (ps_if (PW.pt (pw_and (pt_cmpR (xo_in (K := K)) (pv 3) (pv 1) rfl) (pw_and1 (pt_cmpR (xo_notIn (K := K)) (pv 3) (pe_dget hu (pv 0) pe_str (fun _ _ => rfl)) rfl))))
          (pss_one (ps_set (i := 2) sc.nd rfl (Or.inl rfl) (pe_op op_add (pv 2) (pv 4))))
          pss_nil))) 
      (pss_one (ps_ret (pv 2)))))), read_P h ?_⟩
  rintro ds d ⟨s, m, ok, rfl, rfl⟩
  let T : Str × Int → Int := fun p => if (decide (p.1 ∈ lotOf s.nodes m) && !decide (p.1 ∈ s.fresh)) = true then p.2 else 0
  refine run_seq (run_asg (ed_int 0) ?_)
  refine run_seq (run_for (items := (s.nodes.zip s.rooms).map encSI) (ItE.is (it_zipL (ea_cons (ed_T_nodes (ed_var rfl)) (ea_cons (ed_T_rooms (ed_var rfl)) ea_nil)) (by rw [List.length_map, List.length_map, ok.rl])) (zipD_zip s.nodes s.rooms))
    (fun i ρ μ => ∃ x y, ρ = [some (encT s), some (lotD s m), some (.int ((((s.nodes.zip s.rooms).take i).map T).sum)), x, y] ∧ μ = []) ⟨none, none, rfl, rfl⟩ (fun i d ρ1 μ1 hi hI => ?_) fun ρ1 μ1 hI => ?_)
  · obtain ⟨x, y, rfl, rfl⟩ := hI
    rw [List.getElem?_map] at hi
    cases hp : (s.nodes.zip s.rooms)[i]? with
    | none => rw [hp] at hi; cases hi
    | some p =>
      rw [hp] at hi
      have hi : encSI p = d := Option.some.inj hi
      subst hi
      have etk : (((s.nodes.zip s.rooms).take (i + 1)).map T).sum = (((s.nodes.zip s.rooms).take i).map T).sum + T p := by
        rw [List.take_add_one, hp, List.map_append, List.sum_append]
        simp
      refine ⟨_, _, tg_two, run_if (et_and (et_test (ed_op (ed_var rfl) (ed_var rfl) rv_inT)) fun _ => et_test (ed_op (ed_var rfl) (ed_T_new (ed_var rfl)) rv_notInL)) (fun hb => ?_) fun hb => ?_⟩
      · refine run_asg (ed_op (ed_var rfl) (ed_var rfl) rv_int) ⟨some (.str p.1), some (.int p.2), ?_, rfl⟩
        rw [etk]
        have : T p = p.2 := if_pos hb
        rw [this]
        rfl
      · refine run_next ⟨some (.str p.1), some (.int p.2), ?_, rfl⟩
        rw [etk]
        have : T p = 0 := if_neg (by rw [hb]; decide)
        rw [this, Int.add_zero]
        rfl
  · obtain ⟨x, y, rfl, rfl⟩ := hI
    refine run_ret (ed_var rfl) ?_
    rw [List.length_map, List.take_length]
    rfl
theorem len__law_within : ∀ ds d, R_lwithin ds d → ds.length = 2 := fun _ _ ⟨_, _, _, _, h, _⟩ => by rw [h]; rfl
theorem lrows_at {s : Sto} {r : List (Str × Option Int)} {k : Nat} (h : k ≤ lastK s r) : atI ((rowsOf s r).map (rowD s)) (k : Int) = some (rowD s (rowK s r k)) := by
  refine atI_nat ?_
  rw [List.getElem?_map, rowsOf_get h]
  rfl
theorem lrows_last (s : Sto) (r : List (Str × Option Int)) : atI ((rowsOf s r).map (rowD s)) (-1) = some (rowD s (rowK s r (lastK s r))) := by
  unfold rowsOf
  rw [List.range_succ, List.map_append, List.map_append]
  exact atI_last _ _
abbrev s__law_within : Stmt := topS 65
theorem sc__law_within : FnScope ["_law_rows", "_law_mends"] ["_law_rows", "_law_mends"] (defScope s__law_within) := ⟨rfl, rfl, rfl, by decide +kernel, rfl, by decide +kernel, by decide +kernel⟩
set_option maxHeartbeats 16000000 in
theorem ok__law_within {P : Program} {w : World} {K : PySem.W.Frag} {mg : Str → Option Value} {base : Heap} {c : Cls4} {f : Addr} {fd : FuncData} (B : Blt mg) (hc : ClsOk K c mg) (F : FD K "_law_within" "_law_within" s__law_within f fd) : FnOk P w K mg base CX0 1 f fd ["_law_rows", "_law_mends"] (spP K R_lwithin) := by
  have sc := sc__law_within
  refine F.ok sc (fun vs H Q E h => len_P (n := 2) len__law_within h) (fun cdv A outer s H vs Q E hr h => ?_)
  have hu := hu_of hr
  refine ⟨_, PSs.nox ((pss_one (ps_ret (pe_ifExp (PW.pt (pw_or (pt_cmpR xo_isN (pv 1) pe_non (nomark _)) (pw_or1 (pt_cmpR op_ge (pv 1) (pe_callB (xc_len (K := K)) (by rfl) B.len boot_len (pa_cons (pv 0) pa_nil)) (nomark _))))) (pe_ix (xx_list (K := K)) (pv 0) (pe_un un_neg pe_int) (fun _ _ => rfl)) (pe_ix (xx_list (K := K)) (pv 0) (pe_callTy xc_int (by rfl) B.int boot_int (pa_cons (pv 1) pa_nil)) (fun _ _ => rfl)))))), read_P h ?_⟩
  rintro ds d ⟨s, rd, j, fx, rfl, rfl⟩
  cases j with
  | none =>
    refine run_ret (ed_if (EdT.is (et_or (b := true) (et_test (ed_op (ed_var rfl) ed_non rv_isN)) fun h => Bool.noConfusion h) rfl) (fun _ => ed_op (ed_var rfl) (ed_un (ed_int 1) ru_neg) (rv_ixL (lrows_last s rd))) fun h => Bool.noConfusion h) ?_
    rfl
  | some n =>
    refine run_ret (ed_if (b := decide (lastK s rd + 1 ≤ n)) (EdT.is (et_or (et_test (ed_op (ed_var rfl) ed_non rv_isN)) fun h => et_test (ed_op (ed_var rfl) (ed_cb (ea_cons (ed_var rfl) ea_nil) rc_lenL) rv_bl)) ?_) (fun hb => ed_op (ed_var rfl) (ed_un (ed_int 1) ru_neg) (rv_ixL (z := rowD s (rowK s rd (idxJ s rd (some n)))) ?_)) fun hb => ed_op (ed_var rfl) (ed_cb (ea_cons (ed_var rfl) ea_nil) rc_int) (rv_ixL (z := rowD s (rowK s rd (idxJ s rd (some n)))) ?_)) rfl
    · rw [List.length_map, rowsOf_len]
      show (false || decide (((lastK s rd + 1 : Nat) : Int) ≤ (n : Int))) = _
      rw [Bool.false_or]
      exact decide_eq_decide.mpr (by omega)
    · have := of_decide_eq_true hb
      rw [show idxJ s rd (some n) = lastK s rd from Nat.min_eq_right (by omega)]
      exact lrows_last s rd
    · have := of_decide_eq_false hb
      rw [show idxJ s rd (some n) = n from Nat.min_eq_left (by omega)]
      exact lrows_at (by omega)
end Am
namespace Am
open PySem PySem.Spec PyProof.Rows L2
theorem bit_mask {nodes : List Str} (nd : nodes.Nodup) (p : Str → Bool) {a : Str} (h : a ∈ nodes) : (maskOf nodes (nodes.filter p)).testBit (nodes.idxOf a) = p a := maskOf_bit nd p (idx_at h)
theorem next_bits {s : Sto} (ok : Okay s) {md : Mnd} (mok : MndOk s.nodes md) {m : Nat} (hm : m < 2 ^ s.nodes.length) {st : Stp} (h : st ∈ stepsM s m md) {a : Str} (ha : a ∈ s.nodes) :
    st.2.2.testBit (s.nodes.idxOf a) = decide (a ∈ (lotOf s.nodes m).filter (fun n => !decide (n ∈ md.nodes)) ++ st.2.1) := by
  have few := pow_few ok
  have hm32 : m < 32 := Nat.lt_of_lt_of_le hm few
  have hl := mem_lot ok.nd (m := m) ha
  have hmk : ∀ p : Str → Bool, maskOf s.nodes (s.nodes.filter p) < 32 := fun p => Nat.lt_of_lt_of_le (maskOf_lt ok.nd p) few
  cases md with
  | one l v hs as =>
    obtain ⟨hv, _⟩ := mok.one l v hs as rfl
    simp only [stepsM, List.mem_cons, List.not_mem_nil, or_false] at h
    have hb : (clr m (maskOf s.nodes [v])).testBit (s.nodes.idxOf a) = (m.testBit (s.nodes.idxOf a) && !(a == v)) := by
      rw [mask_one ok.nd hv, clr_bit hm32 (hmk _), bit_mask ok.nd _ ha]
    have hv1 : (maskOf s.nodes [v]).testBit (s.nodes.idxOf a) = (a == v) := by rw [mask_one ok.nd hv, bit_mask ok.nd _ ha]
    rw [Bool.eq_iff_iff, decide_eq_true_eq, List.mem_append, List.mem_filter]
    show _ ↔ (a ∈ lotOf s.nodes m ∧ (!decide (a ∈ [v])) = true) ∨ a ∈ st.2.1
    rw [hl]
    rcases h with rfl | rfl
    · show (clr m (maskOf s.nodes [v])).testBit _ = true ↔ _ ∨ a ∈ ([] : List Str)
      rw [hb]
      simp
    · show (clr m (maskOf s.nodes [v]) ||| maskOf s.nodes [v]).testBit _ = true ↔ _ ∨ a ∈ [v]
      rw [Nat.testBit_or, hb, hv1]
      simp
  | two l u v h1 h2 a1 a2 sw =>
    obtain ⟨hu, hv, ne, _⟩ := mok.two l u v h1 h2 a1 a2 sw rfl
    have hb : (clr m (maskOf s.nodes [u, v])).testBit (s.nodes.idxOf a) = (m.testBit (s.nodes.idxOf a) && !(a == u || a == v)) := by
      rw [mask_two ok.nd hu hv ne, clr_bit hm32 (hmk _), bit_mask ok.nd _ ha]
    rw [Bool.eq_iff_iff, decide_eq_true_eq, List.mem_append, List.mem_filter]
    show _ ↔ (a ∈ lotOf s.nodes m ∧ (!decide (a ∈ [u, v])) = true) ∨ a ∈ st.2.1
    rw [hl]
    rw [stepsM_two] at h
    rcases List.mem_cons.mp h with rfl | h
    · show (clr m (maskOf s.nodes [u, v])).testBit _ = true ↔ _ ∨ a ∈ ([] : List Str)
      rw [hb]
      simp
    · obtain ⟨t, _, rfl⟩ := List.mem_map.mp h
      show (clr m (maskOf s.nodes [u, v]) ||| maskOf s.nodes (s.nodes.filter fun n => if n = u then t.1 else if n = v then t.2 else false)).testBit _ = true ↔ _ ∨ a ∈ s.nodes.filter fun n => if n = u then t.1 else if n = v then t.2 else false
      rw [Nat.testBit_or, hb, bit_mask ok.nd _ ha, List.mem_filter]
      simp [ha]
theorem steps_names {s : Sto} {md : Mnd} {m : Nat} {st : Stp} (few : s.nodes.length ≤ 5) (h : st ∈ stepsM s m md) : st.2.1.length ≤ 5 := by
  cases md with
  | one l v hs as =>
    simp only [stepsM, List.mem_cons, List.not_mem_nil, or_false] at h
    rcases h with rfl | rfl
    · exact Nat.zero_le _
    · show 1 ≤ 5; decide
  | two l u v h1 h2 a1 a2 sw =>
    rw [stepsM_two] at h
    rcases List.mem_cons.mp h with rfl | h
    · exact Nat.zero_le _
    · obtain ⟨t, _, rfl⟩ := List.mem_map.mp h
      exact Nat.le_trans (List.length_filter_le _ _) few
theorem len__law_next_lot : ∀ ds d, R_next ds d → ds.length = 4 := fun _ _ ⟨_, _, _, _, _, _, _, _, h, _⟩ => by rw [h]; rfl
abbrev s__law_next_lot : Stmt := topS 61
theorem sc__law_next_lot : FnScope ["_law_store_here", "_law_lot", "_law_mend", "_law_taken", "_law_name"] ["_law_store_here", "_law_lot", "_law_mend", "_law_taken"] (defScope s__law_next_lot) := ⟨rfl, rfl, rfl, by decide +kernel, rfl, by decide +kernel, by decide +kernel⟩
set_option maxHeartbeats 16000000 in
theorem ok__law_next_lot {P : Program} {w : World} {K : PySem.W.Frag} {mg : Str → Option Value} {base : Heap} {c : Cls4} {f : Addr} {fd : FuncData} (B : Blt mg) (hc : ClsOk K c mg)
    (h__law_lot_of : Fn P w K mg base "_law_lot_of" 1 ["_law_store_here", "_law_names"] (spP K R_lawLot)) (F : FD K "_law_next_lot" "_law_next_lot" s__law_next_lot f fd) : FnOk P w K mg base CX0 2 f fd ["_law_store_here", "_law_lot", "_law_mend", "_law_taken"] (spP K R_next) := by
  have sc := sc__law_next_lot
  refine F.ok sc (fun vs H Q E h => len_P (n := 4) len__law_next_lot h) (fun cdv A outer s H vs Q E hr h => ?_)
  have hu := hu_of hr
  refine ⟨_, PSs.nox ((pss_one (ps_ret (pe_fn h__law_lot_of (hr.mono (by decide)) (by rfl) (pa_cons (pv 0) (pa_cons (pe_op op_cat (pe_lc (own := [("_law_name", 4)]) rfl sc.nd (xi_tup (K := K) (pv 1)) (blkOk_by (own := [("_law_name", 4)]) (N := ["_law_store_here", "_law_lot", "_law_mend", "_law_taken", "_law_name"]) (sc := defScope s__law_next_lot) (by decide +kernel)) (fun _ _ _ _ _ => (pg_name (i := 4) sc.nd rfl (Or.inl rfl))) (fun _ _ _ _ _ => (pts_one (pt_cmpR (xo_notIn (K := K)) (pv 4) (pe_dget hu (pv 2) pe_str (fun _ _ => rfl)) rfl))) (fun _ _ _ _ _ => (pv 4))) (pe_callTy (xc_list (K := K)) (by rfl) B.list boot_list (pa_cons (pv 3) pa_nil))) pa_nil)))))), read_P h ?_⟩
  rintro ds d ⟨s, md, st, m, ok, mok, hm, hst, rfl, rfl⟩
  have few := ok.few
  have hll := lotOf_len s.nodes m
  have h1 : ((lotOf s.nodes m).filter fun n => !decide (n ∈ md.nodes)).length ≤ 5 := Nat.le_trans (List.length_filter_le _ _) (by omega)
  refine run_ret (ed_call (ea_cons (ed_var rfl) (ea_cons (EvD.is (y := .lst (sD ((lotOf s.nodes m).filter (fun n => !decide (n ∈ md.nodes)) ++ st.2.1))) (ed_op (EvD.is (y := .lst (sD ((lotOf s.nodes m).filter fun n => !decide (n ∈ md.nodes)))) (ed_lcS D.str (fun n => !decide (n ∈ md.nodes)) (fun n => n) (it_tup (ed_var rfl)) (by omega) fun n hn => ⟨_, _, tg_name, by simp, et_test (ed_op (ed_var rfl) (ed_Tm_nodes (ed_var rfl)) rv_notInL), fun _ => ed_var rfl⟩) (by rw [List.map_id'])) (ed_cb (ea_cons (ed_var rfl) ea_nil) rc_listT) (rv_cat (by rw [List.length_map, List.length_map]; have := steps_names few hst; omega))) (by rw [← List.map_append])) ea_nil)) ⟨s, _, ok, rfl, rfl⟩) ?_
  show D.tup (sD _) = D.tup (sD (lotOf s.nodes st.2.2))
  rw [lot_eq ok.nd fun a ha => next_bits ok mok hm hst ha]
/-! ### the price of a step -/
def knK (kn : List Int) : Bool × Bool := (decide ((0 : Int) ∈ kn), decide ((1 : Int) ∈ kn))
def kn4 : List (List Int) := [[], [0], [1], [0, 1]]
def termU (r0 r1 sw : Int) (u : Str) (k : Bool × Bool) (n : Str) : Int := if n = u then (if k.1 then (if (if k.2 then 0 else sw) < r0 then (if k.2 then 0 else sw) else r0) else r0) else (if k.2 then (if (if k.1 then 0 else sw) < r1 then (if k.1 then 0 else sw) else r1) else r1)
theorem two_names {nodes : List Str} (nd : nodes.Nodup) {u v : Str} (hu : u ∈ nodes) (hv : v ∈ nodes) (ne : u ≠ v) (t : Bool × Bool) (f : Str → Int) :
    ((nodes.filter fun n => if n = u then t.1 else if n = v then t.2 else false).map f).sum = (if t.1 then f u else 0) + (if t.2 then f v else 0) := by
  have aux : ∀ (q : Str → Bool), q u = t.1 → q v = t.2 → (∀ n, n ≠ u → n ≠ v → q n = false) → ∀ (l : List Str), l.Nodup → ((l.filter q).map f).sum = (if t.1 = true ∧ u ∈ l then f u else 0) + (if t.2 = true ∧ v ∈ l then f v else 0) := by
    intro q qu qv qn l
    induction l with
    | nil => intro _; simp
    | cons a l ih =>
      intro nd
      rw [List.nodup_cons] at nd
      have ih := ih nd.2
      rw [List.filter_cons]
      by_cases e : a = u
      · subst e
        have n1 : a ∉ l := nd.1
        have n2 : ¬ v = a := fun z => ne z.symm
        rw [qu]
        cases h1 : t.1 with
        | true =>
          rw [h1] at ih
          simp only [if_true, List.map_cons, List.sum_cons, ih]
          simp [n1, n2]
        | false =>
          rw [h1] at ih
          simp only [Bool.false_eq_true, if_false, ih]
          simp [n1, n2]
      · by_cases e2 : a = v
        · subst e2
          have n1 : a ∉ l := nd.1
          rw [qv]
          cases h1 : t.2 with
          | true =>
            rw [h1] at ih
            simp only [if_true, List.map_cons, List.sum_cons, ih]
            simp [n1, ne]
            omega
          | false =>
            rw [h1] at ih
            simp only [Bool.false_eq_true, if_false, ih]
            simp [n1, ne]
        · have n1 : ¬ u = a := fun z => e z.symm
          have n2 : ¬ v = a := fun z => e2 z.symm
          rw [qn a e e2]
          simp only [Bool.false_eq_true, if_false, ih]
          simp [n1, n2]
  have n2 : ¬ v = u := fun z => ne z.symm
  rw [aux (fun n => if n = u then t.1 else if n = v then t.2 else false) (if_pos rfl) (by show (if v = u then _ else _) = _; rw [if_neg n2, if_pos rfl]) (fun n h1 h2 => by show (if n = u then _ else _) = _; rw [if_neg h1, if_neg h2]) nodes nd]
  simp [hu, hv]
theorem pp1_eq (r0 r1 l0 l1 sw : Int) (u v : Str) (ne : u ≠ v) (t k : Bool × Bool) : pp1 r0 r1 l0 l1 sw t.1 t.2 k.1 k.2 = ((if k.1 then l0 else 0) + (if k.2 then l1 else 0)) + ((if t.1 then termU r0 r1 sw u k u else 0) + (if t.2 then termU r0 r1 sw u k v else 0)) := by
  have h1 : termU r0 r1 sw u k u = if k.1 then (if (if k.2 then 0 else sw) < r0 then (if k.2 then 0 else sw) else r0) else r0 := if_pos rfl
  have h2 : termU r0 r1 sw u k v = if k.2 then (if (if k.1 then 0 else sw) < r1 then (if k.1 then 0 else sw) else r1) else r1 := if_neg fun z => ne z.symm
  rw [h1, h2]
  unfold pp1
  omega
theorem len__law_price : ∀ ds d, R_lprice ds d → ds.length = 4 := fun _ _ ⟨_, _, _, _, _, _, _, h, _⟩ => by rw [h]; rfl
theorem tup_eq {K : PySem.W.Frag} {t : List Str} : RvD K (rEqP K) (.tup (sD t)) (.tup []) (.bl (decide (t = []))) := by
  have h := rv_eqT (K := K) (a := PySem.W.Tup.mk t) (b := PySem.W.Tup.mk ([] : List Str)) (tupS_of t) (tupS_of []) (by decide)
  have e : decide (PySem.W.Tup.mk t = PySem.W.Tup.mk ([] : List Str)) = decide (t = []) := decide_eq_decide.mpr ⟨fun z => by cases z; rfl, fun z => by rw [z]⟩
  rwa [e] at h
theorem room_get {s : Sto} {ns : List Str} {n : Str} (h : n ∈ ns) : valD (skD (ns.map fun n => (n, D.int (roomOf s n)))) (.inr n) = some (.int (roomOf s n)) := by
  rw [valD_sk]
  induction ns with
  | nil => simp at h
  | cons a ns ih =>
    rw [List.map_cons, List.find?_cons]
    by_cases e : a = n
    · subst e
      rw [decide_eq_true rfl]
      rfl
    · rw [decide_eq_false e]
      refine ih ?_
      rcases List.mem_cons.mp h with z | z
      · exact absurd z.symm e
      · exact z
theorem law_room {s : Sto} (ok : Okay s) {n : Str} (h : n ∈ s.nodes) : atI (iD s.rooms) ((s.nodes.idxOf n : Nat) : Int) = some (.int (roomOf s n)) := room_at ok h
theorem ed_lrooms {K : PySem.W.Frag} {ρ : Ro} {s : Sto} (ok : Okay s) {md : Mnd} {i j n : Nat} (hi : ρ[i]? = some (some (encT s))) (hj : ρ[j]? = some (some (encTm md))) (hn : ∀ a ∈ md.nodes, a ∈ s.nodes) (h2 : md.nodes.length ≤ 2) (nd : md.nodes.Nodup)
    (hw : ∀ a : Str, ((wipeR ρ [n]).set n (some (.str a)))[n]? = some (some (.str a))) (hw2 : ∀ a : Str, ((wipeR ρ [n]).set n (some (.str a)))[i]? = some (some (encT s))) :
    EvD K (tCB (rDictP K) (tCons (tLc (iList K (tDGet (tVar j) (tC (.str "nodes")))) (gName n) tYes (tTup (tCons (tVar n) (tCons (tOp (rIxL K) (tDGet (tVar i) (tC (.str "rooms"))) (tBM K "list" (rIndex K) (tDGet (tVar i) (tC (.str "nodes"))) (tCons (tVar n) tNil))) tNil))) [n]) tNil)) ρ (.dk (skD (md.nodes.map fun a => (a, D.int (roomOf s a))))) := by
  refine ed_cb (ea_cons (EvD.is (y := .lst (pairsS (md.nodes.map fun a => (a, D.int (roomOf s a))))) (ed_lc0 D.str (fun a => D.tup [.str a, .int (roomOf s a)]) (it_list (ed_Tm_nodes (ed_var hj))) (by omega) fun a ha => ⟨[n], _, tg_name, by simp, ed_tup (ea_cons (ed_var (hw a)) (ea_cons (ed_op (ed_T_rooms (ed_var (hw2 a))) (ed_indexS (ed_T_nodes (ed_var (hw2 a))) (ed_var (hw a)) (hn a ha)) (rv_ixL (room_at ok (hn a ha)))) ea_nil)) (show 2 ≤ 100000 by decide)⟩) (by unfold pairsS; rw [List.map_map]; rfl)) ea_nil) (rc_dict (by
    have e : (md.nodes.map fun a => (a, D.int (roomOf s a))).map (·.1) = md.nodes := by rw [List.map_map]; exact List.map_id _
    rw [e]; exact nd))
abbrev s__law_price : Stmt := topS 59
theorem sc__law_price : FnScope ["_law_store_here", "_law_lot", "_law_mend", "_law_taken", "_law_rooms", "_law_loads", "_law_prices", "_law_known", "_law_price_here", "_law_name", "_law_k", "_law_own", "_law_names", "_law_amounts"] ["_law_store_here", "_law_lot", "_law_mend", "_law_taken"] (defScope s__law_price) := ⟨rfl, rfl, rfl, by decide +kernel, rfl, by decide +kernel, by decide +kernel⟩
set_option maxHeartbeats 16000000 in
theorem ok__law_price {P : Program} {w : World} {K : PySem.W.Frag} {mg : Str → Option Value} {base : Heap} {c : Cls4} {f : Addr} {fd : FuncData} (B : Blt mg) (hc : ClsOk K c mg)
    (h__law_load : Fn P w K mg base "_law_load" 1 ["_law_lot", "_law_helpers", "_law_amounts"] (spP K R_load)) (F : FD K "_law_price" "_law_price" s__law_price f fd) : FnOk P w K mg base CX0 2 f fd ["_law_store_here", "_law_lot", "_law_mend", "_law_taken"] (spP K R_lprice) := by
  have sc := sc__law_price
  refine F.ok sc (fun vs H Q E h => len_P (n := 4) len__law_price h) (fun cdv A outer s H vs Q E hr h => ?_)
  have hu := hu_of hr
  refine ⟨_, PSs.nox ((pss_cons (ps_if (pt_cmpR (xo_eqP (K := K) hr.units) (pv 3) (pe_tup pa_nil) (nomark _))
        (pss_one (ps_ret pe_int))
        pss_nil) 
      (pss_cons (ps_set (i := 4) sc.nd rfl (Or.inl rfl) (pe_callTy (xc_dictP (K := K) rfl) (by rfl) B.dict boot_dict (pa_cons (pe_lc (own := [("_law_name", 9)]) rfl sc.nd (xi_list (K := K) (pe_dget hu (pv 2) pe_str (fun _ _ => rfl))) (blkOk_by (own := [("_law_name", 9)]) (N := ["_law_store_here", "_law_lot", "_law_mend", "_law_taken", "_law_rooms", "_law_loads", "_law_prices", "_law_known", "_law_price_here", "_law_name", "_law_k", "_law_own", "_law_names", "_law_amounts"]) (sc := defScope s__law_price) (by decide +kernel)) (fun _ _ _ _ _ => (pg_name (i := 9) sc.nd rfl (Or.inl rfl))) (fun _ _ _ _ _ => pts_nil) (fun _ _ _ _ _ => (pe_tup (pa_cons (pv 9) (pa_cons (pe_ix (xx_list (K := K)) (pe_dget hu (pv 0) pe_str (fun _ _ => rfl)) (xe_bm (K := K) PySem.F.plainAttrs_list PySem.F.slot_list_index PySem.F.type_list_index (xm_index (K := K)) (pe_dget hu (pv 0) pe_str (fun _ _ => rfl)) (pa_cons (pv 9) pa_nil)) (fun _ _ => rfl)) pa_nil))))) pa_nil))) 
      (pss_cons (ps_set (i := 5) sc.nd rfl (Or.inr rfl) (pe_lc (own := [("_law_names", 12), ("_law_amounts", 13)]) rfl sc.nd (xi_zip (K := K) (by rfl) B.zip (pa_cons (pe_dget hu (pv 2) pe_str (fun _ _ => rfl)) (pa_cons (pe_dget hu (pv 2) pe_str (fun _ _ => rfl)) pa_nil))) (blkOk_by (own := [("_law_names", 12), ("_law_amounts", 13)]) (N := ["_law_store_here", "_law_lot", "_law_mend", "_law_taken", "_law_rooms", "_law_loads", "_law_prices", "_law_known", "_law_price_here", "_law_name", "_law_k", "_law_own", "_law_names", "_law_amounts"]) (sc := defScope s__law_price) (by decide +kernel)) (fun _ _ _ _ _ => (xg_tup (K := K) (n := 2) rfl (pgs_cons (pg_name (i := 12) sc.nd rfl (Or.inl rfl)) (pgs_cons (pg_name (i := 13) sc.nd rfl (Or.inl rfl)) pgs_nil)))) (fun _ _ _ _ _ => pts_nil) (fun _ _ _ _ _ => (pe_fn h__law_load (hr.mono (by decide)) (by rfl) (pa_cons (pv 1) (pa_cons (pv 12) (pa_cons (pv 13) pa_nil))))))) 
      (pss_cons (ps_if (pt_cmpR op_eq (pe_dget hu (pv 2) pe_str (fun _ _ => rfl)) pe_str (nomark _))
        (pss_one (ps_ret (pe_callB (xc_min2 rfl) (by rfl) B.min boot_min (pa_cons (pe_dget hu (pv 4) (pe_ix (xx_tup (K := K)) (pv 3) pe_int (fun _ _ => rfl)) (fun _ _ => rfl)) (pa_cons (pe_ix (xx_list (K := K)) (pv 5) pe_int (fun _ _ => rfl)) pa_nil)))))
        pss_nil) 
      (pss_cons (ps_set (i := 6) sc.nd rfl (Or.inl rfl) (pe_lst pa_nil)) 
      (pss_cons (ps_for PassesOwn.never rfl (xi_list (K := K) (pe_lst (pa_cons (pe_lst pa_nil) (pa_cons (pe_lst (pa_cons pe_int pa_nil)) (pa_cons (pe_lst (pa_cons pe_int pa_nil)) (pa_cons (pe_lst (pa_cons pe_int (pa_cons pe_int pa_nil))) pa_nil)))))) (pg_name (i := 7) sc.nd rfl (Or.inl rfl))
        (pss_cons (ps_set (i := 8) sc.nd rfl (Or.inl rfl) (pe_callB (xc_sum (K := K) rfl) (by rfl) B.sum boot_sum (pa_cons (pe_lc (own := [("_law_k", 10)]) rfl sc.nd (xi_list (K := K) (pv 7)) (blkOk_by (own := [("_law_k", 10)]) (N := ["_law_store_here", "_law_lot", "_law_mend", "_law_taken", "_law_rooms", "_law_loads", "_law_prices", "_law_known", "_law_price_here", "_law_name", "_law_k", "_law_own", "_law_names", "_law_amounts"]) (sc := defScope s__law_price) (by decide +kernel)) (fun _ _ _ _ _ => (pg_name (i := 10) sc.nd rfl (Or.inl rfl))) (fun _ _ _ _ _ => pts_nil) (fun _ _ _ _ _ => (pe_ix (xx_list (K := K)) (pv 5) (pv 10) (fun _ _ => rfl)))) pa_nil))) 
        (pss_cons (ps_for PassesOwn.never rfl (xi_tup (K := K) (pv 3)) (pg_name (i := 9) sc.nd rfl (Or.inl rfl))
          (pss_cons (ps_set (i := 10) sc.nd rfl (Or.inl rfl) (xe_bm (K := K) PySem.F.plainAttrs_list PySem.F.slot_list_index PySem.F.type_list_index (xm_index (K := K)) (pe_dget hu (pv 2) pe_str (fun _ _ => rfl)) (pa_cons (pv 9) pa_nil))) 
          (pss_cons (ps_set (i := 11) sc.nd rfl (Or.inl rfl) (pe_ifExp (pt_cmpR op_eq (pe_callB (xc_len (K := K)) (by rfl) B.len boot_len (pa_cons (pv 7) pa_nil)) pe_int (nomark _)) pe_int (pe_dget hu (pv 2) pe_str (fun _ _ => rfl)))) 
          (pss_one (ps_set (i := 8) sc.nd rfl (Or.inl rfl) (pe_op op_add (pv 8) (pe_ifExp (pt_cmpR (xo_in (K := K)) (pv 10) (pv 7) rfl) (pe_callB (xc_min2 rfl) (by rfl) B.min boot_min (pa_cons (pe_dget hu (pv 4) (pv 9) (fun _ _ => rfl)) (pa_cons (pv 11) pa_nil))) (pe_dget hu (pv 4) (pv 9) (fun _ _ => rfl))))))))) 
        (pss_one (ps_expr (xe_bm (K := K) PySem.F.plainAttrs_list PySem.F.slot_list_append PySem.F.type_list_append mt_append (pv 6) (pa_cons (pv 8) pa_nil))))))) 
      (pss_one (ps_ret (pe_callB (xc_min (K := K) rfl) (by rfl) B.min boot_min (pa_cons (pv 6) pa_nil))))))))))), read_P h ?_⟩
  rintro ds d ⟨s, md, st, m, ok, mok, hst, rfl, rfl⟩
  have few := ok.few
  refine run_seq (run_if (et_test (ed_op (ed_var rfl) (ed_tup ea_nil (Nat.zero_le _)) tup_eq)) (fun hb => run_ret (ed_int 0) ?_) fun hb => run_next ?_)
  · have he : st.2.1 = [] := of_decide_eq_true hb
    cases md with
    | one l v hs as =>
      simp only [stepsM, List.mem_cons, List.not_mem_nil, or_false] at hst
      rcases hst with rfl | rfl
      · rfl
      · cases he
    | two l u v h1 h2 a1 a2 sw =>
      obtain ⟨hu, hv, ne, _⟩ := mok.two l u v h1 h2 a1 a2 sw rfl
      rw [stepsM_two] at hst
      rcases List.mem_cons.mp hst with rfl | h
      · rfl
      · obtain ⟨t, ht, rfl⟩ := List.mem_map.mp h
        exfalso
        have he : s.nodes.filter (fun n => if n = u then t.1 else if n = v then t.2 else false) = [] := he
        have hu2 : u ∉ s.nodes.filter (fun n => if n = u then t.1 else if n = v then t.2 else false) := by rw [he]; exact fun z => nomatch z
        have hv2 : v ∉ s.nodes.filter (fun n => if n = u then t.1 else if n = v then t.2 else false) := by rw [he]; exact fun z => nomatch z
        rw [List.mem_filter] at hu2 hv2
        have n2 : ¬ v = u := fun z => ne z.symm
        simp [taken3] at ht
        rcases ht with rfl | rfl | rfl
        · exact hu2 ⟨hu, by simp⟩
        · exact hv2 ⟨hv, by simp [n2]⟩
        · exact hu2 ⟨hu, by simp⟩
  have hne : st.2.1 ≠ [] := of_decide_eq_false hb
  cases md with
  | one l v hs as =>
    obtain ⟨hv, hhs, hlen, hl7, _⟩ := mok.one l v hs as rfl
    simp only [stepsM, List.mem_cons, List.not_mem_nil, or_false] at hst
    rcases hst with rfl | rfl
    · exact absurd rfl hne
    have hnn : ∀ a ∈ (Mnd.one l v hs as).nodes, a ∈ s.nodes := by
      intro a ha
      have : a = v := by simpa [Mnd.nodes] using ha
      rw [this]; exact hv
    refine run_seq (run_asg (ed_lrooms (md := .one l v hs as) ok rfl rfl hnn (show 1 ≤ 2 by decide) (by simp [Mnd.nodes]) (fun _ => rfl) fun _ => rfl) ?_)
    refine run_seq (run_asg (ed_lcI0 (items := [(hs, as)]) (fun p => D.tup [.lst (sD p.1), .lst (iD p.2)]) (fun p => outs s.nodes m p.1 p.2) (it_zipL (ea_cons (ed_Tm_helpers1 (ed_var rfl)) (ea_cons (ed_Tm_amounts1 (ed_var rfl)) ea_nil)) rfl) (show 1 ≤ 100000 by decide) fun p hp => ⟨_, _, tg_two, by simp, ed_call (ea_cons (ed_var rfl) (ea_cons (ed_var rfl) (ea_cons (ed_var rfl) ea_nil))) ⟨s, p.1, p.2, m, ok, by simp at hp; subst hp; exact hhs, by simp at hp; subst hp; exact hlen, by simp at hp; subst hp; show hs.length ≤ 20; omega, rfl, rfl⟩⟩) ?_)
    refine run_seq (run_yes (EdT.is (et_test (ed_op (ed_Tm_kind (ed_var rfl)) (ed_str _) (rv_eq rfl rfl rfl))) rfl) ?_)
    exact run_ret (ed_cb (ea_cons (ed_dget (ed_var rfl) (ed_op (ed_var rfl) (ed_int 0) (rv_ixT rfl)) (room_get (List.mem_cons_self ..))) (ea_cons (ed_op (ed_var rfl) (ed_int 0) (rv_ixL rfl)) ea_nil)) rc_min2) rfl
  | two l u v h1 h2 a1 a2 sw =>
    obtain ⟨hu', hv, ne, hh1, hh2, e1, e2, l1, l2, _, _, _⟩ := mok.two l u v h1 h2 a1 a2 sw rfl
    rw [stepsM_two] at hst
    rcases List.mem_cons.mp hst with rfl | hst
    · exact absurd rfl hne
    obtain ⟨t, ht, rfl⟩ := List.mem_map.mp hst
    have hnn : ∀ a ∈ (Mnd.two l u v h1 h2 a1 a2 sw).nodes, a ∈ s.nodes := by
      intro a ha
      have : a = u ∨ a = v := by simpa [Mnd.nodes] using ha
      rcases this with z | z
      · rw [z]; exact hu'
      · rw [z]; exact hv
    refine run_seq (run_asg (ed_lrooms (md := .two l u v h1 h2 a1 a2 sw) ok rfl rfl hnn (show 2 ≤ 2 by decide) (by simp [Mnd.nodes, ne]) (fun _ => rfl) fun _ => rfl) ?_)
    refine run_seq (run_asg (ed_lcI0 (items := [(h1, a1), (h2, a2)]) (fun p => D.tup [.lst (sD p.1), .lst (iD p.2)]) (fun p => outs s.nodes m p.1 p.2) (it_zipL (ea_cons (ed_Tm_helpers2 (ed_var rfl)) (ea_cons (ed_Tm_amounts2 (ed_var rfl)) ea_nil)) rfl) (show 2 ≤ 100000 by decide) fun p hp => ⟨_, _, tg_two, by simp, ed_call (ea_cons (ed_var rfl) (ea_cons (ed_var rfl) (ea_cons (ed_var rfl) ea_nil))) ⟨s, p.1, p.2, m, ok, by
        rcases List.mem_cons.mp hp with rfl | hp
        · exact hh1
        · simp at hp; subst hp; exact hh2, by
        rcases List.mem_cons.mp hp with rfl | hp
        · exact e1
        · simp at hp; subst hp; exact e2, by
        rcases List.mem_cons.mp hp with rfl | hp
        · show h1.length ≤ 20; omega
        · simp at hp; subst hp; show h2.length ≤ 20; omega, rfl, rfl⟩⟩) ?_)
    refine run_seq (run_no (EdT.is (et_test (ed_op (ed_Tm_kind (ed_var rfl)) (ed_str _) (rv_eq rfl rfl rfl))) rfl) (run_next ?_))
    let r0 := roomOf s u
    let r1 := roomOf s v
    let o0 := outs s.nodes m h1 a1
    let o1 := outs s.nodes m h2 a2
    let nm : List Str := s.nodes.filter (fun n => if n = u then t.1 else if n = v then t.2 else false)
    let rooms : D := .dk (skD ([u, v].map fun a => (a, D.int (roomOf s a))))
    let P : List Int → Int := fun kn => pp1 r0 r1 o0 o1 sw t.1 t.2 (knK kn).1 (knK kn).2
    let T : List Int → Str → Int := fun kn => termU r0 r1 sw u (knK kn)
    let B : List Int → Int := fun kn => (if (knK kn).1 then o0 else 0) + (if (knK kn).2 then o1 else 0)
    have hPB : ∀ kn, P kn = B kn + (nm.map (T kn)).sum := fun kn => by
      show pp1 r0 r1 o0 o1 sw t.1 t.2 (knK kn).1 (knK kn).2 = _
      rw [pp1_eq r0 r1 o0 o1 sw u v ne t (knK kn), two_names ok.nd hu' hv ne t (T kn)]
    have hnmem : ∀ a ∈ nm, a ∈ [u, v] := fun a ha => by
      have := (List.mem_filter.mp ha).2
      by_cases z : a = u
      · simp [z]
      · by_cases z2 : a = v
        · simp [z2]
        · simp [z, z2] at this
    refine run_seq (run_asgG (ev_lstC (eva_of ea_nil ⟨Nat.zero_le _, fun p hpM hpμ => ?_⟩)))
    refine run_seq (run_for (items := kn4.map fun kn => .lst (iD kn)) (it_list (ed_lst (ea_cons (ed_lst ea_nil (Nat.zero_le _)) (ea_cons (ed_lst (ea_cons (ed_int 0) ea_nil) (show 1 ≤ 100000 by decide)) (ea_cons (ed_lst (ea_cons (ed_int 1) ea_nil) (show 1 ≤ 100000 by decide)) (ea_cons (ed_lst (ea_cons (ed_int 0) (ea_cons (ed_int 1) ea_nil)) (show 2 ≤ 100000 by decide)) ea_nil)))) (show 4 ≤ 100000 by decide)))
      (fun i ρ μ => ∃ x7 x8 x9 x10 x11, ρ = [some (encT s), some (lotD s m), some (encTm (.two l u v h1 h2 a1 a2 sw)), some (.tup (sD nm)), some rooms, some (.lst [.int o0, .int o1]), some (.loc p), x7, x8, x9, x10, x11, none, none] ∧ μ = [(p, .lst (iD ((kn4.take i).map P)))]) ⟨none, none, none, none, none, rfl, rfl⟩ (fun i d ρ1 μ1 hi hI => ?_) fun ρ1 μ1 hI => ?_)
    · obtain ⟨x7, x8, x9, x10, x11, rfl, rfl⟩ := hI
      rw [List.getElem?_map] at hi
      cases hk : kn4[i]? with
      | none => rw [hk] at hi; cases hi
      | some kn =>
        rw [hk] at hi
        have hi : D.lst (iD kn) = d := Option.some.inj hi
        subst hi
        have hkm : kn ∈ kn4 := List.mem_of_getElem? hk
        have hk4 : kn = [] ∨ kn = [0] ∨ kn = [1] ∨ kn = [0, 1] := by simpa [kn4] using hkm
        have hkl : kn.length ≤ 100000 := by rcases hk4 with rfl | rfl | rfl | rfl <;> decide
        have etk : kn4.take (i + 1) = kn4.take i ++ [kn] := by rw [List.take_add_one, hk]; rfl
        have hi4 : i < 4 := (List.getElem?_eq_some_iff.mp hk).1
        let F : Int → Int := fun k => if k = 0 then o0 else o1
        have hat : ∀ k ∈ kn, atI [D.int o0, .int o1] k = some (.int (F k)) := by
          intro k hkk
          rcases hk4 with rfl | rfl | rfl | rfl
          · cases hkk
          · simp at hkk; subst hkk; rfl
          · simp at hkk; subst hkk; rfl
          · simp at hkk
            rcases hkk with rfl | rfl <;> rfl
        have hB : (kn.map F).sum = B kn := by
          rcases hk4 with rfl | rfl | rfl | rfl
          · rfl
          · show o0 + 0 = o0 + 0; rfl
          · show o1 + 0 = 0 + o1; omega
          · show o0 + (o1 + 0) = o0 + o1; omega
        refine ⟨_, _, tg_name, run_seq (run_asg (EvD.is (y := .int (B kn)) (ed_cb (ea_cons (ed_lcI0 (items := kn) D.int F (it_list (ed_var rfl)) hkl fun k hkk => ⟨_, _, tg_name, by simp, ed_op (ed_var rfl) (ed_var rfl) (rv_ixL (hat k hkk))⟩) ea_nil) rc_sum) (by rw [hB])) ?_)⟩
        refine run_seq (run_for (items := sD nm) (it_tup (ed_var rfl)) (fun j ρ μ => ∃ y9 y10 y11, ρ = [some (encT s), some (lotD s m), some (encTm (.two l u v h1 h2 a1 a2 sw)), some (.tup (sD nm)), some rooms, some (.lst [.int o0, .int o1]), some (.loc p), some (.lst (iD kn)), some (.int (B kn + ((nm.take j).map (T kn)).sum)), y9, y10, y11, none, none] ∧ μ = [(p, .lst (iD ((kn4.take i).map P)))]) ⟨x9, x10, x11, by
          show _ = [_, _, _, _, _, _, _, _, some (D.int (B kn + 0)), _, _, _, _, _]
          rw [Int.add_zero]
          rfl, rfl⟩ (fun j d ρ2 μ2 hj hJ => ?_) fun ρ2 μ2 hJ => ?_)
        · obtain ⟨y9, y10, y11, rfl, rfl⟩ := hJ
          rw [List.getElem?_map] at hj
          cases ha : nm[j]? with
          | none => rw [ha] at hj; cases hj
          | some a =>
            rw [ha] at hj
            have hj : D.str a = d := Option.some.inj hj
            subst hj
            have hauv := hnmem a (List.mem_of_getElem? ha)
            have etj : ((nm.take (j + 1)).map (T kn)).sum = ((nm.take j).map (T kn)).sum + T kn a := by
              rw [List.take_add_one, ha, List.map_append, List.sum_append]
              simp
            have hown : ∃ own : Int, own = (if kn.length = 2 then 0 else sw) := ⟨_, rfl⟩
            obtain ⟨own, howneq⟩ := hown
            refine ⟨_, _, tg_name, run_seq (run_asg (ed_indexS (l := [u, v]) (ed_Tm_nodes (m := .two l u v h1 h2 a1 a2 sw) (ed_var rfl)) (ed_var rfl) hauv) (run_seq (run_asg (d := .int own) (ed_if (b := decide (kn.length = 2)) (EdT.is (et_test (ed_op (ed_cb (ea_cons (ed_var rfl) ea_nil) rc_lenL) (ed_int 2) (rv_eq rfl rfl rfl))) ?_) (fun hb => EvD.is (ed_int 0) ?_) fun hb => EvD.is (ed_Tm_swap2 (ed_var rfl)) ?_) ?_)))⟩
            · rw [List.length_map]
              refine decide_eq_decide.mpr ⟨fun z => ?_, fun z => by rw [z]; rfl⟩
              injection z with z
              omega
            · rw [howneq, if_pos (of_decide_eq_true hb)]
            · rw [howneq, if_neg (of_decide_eq_false hb)]
            · have hT : T kn a = if decide ((([u, v].idxOf a : Nat) : Int) ∈ kn) = true then (if own < roomOf s a then own else roomOf s a) else roomOf s a := by
                show termU r0 r1 sw u (knK kn) a = _
                have n2 : ¬ v = u := fun z => ne z.symm
                have hx : (a = u ∧ [u, v].idxOf a = 0) ∨ (a = v ∧ [u, v].idxOf a = 1) := by
                  rcases List.mem_cons.mp hauv with z | z
                  · exact .inl ⟨z, by rw [z, List.idxOf_cons_self]⟩
                  · have z : a = v := by simpa using z
                    refine .inr ⟨z, ?_⟩
                    have hb : (u == v) = false := beq_eq_false_iff_ne.mpr ne
                    rw [z]
                    simp [List.idxOf_cons, hb]
                unfold termU
                rcases hx with ⟨z, hix⟩ | ⟨z, hix⟩
                · rw [hix, z, if_pos rfl, howneq]
                  rcases hk4 with rfl | rfl | rfl | rfl <;> rfl
                · rw [hix, z, if_neg n2, howneq]
                  rcases hk4 with rfl | rfl | rfl | rfl <;> rfl
              refine run_asg (ed_op (ed_var rfl) (ed_if (et_test (ed_op (ed_var rfl) (ed_var rfl) rv_inI)) (fun hb => EvD.is (y := .int (T kn a)) (ed_cb (ea_cons (ed_dget (ed_var rfl) (ed_var rfl) (room_get (ns := [u, v]) hauv)) (ea_cons (ed_var rfl) ea_nil)) rc_min2) ?_) fun hb => EvD.is (y := .int (T kn a)) (ed_dget (ed_var rfl) (ed_var rfl) (room_get (ns := [u, v]) hauv)) ?_) rv_int) ⟨some (.str a), some (.int (([u, v].idxOf a : Nat) : Int)), some (.int own), ?_, rfl⟩
              · rw [hT, if_pos hb]
              · rw [hT, if_neg (by rw [hb]; decide)]
              · rw [etj, ← Int.add_assoc]
                rfl
        · obtain ⟨y9, y10, y11, rfl, rfl⟩ := hJ
          rw [List.length_map, List.take_length]
          refine run_app (i := 0) rfl rfl (ed_var rfl) (by
            rw [List.length_map, List.length_map, List.length_take]
            omega) ⟨_, _, _, _, _, rfl, ?_⟩
          rw [etk, List.map_append, show iD (List.map P (kn4.take i) ++ List.map P [kn]) = iD (List.map P (kn4.take i)) ++ [D.int (P kn)] from List.map_append, hPB]
          rfl
    · obtain ⟨x7, x8, x9, x10, x11, rfl, rfl⟩ := hI
      refine run_freezeU (i := 6) (by simp) rfl (run_ret (ed_cb (ea_cons (ed_var rfl) ea_nil) (rc_min (m := (ppO r0 r1 o0 o1 sw t.1 t.2).getD 0) (show 0 < 4 by decide) fun k hk h => ?_)) rfl)
      exact least_min _ _ _ _ hk h
end Am
/-! Plain: the law's moves are the program's; least values. -/
namespace Am
open PySem PySem.Spec PyProof.Rows L2
theorem two_cases {F : List Str} {u v : Str} (nd : F.Nodup) (ne : u ≠ v) (h : ∀ x, x ∈ F ↔ x = u ∨ x = v) : F = [u, v] ∨ F = [v, u] := by
  cases F with
  | nil => have := (h u).mpr (.inl rfl); simp at this
  | cons a F =>
    cases F with
    | nil =>
      have h1 := (h u).mpr (.inl rfl)
      have h2 := (h v).mpr (.inr rfl)
      simp at h1 h2
      exact absurd (h1.trans h2.symm) ne
    | cons b F =>
      have ha := (h a).mp (by simp)
      have hb := (h b).mp (by simp)
      simp only [List.nodup_cons, List.mem_cons, not_or] at nd
      have hF : F = [] := by
        cases F with
        | nil => rfl
        | cons c F =>
          have hc := (h c).mp (by simp)
          simp only [List.mem_cons, not_or] at nd
          exfalso
          rcases ha with rfl | rfl <;> rcases hb with rfl | rfl <;> rcases hc with rfl | rfl <;> simp_all
      subst hF
      rcases ha with rfl | rfl <;> rcases hb with rfl | rfl <;> simp_all
theorem filter_pair {nodes : List Str} (nd : nodes.Nodup) {u v : Str} (hu : u ∈ nodes) (hv : v ∈ nodes) (ne : u ≠ v) {q : Str → Bool} (h : ∀ a, q a = true ↔ a = u ∨ a = v) : nodes.filter q = [u, v] ∨ nodes.filter q = [v, u] :=
  two_cases (nd.filter _) ne fun x => by
    rw [List.mem_filter, h]
    constructor
    · exact fun z => z.2
    · rintro (rfl | rfl)
      · exact ⟨hu, .inl rfl⟩
      · exact ⟨hv, .inr rfl⟩
theorem filter_lone {nodes : List Str} (nd : nodes.Nodup) {v : Str} (hv : v ∈ nodes) {q : Str → Bool} (h : ∀ a, q a = true ↔ a = v) : nodes.filter q = [v] := by
  rw [← filter_one nd hv]
  refine List.filter_congr fun a _ => ?_
  rw [Bool.eq_iff_iff, h, beq_iff_eq]
section
variable {s : Sto} {m : Nat}
theorem names_two (ok : Okay s) {u v : Str} (hu : u ∈ s.nodes) (hv : v ∈ s.nodes) (ne : u ≠ v) :
    ∃ a b, ((a = u ∧ b = v) ∨ (a = v ∧ b = u)) ∧ a ≠ b ∧ (s.nodes.filter fun a => decide (a ∈ [u, v])) = [a, b] ∧
      (taken3.map fun t : Bool × Bool => s.nodes.filter fun n => if n = u then t.1 else if n = v then t.2 else false) = [[u], [v], [a, b]] := by
  have n2 : ¬ v = u := fun z => ne z.symm
  have e1 : (s.nodes.filter fun n => if n = u then true else if n = v then false else false) = [u] := filter_lone ok.nd hu fun a => by
    by_cases z : a = u
    · simp [z]
    · simp [z]
  have e2 : (s.nodes.filter fun n => if n = u then false else if n = v then true else false) = [v] := filter_lone ok.nd hv fun a => by
    by_cases z : a = u
    · simp [z, ne]
    · simp [z]
  have e3 : (s.nodes.filter fun n => if n = u then true else if n = v then true else false) = s.nodes.filter fun a => decide (a ∈ [u, v]) := List.filter_congr fun a _ => by
    by_cases z : a = u
    · simp [z]
    · by_cases z2 : a = v <;> simp [z, z2]
  have hq := filter_pair ok.nd hu hv ne (q := fun a => decide (a ∈ [u, v])) fun a => by simp
  have et : (taken3.map fun t : Bool × Bool => s.nodes.filter fun n => if n = u then t.1 else if n = v then t.2 else false) = [[u], [v], s.nodes.filter fun a => decide (a ∈ [u, v])] := by
    show [s.nodes.filter (fun n => if n = u then true else if n = v then false else false), s.nodes.filter (fun n => if n = u then false else if n = v then true else false), s.nodes.filter (fun n => if n = u then true else if n = v then true else false)] = _
    rw [e1, e2, e3]
  rw [et]
  rcases hq with hq | hq
  · exact ⟨u, v, .inl ⟨rfl, rfl⟩, ne, hq, by rw [hq]⟩
  · exact ⟨v, u, .inr ⟨rfl, rfl⟩, n2, hq, by rw [hq]⟩
theorem names_steps (md : Mnd) : (stepsM s m md).map (·.2.1) = match md with
  | .one _ v _ _ => [[], [v]]
  | .two _ u v _ _ _ _ _ => [] :: taken3.map fun t : Bool × Bool => s.nodes.filter fun n => if n = u then t.1 else if n = v then t.2 else false := by
  cases md with
  | one l v hs as => rfl
  | two l u v h1 h2 a1 a2 sw =>
    rw [stepsM_two, List.map_cons, List.map_map]
    rfl
theorem steps_nodup (ok : Okay s) {md : Mnd} (mok : MndOk s.nodes md) : ((stepsM s m md).map (·.2.1)).Nodup := by
  rw [names_steps]
  cases md with
  | one l v hs as => simp
  | two l u v h1 h2 a1 a2 sw =>
    obtain ⟨hu, hv, ne, _⟩ := mok.two l u v h1 h2 a1 a2 sw rfl
    obtain ⟨a, b, h, hab, _, e⟩ := names_two ok hu hv ne
    show ([] :: taken3.map fun t : Bool × Bool => s.nodes.filter fun n => if n = u then t.1 else if n = v then t.2 else false).Nodup
    rw [e]
    simp [ne]
theorem takes_iff (ok : Okay s) {md : Mnd} (mok : MndOk s.nodes md) (tk : List Str) : tk ∈ takesOf s md ↔ tk ∈ (stepsM s m md).map (·.2.1) := by
  rw [names_steps]
  cases md with
  | one l v hs as =>
    obtain ⟨hv, _⟩ := mok.one l v hs as rfl
    unfold takesOf
    have : (s.nodes.filter fun a => decide (a ∈ (Mnd.one l v hs as).nodes)) = [v] := filter_lone ok.nd hv fun a => by simp [Mnd.nodes]
    rw [this]
    show tk ∈ [[], [v]] ↔ _
    rfl
  | two l u v h1 h2 a1 a2 sw =>
    obtain ⟨hu, hv, ne, _⟩ := mok.two l u v h1 h2 a1 a2 sw rfl
    obtain ⟨a, b, h, hab, e1, e2⟩ := names_two ok hu hv ne
    unfold takesOf
    have : (s.nodes.filter fun a => decide (a ∈ (Mnd.two l u v h1 h2 a1 a2 sw).nodes)) = [a, b] := e1
    rw [this]
    show tk ∈ [[], [a], [b], [a, b]] ↔ tk ∈ [] :: taken3.map fun t : Bool × Bool => s.nodes.filter fun n => if n = u then t.1 else if n = v then t.2 else false
    rw [e2]
    rcases h with ⟨rfl, rfl⟩ | ⟨rfl, rfl⟩
    · rfl
    · simp only [List.mem_cons, List.not_mem_nil, or_false]
      constructor
      · rintro (h | h | h | h)
        · exact .inl h
        · exact .inr (.inr (.inl h))
        · exact .inr (.inl h)
        · exact .inr (.inr (.inr h))
      · rintro (h | h | h | h)
        · exact .inl h
        · exact .inr (.inr (.inl h))
        · exact .inr (.inl h)
        · exact .inr (.inr (.inr h))
end
def stepBy (s : Sto) (m : Nat) (md : Mnd) (tk : List Str) : Stp := ((stepsM s m md).find? fun st => decide (st.2.1 = tk)).getD (0, [], 0)
def lawMv (s : Sto) (m : Nat) : List (Int × Nat) := s.mends.flatMap fun md => (takesOf s md).map fun tk => ((stepBy s m md tk).1, (stepBy s m md tk).2.2)
section
variable {s : Sto} {m : Nat} {md : Mnd}
theorem stepBy_mem (ok : Okay s) (mok : MndOk s.nodes md) {tk : List Str} (h : tk ∈ takesOf s md) : stepBy s m md tk ∈ stepsM s m md ∧ (stepBy s m md tk).2.1 = tk := by
  obtain ⟨st, hst, e⟩ := List.mem_map.mp ((takes_iff (m := m) ok mok tk).mp h)
  unfold stepBy
  cases q : (stepsM s m md).find? fun st => decide (st.2.1 = tk) with
  | none => exact absurd (decide_eq_true e) (List.find?_eq_none.mp q st hst)
  | some st' => exact ⟨List.mem_of_find?_eq_some q, of_decide_eq_true (List.find?_some (p := fun st : Stp => decide (st.2.1 = tk)) q)⟩
theorem nodup_map_eq {α β : Type} {f : α → β} : ∀ {l : List α}, (l.map f).Nodup → ∀ {x y}, x ∈ l → y ∈ l → f x = f y → x = y
  | [], _, x, y, hx, _, _ => by cases hx
  | a :: l, nd, x, y, hx, hy, e => by
    rw [List.map_cons, List.nodup_cons] at nd
    rcases List.mem_cons.mp hx with rfl | hx'
    · rcases List.mem_cons.mp hy with rfl | hy'
      · rfl
      · exact absurd (List.mem_map.mpr ⟨y, hy', e.symm⟩) nd.1
    · rcases List.mem_cons.mp hy with rfl | hy'
      · exact absurd (List.mem_map.mpr ⟨x, hx', e⟩) nd.1
      · exact nodup_map_eq nd.2 hx' hy' e
theorem stepBy_eq (ok : Okay s) (mok : MndOk s.nodes md) {st : Stp} (h : st ∈ stepsM s m md) : stepBy s m md st.2.1 = st := by
  have ht : st.2.1 ∈ takesOf s md := (takes_iff ok mok _).mpr (List.mem_map.mpr ⟨st, h, rfl⟩)
  obtain ⟨h1, h2⟩ := stepBy_mem (m := m) ok mok ht
  exact nodup_map_eq (steps_nodup ok mok) h1 h h2
theorem lawMv_iff (ok : Okay s) (p : Int × Nat) : p ∈ lawMv s m ↔ ∃ mv ∈ movesOf s m, p = (mv.2.1, mv.2.2.2) := by
  unfold lawMv movesOf
  constructor
  · intro h
    obtain ⟨md, hmd, h⟩ := List.mem_flatMap.mp h
    obtain ⟨tk, htk, rfl⟩ := List.mem_map.mp h
    obtain ⟨h1, h2⟩ := stepBy_mem (m := m) ok (ok.mends md hmd) htk
    exact ⟨(md.label, stepBy s m md tk), List.mem_flatMap.mpr ⟨md, hmd, List.mem_map.mpr ⟨_, h1, rfl⟩⟩, rfl⟩
  · rintro ⟨mv, h, rfl⟩
    obtain ⟨md, hmd, h⟩ := List.mem_flatMap.mp h
    obtain ⟨st, hst, rfl⟩ := List.mem_map.mp h
    refine List.mem_flatMap.mpr ⟨md, hmd, List.mem_map.mpr ⟨st.2.1, (takes_iff ok (ok.mends md hmd) _).mpr (List.mem_map.mpr ⟨st, hst, rfl⟩), ?_⟩⟩
    rw [stepBy_eq ok (ok.mends md hmd) hst]
theorem lawMv_lt (ok : Okay s) (hm : m < 2 ^ s.nodes.length) {p : Int × Nat} (h : p ∈ lawMv s m) : p.2 < 2 ^ s.nodes.length := by
  obtain ⟨mv, hmv, rfl⟩ := (lawMv_iff ok p).mp h
  exact moves_lt ok hm hmv
end
theorem takes_few {s : Sto} (ok : Okay s) (md : Mnd) : (takesOf s md).length ≤ 32 := by
  unfold takesOf
  rw [subs_len]
  exact Nat.le_trans (Nat.pow_le_pow_right (by decide) (Nat.le_trans (List.length_filter_le _ _) ok.few)) (by decide)
theorem lawMv_few {s : Sto} (ok : Okay s) (m : Nat) : (lawMv s m).length ≤ 640 := by
  have := flat_few (fun md => (takesOf s md).map fun tk => ((stepBy s m md tk).1, (stepBy s m md tk).2.2)) 32 s.mends fun x _ => by
    rw [List.length_map]; exact takes_few ok x
  have := ok.mfew
  unfold lawMv
  omega
/-! least values -/
def cand (last : Row) (mv : List (Int × Nat)) : List Int := mv.filterMap fun p => (last.getD p.2 none).map (p.1 + ·)
theorem mem_cand {last : Row} {mv : List (Int × Nat)} {y : Int} : y ∈ cand last mv ↔ ∃ p ∈ mv, ∃ x, last.getD p.2 none = some x ∧ y = p.1 + x := by
  unfold cand
  rw [List.mem_filterMap]
  constructor
  · rintro ⟨p, hp, h⟩
    obtain ⟨x, h1, h2⟩ := Option.map_eq_some_iff.mp h
    exact ⟨p, hp, x, h1, h2.symm⟩
  · rintro ⟨p, hp, x, h1, h2⟩
    exact ⟨p, hp, by rw [h1, h2]; rfl⟩
theorem least_le_left {a x : Int} {b : Option Int} (h : ∃ y, a = y) : ∀ o, least (some a) b = some o → o ≤ a := fun o e => by
  cases b with
  | none => simp [least] at e; omega
  | some b =>
    simp only [least, Option.some.injEq] at e
    split at e <;> omega
theorem best1_le (last : Row) : ∀ (mv : List Mv) (own : Option Int),
    (∀ a, own = some a → ∃ x, best1 last mv own = some x ∧ x ≤ a) ∧ ∀ p ∈ mv, ∀ x, last.getD p.2.2.2 none = some x → ∃ z, best1 last mv own = some z ∧ z ≤ p.2.1 + x
  | [], own => ⟨fun a e => ⟨a, e, Int.le_refl _⟩, fun p hp => by cases hp⟩
  | q :: mv, own => by
    show (∀ a, own = some a → ∃ x, best1 last mv (match last.getD q.2.2.2 none with | none => own | some x => least own (some (q.2.1 + x))) = some x ∧ x ≤ a) ∧ ∀ p ∈ q :: mv, ∀ x, last.getD p.2.2.2 none = some x → ∃ z, best1 last mv (match last.getD q.2.2.2 none with | none => own | some x => least own (some (q.2.1 + x))) = some z ∧ z ≤ p.2.1 + x
    cases h : last.getD q.2.2.2 none with
    | none =>
      obtain ⟨h1, h2⟩ := best1_le last mv own
      refine ⟨h1, fun p hp x hx => ?_⟩
      rcases List.mem_cons.mp hp with rfl | hp
      · rw [h] at hx; cases hx
      · exact h2 p hp x hx
    | some y =>
      obtain ⟨h1, h2⟩ := best1_le last mv (least own (some (q.2.1 + y)))
      refine ⟨fun a e => ?_, fun p hp x hx => ?_⟩
      · subst e
        obtain ⟨x, hx, hle⟩ := h1 (if q.2.1 + y < a then q.2.1 + y else a) rfl
        refine ⟨x, hx, Int.le_trans hle ?_⟩
        split <;> omega
      · rcases List.mem_cons.mp hp with rfl | hp
        · rw [h] at hx
          have hx : y = x := Option.some.inj hx
          subst hx
          cases own with
          | none =>
            obtain ⟨z, hz, hle⟩ := h1 _ rfl
            exact ⟨z, hz, hle⟩
          | some a =>
            obtain ⟨z, hz, hle⟩ := h1 (if p.2.1 + y < a then p.2.1 + y else a) rfl
            refine ⟨z, hz, Int.le_trans hle ?_⟩
            split <;> omega
        · exact h2 p hp x hx
def lawC (s : Sto) (last : Row) (m : Nat) (own : Option Int) : List Int := cand last (lawMv s m) ++ own.toList
theorem lawC_none {s : Sto} (ok : Okay s) {last : Row} {m : Nat} {own : Option Int} (h : lawC s last m own = []) : best1 last (movesOf s m) own = none := by
  have h2 : cand last (lawMv s m) = [] ∧ own.toList = [] := List.append_eq_nil_iff.mp h
  have ho : own = none := by cases own with | none => rfl | some a => simp at h2
  subst ho
  rcases best1_or last (movesOf s m) none with e | ⟨p, hp, x, h3, h4⟩
  · exact e
  · have : p.2.1 + x ∈ cand last (lawMv s m) := mem_cand.mpr ⟨_, (lawMv_iff ok _).mpr ⟨p, hp, rfl⟩, x, h3, rfl⟩
    rw [h2.1] at this
    cases this
theorem lawC_some {s : Sto} (ok : Okay s) {last : Row} {m : Nat} {own : Option Int} {k : Int} (hk : k ∈ lawC s last m own) (hmin : ∀ y ∈ lawC s last m own, k ≤ y) : best1 last (movesOf s m) own = some k := by
  obtain ⟨h1, h2⟩ := best1_le last (movesOf s m) own
  have hle : ∃ z, best1 last (movesOf s m) own = some z ∧ z ≤ k := by
    rcases List.mem_append.mp hk with h | h
    · obtain ⟨p, hp, x, hx, e⟩ := mem_cand.mp h
      obtain ⟨mv, hmv, e2⟩ := (lawMv_iff ok p).mp hp
      subst e2
      obtain ⟨z, hz, hl⟩ := h2 mv hmv x hx
      exact ⟨z, hz, by rw [e]; exact hl⟩
    · have : own = some k := by cases own with | none => simp at h | some a => simp at h; rw [h]
      exact h1 k this
  obtain ⟨z, hz, hzk⟩ := hle
  have hzC : z ∈ lawC s last m own := by
    rcases best1_or last (movesOf s m) own with e | ⟨p, hp, x, h3, h4⟩
    · rw [hz] at e
      exact List.mem_append_right _ (by rw [← e]; simp)
    · rw [hz] at h4
      have h4 : z = p.2.1 + x := Option.some.inj h4
      exact List.mem_append_left _ (mem_cand.mpr ⟨_, (lawMv_iff ok _).mpr ⟨p, hp, rfl⟩, x, h3, h4⟩)
  have := hmin z hzC
  rw [hz, show z = k by omega]
end Am
/-! The law's rows: dicts by lots. -/
namespace Am
open PySem PySem.Spec PyProof.Rows L2
theorem find_unique {α : Type} {p : α → Bool} : ∀ {l : List α} {x : α}, x ∈ l → p x = true → (∀ y ∈ l, p y = true → y = x) → l.find? p = some x
  | [], x, h, _, _ => by cases h
  | a :: l, x, h, hx, hu => by
    rw [List.find?_cons]
    cases q : p a with
    | true => rw [hu a (List.mem_cons_self ..) q]
    | false =>
      refine find_unique ?_ hx fun y hy => hu y (List.mem_cons_of_mem _ hy)
      rcases List.mem_cons.mp h with rfl | h
      · rw [q] at hx; cases hx
      · exact h
def rowL (s : Sto) (l : Row) : List (List Str × D) := l.zipIdx.map fun p => (lotOf s.nodes p.2, optI p.1)
theorem rowD_eq (s : Sto) (l : Row) : rowD s l = .dt (tkD (rowL s l)) := rfl
theorem row_get {s : Sto} (ok : Okay s) {l : Row} (hl : l.length = 2 ^ s.nodes.length) {m : Nat} {o : Option Int} (h : l[m]? = some o) : valD (tkD (rowL s l)) (kS (lotOf s.nodes m)) = some (optI o) := by
  rw [valD_kS]
  have hm : m < 2 ^ s.nodes.length := by rw [← hl]; exact (List.getElem?_eq_some_iff.mp h).1
  have : (rowL s l).find? (fun kd => decide (kd.1 = lotOf s.nodes m)) = some (lotOf s.nodes m, optI o) := by
    refine find_unique (List.mem_map.mpr ⟨(o, m), List.mem_zipIdx_iff_getElem?.mpr (by simpa using h), rfl⟩) (decide_eq_true rfl) fun y hy hp => ?_
    obtain ⟨⟨o', k⟩, hq, rfl⟩ := List.mem_map.mp hy
    have hq : l[k]? = some o' := by simpa using List.mem_zipIdx_iff_getElem?.mp hq
    have e : lotOf s.nodes k = lotOf s.nodes m := of_decide_eq_true hp
    have hk : k < 2 ^ s.nodes.length := by rw [← hl]; exact (List.getElem?_eq_some_iff.mp hq).1
    have ekm := lot_inj ok.nd hk hm e
    subst ekm
    rw [h] at hq
    cases hq
    rfl
  rw [this]
  rfl
theorem row_getD {s : Sto} (ok : Okay s) {l : Row} (hl : l.length = 2 ^ s.nodes.length) {m : Nat} (hm : m < 2 ^ s.nodes.length) : valD (tkD (rowL s l)) (kS (lotOf s.nodes m)) = some (optI (l.getD m none)) := row_get ok hl (getD_row (by rw [hl]; exact hm))
theorem rowL_keys {s : Sto} (ok : Okay s) {l : Row} (hl : l.length = 2 ^ s.nodes.length) : ((rowL s l).map (·.1)).Nodup := by
  have e : (rowL s l).map (·.1) = (List.range l.length).map (lotOf s.nodes) := by
    unfold rowL
    rw [List.map_map, List.range_eq_range']
    have aux : ∀ (l : Row) (k : Nat), ((l.zipIdx k).map ((fun x => x.1) ∘ fun p : Option Int × Nat => (lotOf s.nodes p.2, optI p.1))) = (List.range' k l.length).map (lotOf s.nodes) := by
      intro l
      induction l with
      | nil => intro k; rfl
      | cons a l ih =>
        intro k
        rw [List.zipIdx_cons, List.map_cons, List.length_cons, List.range'_succ, List.map_cons, ih (k + 1)]
        rfl
    exact aux l 0
  rw [e, hl]
  have nd : (List.range (2 ^ s.nodes.length)).Nodup := List.nodup_range
  have aux : ∀ l : List Nat, l.Nodup → (∀ x ∈ l, x < 2 ^ s.nodes.length) → (l.map (lotOf s.nodes)).Nodup := by
    intro l
    induction l with
    | nil => intro _ _; exact List.nodup_nil
    | cons a l ih =>
      intro nd hb
      rw [List.nodup_cons] at nd
      rw [List.map_cons, List.nodup_cons]
      refine ⟨fun z => ?_, ih nd.2 fun x hx => hb x (List.mem_cons_of_mem _ hx)⟩
      obtain ⟨b, hb2, e⟩ := List.mem_map.mp z
      have := lot_inj ok.nd (hb b (List.mem_cons_of_mem _ hb2)) (hb a (List.mem_cons_self ..)) e
      subst this
      exact nd.1 hb2
  exact aux _ nd fun x hx => List.mem_range.mp hx
section
variable {K : PySem.W.Frag} {M : List Addr} {ρ : Ro} {μ : Mem} {td ty : TE} {P : D → Mem → Prop}
theorem ev_dgetTD (ho : Ev K M td ρ μ fun x μ1 => ∃ kds, x = .dt kds ∧ Ev K M ty ρ μ1 fun y μ2 => ∃ s : List Str, y = .tup (sD s) ∧ ∃ d, valD kds (kS s) = some d ∧ P d μ2) : Ev K M (tDGet td ty) ρ μ P := fun G0 H0 G H σ st Q q =>
  ho G0 H0 G H σ st _ fun v x G1 H1 μ1 e1 s1 r1 ⟨kds, ex, hk⟩ => hk G0 H0 G1 H1 σ s1 _ fun w y G2 H2 μ2 e2 s2 r2 ⟨s, ey, d, hd, p2⟩ => by
    subst ex ey
    have r3 := r1.mono e2
    cases r2 with
    | tup e3 rr =>
      rw [kDs_rep rr] at e3
      cases r3 with
      | dt e k r =>
        obtain ⟨u, h2, h3⟩ := val_rep k r hd
        exact ⟨_, u, rfl, .inr ⟨_, kS s, _, .inl (s2.sub _ _ e), rfl, s2.sub _ _ e3, h2.symm⟩, q _ _ _ _ _ (e1.trans e2) s2 h3 p2⟩
theorem row_kvs {G : Hp} {s : Sto} {l : Row} {kvs : List (List Key × V)} (k : kvs.map (·.1) = (tkD (rowL s l)).map (·.1)) (r : Reps K G (kvs.map (·.2)) ((tkD (rowL s l)).map (·.2))) : kvs = l.zipIdx.map fun p => (kS (lotOf s.nodes p.2), optV p.1) := by
  have e1 : (tkD (rowL s l)).map (·.2) = l.map optI := by
    unfold tkD rowL
    rw [List.map_map, List.map_map]
    have aux : ∀ (l : Row) (k : Nat), (l.zipIdx k).map (((fun x => x.2) ∘ fun kd : List Str × D => ((kS kd.1, kd.2) : List Key × D)) ∘ fun p : Option Int × Nat => (lotOf s.nodes p.2, optI p.1)) = l.map optI := by
      intro l
      induction l with
      | nil => intro k; rfl
      | cons a l ih =>
        intro k
        rw [List.zipIdx_cons, List.map_cons, List.map_cons, ih (k + 1)]
        rfl
    exact aux l 0
  rw [e1] at r
  have r2 := reps_opt r
  have e2 : (tkD (rowL s l)).map (·.1) = l.zipIdx.map fun p => kS (lotOf s.nodes p.2) := by
    unfold tkD rowL
    rw [List.map_map, List.map_map]
    rfl
  rw [e2] at k
  clear e1 e2 r
  have aux : ∀ (l : Row) (j : Nat) (kvs : List (List Key × V)), kvs.map (·.1) = (l.zipIdx j).map (fun p => kS (lotOf s.nodes p.2)) → kvs.map (·.2) = l.map optV → kvs = (l.zipIdx j).map fun p => (kS (lotOf s.nodes p.2), optV p.1) := by
    intro l
    induction l with
    | nil =>
      intro j kvs h _
      cases kvs with
      | nil => rfl
      | cons _ _ => simp at h
    | cons a l ih =>
      intro j kvs h1 h2
      cases kvs with
      | nil => simp at h2
      | cons kv kvs =>
        rw [List.zipIdx_cons, List.map_cons, List.map_cons, List.cons.injEq] at h1
        rw [List.map_cons, List.map_cons, List.cons.injEq] at h2
        rw [List.zipIdx_cons, List.map_cons, ih (j + 1) kvs h1.2 h2.2, ← h1.1, ← h2.1]
  exact aux l 0 kvs k r2
theorem valV_row {s : Sto} (ok : Okay s) {l : Row} (hl : l.length = 2 ^ s.nodes.length) {m : Nat} {o : Option Int} (h : l[m]? = some o) : valV (l.zipIdx.map fun p => (kS (lotOf s.nodes p.2), optV p.1)) (kS (lotOf s.nodes m)) = some (optV o) := by
  have hm : m < 2 ^ s.nodes.length := by rw [← hl]; exact (List.getElem?_eq_some_iff.mp h).1
  unfold valV
  have : (l.zipIdx.map fun p => (kS (lotOf s.nodes p.2), optV p.1)).find? (fun kv => decide (kv.1 = kS (lotOf s.nodes m))) = some (kS (lotOf s.nodes m), optV o) := by
    refine find_unique (List.mem_map.mpr ⟨(o, m), List.mem_zipIdx_iff_getElem?.mpr (by simpa using h), rfl⟩) (decide_eq_true rfl) fun y hy hp => ?_
    obtain ⟨⟨o', k⟩, hq, rfl⟩ := List.mem_map.mp hy
    have hq : l[k]? = some o' := by simpa using List.mem_zipIdx_iff_getElem?.mp hq
    have e : lotOf s.nodes k = lotOf s.nodes m := kS_inj (of_decide_eq_true hp)
    have hk : k < 2 ^ s.nodes.length := by rw [← hl]; exact (List.getElem?_eq_some_iff.mp hq).1
    have ekm := lot_inj ok.nd hk hm e
    subst ekm
    rw [h] at hq
    cases hq
    rfl
  rw [this]
  rfl
theorem eqV_opt (a b : Option Int) : L2.eqV (optV a) (optV b) = decide (a = b) := by
  cases a <;> cases b <;> simp [optV, L2.eqV]
  rw [Bool.eq_iff_iff, beq_iff_eq, decide_eq_true_eq]
theorem rv_eqRow {s : Sto} (ok : Okay s) {l1 l2 : Row} (h1 : l1.length = 2 ^ s.nodes.length) (h2 : l2.length = 2 ^ s.nodes.length) : RvD K (rEqT K) (rowD s l1) (rowD s l2) (.bl (decide (l1 = l2))) := fun G H u v sm ru rv Q q => by
  cases ru with
  | dt e1 k1 r1 =>
    cases rv with
    | dt e2 k2 r2 =>
      have q1 := row_kvs k1 r1
      have q2 := row_kvs k2 r2
      rename_i a kvs b lvs
      subst q1 q2
      have fl : ∀ (l : Row), ∀ p ∈ l.zipIdx.map (fun p : Option Int × Nat => (kS (lotOf s.nodes p.2), optV p.1)), flatV p.2 = true := fun l p hp => by
        obtain ⟨z, _, rfl⟩ := List.mem_map.mp hp
        cases z.1 <;> rfl
      refine ⟨_, _, _, _, rfl, rfl, .inl (sm _ _ e1), .inl (sm _ _ e2), fl l1, fl l2, ?_⟩
      have hs : sameT (l1.zipIdx.map fun p => (kS (lotOf s.nodes p.2), optV p.1)) (l2.zipIdx.map fun p => (kS (lotOf s.nodes p.2), optV p.1)) = decide (l1 = l2) := by
        unfold sameT
        rw [List.length_map, List.length_map, List.length_zipIdx, List.length_zipIdx, h1, h2, beq_self_eq_true, Bool.true_and, Bool.eq_iff_iff, List.all_eq_true, decide_eq_true_eq]
        constructor
        · intro h
          refine List.ext_getElem? fun k => ?_
          rcases Nat.lt_or_ge k (2 ^ s.nodes.length) with hk | hk
          · have g1 : l1[k]? = some l1[k] := List.getElem?_eq_getElem (by omega)
            have g2 : l2[k]? = some l2[k] := List.getElem?_eq_getElem (by omega)
            have := h (kS (lotOf s.nodes k), optV l1[k]) (List.mem_map.mpr ⟨(l1[k], k), List.mem_zipIdx_iff_getElem?.mpr (by simpa using g1), rfl⟩)
            have hv := valV_row ok h2 g2
            simp only [hv, eqV_opt, decide_eq_true_eq] at this
            rw [g1, g2, this]
          · rw [List.getElem?_eq_none (by omega), List.getElem?_eq_none (by omega)]
        · rintro rfl p hp
          obtain ⟨⟨o, k⟩, hq, rfl⟩ := List.mem_map.mp hp
          have hq : l1[k]? = some o := by simpa using List.mem_zipIdx_iff_getElem?.mp hq
          have hv := valV_row ok h1 hq
          simp only [hv, eqV_opt, decide_true]
      rw [hs]
      exact q _ _ _ (Go.refl sm) (.bl _)
end
/-! ### promises -/
def layD (s : Sto) (rd : List (Str × Option Int)) : D := .lst ((rowsOf s rd).map (rowD s))
def R_layers : List D → D → Prop := fun ds d => ∃ s rd, ∃ r : Nat, Okay s ∧ s.readers[r]? = some rd ∧ Fix s rd ∧ ds = [encT s, .int r] ∧ d = layD s rd
def R_allLayers : List D → D → Prop := fun ds d => ∃ s, Okay s ∧ (∀ rd ∈ s.readers, Fix s rd) ∧ ds = [encT s] ∧ d = .lst (s.readers.map (layD s))
def minL : List Int → Int
  | [] => 0
  | [a] => a
  | a :: b :: l => if a < minL (b :: l) then a else minL (b :: l)
theorem minL_le : ∀ (l : List Int) (y : Int), y ∈ l → minL l ≤ y
  | [], y, h => by cases h
  | [a], y, h => by simp at h; subst h; exact Int.le_refl _
  | a :: b :: l, y, h => by
    unfold minL
    rcases List.mem_cons.mp h with rfl | h
    · split <;> omega
    · have := minL_le (b :: l) y h
      split <;> omega
theorem minL_mem : ∀ l : List Int, l ≠ [] → minL l ∈ l
  | [], h => absurd rfl h
  | [a], _ => List.mem_singleton.mpr rfl
  | a :: b :: l, _ => by
    unfold minL
    split
    · exact List.mem_cons_self ..
    · exact List.mem_cons_of_mem _ (minL_mem (b :: l) (by simp))
theorem minL_is {l : List Int} {k : Int} (hk : k ∈ l) (h : ∀ y, y ∈ l → k ≤ y) : k = minL l := by
  have h1 := minL_le l k hk
  have h2 := h _ (minL_mem l (fun z => by rw [z] at hk; cases hk))
  omega
def pricesF (s : Sto) (j : Option Nat) : List Int := s.readers.flatMap fun rd => ((rowK s rd (idxJ s rd j)).zipIdx.filter fun p => p.1.isSome).map fun p => startP s p.2 + p.1.getD 0
def R_file : List D → D → Prop := fun ds d => ∃ s, ∃ j : Option Nat, Okay s ∧ s.readers ≠ [] ∧ (∀ rd ∈ s.readers, Fix s rd) ∧ ds = [encT s, .lst (s.readers.map (layD s)), optN j] ∧ d = .int (minL (pricesF s j))
/-! there is a price: of the whole lot -/
theorem end_full {nodes : List Str} {m : Nat} : ∀ (rd : List (Str × Option Int)), (∀ p ∈ rd, m.testBit (nodes.idxOf p.1) = true) → endP nodes m rd = some 0
  | [], _ => rfl
  | (n, l) :: rd, h => by
    unfold endP
    rw [h (n, l) (List.mem_cons_self ..)]
    exact end_full rd fun p hp => h p (List.mem_cons_of_mem _ hp)
theorem row_full {s : Sto} (ok : Okay s) {rd : List (Str × Option Int)} (hrd : rd ∈ s.readers) : ∀ k, ∃ x, (rowK s rd k)[2 ^ s.nodes.length - 1]? = some (some x)
  | 0 => by
    have hp : 0 < 2 ^ s.nodes.length := Nat.two_pow_pos _
    refine ⟨0, ?_⟩
    show (row0 s rd)[_]? = _
    unfold row0
    rw [List.getElem?_map, List.getElem?_range (by omega)]
    show some (endP s.nodes (2 ^ s.nodes.length - 1) rd) = _
    rw [end_full rd fun p hp => ?_]
    have hi := List.idxOf_lt_length_iff.mpr (ok.readers rd hrd p hp).1
    rw [Nat.testBit_two_pow_sub_one]
    exact decide_eq_true hi
  | k + 1 => by
    obtain ⟨x, hx⟩ := row_full ok hrd k
    obtain ⟨z, hz, _⟩ := (best1_le (rowK s rd k) (movesOf s (2 ^ s.nodes.length - 1)) (some x)).1 x rfl
    exact ⟨z, by rw [show rowK s rd (k + 1) = nxt s (rowK s rd k) from rfl, nxt_get s hx, hz]⟩
theorem pricesF_ne {s : Sto} (ok : Okay s) (hr : s.readers ≠ []) (j : Option Nat) : pricesF s j ≠ [] := by
  obtain ⟨rd, hrd⟩ := List.exists_mem_of_ne_nil _ hr
  obtain ⟨x, hx⟩ := row_full ok hrd (idxJ s rd j)
  have : startP s (2 ^ s.nodes.length - 1) + x ∈ pricesF s j := List.mem_flatMap.mpr ⟨rd, hrd, List.mem_map.mpr ⟨(some x, 2 ^ s.nodes.length - 1), List.mem_filter.mpr ⟨List.mem_zipIdx_iff_getElem?.mpr (by simpa using hx), rfl⟩, rfl⟩⟩
  intro z
  rw [z] at this
  cases this
/-! no dict with tuple keys lies in a store -/
theorem noDts_map {α : Type} {f : α → D} (h : ∀ x, noDt (f x) = true) : ∀ l : List α, noDts (l.map f) = true
  | [] => by simp [noDts]
  | a :: l => by simp [noDts, h a, noDts_map h l]
theorem noDt_sD (l : List Str) : noDts (sD l) = true := noDts_map (fun _ => by simp [noDt]) l
theorem noDt_iD (l : List Int) : noDts (iD l) = true := noDts_map (fun _ => by simp [noDt]) l
theorem noDt_opt (o : Option Int) : noDt (optI o) = true := by cases o <;> simp [optI, noDt]
theorem noDt_Tm (md : Mnd) : noDt (encTm md) = true := by
  cases md <;> simp [encTm, noDt, noDtk, skD, noDts, noDt_sD, noDt_iD]
theorem noDt_encI (p : Str × Option Int) : noDt (encI p) = true := by simp [encI, noDt, noDts, noDt_opt]
theorem noDt_Tr (r : List (Str × Option Int)) : noDt (encTr r) = true := by simp [encTr, noDt, noDts_map noDt_encI]
theorem noDt_T (s : Sto) : noDt (encT s) = true := by
  simp [encT, keysT, noDt, noDtk, skD, noDt_sD, noDt_iD, noDts_map noDt_Tm, noDts_map noDt_Tr]
theorem noDt_optN (j : Option Nat) : noDt (optN j) = true := by cases j <;> simp [optN, noDt]
end Am
namespace Am
open PySem PySem.Spec PyProof.Rows L2
theorem putK_fresh {κ : Type} [DecidableEq κ] {kds : List (κ × D)} {k : κ} {d : D} (h : valD kds k = none) : putK' kds k d = kds ++ [(k, d)] := by
  unfold putK'
  rw [if_neg]
  intro z
  obtain ⟨kv, h1, h2⟩ := List.any_eq_true.mp z
  unfold valD at h
  rw [Option.map_eq_none_iff] at h
  exact List.find?_eq_none.mp h kv h1 h2
theorem putK_last {κ : Type} [DecidableEq κ] {kds : List (κ × D)} {k : κ} {d e : D} (h : valD kds k = none) : putK' (kds ++ [(k, d)]) k e = kds ++ [(k, e)] := by
  have hn : ∀ kv ∈ kds, kv.1 ≠ k := fun kv hkv e => by
    unfold valD at h
    rw [Option.map_eq_none_iff] at h
    exact List.find?_eq_none.mp h kv hkv (decide_eq_true e)
  unfold putK'
  rw [if_pos (by simp), List.map_append]
  congr 1
  · have : ∀ kv ∈ kds, (fun kv : κ × D => if kv.1 = k then (kv.1, e) else kv) kv = id kv := fun kv hkv => by
      show (if kv.1 = k then (kv.1, e) else kv) = kv
      rw [if_neg (hn kv hkv)]
    rw [List.map_congr_left this, List.map_id]
  · simp
theorem valD_last {κ : Type} [DecidableEq κ] {kds : List (κ × D)} {k : κ} {d : D} (h : valD kds k = none) : valD (kds ++ [(k, d)]) k = some d := by
  unfold valD at h ⊢
  rw [Option.map_eq_none_iff] at h
  rw [List.find?_append, h]
  simp
theorem valD_lots {s : Sto} (ok : Okay s) {f : Nat → D} {i : Nat} (hi : i < 2 ^ s.nodes.length) : valD (tkD ((List.range i).map fun m => (lotOf s.nodes m, f m))) (kS (lotOf s.nodes i)) = none := by
  rw [valD_kS, Option.map_eq_none_iff, List.find?_eq_none]
  intro kd hkd z
  obtain ⟨m, hm, rfl⟩ := List.mem_map.mp hkd
  have hm := List.mem_range.mp hm
  have := lot_inj ok.nd (by omega) hi (of_decide_eq_true z)
  omega
theorem lstI_of (l : List Int) : (D.lst (iD l)) = ofP (PySem.W.Datum.toD l) := by
  show _ = D.lst (ofPs (l.map PySem.W.Datum.toD))
  rw [ofPs_map]
  rfl
theorem lst_eq {K : PySem.W.Frag} {l : List Int} : RvD K (rEqP K) (.lst (iD l)) (.lst []) (.bl (decide (l = []))) := rv_eqT (K := K) (a := l) (b := ([] : List Int)) (lstI_of l) (lstI_of []) (by decide)
theorem lstS_eq {K : PySem.W.Frag} {l : List Str} : RvD K (rEqP K) (.lst (sD l)) (.lst []) (.bl (decide (l = []))) := rv_eqT (K := K) (a := l) (b := ([] : List Str)) (lstS_of l) (lstS_of []) (by decide)
def encMv (s : Sto) (p : Int × Nat) : D := .tup [.int p.1, lotD s p.2]
def mvsL (s : Sto) (i : Nat) : List (List Str × D) := (List.range i).map fun m => (lotOf s.nodes m, .lst ((lawMv s m).map (encMv s)))
theorem mvs_get {s : Sto} (ok : Okay s) {m : Nat} (hm : m < 2 ^ s.nodes.length) : valD (tkD (mvsL s (2 ^ s.nodes.length))) (kS (lotOf s.nodes m)) = some (.lst ((lawMv s m).map (encMv s))) := by
  rw [valD_kS]
  have : (mvsL s (2 ^ s.nodes.length)).find? (fun kd => decide (kd.1 = lotOf s.nodes m)) = some (lotOf s.nodes m, .lst ((lawMv s m).map (encMv s))) := by
    refine find_unique (List.mem_map.mpr ⟨m, List.mem_range.mpr hm, rfl⟩) (decide_eq_true rfl) fun y hy hp => ?_
    obtain ⟨k, hk, rfl⟩ := List.mem_map.mp hy
    have ekm := lot_inj ok.nd (List.mem_range.mp hk) hm (of_decide_eq_true hp)
    subst ekm
    rfl
  rw [this]
  rfl
theorem zip_range {α β : Type} (f : Nat → α) (g : α × Nat → β) (N : Nat) : (((List.range N).map f).zipIdx.map g) = (List.range N).map fun m => g (f m, m) := by
  refine List.ext_getElem? fun k => ?_
  rw [List.getElem?_map, List.getElem?_zipIdx, List.getElem?_map, List.getElem?_map]
  rcases Nat.lt_or_ge k N with h | h
  · rw [List.getElem?_range h]
    simp
  · rw [List.getElem?_eq_none (by rw [List.length_range]; exact h)]
    rfl
theorem rowL_0 (s : Sto) (rd : List (Str × Option Int)) : rowL s (row0 s rd) = (List.range (2 ^ s.nodes.length)).map fun m => (lotOf s.nodes m, optI (endP s.nodes m rd)) := by
  unfold rowL row0
  rw [zip_range]
theorem rowL_take {s : Sto} {l : Row} {i : Nat} {o : Option Int} (h : l[i]? = some o) : (rowL s l).take (i + 1) = (rowL s l).take i ++ [(lotOf s.nodes i, optI o)] := by
  rw [List.take_add_one]
  congr 1
  unfold rowL
  rw [List.getElem?_map, List.getElem?_zipIdx, h]
  simp
theorem cand_snoc (last : Row) (mv : List (Int × Nat)) (p : Int × Nat) : cand last (mv ++ [p]) = cand last mv ++ (match last.getD p.2 none with | none => [] | some x => [p.1 + x]) := by
  unfold cand
  rw [List.filterMap_append]
  congr 1
  cases h : last.getD p.2 none with
  | none => simp only [List.filterMap_cons, List.filterMap_nil, h]; rfl
  | some x => simp only [List.filterMap_cons, List.filterMap_nil, h]; rfl
theorem valD_rowtake {s : Sto} (ok : Okay s) {l : Row} (hl : l.length = 2 ^ s.nodes.length) {m : Nat} (hm : m < 2 ^ s.nodes.length) : valD (tkD ((rowL s l).take m)) (kS (lotOf s.nodes m)) = none := by
  rw [valD_kS, Option.map_eq_none_iff, List.find?_eq_none]
  intro kd hkd z
  obtain ⟨k, hk⟩ := List.mem_iff_getElem?.mp hkd
  have hkm : k < m := by
    have := (List.getElem?_eq_some_iff.mp hk).1
    rw [List.length_take] at this
    omega
  rw [List.getElem?_take, if_pos hkm] at hk
  unfold rowL at hk
  rw [List.getElem?_map, List.getElem?_zipIdx] at hk
  cases ho : l[k]? with
  | none => rw [ho] at hk; cases hk
  | some o =>
    rw [ho] at hk
    have hk : (lotOf s.nodes (0 + k), optI o) = kd := Option.some.inj hk
    subst hk
    have := lot_inj ok.nd (by omega) hm (of_decide_eq_true z)
    omega
section
variable {K : PySem.W.Frag} {M : List Addr} {ρ : Ro} {μ : Mem} {te : TE} {P Q : D → Mem → Prop}
theorem Ev.to (h : Ev K M te ρ μ P) (i : ∀ d μ1, P d μ1 → Q d μ1) : Ev K M te ρ μ Q := fun G0 H0 G H σ s R q => h G0 H0 G H σ s R fun v d G1 H1 μ1 e1 s1 r1 p => q v d G1 H1 μ1 e1 s1 r1 (i d μ1 p)
end
theorem tkD_append (a b : List (List Str × D)) : tkD (a ++ b) = tkD a ++ tkD b := List.map_append
theorem len__law_layers : ∀ ds d, R_layers ds d → ds.length = 2 := fun _ _ ⟨_, _, _, _, _, _, h, _⟩ => by rw [h]; rfl
abbrev s__law_layers : Stmt := topS 64
theorem sc__law_layers : FnScope ["_law_store_here", "_law_reader", "_law_lots", "_law_moves", "_law_lot", "_law_mend", "_law_taken", "_law_rows", "_law_lap", "_law_longer", "_law_some", "_law_price_here", "_law_to"] ["_law_store_here", "_law_reader"] (defScope s__law_layers) := ⟨rfl, rfl, rfl, by decide +kernel, rfl, by decide +kernel, by decide +kernel⟩
set_option maxHeartbeats 16000000 in
theorem ok__law_layers {P : Program} {w : World} {K : PySem.W.Frag} {mg : Str → Option Value} {base : Heap} {c : Cls4} {f : Addr} {fd : FuncData} (B : Blt mg) (hc : ClsOk K c mg)
    (h__law_all_lots : Fn P w K mg base "_law_all_lots" 1 ["_law_store_here"] (spP K R_allLots))
    (h__law_takes : Fn P w K mg base "_law_takes" 2 ["_law_store_here", "_law_mend"] (spP K R_takes))
    (h__law_next_lot : Fn P w K mg base "_law_next_lot" 2 ["_law_store_here", "_law_lot", "_law_mend", "_law_taken"] (spP K R_next))
    (h__law_price : Fn P w K mg base "_law_price" 2 ["_law_store_here", "_law_lot", "_law_mend", "_law_taken"] (spP K R_lprice))
    (h__law_end : Fn P w K mg base "_law_end" 1 ["_law_store_here", "_law_lot", "_law_reader"] (spP K R_lend)) (F : FD K "_law_layers" "_law_layers" s__law_layers f fd) : FnOk P w K mg base CX0 3 f fd ["_law_store_here", "_law_reader"] (spP K R_layers) := by
  have sc := sc__law_layers
  refine F.ok sc (fun vs H Q E h => len_P (n := 2) len__law_layers h) (fun cdv A outer s H vs Q E hr h => ?_)
  have hu := hu_of hr
  refine ⟨_, PSs.nox ((pss_cons (ps_set (i := 2) sc.nd rfl (Or.inl rfl) (pe_fn h__law_all_lots (hr.mono (by decide)) (by rfl) (pa_cons (pv 0) pa_nil))) 
      (pss_cons (ps_set (i := 3) sc.nd rfl (Or.inl rfl) pe_dnewT) 
      (pss_cons (ps_for PassesOwn.never rfl (xi_list (K := K) (pv 2)) (pg_name (i := 4) sc.nd rfl (Or.inl rfl))
        (pss_cons (ps_dput hu (pv 3) (pv 4) (pe_lst pa_nil) rfl) 
        (pss_one (ps_for PassesOwn.never rfl (xi_list (K := K) (pe_dget hu (pv 0) pe_str (fun _ _ => rfl))) (pg_name (i := 5) sc.nd rfl (Or.inl rfl))
          (pss_one (ps_for PassesOwn.never rfl (xi_list (K := K) (pe_fn h__law_takes (hr.mono (by decide)) (by rfl) (pa_cons (pv 0) (pa_cons (pv 5) pa_nil)))) (pg_name (i := 6) sc.nd rfl (Or.inl rfl))
            (pss_one (ps_expr (xe_bm (K := K) PySem.F.plainAttrs_list PySem.F.slot_list_append PySem.F.type_list_append mt_append (pe_dget hu (pv 3) (pv 4) (fun _ _ => rfl)) (pa_cons (pe_tup (pa_cons (pe_fn h__law_price (hr.mono (by decide)) (by rfl) (pa_cons (pv 0) (pa_cons (pv 4) (pa_cons (pv 5) (pa_cons (pv 6) pa_nil))))) (pa_cons (pe_fn h__law_next_lot (hr.mono (by decide)) (by rfl) (pa_cons (pv 0) (pa_cons (pv 4) (pa_cons (pv 5) (pa_cons (pv 6) pa_nil))))) pa_nil))) pa_nil)))))))))) 
      (pss_cons (ps_set (i := 7) sc.nd rfl (Or.inr rfl) (pe_lst (pa_cons (pe_callTy (xc_dictT (K := K) rfl hr.units) (by rfl) B.dict boot_dict (pa_cons (pe_lc (own := [("_law_lot", 4)]) rfl sc.nd (xi_list (K := K) (pv 2)) (blkOk_by (own := [("_law_lot", 4)]) (N := ["_law_store_here", "_law_reader", "_law_lots", "_law_moves", "_law_lot", "_law_mend", "_law_taken", "_law_rows", "_law_lap", "_law_longer", "_law_some", "_law_price_here", "_law_to"]) (sc := defScope s__law_layers) (by decide +kernel)) (fun _ _ _ _ _ => (pg_name (i := 4) sc.nd rfl (Or.inl rfl))) (fun _ _ _ _ _ => pts_nil) (fun _ _ _ _ _ => (pe_tup (pa_cons (pv 4) (pa_cons (pe_fn h__law_end (hr.mono (by decide)) (by rfl) (pa_cons (pv 0) (pa_cons (pv 4) (pa_cons (pv 1) pa_nil)))) pa_nil))))) pa_nil)) pa_nil))) 
      (pss_cons (ps_for PassesOwn.never rfl (pi_range1 (by rfl) B.range (pa_cons pe_int pa_nil)) (pg_name (i := 8) sc.nd rfl (Or.inl rfl))
        (pss_cons (ps_set (i := 9) sc.nd rfl (Or.inl rfl) pe_dnewT) 
        (pss_cons (ps_for PassesOwn.never rfl (xi_list (K := K) (pv 2)) (pg_name (i := 4) sc.nd rfl (Or.inl rfl))
          (pss_cons (ps_setLc (i := 10) (own := [("_law_price_here", 11), ("_law_to", 12)]) rfl sc.nd rfl rfl (sw_true rfl rfl rfl (by decide +kernel)) (xi_list (K := K) (pe_dget hu (pv 3) (pv 4) (fun _ _ => rfl))) (blkOk_by (own := [("_law_price_here", 11), ("_law_to", 12)]) (N := ["_law_store_here", "_law_reader", "_law_lots", "_law_moves", "_law_lot", "_law_mend", "_law_taken", "_law_rows", "_law_lap", "_law_longer", "_law_some", "_law_price_here", "_law_to"]) (sc := defScope s__law_layers) (by decide +kernel)) (fun _ _ _ _ _ => (xg_tup (K := K) (n := 2) rfl (pgs_cons (pg_name (i := 11) sc.nd rfl (Or.inl rfl)) (pgs_cons (pg_name (i := 12) sc.nd rfl (Or.inl rfl)) pgs_nil)))) (fun _ _ _ _ _ => (pts_one (pt_cmpR xo_notN (pe_dget hu (pe_ix (xx_list (K := K)) (pv 7) (pe_un un_neg pe_int) (fun _ _ => rfl)) (pv 12) (fun _ _ => rfl)) pe_non (nomark _)))) (fun _ _ _ _ _ => (pe_op op_add (pv 11) (pe_dget hu (pe_ix (xx_list (K := K)) (pv 7) (pe_un un_neg pe_int) (fun _ _ => rfl)) (pv 12) (fun _ _ => rfl))))) 
          (pss_cons (ps_set (i := 10) sc.nd rfl (Or.inl rfl) (pe_op op_cat (pv 10) (pe_ifExp (pt_cmpR xo_isN (pe_dget hu (pe_ix (xx_list (K := K)) (pv 7) (pe_un un_neg pe_int) (fun _ _ => rfl)) (pv 4) (fun _ _ => rfl)) pe_non (nomark _)) (pe_lst pa_nil) (pe_lst (pa_cons (pe_dget hu (pe_ix (xx_list (K := K)) (pv 7) (pe_un un_neg pe_int) (fun _ _ => rfl)) (pv 4) (fun _ _ => rfl)) pa_nil))))) 
          (pss_one (ps_dput hu (pv 9) (pv 4) (pe_ifExp (pt_cmpR (xo_eqP (K := K) hr.units) (pv 10) (pe_lst pa_nil) (nomark _)) pe_non (pe_callB (xc_min (K := K) rfl) (by rfl) B.min boot_min (pa_cons (pv 10) pa_nil))) rfl))))) 
        (pss_cons (ps_if (pt_cmpR (xo_eqT (K := K) hr.units) (pv 9) (pe_ix (xx_list (K := K)) (pv 7) (pe_un un_neg pe_int) (fun _ _ => rfl)) (nomark _))
          (pss_one ps_break)
          pss_nil) 
        (pss_one (ps_expr (xe_bm (K := K) PySem.F.plainAttrs_list PySem.F.slot_list_append PySem.F.type_list_append mt_append (pv 7) (pa_cons (pv 9) pa_nil)))))))) 
      (pss_one (ps_ret (pv 7))))))))), read_P h ?_⟩
  rintro ds d ⟨s, rd, r, ok, hrd, fx, rfl, rfl⟩
  have l200 := lastK_lt fx
  have few := pow_few ok
  let N := 2 ^ s.nodes.length
  let lots : D := .lst ((List.range N).map (lotD s))
  refine run_seq (run_asg (d := lots) (ed_call (ea_cons (ed_var rfl) ea_nil) ⟨s, ok, rfl, rfl⟩) ?_)
  refine run_seq (run_asgG (ev_dnewT fun q hqM hqμ => ?_))
  -- the moves
  refine run_seq (run_for (items := (List.range N).map (lotD s)) (it_list (ed_var rfl)) (fun i ρ μ => ∃ x4 x5 x6, ρ = [some (encT s), some (.int r), some lots, some (.loc q), x4, x5, x6, none, none, none, none, none, none] ∧ μ = [(q, .dt (tkD (mvsL s i)))]) ⟨none, none, none, rfl, rfl⟩ (fun i d ρ1 μ1 hi hI => ?_) fun ρ1 μ1 hI => ?_)
  · obtain ⟨x4, x5, x6, rfl, rfl⟩ := hI
    rw [List.getElem?_map] at hi
    cases hr2 : (List.range N)[i]? with
    | none => rw [hr2] at hi; cases hi
    | some k =>
      rw [hr2] at hi
      have hi : lotD s k = d := Option.some.inj hi
      subst hi
      obtain ⟨hk1, hk2⟩ := List.getElem?_eq_some_iff.mp hr2
      rw [List.getElem_range] at hk2
      subst hk2
      rw [List.length_range] at hk1
      have hfresh : valD (tkD (mvsL s i)) (kS (lotOf s.nodes i)) = none := valD_lots ok hk1
      refine ⟨_, _, tg_name, run_seq (run_dputTG (p := q) (s := lotOf s.nodes i) (ev_lstC (eva_of ea_nil ⟨Nat.zero_le _, fun p hpM hpμ => ⟨ed_var rfl, ed_var rfl, 1, _, rfl, ?_, ?_⟩⟩)))⟩
      · show ((mvsL s i).map _).length < 100000
        rw [List.length_map]
        unfold mvsL
        rw [List.length_map, List.length_range]
        omega
      rw [putK_fresh hfresh]
      let fl : Nat → List (Int × Nat) := fun a => (s.mends.take a).flatMap fun md => (takesOf s md).map fun tk => ((stepBy s i md tk).1, (stepBy s i md tk).2.2)
      let dtq : Own := .dt (tkD (mvsL s i) ++ [(kS (lotOf s.nodes i), .loc p)])
      refine run_then (run_for (items := s.mends.map encTm) (it_list (ed_T_mends (ed_var rfl))) (fun a ρ μ => ∃ x5 x6, ρ = [some (encT s), some (.int r), some lots, some (.loc q), some (lotD s i), x5, x6, none, none, none, none, none, none] ∧ μ = [(p, .lst ((fl a).map (encMv s))), (q, dtq)]) ⟨x5, x6, rfl, rfl⟩ (fun a d ρ2 μ2 ha hA => ?_) fun ρ2 μ2 hA => ?_)
      · obtain ⟨x5, x6, rfl, rfl⟩ := hA
        rw [List.getElem?_map] at ha
        cases hmd : s.mends[a]? with
        | none => rw [hmd] at ha; cases ha
        | some md =>
          rw [hmd] at ha
          have ha : encTm md = d := Option.some.inj ha
          subst ha
          have hmm : md ∈ s.mends := List.mem_of_getElem? hmd
          have mok := ok.mends md hmm
          have efl : fl (a + 1) = fl a ++ (takesOf s md).map fun tk => ((stepBy s i md tk).1, (stepBy s i md tk).2.2) := by
            show (s.mends.take (a + 1)).flatMap _ = _
            have hlt := (List.getElem?_eq_some_iff.mp hmd).1
            rw [flat_take _ hlt, (List.getElem?_eq_some_iff.mp hmd).2]
          have hlen : (fl a).length + (takesOf s md).length ≤ 640 := by
            have h1 := lawMv_few ok i
            have hlt := (List.getElem?_eq_some_iff.mp hmd).1
            have h2 := flat_le (fun md => (takesOf s md).map fun tk => ((stepBy s i md tk).1, (stepBy s i md tk).2.2)) hlt
            rw [(List.getElem?_eq_some_iff.mp hmd).2, List.length_map] at h2
            exact Nat.le_trans h2 h1
          refine ⟨_, _, tg_name, run_for (items := (takesOf s md).map fun t => .tup (sD t)) (it_list (ed_call (ea_cons (ed_var rfl) (ea_cons (ed_var rfl) ea_nil)) ⟨s, md, ok, mok, rfl, rfl⟩)) (fun b ρ μ => ∃ x6, ρ = [some (encT s), some (.int r), some lots, some (.loc q), some (lotD s i), some (encTm md), x6, none, none, none, none, none, none] ∧ μ = [(p, .lst ((fl a ++ ((takesOf s md).take b).map fun tk => ((stepBy s i md tk).1, (stepBy s i md tk).2.2)).map (encMv s))), (q, dtq)]) ⟨x6, rfl, by rw [List.take_zero, List.map_nil, List.append_nil]⟩ (fun b d ρ3 μ3 hb hB => ?_) fun ρ3 μ3 hB => ?_⟩
          · obtain ⟨x6, rfl, rfl⟩ := hB
            rw [List.getElem?_map] at hb
            cases htk : (takesOf s md)[b]? with
            | none => rw [htk] at hb; cases hb
            | some tk =>
              rw [htk] at hb
              have hb : D.tup (sD tk) = d := Option.some.inj hb
              subst hb
              obtain ⟨hst, hst2⟩ := stepBy_mem (m := i) ok mok (List.mem_of_getElem? htk)
              have etk : (takesOf s md).take (b + 1) = (takesOf s md).take b ++ [tk] := by rw [List.take_add_one, htk]; rfl
              have hblt := (List.getElem?_eq_some_iff.mp htk).1
              refine ⟨_, _, tg_name, run_appG (p := p) (ev_dgetTG (p := q) (ev_of (ed_var rfl) ⟨rfl, ev_of (ed_var rfl) ⟨lotOf s.nodes i, rfl, 1, _, rfl, .loc p, valD_last hfresh, rfl, ⟨0, _, rfl⟩, ev_of (d := encMv s ((stepBy s i md tk).1, (stepBy s i md tk).2.2)) (ed_tup (ea_cons (ed_call (ea_cons (ed_var rfl) (ea_cons (ed_var rfl) (ea_cons (ed_var rfl) (ea_cons (ed_var rfl) ea_nil)))) ⟨s, md, stepBy s i md tk, i, ok, mok, hst, by rw [hst2], rfl⟩) (ea_cons (ed_call (ea_cons (ed_var rfl) (ea_cons (ed_var rfl) (ea_cons (ed_var rfl) (ea_cons (ed_var rfl) ea_nil)))) ⟨s, md, stepBy s i md tk, i, ok, mok, hk1, hst, by rw [hst2], rfl⟩) ea_nil)) (show 2 ≤ 100000 by decide)) ⟨0, _, rfl, ?_, ?_⟩⟩⟩))⟩
              · rw [List.length_map, List.length_append, List.length_map, List.length_take]
                omega
              · refine ⟨_, rfl, ?_⟩
                have e : (fl a ++ ((takesOf s md).take (b + 1)).map fun tk => ((stepBy s i md tk).1, (stepBy s i md tk).2.2)).map (encMv s) = (fl a ++ ((takesOf s md).take b).map fun tk => ((stepBy s i md tk).1, (stepBy s i md tk).2.2)).map (encMv s) ++ [encMv s ((stepBy s i md tk).1, (stepBy s i md tk).2.2)] := by
                  simp only [etk, List.map_append, List.append_assoc]
                  rfl
                rw [e]
                rfl
          · obtain ⟨x6, rfl, rfl⟩ := hB
            refine ⟨_, _, rfl, ?_⟩
            rw [List.length_map, List.take_length, efl]
      · obtain ⟨x5, x6, rfl, rfl⟩ := hA
        rw [List.length_map]
        have efl : fl s.mends.length = lawMv s i := by
          show (s.mends.take s.mends.length).flatMap _ = _
          rw [List.take_length]
          rfl
        rw [efl]
        have hnone : ∀ kv ∈ tkD (mvsL s i), kv.1 ≠ kS (lotOf s.nodes i) := fun kv hkv e => by
          unfold valD at hfresh
          rw [Option.map_eq_none_iff] at hfresh
          exact List.find?_eq_none.mp hfresh kv hkv (decide_eq_true e)
        refine run_freezeT (s := lotOf s.nodes i) (by simp) (fun kv hkv e => ?_) (by rw [valD_last hfresh]; rfl) (run_next ⟨_, _, _, rfl, ?_⟩)
        · rcases List.mem_append.mp hkv with h | h
          · exact absurd e (hnone kv h)
          · rw [List.mem_singleton.mp h]
        · rw [putK_last hfresh]
          have : mvsL s (i + 1) = mvsL s i ++ [(lotOf s.nodes i, .lst ((lawMv s i).map (encMv s)))] := by
            unfold mvsL
            rw [List.range_succ, List.map_append]
            rfl
          rw [this, tkD_append]
          rfl
  obtain ⟨x4, x5, x6, rfl, rfl⟩ := hI
  rw [List.length_map, List.length_range]
  refine run_freezeU (i := 3) (by simp) rfl ?_
  -- the first row
  refine run_seq (run_asgG (ev_lstC (eva_of (ea_cons (x := rowD s (row0 s rd)) (EvD.is (ed_cb (ea_cons (EvD.is (y := .lst (pairsT (rowL s (row0 s rd)))) (ed_lc0 (items := List.range N) (lotD s) (fun m => D.tup [lotD s m, optI (endP s.nodes m rd)]) (it_list (ed_var rfl)) (by rw [List.length_range]; omega) fun m hm => ⟨_, _, tg_name, by simp, ed_tup (ea_cons (ed_var rfl) (ea_cons (ed_call (ea_cons (ed_var rfl) (ea_cons (ed_var rfl) (ea_cons (ed_var rfl) ea_nil))) ⟨s, rd, m, r, ok, hrd, rfl, rfl⟩) ea_nil)) (show 2 ≤ 100000 by decide)⟩) (by
      rw [rowL_0]
      unfold pairsT
      rw [List.map_map]
      rfl)) ea_nil) (rc_dictT (rowL_keys ok (row0_len s rd)))) rfl) ea_nil) ⟨(show 1 ≤ 100000 by decide), fun w hwM hwμ => ?_⟩)))
  -- the laps
  refine run_seq (run_for (items := (List.range 200).map fun i : Nat => .int (i : Int)) (ItE.is (it_rng1 (ea_cons (ed_int 200) ea_nil) (by decide) (by decide)) rfl) (fun i ρ μ => ∃ x4 x5 x6 x8 x9 x10, i ≤ lastK s rd ∧ ρ = [some (encT s), some (.int r), some lots, some (.dt (tkD (mvsL s N))), x4, x5, x6, some (.loc w), x8, x9, x10, none, none] ∧ μ = [(w, .lst (((List.range (i + 1)).map (rowK s rd)).map (rowD s)))]) ⟨x4, x5, x6, none, none, none, Nat.zero_le _, rfl, rfl⟩ (fun i d ρ1 μ1 hi hI => ?_) fun ρ1 μ1 hI => ?_)
  · obtain ⟨x4, x5, x6, x8, x9, x10, hil, rfl, rfl⟩ := hI
    let last := rowK s rd i
    have hlast : last.length = N := rowK_len s rd i
    have ek : ((List.range (i + 1)).map (rowK s rd)).map (rowD s) = ((List.range i).map (rowK s rd)).map (rowD s) ++ [rowD s last] := by rw [rows_take, List.map_append]; rfl
    refine ⟨_, _, tg_name, run_seq (run_asgG (ev_dnewT fun g hgM hgμ => ?_))⟩
    have hgw : g ≠ w := fun z => hgμ (by rw [z]; exact List.mem_singleton.mpr rfl)
    let rowsO : Own := .lst (((List.range (i + 1)).map (rowK s rd)).map (rowD s))
    -- rows[-1] is the last row
    have hrow : ∀ {ρ : Ro} {μ : Mem} {P : D → Mem → Prop} {j : Nat}, ρ[7]? = some (some (.loc w)) → μ[j]? = some (w, rowsO) → P (rowD s last) μ → Ev K [] (tOp (rIxL K) (tVar 7) (tUn (rU fun i => .int (-i)) (tC (.int 1)))) ρ μ P := fun h7 hj hP =>
      ev_ixC (p := w) (k := -1) (ev_of (ed_var h7) ⟨rfl, ev_of (ed_un (ed_int 1) ru_neg) ⟨rfl, _, _, hj, rowD s last, by rw [ek]; exact atI_last _ _, hP⟩⟩)
    have hget : ∀ {ρ : Ro} {μ : Mem} {P : D → Mem → Prop} {j m n : Nat}, ρ[7]? = some (some (.loc w)) → μ[j]? = some (w, rowsO) → ρ[n]? = some (some (lotD s m)) → m < N → P (optI (last.getD m none)) μ → Ev K [] (tDGet (tOp (rIxL K) (tVar 7) (tUn (rU fun i => .int (-i)) (tC (.int 1)))) (tVar n)) ρ μ P := fun h7 hj hn hm hP =>
      ev_dgetTD (hrow h7 hj ⟨_, rfl, ev_of (ed_var hn) ⟨_, rfl, _, row_getD ok hlast hm, hP⟩⟩)
    refine run_seq (run_for (items := (List.range N).map (lotD s)) (it_list (ed_var rfl)) (fun m ρ μ => ∃ x4 x10, ρ = [some (encT s), some (.int r), some lots, some (.dt (tkD (mvsL s N))), x4, x5, x6, some (.loc w), some d, some (.loc g), x10, none, none] ∧ μ = [(g, .dt (tkD ((rowL s (nxt s last)).take m))), (w, rowsO)]) ⟨x4, x10, rfl, rfl⟩ (fun m d2 ρ2 μ2 hm hM => ?_) fun ρ2 μ2 hM => ?_)
    · obtain ⟨x4, x10, rfl, rfl⟩ := hM
      rw [List.getElem?_map] at hm
      cases hr2 : (List.range N)[m]? with
      | none => rw [hr2] at hm; cases hm
      | some k =>
        rw [hr2] at hm
        have hm : lotD s k = d2 := Option.some.inj hm
        subst hm
        obtain ⟨hk1, hk2⟩ := List.getElem?_eq_some_iff.mp hr2
        rw [List.getElem_range] at hk2
        subst hk2
        rw [List.length_range] at hk1
        let own := last.getD m none
        have hown : last[m]? = some own := getD_row (by omega)
        let mv := lawMv s m
        have hmvl : mv.length ≤ 640 := lawMv_few ok m
        refine ⟨_, _, tg_name, run_seq (run_asgG (ev_lc (items := mv.map (encMv s)) (it_list (ed_dgetT (ed_var rfl) (ed_var rfl) (mvs_get ok hk1))) (by rw [List.length_map]; omega) (fun j acc μ1 => acc = iD (cand last (mv.take j)) ∧ μ1 = [(g, .dt (tkD ((rowL s (nxt s last)).take m))), (w, rowsO)]) ⟨rfl, rfl⟩ (fun C j d acc μ1 hC1 hC2 hj hJ hacc => ?_) fun acc μ1 hJ => ?_))⟩
        · obtain ⟨rfl, rfl⟩ := hJ
          rw [List.getElem?_map] at hj
          cases hp : mv[j]? with
          | none => rw [hp] at hj; cases hj
          | some p =>
            rw [hp] at hj
            have hj : encMv s p = d := Option.some.inj hj
            subst hj
            have hto : p.2 < N := lawMv_lt ok hk1 (List.mem_of_getElem? hp)
            have etj : mv.take (j + 1) = mv.take j ++ [p] := by rw [List.take_add_one, hp]; rfl
            refine ⟨_, _, tg_two, by simp, evt_test (ev_op (P1 := fun d μ1 => d = optI (last.getD p.2 none) ∧ μ1 = [(C, .lst (iD (cand last (mv.take j)))), (g, .dt (tkD ((rowL s (nxt s last)).take m))), (w, rowsO)]) (hget (j := 2) rfl rfl rfl hto ⟨rfl, rfl⟩) ?_)⟩
            rintro _ _ ⟨rfl, rfl⟩
            refine ev_of ed_non ⟨_, rv_notN, _, rfl, _, rfl, ?_⟩
            cases hx : last.getD p.2 none with
            | none =>
              show (iD _) = _ ∧ _
              refine ⟨?_, rfl⟩
              rw [etj, cand_snoc, hx]
              simp
            | some x =>
              show Ev K _ _ _ _ _
              refine ev_op (P1 := fun d μ1 => d = .int p.1 ∧ μ1 = [(C, .lst (iD (cand last (mv.take j)))), (g, .dt (tkD ((rowL s (nxt s last)).take m))), (w, rowsO)]) (ev_of (ed_var rfl) ⟨rfl, rfl⟩) ?_
              rintro _ _ ⟨rfl, rfl⟩
              refine hget (j := 2) rfl rfl rfl hto ?_
              rw [hx]
              refine ⟨_, rv_int, _, rfl, ?_, rfl⟩
              rw [etj, cand_snoc, hx, show iD (cand last (mv.take j) ++ [p.1 + x]) = iD (cand last (mv.take j)) ++ [D.int (p.1 + x)] from List.map_append]
        · obtain ⟨rfl, rfl⟩ := hJ
          rw [List.length_map, List.take_length]
          have hcl : (cand last mv).length ≤ 640 := Nat.le_trans (List.length_filterMap_le _ _) hmvl
          refine run_seq (run_asgG (ev_op (P1 := fun d μ1 => d = .lst (iD (cand last mv)) ∧ μ1 = [(g, .dt (tkD ((rowL s (nxt s last)).take m))), (w, rowsO)]) (ev_of (ed_var rfl) ⟨rfl, rfl⟩) ?_))
          rintro _ _ ⟨rfl, rfl⟩
          have hμ0 : ∃ μ0 : Mem, μ0 = [(g, .dt (tkD ((rowL s (nxt s last)).take m))), (w, rowsO)] := ⟨_, rfl⟩
          obtain ⟨μ0, eμ0⟩ := hμ0
          rw [← eμ0]
          refine Ev.to (P := fun y μ2 => y = .lst (iD own.toList) ∧ μ2 = μ0) (ev_if (PT := fun b μ1 => b = !own.isSome ∧ μ1 = μ0) (evt_test (ev_op (P1 := fun d μ1 => d = optI own ∧ μ1 = μ0) (by rw [eμ0]; exact hget (j := 1) rfl rfl rfl hk1 ⟨rfl, rfl⟩) (by
            rintro _ _ ⟨rfl, rfl⟩
            exact ev_of ed_non ⟨_, rv_isN, _, rfl, isNon_optI own, rfl⟩))) (by
            rintro μ1 ⟨hb, rfl⟩
            have hn : own = none := by cases h : own with | none => rfl | some a => rw [h] at hb; cases hb
            refine ev_of (ed_lst ea_nil (Nat.zero_le _)) ⟨?_, rfl⟩
            rw [hn]
            rfl) (by
            rintro μ1 ⟨hb, rfl⟩
            cases h : own with
            | none => rw [h] at hb; cases hb
            | some a =>
              rw [eμ0]
              refine ev_lst (eva_cons (P1 := fun d μ1 => d = .int a ∧ μ1 = [(g, .dt (tkD ((rowL s (nxt s last)).take m))), (w, rowsO)]) (hget (j := 1) rfl rfl rfl hk1 ⟨by rw [show last.getD m none = some a from h]; rfl, rfl⟩) ?_)
              rintro _ _ ⟨rfl, rfl⟩
              exact eva_of ea_nil ⟨(show 1 ≤ 100000 by decide), rfl, rfl⟩)) ?_
          rintro _ _ ⟨rfl, rfl⟩
          have hol : own.toList.length ≤ 1 := by cases own <;> simp
          refine ⟨_, rv_cat (by rw [List.length_map, List.length_map]; omega), ?_⟩
          rw [← List.map_append, eμ0]
          let C : List Int := lawC s last m own
          have hCl : C.length ≤ 641 := by show (cand last mv ++ own.toList).length ≤ 641; rw [List.length_append]; omega
          have hN : nxt s last = nxt s last := rfl
          have hnx : (nxt s last)[m]? = some (best1 last (movesOf s m) own) := nxt_get s hown
          refine run_dputTG (p := g) (s := lotOf s.nodes m) (ev_of (d := optI (best1 last (movesOf s m) own)) (ed_if (et_test (ed_op (ed_var rfl) (ed_lst ea_nil (Nat.zero_le _)) lst_eq)) (fun hb => EvD.is ed_non ?_) fun hb => EvD.is (ed_cb (ea_cons (ed_var rfl) ea_nil) (rc_min (ns := C) (m := minL C) ?_ fun k hk h => minL_is hk h)) ?_) ⟨ed_var rfl, ed_var rfl, 0, _, rfl, ?_, ?_⟩)
          · have : C = [] := of_decide_eq_true hb
            rw [lawC_none ok this]
            rfl
          · have : C ≠ [] := of_decide_eq_false hb
            exact List.length_pos_iff.mpr this
          · have hne : C ≠ [] := of_decide_eq_false hb
            rw [lawC_some ok (minL_mem C hne) fun y hy => minL_le C y hy]
            rfl
          · show (List.map _ ((rowL s (nxt s last)).take m)).length < 100000
            rw [List.length_map, List.length_take]
            omega
          · rw [putK_fresh (valD_rowtake ok (by rw [nxt_len]; exact hlast) hk1)]
            refine ⟨_, _, rfl, ?_⟩
            rw [rowL_take hnx, tkD_append]
            rfl
    · obtain ⟨x4, x10, rfl, rfl⟩ := hM
      have hnl : (nxt s last).length = N := by rw [nxt_len]; exact hlast
      have efull : (rowL s (nxt s last)).take ((List.range N).map (lotD s)).length = rowL s (nxt s last) := List.take_of_length_le (by unfold rowL; rw [List.length_map, List.length_zipIdx, hnl, List.length_map, List.length_range]; exact Nat.le_refl _)
      rw [efull]
      refine run_freezeU (i := 9) (by simp) rfl ?_
      refine run_seq (run_ifG (evt_test (ev_op (P1 := fun d μ1 => d = rowD s (nxt s last) ∧ μ1 = [(w, rowsO)]) (ev_of (ed_var rfl) ⟨rfl, rfl⟩) ?_)))
      rintro _ _ ⟨rfl, rfl⟩
      refine hrow (j := 0) rfl rfl ⟨_, rv_eqRow ok hnl hlast, _, rfl, ?_⟩
      by_cases e : nxt s last = last
      · rw [decide_eq_true e, if_pos rfl]
        have hkl : i = lastK s rd := by
          rcases Nat.lt_or_ge i (lastK s rd) with z | z
          · exact absurd e (lastK_first fx z)
          · omega
        subst hkl
        refine run_break ?_
        exact run_freezeU (i := 7) (by simp) rfl (run_ret (ed_var rfl) rfl)
      · rw [decide_eq_false e, if_neg (by decide)]
        have hkl : i + 1 ≤ lastK s rd := by
          rcases Nat.lt_or_ge i (lastK s rd) with z | z
          · exact z
          · have : i = lastK s rd := by omega
            exact absurd (by show rowK s rd (i + 1) = rowK s rd i; rw [this]; exact lastK_fix fx) e
        refine run_next (run_app (i := 0) rfl rfl (ed_var rfl) ?_ ⟨_, _, _, _, _, _, hkl, rfl, ?_⟩)
        · rw [List.length_map, List.length_map, List.length_range]
          omega
        · rw [rows_take s rd (i + 1), List.map_append]
          rfl
  · obtain ⟨x4, x5, x6, x8, x9, x10, hil, _⟩ := hI
    rw [List.length_map, List.length_range] at hil
    omega
end Am
namespace Am
open PySem PySem.Spec PyProof.Rows L2
theorem range_getD {α β : Type} (f : α → β) (l : List α) (d : α) : ((List.range l.length).map fun k => f (l.getD k d)) = l.map f := by
  refine List.ext_getElem? fun k => ?_
  rw [List.getElem?_map, List.getElem?_map]
  rcases Nat.lt_or_ge k l.length with h | h
  · rw [List.getElem?_range h, List.getElem?_eq_getElem h]
    simp [h]
  · rw [List.getElem?_eq_none (by rw [List.length_range]; exact h), List.getElem?_eq_none h]
    rfl
theorem len__law_all_layers : ∀ ds d, R_allLayers ds d → ds.length = 1 := fun _ _ ⟨_, _, _, h, _⟩ => by rw [h]; rfl
abbrev s__law_all_layers : Stmt := topS 67
theorem sc__law_all_layers : FnScope ["_law_store_here", "_law_k"] ["_law_store_here"] (defScope s__law_all_layers) := ⟨rfl, rfl, rfl, by decide +kernel, rfl, by decide +kernel, by decide +kernel⟩
set_option maxHeartbeats 16000000 in
theorem ok__law_all_layers {P : Program} {w : World} {K : PySem.W.Frag} {mg : Str → Option Value} {base : Heap} {c : Cls4} {f : Addr} {fd : FuncData} (B : Blt mg) (hc : ClsOk K c mg)
    (h__law_layers : Fn P w K mg base "_law_layers" 3 ["_law_store_here", "_law_reader"] (spP K R_layers)) (F : FD K "_law_all_layers" "_law_all_layers" s__law_all_layers f fd) : FnOk P w K mg base CX0 4 f fd ["_law_store_here"] (spP K R_allLayers) := by
  have sc := sc__law_all_layers
  refine F.ok sc (fun vs H Q E h => len_P (n := 1) len__law_all_layers h) (fun cdv A outer s H vs Q E hr h => ?_)
  have hu := hu_of hr
  refine ⟨_, PSs.nox ((pss_one (ps_ret (pe_lc (own := [("_law_k", 1)]) rfl sc.nd (pi_range1 (by rfl) B.range (pa_cons (pe_callB (xc_len (K := K)) (by rfl) B.len boot_len (pa_cons (pe_dget hu (pv 0) pe_str (fun _ _ => rfl)) pa_nil)) pa_nil)) (blkOk_by (own := [("_law_k", 1)]) (N := ["_law_store_here", "_law_k"]) (sc := defScope s__law_all_layers) (by decide +kernel)) (fun _ _ _ _ _ => (pg_name (i := 1) sc.nd rfl (Or.inl rfl))) (fun _ _ _ _ _ => pts_nil) (fun _ _ _ _ _ => (pe_fn h__law_layers (hr.mono (by decide)) (by rfl) (pa_cons (pv 0) (pa_cons (pv 1) pa_nil)))))))), read_P h ?_⟩
  rintro ds d ⟨s, ok, fx, rfl, rfl⟩
  have rf := ok.rfew
  rw [← range_getD (layD s) s.readers []]
  refine run_ret (ed_lc0 (items := List.range s.readers.length) (fun i : Nat => .int (i : Int)) (fun k => layD s (s.readers.getD k [])) (ItE.is (it_rng1 (ea_cons (ed_cb (ea_cons (ed_T_readers (ed_var rfl)) ea_nil) rc_lenL) ea_nil) (by omega) (by rw [List.length_map]; omega)) (by rw [List.length_map, Int.toNat_natCast])) (by rw [List.length_range]; omega) fun k hk => ⟨_, _, tg_name, by simp, ed_call (ea_cons (ed_var rfl) (ea_cons (ed_var rfl) ea_nil)) ?_⟩) rfl
  have hk := List.mem_range.mp hk
  have e : s.readers[k]? = some (s.readers.getD k []) := by rw [List.getD_eq_getElem?_getD, List.getElem?_eq_getElem hk]; rfl
  exact ⟨s, s.readers.getD k [], k, ok, e, fx _ (List.mem_of_getElem? e), rfl, rfl⟩
theorem noDt_row (s : Sto) (l : Row) : noDts ((tkD (rowL s l)).map (·.2)) = true := by
  have e : (tkD (rowL s l)).map (·.2) = l.zipIdx.map fun p => optI p.1 := by
    unfold tkD rowL
    rw [List.map_map, List.map_map]
    rfl
  rw [e]
  exact noDts_map (fun p : Option Int × Nat => noDt_opt p.1) _
theorem len__law_file : ∀ ds d, R_file ds d → ds.length = 3 := fun _ _ ⟨_, _, _, _, _, h, _⟩ => by rw [h]; rfl
abbrev s__law_file : Stmt := topS 66
theorem sc__law_file : FnScope ["_law_store_here", "_law_layers_here", "_law_mends", "_law_prices", "_law_rows", "_law_within_here", "_law_lot"] ["_law_store_here", "_law_layers_here", "_law_mends"] (defScope s__law_file) := ⟨rfl, rfl, rfl, by decide +kernel, rfl, by decide +kernel, by decide +kernel⟩
set_option maxHeartbeats 16000000 in
theorem ok__law_file {P : Program} {w : World} {K : PySem.W.Frag} {mg : Str → Option Value} {base : Heap} {c : Cls4} {f : Addr} {fd : FuncData} (B : Blt mg) (hc : ClsOk K c mg)
    (h__law_within : Fn P w K mg base "_law_within" 1 ["_law_rows", "_law_mends"] (spP K R_lwithin))
    (h__law_start : Fn P w K mg base "_law_start" 1 ["_law_store_here", "_law_lot"] (spP K R_start)) (F : FD K "_law_file" "_law_file" s__law_file f fd) : FnOk P w K mg base CX0 2 f fd ["_law_store_here", "_law_layers_here", "_law_mends"] (spP K R_file) := by
  have sc := sc__law_file
  refine F.ok sc (fun vs H Q E h => len_P (n := 3) len__law_file h) (fun cdv A outer s H vs Q E hr h => ?_)
  have hu := hu_of hr
  refine ⟨_, PSs.nox ((pss_cons (ps_set (i := 3) sc.nd rfl (Or.inl rfl) (pe_lst pa_nil)) 
      (pss_cons (ps_for PassesOwn.never rfl (xi_list (K := K) (pv 1)) (pg_name (i := 4) sc.nd rfl (Or.inl rfl))
        (pss_cons (ps_set (i := 5) sc.nd rfl (Or.inr rfl) (pe_fn h__law_within (hr.mono (by decide)) (by rfl) (pa_cons (pv 4) (pa_cons (pv 2) pa_nil)))) 
        (pss_one (ps_set (i := 3) sc.nd rfl (Or.inl rfl) (pe_op op_cat (pv 3) (pe_lock (pe_lc (own := [("_law_lot", 6)]) rfl sc.nd (pi_keys (pv 5)) (blkOk_by (own := [("_law_lot", 6)]) (N := ["_law_store_here", "_law_layers_here", "_law_mends", "_law_prices", "_law_rows", "_law_within_here", "_law_lot"]) (sc := defScope s__law_file) (by decide +kernel)) (fun _ _ _ _ _ => (pg_name (i := 6) sc.nd rfl (Or.inl rfl))) (fun _ _ _ _ _ => (pts_one (pt_cmpR xo_notN (pe_dget hu (pv 5) (pv 6) (fun _ _ => rfl)) pe_non (nomark _)))) (fun _ _ _ _ _ => (pe_op op_add (pe_fn h__law_start (hr.mono (by decide)) (by rfl) (pa_cons (pv 0) (pa_cons (pv 6) pa_nil))) (pe_dget hu (pv 5) (pv 6) (fun _ _ => rfl))))))))))) 
      (pss_one (ps_ret (pe_callB (xc_min (K := K) rfl) (by rfl) B.min boot_min (pa_cons (pv 3) pa_nil))))))), read_P h ?_⟩
  rintro ds d ⟨s, j, ok, hne, fx, rfl, rfl⟩
  have few := pow_few ok
  have rf := ok.rfew
  let F : List (Str × Option Int) → List Int := fun rd => ((rowK s rd (idxJ s rd j)).zipIdx.filter fun p => p.1.isSome).map fun p => startP s p.2 + p.1.getD 0
  have hFl : ∀ rd, (F rd).length ≤ 32 := fun rd => by
    show (List.map _ _).length ≤ 32
    rw [List.length_map]
    refine Nat.le_trans (List.length_filter_le _ _) ?_
    rw [List.length_zipIdx, rowK_len]
    exact few
  refine run_seq (run_asg (ed_lst ea_nil (Nat.zero_le _)) ?_)
  refine run_seq (run_for (items := s.readers.map (layD s)) (it_list (ed_var rfl)) (fun i ρ μ => ∃ x4 x5, ρ = [some (encT s), some (.lst (s.readers.map (layD s))), some (optN j), some (.lst (iD ((s.readers.take i).flatMap F))), x4, x5, none] ∧ μ = []) ⟨none, none, rfl, rfl⟩ (fun i d ρ1 μ1 hi hI => ?_) fun ρ1 μ1 hI => ?_)
  · obtain ⟨x4, x5, rfl, rfl⟩ := hI
    rw [List.getElem?_map] at hi
    cases hrd : s.readers[i]? with
    | none => rw [hrd] at hi; cases hi
    | some rd =>
      rw [hrd] at hi
      have hi : layD s rd = d := Option.some.inj hi
      subst hi
      have hmem : rd ∈ s.readers := List.mem_of_getElem? hrd
      have hlt := (List.getElem?_eq_some_iff.mp hrd).1
      let row := rowK s rd (idxJ s rd j)
      have hrow : row.length = 2 ^ s.nodes.length := rowK_len s rd _
      have etk : (s.readers.take (i + 1)).flatMap F = (s.readers.take i).flatMap F ++ F rd := by rw [flat_take F hlt, (List.getElem?_eq_some_iff.mp hrd).2]
      have hfl : ((s.readers.take i).flatMap F).length ≤ 640 := by
        have := flat_few F 32 (s.readers.take i) fun x _ => hFl x
        have h2 : (s.readers.take i).length ≤ 20 := by rw [List.length_take]; omega
        omega
      refine ⟨_, _, tg_name, run_seq (run_asg (d := rowD s row) (ed_call (ea_cons (ed_var rfl) (ea_cons (ed_var rfl) ea_nil)) ⟨s, rd, j, fx rd hmem, rfl, rfl⟩) ?_)⟩
      refine run_asg (ed_op (ed_var rfl) (ed_lock (j := 5) (kds := tkD (rowL s row)) (ρ' := [some (encT s), none, some (optN j), some (.lst (iD ((s.readers.take i).flatMap F))), none, none, none]) rfl (noDt_row s row) (x := .lst (iD (F rd))) (by simp [noDt, noDt_iD]) (.keep (noDt_T s) (.drop (.keep (noDt_optN j) (.keep (by simp [noDt, noDt_iD]) (.drop (.drop (.drop .nil))))))) ?_) (rv_cat (by rw [List.length_map, List.length_map]; have := hFl rd; omega))) ⟨some (layD s rd), some (rowD s row), ?_, rfl⟩
      · refine ed_lcI (items := row.zipIdx) (fun p => lotD s p.2) (fun p => p.1.isSome) (fun p => startP s p.2 + p.1.getD 0) (ItE.is (it_keysF (l := rowL s row) (ed_var rfl)) (by unfold rowL; rw [List.map_map]; rfl)) (by rw [List.length_zipIdx, hrow]; omega) fun p hp => ?_
        obtain ⟨o, m⟩ := p
        have hm : row[m]? = some o := by simpa using List.mem_zipIdx_iff_getElem?.mp hp
        have hg := row_get ok hrow hm
        refine ⟨_, _, tg_name, by simp, EdT.is (et_test (ed_op (ed_dgetF (ed_var rfl) (ed_var rfl) hg) ed_non rv_notN)) (by rw [isNon_optI]; cases o <;> rfl), fun hs => ?_⟩
        cases o with
        | none => cases hs
        | some x => exact ed_op (ed_call (ea_cons (ed_var rfl) (ea_cons (ed_var rfl) ea_nil)) ⟨s, m, ok, rfl, rfl⟩) (ed_dgetF (ed_var rfl) (ed_var rfl) hg) rv_int
      · show [_, _, _, some (D.lst (iD ((s.readers.take i).flatMap F) ++ iD (F rd))), _, _, _] = _
        rw [etk, show iD ((s.readers.take i).flatMap F ++ F rd) = iD ((s.readers.take i).flatMap F) ++ iD (F rd) from List.map_append]
  · obtain ⟨x4, x5, rfl, rfl⟩ := hI
    have e : (s.readers.take (s.readers.map (layD s)).length).flatMap F = pricesF s j := by
      rw [List.length_map, List.take_length]
      rfl
    rw [e]
    exact run_ret (ed_cb (ea_cons (ed_var rfl) ea_nil) (rc_min (m := minL (pricesF s j)) (List.length_pos_iff.mpr (pricesF_ne ok hne j)) fun k hk h => minL_is hk h)) rfl
end Am
namespace Am
open PySem PySem.Spec PyProof.Rows L2
section
variable {s : Sto} {r : List (Str × Option Int)}
theorem trace_cons : ∀ (l cur : Nat), ∀ {a : Sp2} {rest : List Sp2}, trace s r l cur = a :: rest → ∃ l' p x, l' < l ∧ p ∈ movesOf s cur ∧ a = (p.1, p.2.2.1) ∧ rest = trace s r l' p.2.2.2 ∧ (rowK s r l').getD p.2.2.2 none = some x ∧ (rowK s r l).getD cur none = some (p.2.1 + x)
  | 0, cur, a, rest, h => by simp [trace] at h
  | l + 1, cur, a, rest, h => by
    unfold trace at h
    by_cases e : (rowK s r (l + 1)).getD cur none = (rowK s r l).getD cur none
    · rw [if_pos e] at h
      obtain ⟨l', p, x, h1, h2, h3, h4, h5, h6⟩ := trace_cons l cur h
      exact ⟨l', p, x, by omega, h2, h3, h4, h5, e.trans h6⟩
    · rw [if_neg e] at h
      cases q : (movesOf s cur).find? (isBest s r cur (l + 1)) with
      | none => rw [q] at h; cases h
      | some p =>
        rw [q] at h
        have h : (p.1, p.2.2.1) :: trace s r l p.2.2.2 = a :: rest := h
        injection h with h1 h2
        have hb := List.find?_some q
        unfold isBest at hb
        rw [show l + 1 - 1 = l from rfl] at hb
        cases hx : (rowK s r l).getD p.2.2.2 none with
        | none => rw [hx] at hb; cases hb
        | some x =>
          rw [hx] at hb
          have hb := of_decide_eq_true hb
          exact ⟨l, p, x, Nat.lt_succ_self _, List.mem_of_find?_eq_some q, h1.symm, h2.symm, hx, hb.symm⟩
theorem trace_nil : ∀ (l cur : Nat), cur < 2 ^ s.nodes.length → trace s r l cur = [] → (rowK s r l).getD cur none = (rowK s r 0).getD cur none
  | 0, _, _, _ => rfl
  | l + 1, cur, hc, h => by
    unfold trace at h
    by_cases e : (rowK s r (l + 1)).getD cur none = (rowK s r l).getD cur none
    · rw [if_pos e] at h
      exact e.trans (trace_nil l cur hc h)
    · rw [if_neg e] at h
      obtain ⟨p, hp⟩ := best_is hc e
      rw [hp] at h
      cases h
theorem row_zero {cur : Nat} (hc : cur < 2 ^ s.nodes.length) : (rowK s r 0).getD cur none = endP s.nodes cur r := by
  show (row0 s r).getD cur none = _
  unfold row0
  rw [List.getD_eq_getElem?_getD, List.getElem?_map, List.getElem?_range hc]
  rfl
end
def R_right (c : Cls4) : List D → D → Prop := fun ds d => ∃ s rd, ∃ r m : Nat, ∃ j, Okay s ∧ s.readers[r]? = some rd ∧ Fix s rd ∧ m < 2 ^ s.nodes.length ∧ wayT s rd j m ≠ none ∧ ds = [encT s, lotD s m, .int r, optN j, encWay c (wayT s rd j m) (wayS s rd j m)] ∧ d = .bl true
theorem len__law_steps_right {c : Cls4} : ∀ ds d, R_right c ds d → ds.length = 5 := fun _ _ ⟨_, _, _, _, _, _, _, _, _, _, h, _⟩ => by rw [h]; rfl
section
variable {K : PySem.W.Frag} {c : Cls4} {mg : Str → Option Value} {ρ : Ro} {te : TE} {t : Option Int} {ss : List Sp2}
theorem ed_W_total (hc : ClsOk K c mg) (h : EvD K te ρ (encWay c t ss)) : EvD K (tFld K te "total") ρ (optI t) := ed_fld h hc.clW hc.W_total rfl
theorem ed_W_steps (hc : ClsOk K c mg) (h : EvD K te ρ (encWay c t ss)) : EvD K (tFld K te "steps") ρ (.tup (ss.map encSp)) := ed_fld h hc.clW hc.W_steps rfl
theorem ed_isiW (hc : ClsOk K c mg) (h : EvD K te ρ (encWay c t ss)) : EvD K (tCB (rIsi K) (tCons te (tCons (tC (.ref c.W)) tNil))) ρ (.bl true) := fun G H σ s l Q q => h G H σ s l _ fun u G1 H1 g1 r1 => by
  cases r1 with
  | ins e k r => exact ⟨_, _, _, _, true, rfl, .own c.W, .base (.ins (g1.sub _ _ e) hc.clW hc.W_ha hc.W_hn hc.W_htk hc.W_hm), hc.W_isi, q _ _ _ g1 (.bl _)⟩
end
theorem takes_of (l : List (List Str)) : (D.lst (l.map fun t => .tup (sD t))) = ofP (PySem.W.Datum.toD (l.map PySem.W.Tup.mk)) := by
  show _ = D.lst (ofPs ((l.map PySem.W.Tup.mk).map PySem.W.Datum.toD))
  rw [ofPs_map, List.map_map]
  refine congrArg D.lst (List.map_congr_left fun t _ => tupS_of t)
theorem rv_take {K : PySem.W.Frag} {t : List Str} {l : List (List Str)} (h : t ∈ l) : RvD K (rNotInP K) (.tup (sD t)) (.lst (l.map fun t => .tup (sD t))) (.bl false) := by
  have h2 := rv_notInT' (K := K) (a := PySem.W.Tup.mk t) (bs := l.map PySem.W.Tup.mk) (tupS_of t) (takes_of l) (by decide)
  rwa [decide_eq_true (List.mem_map.mpr ⟨t, h, rfl⟩)] at h2
theorem label_get {s : Sto} (ok : Okay s) {md : Mnd} (h : md ∈ s.mends) : valD (skD (s.mends.map fun md => (md.label, encTm md))) (.inr md.label) = some (encTm md) := by
  rw [valD_sk]
  have : (s.mends.map fun md => (md.label, encTm md)).find? (fun kd => decide (kd.1 = md.label)) = some (md.label, encTm md) := by
    refine find_unique (List.mem_map.mpr ⟨md, h, rfl⟩) (decide_eq_true rfl) fun y hy hp => ?_
    obtain ⟨md', h', rfl⟩ := List.mem_map.mp hy
    have e : md'.label = md.label := of_decide_eq_true hp
    rw [nodup_map_eq ok.lab h' h e]
  rw [this]
  rfl
theorem wayS_len (s : Sto) (rd : List (Str × Option Int)) (j : Option Nat) (m : Nat) : (wayS s rd j m).length ≤ idxJ s rd j := by
  unfold wayS
  split
  · exact Nat.zero_le _
  · unfold stepsW
    exact Nat.le_trans (trace_len s rd _ m) (idx_row s rd j)
theorem way_row (s : Sto) (rd : List (Str × Option Int)) (j : Option Nat) : rowK s rd ((rowsOf s rd).idxOf (rowK s rd (idxJ s rd j))) = rowK s rd (idxJ s rd j) := by
  have hi := List.idxOf_lt_length_iff.mpr (row_mem s rd j)
  have h1 := rowsOf_get (s := s) (r := rd) (k := (rowsOf s rd).idxOf (rowK s rd (idxJ s rd j))) (by rw [rowsOf_len] at hi; omega)
  rw [List.getElem?_eq_getElem hi, List.getElem_idxOf hi] at h1
  exact (Option.some.inj h1).symm
abbrev s__law_steps_right : Stmt := topS 68
theorem sc__law_steps_right : FnScope ["_law_store_here", "_law_lot", "_law_reader", "_law_mends", "_law_told", "_law_labels", "_law_total", "_law_step", "_law_end_here", "_law_mend"] ["_law_store_here", "_law_lot", "_law_reader", "_law_mends", "_law_told"] (defScope s__law_steps_right) := ⟨rfl, rfl, rfl, by decide +kernel, rfl, by decide +kernel, by decide +kernel⟩
set_option maxHeartbeats 16000000 in
theorem ok__law_steps_right {P : Program} {w : World} {K : PySem.W.Frag} {mg : Str → Option Value} {base : Heap} {c : Cls4} {f : Addr} {fd : FuncData} (B : Blt mg) (hc : ClsOk K c mg)
    (h__law_takes : Fn P w K mg base "_law_takes" 2 ["_law_store_here", "_law_mend"] (spP K R_takes))
    (h__law_price : Fn P w K mg base "_law_price" 2 ["_law_store_here", "_law_lot", "_law_mend", "_law_taken"] (spP K R_lprice))
    (h__law_next_lot : Fn P w K mg base "_law_next_lot" 2 ["_law_store_here", "_law_lot", "_law_mend", "_law_taken"] (spP K R_next))
    (h__law_end : Fn P w K mg base "_law_end" 1 ["_law_store_here", "_law_lot", "_law_reader"] (spP K R_lend)) (F : FD K "_law_steps_right" "_law_steps_right" s__law_steps_right f fd) : FnOk P w K mg base CX0 3 f fd ["_law_store_here", "_law_lot", "_law_reader", "_law_mends", "_law_told"] (spP K (R_right c)) := by
  have sc := sc__law_steps_right
  refine F.ok sc (fun vs H Q E h => len_P (n := 5) len__law_steps_right h) (fun cdv A outer s H vs Q E hr h => ?_)
  have hu := hu_of hr
  refine ⟨_, PSs.nox ((pss_cons (ps_if (PW.pt (pw_or (pt_not (pt_val (pe_callB (xc_isi (K := K)) (by rfl) B.isinstance boot_isinstance (pa_cons (pv 4) (pa_cons (pe_cls (by rfl) hc.gW) pa_nil))))) (pw_or1 (pt_not (pt_val (pe_callB (xc_isi (K := K)) (by rfl) B.isinstance boot_isinstance (pa_cons (xe_fld (K := K) (pv 4) rfl) (pa_cons (pe_bltn (v := .ty "tuple") (by rfl) B.tuple boot_tuple rfl) pa_nil))))))))
        (pss_one (ps_ret pe_bl))
        pss_nil) 
      (pss_cons (ps_if (PW.pt (pw_and (pt_cmpR xo_notN (pv 3) pe_non (nomark _)) (pw_and1 (pt_cmpR op_gt (pe_callB (xc_len (K := K)) (by rfl) B.len boot_len (pa_cons (xe_fld (K := K) (pv 4) rfl) pa_nil)) (pv 3) (nomark _)))))
        (pss_one (ps_ret pe_bl))
        pss_nil) 
      (pss_cons (ps_set (i := 5) sc.nd rfl (Or.inl rfl) (pe_callTy (xc_dictP (K := K) rfl) (by rfl) B.dict boot_dict (pa_cons (pe_lc (own := [("_law_mend", 9)]) rfl sc.nd (xi_list (K := K) (pe_dget hu (pv 0) pe_str (fun _ _ => rfl))) (blkOk_by (own := [("_law_mend", 9)]) (N := ["_law_store_here", "_law_lot", "_law_reader", "_law_mends", "_law_told", "_law_labels", "_law_total", "_law_step", "_law_end_here", "_law_mend"]) (sc := defScope s__law_steps_right) (by decide +kernel)) (fun _ _ _ _ _ => (pg_name (i := 9) sc.nd rfl (Or.inl rfl))) (fun _ _ _ _ _ => pts_nil) (fun _ _ _ _ _ => (pe_tup (pa_cons (pe_dget hu (pv 9) pe_str (fun _ _ => rfl)) (pa_cons (pv 9) pa_nil))))) pa_nil))) 
      (pss_cons (ps_set (i := 6) sc.nd rfl (Or.inl rfl) pe_int) 
      (pss_cons (ps_for PassesOwn.never rfl (xi_tup (K := K) (xe_fld (K := K) (pv 4) rfl)) (pg_name (i := 7) sc.nd rfl (Or.inl rfl))
        (pss_cons (ps_if (PW.pt (pw_or (pt_not (pt_val (pe_callB (xc_isi (K := K)) (by rfl) B.isinstance boot_isinstance (pa_cons (pv 7) (pa_cons (pe_bltn (v := .ty "tuple") (by rfl) B.tuple boot_tuple rfl) pa_nil))))) (pw_or (pt_cmpR op_ne (pe_callB (xc_len (K := K)) (by rfl) B.len boot_len (pa_cons (pv 7) pa_nil)) pe_int (nomark _)) (pw_or1 (pt_cmp (pc_dnotin hu (pe_ix (xx_tup (K := K)) (pv 7) pe_int (fun _ _ => rfl)) (pv 5)))))))
          (pss_one (ps_ret pe_bl))
          pss_nil) 
        (pss_cons (ps_if (pt_cmpR (xo_notInP (K := K) hr.units) (pe_ix (xx_tup (K := K)) (pv 7) pe_int (fun _ _ => rfl)) (pe_fn h__law_takes (hr.mono (by decide)) (by rfl) (pa_cons (pv 0) (pa_cons (pe_dget hu (pv 5) (pe_ix (xx_tup (K := K)) (pv 7) pe_int (fun _ _ => rfl)) (fun _ _ => rfl)) pa_nil))) rfl)
          (pss_one (ps_ret pe_bl))
          pss_nil) 
        (pss_cons (ps_set (i := 6) sc.nd rfl (Or.inl rfl) (pe_op op_add (pv 6) (pe_fn h__law_price (hr.mono (by decide)) (by rfl) (pa_cons (pv 0) (pa_cons (pv 1) (pa_cons (pe_dget hu (pv 5) (pe_ix (xx_tup (K := K)) (pv 7) pe_int (fun _ _ => rfl)) (fun _ _ => rfl)) (pa_cons (pe_ix (xx_tup (K := K)) (pv 7) pe_int (fun _ _ => rfl)) pa_nil))))))) 
        (pss_one (ps_set (i := 1) sc.nd rfl (Or.inl rfl) (pe_fn h__law_next_lot (hr.mono (by decide)) (by rfl) (pa_cons (pv 0) (pa_cons (pv 1) (pa_cons (pe_dget hu (pv 5) (pe_ix (xx_tup (K := K)) (pv 7) pe_int (fun _ _ => rfl)) (fun _ _ => rfl)) (pa_cons (pe_ix (xx_tup (K := K)) (pv 7) pe_int (fun _ _ => rfl)) pa_nil))))))))))) 
      (pss_cons (ps_set (i := 8) sc.nd rfl (Or.inl rfl) (pe_fn h__law_end (hr.mono (by decide)) (by rfl) (pa_cons (pv 0) (pa_cons (pv 1) (pa_cons (pv 2) pa_nil))))) 
      (pss_one (ps_ret (pe_and (pe_cmpR xo_notN (pv 8) pe_non (nomark _)) (pe_one (pe_cmpR op_eq (pe_op op_add (pv 6) (pv 8)) (xe_fld (K := K) (pv 4) rfl) (nomark _))))))))))))), read_P h ?_⟩
  rintro ds d ⟨s, rd, r, m, j, ok, hrd, fx, hm, hne, rfl, rfl⟩
  obtain ⟨t, ht⟩ := Option.ne_none_iff_exists'.mp hne
  have few := ok.few
  have mfew := ok.mfew
  have hS : wayS s rd j m = trace s rd ((rowsOf s rd).idxOf (rowK s rd (idxJ s rd j))) m := by
    unfold wayS
    rw [if_neg hne]
    rfl
  refine run_seq (run_no (EdT.is (et_or (et_not (et_B (ed_isiW hc (ed_var rfl)))) fun _ => et_not (et_B (ed_isi (ed_W_steps hc (ed_var rfl)) rfl kit_tt))) rfl) (run_next ?_))
  refine run_seq (run_no ?_ (run_next ?_))
  · cases j with
    | none => exact EdT.is (et_and (b := false) (et_test (ed_op (ed_var rfl) ed_non rv_notN)) fun h => Bool.noConfusion h) rfl
    | some n =>
      refine EdT.is (et_and (et_test (ed_op (ed_var rfl) ed_non rv_notN)) fun _ => et_test (ed_op (ed_cb (ea_cons (ed_W_steps hc (ed_var rfl)) ea_nil) rc_lenT) (ed_var rfl) rv_bl)) ?_
      have h1 := wayS_len s rd (some n) m
      have h2 : idxJ s rd (some n) ≤ n := Nat.min_le_left _ _
      rw [List.length_map]
      show (true && decide ((n : Int) < (((wayS s rd (some n) m).length : Nat) : Int))) = false
      rw [Bool.true_and]
      exact decide_eq_false (by omega)
  refine run_seq (run_asg (ed_cb (ea_cons (EvD.is (y := .lst (pairsS (s.mends.map fun md => (md.label, encTm md)))) (ed_lc0 encTm (fun md => D.tup [.str md.label, encTm md]) (it_list (ed_T_mends (ed_var rfl))) (by omega) fun md hmd => ⟨_, _, tg_name, by simp, ed_tup (ea_cons (ed_Tm_label (ed_var rfl)) (ea_cons (ed_var rfl) ea_nil)) (show 2 ≤ 100000 by decide)⟩) (by unfold pairsS; rw [List.map_map]; rfl)) ea_nil) (rc_dict (by
    have e : (s.mends.map fun md => (md.label, encTm md)).map (·.1) = s.mends.map Mnd.label := by rw [List.map_map]; rfl
    rw [e]; exact ok.lab))) ?_)
  refine run_seq (run_asg (ed_int 0) ?_)
  let labels : D := .dk (skD (s.mends.map fun md => (md.label, encTm md)))
  let way : D := encWay c (wayT s rd j m) (wayS s rd j m)
  refine run_seq (run_for (items := (wayS s rd j m).map encSp) (it_tup (ed_W_steps hc (ed_var rfl))) (fun i ρ μ => ∃ cur l v z x7, (wayS s rd j m).drop i = trace s rd l cur ∧ cur < 2 ^ s.nodes.length ∧ (rowK s rd l).getD cur none = some v ∧ z = t - v ∧ ρ = [some (encT s), some (lotD s cur), some (.int r), some (optN j), some way, some labels, some (.int z), x7, none, none] ∧ μ = []) ?_ (fun i d ρ1 μ1 hi hI => ?_) fun ρ1 μ1 hI => ?_)
  · refine ⟨m, _, t, 0, none, by rw [List.drop_zero]; exact hS, hm, ?_, by omega, rfl, rfl⟩
    rw [way_row]
    exact ht
  · obtain ⟨cur, l, v, z, x7, htr, hcur, hv, hz, rfl, rfl⟩ := hI
    rw [List.getElem?_map] at hi
    cases ha : (wayS s rd j m)[i]? with
    | none => rw [ha] at hi; cases hi
    | some a =>
      rw [ha] at hi
      have hi : encSp a = d := Option.some.inj hi
      subst hi
      have hdr : (wayS s rd j m).drop i = a :: (wayS s rd j m).drop (i + 1) := by
        obtain ⟨h1, h2⟩ := List.getElem?_eq_some_iff.mp ha
        rw [List.drop_eq_getElem_cons h1, h2]
      rw [hdr] at htr
      obtain ⟨l', p, x, hl', hp, hap, hrest, hx, hvv⟩ := trace_cons l cur htr.symm
      have hmv := hp
      unfold movesOf at hmv
      obtain ⟨md, hmd, hmv⟩ := List.mem_flatMap.mp hmv
      obtain ⟨st, hst, hpe⟩ := List.mem_map.mp hmv
      subst hpe
      subst hap
      have mok := ok.mends md hmd
      have hlab := label_get ok hmd
      have htk : st.2.1 ∈ takesOf s md := (takes_iff (m := cur) ok mok _).mpr (List.mem_map.mpr ⟨st, hst, rfl⟩)
      have hpx : v = st.1 + x := Option.some.inj (hv.symm.trans hvv)
      refine ⟨_, _, tg_name, run_seq (run_no (EdT.is (et_or (et_not (et_B (ed_isi (ed_var rfl) rfl kit_tt))) fun _ => et_or (et_test (ed_op (ed_cb (ea_cons (ed_var rfl) ea_nil) rc_lenT) (ed_int 2) (rv_ne rfl rfl rfl))) fun _ => et_B (et_dnotin (s := md.label) (ed_op (ed_var rfl) (ed_int 0) (rv_ixT rfl)) (ed_var rfl))) (by rw [hlab]; rfl)) (run_next ?_))⟩
      refine run_seq (run_no (et_test (ed_op (ed_op (ed_var rfl) (ed_int 1) (rv_ixT rfl)) (ed_call (ea_cons (ed_var rfl) (ea_cons (ed_dget (ed_var rfl) (ed_op (ed_var rfl) (ed_int 0) (rv_ixT rfl)) hlab) ea_nil)) ⟨s, md, ok, mok, rfl, rfl⟩) (rv_take htk))) (run_next ?_))
      refine run_seq (run_asg (ed_op (ed_var rfl) (ed_call (ea_cons (ed_var rfl) (ea_cons (ed_var rfl) (ea_cons (ed_dget (ed_var rfl) (ed_op (ed_var rfl) (ed_int 0) (rv_ixT rfl)) hlab) (ea_cons (ed_op (ed_var rfl) (ed_int 1) (rv_ixT rfl)) ea_nil)))) ⟨s, md, st, cur, ok, mok, hst, rfl, rfl⟩) rv_int) ?_)
      refine run_asg (ed_call (ea_cons (ed_var rfl) (ea_cons (ed_var rfl) (ea_cons (ed_dget (ed_var rfl) (ed_op (ed_var rfl) (ed_int 0) (rv_ixT rfl)) hlab) (ea_cons (ed_op (ed_var rfl) (ed_int 1) (rv_ixT rfl)) ea_nil)))) ⟨s, md, st, cur, ok, mok, hcur, hst, rfl, rfl⟩) ?_
      exact ⟨st.2.2, l', x, z + st.1, _, hrest, steps_lt ok mok hcur hst, hx, by omega, rfl, rfl⟩
  · obtain ⟨cur, l, v, z, x7, htr, hcur, hv, hz, rfl, rfl⟩ := hI
    have hnil : trace s rd l cur = [] := by rw [← htr, List.length_map, List.drop_length]
    have hend : endP s.nodes cur rd = some v := by rw [← row_zero hcur, ← trace_nil l cur hcur hnil]; exact hv
    refine run_seq (run_asg (d := .int v) (EvD.is (ed_call (ea_cons (ed_var rfl) (ea_cons (ed_var rfl) (ea_cons (ed_var rfl) ea_nil))) ⟨s, rd, cur, r, ok, hrd, rfl, rfl⟩) (by rw [hend]; rfl)) ?_)
    refine run_ret (ed_andV (ed_op (ed_var rfl) ed_non rv_notN) fun _ => ed_op (ed_op (ed_var rfl) (ed_var rfl) rv_int) (EvD.is (y := .int t) (ed_W_total hc (ed_var rfl)) (by rw [ht]; rfl)) (rv_eq rfl rfl rfl)) ?_
    have : z + v = t := by omega
    rw [this]
    simp [isNon]
end Am
/-! Plain: the rows stand still. -/
namespace Am
open PySem PySem.Spec PyProof.Rows L2
theorem outs_nn {nodes : List Str} {m : Nat} : ∀ {hs : List Str} {as : List Int}, (∀ a ∈ as, 0 ≤ a) → 0 ≤ outs nodes m hs as
  | [], _, _ => by simp [outs]
  | _ :: _, [], _ => by simp [outs]
  | h :: hs, a :: as, hh => by
    have ih := outs_nn (nodes := nodes) (m := m) (hs := hs) (as := as) fun x hx => hh x (List.mem_cons_of_mem _ hx)
    have := hh a (List.mem_cons_self ..)
    show 0 ≤ (if m.testBit (nodes.idxOf h) then 0 else a) + outs nodes m hs as
    split <;> omega
theorem room_nn {s : Sto} (ok : Okay s) (v : Str) : 0 ≤ roomOf s v := by
  unfold roomOf
  rw [List.getD_eq_getElem?_getD]
  cases h : s.rooms[s.nodes.idxOf v]? with
  | none => exact Int.le_refl _
  | some x => exact ok.r0 x (List.mem_of_getElem? h)
theorem pp1_nn {r0 r1 l0 l1 sw : Int} (h0 : 0 ≤ r0) (h1 : 0 ≤ r1) (h2 : 0 ≤ l0) (h3 : 0 ≤ l1) (h4 : 0 ≤ sw) (t0 t1 k0 k1 : Bool) : 0 ≤ pp1 r0 r1 l0 l1 sw t0 t1 k0 k1 := by
  unfold pp1
  cases t0 <;> cases t1 <;> cases k0 <;> cases k1 <;> simp <;> (try split) <;> (try split) <;> omega
theorem ppO_nn {r0 r1 l0 l1 sw : Int} (h0 : 0 ≤ r0) (h1 : 0 ≤ r1) (h2 : 0 ≤ l0) (h3 : 0 ≤ l1) (h4 : 0 ≤ sw) (t0 t1 : Bool) : 0 ≤ (ppO r0 r1 l0 l1 sw t0 t1).getD 0 := by
  have a := pp1_nn h0 h1 h2 h3 h4 t0 t1 false false
  have b := pp1_nn h0 h1 h2 h3 h4 t0 t1 false true
  have c := pp1_nn h0 h1 h2 h3 h4 t0 t1 true false
  have d := pp1_nn h0 h1 h2 h3 h4 t0 t1 true true
  unfold ppO
  show 0 ≤ (least (least (least (some _) (some _)) (some _)) (some _)).getD 0
  simp only [least, Option.getD_some]
  split <;> split <;> split <;> omega
theorem steps_nn {s : Sto} (ok : Okay s) {md : Mnd} (mok : MndOk s.nodes md) {m : Nat} {st : Stp} (h : st ∈ stepsM s m md) : 0 ≤ st.1 := by
  cases md with
  | one l v hs as =>
    obtain ⟨_, _, _, _, ha⟩ := mok.one l v hs as rfl
    simp only [stepsM, List.mem_cons, List.not_mem_nil, or_false] at h
    rcases h with rfl | rfl
    · exact Int.le_refl _
    · have h1 := outs_nn (nodes := s.nodes) (m := m) (hs := hs) ha
      have h2 := room_nn ok v
      show 0 ≤ if outs s.nodes m hs as < roomOf s v then outs s.nodes m hs as else roomOf s v
      split <;> assumption
  | two l u v h1 h2 a1 a2 sw =>
    obtain ⟨_, _, _, _, _, _, _, _, _, ha1, ha2, hs⟩ := mok.two l u v h1 h2 a1 a2 sw rfl
    rw [stepsM_two] at h
    rcases List.mem_cons.mp h with rfl | h
    · exact Int.le_refl _
    · obtain ⟨t, _, rfl⟩ := List.mem_map.mp h
      exact ppO_nn (room_nn ok u) (room_nn ok v) (outs_nn ha1) (outs_nn ha2) hs t.1 t.2
theorem moves_nn {s : Sto} (ok : Okay s) {m : Nat} {p : Mv} (h : p ∈ movesOf s m) : 0 ≤ p.2.1 := by
  unfold movesOf at h
  obtain ⟨md, hmd, h⟩ := List.mem_flatMap.mp h
  obtain ⟨st, hst, rfl⟩ := List.mem_map.mp h
  exact steps_nn ok (ok.mends md hmd) hst
section
variable {s : Sto} {r : List (Str × Option Int)}
theorem row_succ {v : Nat} (hv : v < 2 ^ s.nodes.length) (k : Nat) : (rowK s r (k + 1)).getD v none = best1 (rowK s r k) (movesOf s v) ((rowK s r k).getD v none) := by
  have h1 := getD_row (l := rowK s r k) (i := v) (by rw [rowK_len]; exact hv)
  rw [List.getD_eq_getElem?_getD]
  show ((nxt s (rowK s r k))[v]?).getD none = _
  rw [nxt_get s h1]
  rfl
theorem row_mono1 {v : Nat} (hv : v < 2 ^ s.nodes.length) {k : Nat} {b : Int} (h : (rowK s r k).getD v none = some b) : ∃ a, (rowK s r (k + 1)).getD v none = some a ∧ a ≤ b := by
  rw [row_succ hv]
  exact (best1_le (rowK s r k) (movesOf s v) _).1 b h
theorem row_mono {v : Nat} (hv : v < 2 ^ s.nodes.length) {k : Nat} {b : Int} (h : (rowK s r k).getD v none = some b) : ∀ d, ∃ a, (rowK s r (k + d)).getD v none = some a ∧ a ≤ b
  | 0 => ⟨b, h, Int.le_refl _⟩
  | d + 1 => by
    obtain ⟨a, h1, h2⟩ := row_mono hv h d
    obtain ⟨a', h3, h4⟩ := row_mono1 hv h1
    exact ⟨a', h3, Int.le_trans h4 h2⟩
def Chg (s : Sto) (r : List (Str × Option Int)) (k v : Nat) : Prop := v < 2 ^ s.nodes.length ∧ (rowK s r (k + 1)).getD v none ≠ (rowK s r k).getD v none
theorem chg_some {k v : Nat} (h : Chg s r k v) : ∃ a, (rowK s r (k + 1)).getD v none = some a := by
  obtain ⟨hv, hne⟩ := h
  rw [row_succ hv] at hne ⊢
  rcases best1_or (rowK s r k) (movesOf s v) ((rowK s r k).getD v none) with e | ⟨p, _, x, _, h4⟩
  · exact absurd e hne
  · exact ⟨_, h4⟩
theorem chg_lt {k v : Nat} (h : Chg s r k v) {a b : Int} (ha : (rowK s r (k + 1)).getD v none = some a) (hb : (rowK s r k).getD v none = some b) : a < b := by
  obtain ⟨a', h1, h2⟩ := row_mono1 h.1 hb
  rw [ha] at h1
  have e : a = a' := Option.some.inj h1
  have hne := h.2
  rw [ha, hb] at hne
  have : a ≠ b := fun z => hne (by rw [z])
  omega
theorem chg_back (ok : Okay s) {k v : Nat} (h : Chg s r (k + 1) v) {a : Int} (ha : (rowK s r (k + 2)).getD v none = some a) : ∃ u b, Chg s r k u ∧ (rowK s r (k + 1)).getD u none = some b ∧ b ≤ a := by
  obtain ⟨hv, hne⟩ := h
  have e2 := row_succ (s := s) (r := r) hv (k + 1)
  rcases best1_or (rowK s r (k + 1)) (movesOf s v) ((rowK s r (k + 1)).getD v none) with e | ⟨p, hp, x, hx, h4⟩
  · exact absurd (e2.trans e) hne
  · have hto := moves_lt ok hv hp
    have hpn := moves_nn ok hp
    have hax : a = p.2.1 + x := Option.some.inj (ha.symm.trans (e2.trans h4))
    refine ⟨p.2.2.2, x, ⟨hto, fun e => hne ?_⟩, hx, by omega⟩
    have hx0 : (rowK s r k).getD p.2.2.2 none = some x := by rw [← e]; exact hx
    obtain ⟨z, hz, hzle⟩ := (best1_le (rowK s r k) (movesOf s v) ((rowK s r k).getD v none)).2 p hp x hx0
    rw [← row_succ hv] at hz
    obtain ⟨a', h5, h6⟩ := row_mono1 hv hz
    rw [ha] at h5
    have : a = a' := Option.some.inj h5
    rw [ha, hz]
    congr 1
    omega
theorem chain (ok : Okay s) : ∀ (k v : Nat) (a : Int), Chg s r k v → (rowK s r (k + 1)).getD v none = some a → ∃ L : List Nat, L.length = k + 1 ∧ L.Nodup ∧ ∀ u ∈ L, u < 2 ^ s.nodes.length ∧ ∃ i, i ≤ k ∧ ∃ b, (rowK s r (i + 1)).getD u none = some b ∧ b ≤ a
  | 0, v, a, h, ha => ⟨[v], rfl, by simp, fun u hu => by
    have : u = v := by simpa using hu
    subst this
    exact ⟨h.1, 0, Nat.le_refl _, a, ha, Int.le_refl _⟩⟩
  | k + 1, v, a, h, ha => by
    obtain ⟨u, b, hu, hb, hba⟩ := chg_back ok h ha
    obtain ⟨L, h1, h2, h3⟩ := chain ok k u b hu hb
    refine ⟨v :: L, by rw [List.length_cons, h1], ?_, fun w hw => ?_⟩
    · rw [List.nodup_cons]
      refine ⟨fun hv => ?_, h2⟩
      obtain ⟨_, i, hi, c, hc, hcb⟩ := h3 v hv
      obtain ⟨c', h5, h6⟩ := row_mono h.1 hc (k - i)
      rw [show i + 1 + (k - i) = k + 1 by omega] at h5
      have := chg_lt h ha h5
      omega
    · rcases List.mem_cons.mp hw with rfl | hw
      · exact ⟨h.1, k + 1, Nat.le_refl _, a, ha, Int.le_refl _⟩
      · obtain ⟨q1, i, hi, c, hc, hcb⟩ := h3 w hw
        exact ⟨q1, i, by omega, c, hc, by omega⟩
theorem nodup_few : ∀ (N : Nat) (L : List Nat), L.Nodup → (∀ x ∈ L, x < N) → L.length ≤ N
  | 0, L, _, h => by
    cases L with
    | nil => exact Nat.le_refl _
    | cons a L => exact absurd (h a (List.mem_cons_self ..)) (Nat.not_lt_zero _)
  | N + 1, L, nd, h => by
    by_cases hN : N ∈ L
    · have h1 := nodup_few N (L.erase N) (nd.erase N) fun x hx => by
        have hx' := (nd.mem_erase_iff).mp hx
        have := h x hx'.2
        have := hx'.1
        omega
      have := List.length_erase_of_mem hN
      have : 0 < L.length := List.length_pos_of_mem hN
      omega
    · have := nodup_few N L nd fun x hx => by
        have := h x hx
        have : x ≠ N := fun z => hN (z ▸ hx)
        omega
      omega
theorem row_ext {l1 l2 : Row} (h : l1.length = l2.length) (hv : ∀ v, v < l1.length → l1.getD v none = l2.getD v none) : l1 = l2 := by
  refine List.ext_getElem? fun k => ?_
  rcases Nat.lt_or_ge k l1.length with hk | hk
  · rw [getD_row hk, getD_row (by omega), hv k hk]
  · rw [List.getElem?_eq_none hk, List.getElem?_eq_none (by omega)]
theorem fix_of (ok : Okay s) : Fix s r := by
  refine ⟨40, by decide, ?_⟩
  refine row_ext (by rw [rowK_len, rowK_len]) fun v hv => ?_
  rw [rowK_len] at hv
  by_cases e : (rowK s r (40 + 1)).getD v none = (rowK s r 40).getD v none
  · exact e
  · exfalso
    have hc : Chg s r 40 v := ⟨hv, e⟩
    obtain ⟨a, ha⟩ := chg_some hc
    obtain ⟨L, h1, h2, h3⟩ := chain ok 40 v a hc ha
    have h4 := nodup_few _ L h2 fun x hx => (h3 x hx).1
    have := pow_few ok
    omega
end
end Am
/-! A rule of my own: list(zip(xs, ys)), two lists. -/
namespace PySem.W
open PySem PySem.Calls PyProof.Rows PyProof.V PySem.Spec
theorem zip_no_len : typeLookup (.type "zip") "__len__" = pure none := by rw [typeLookup_type, builtinLookup_eq_fast]; kernel_rfl
theorem zip_no_hint : typeLookup (.type "zip") "__length_hint__" = pure none := by rw [typeLookup_type, builtinLookup_eq_fast]; kernel_rfl
structure ZlG (xs ys : Array Value) (lo : Addr) (h : Heap) (as : List Addr) : Prop where
  rise : as.Pairwise (· < ·)
  above : ∀ a ∈ as, lo < a
  pairs : ∀ (j : Nat) (a : Addr), as[j]? = some a → ∃ x y, xs[j]? = some x ∧ ys[j]? = some y ∧ h.get? a = some { cls := .type "tuple", data := .seq #[x, y] }
theorem ZlG.there {xs ys : Array Value} {lo : Addr} {h : Heap} {as : List Addr} (g : ZlG xs ys lo h as) {a : Addr} (ha : a ∈ as) : a < h.objs.size := by
  obtain ⟨j, hj⟩ := List.mem_iff_getElem?.mp ha
  obtain ⟨_, _, _, _, e⟩ := g.pairs j a hj
  exact Heap.lt_size e
theorem ZlG.low {xs ys : Array Value} {lo lo' : Addr} {h : Heap} {as : List Addr} (g : ZlG xs ys lo h as) (hl : lo' ≤ lo) : ZlG xs ys lo' h as := ⟨g.rise, fun a ha => Nat.lt_of_le_of_lt hl (g.above a ha), g.pairs⟩
/-- the zip at its i-th turn -/
def ZlS (S z TI TO i1 i2 l1 l2 : Addr) (xs ys : Array Value) (i : Nat) (h : Heap) : Prop :=
  IsPair h TI (.ref i1) (.ref i2) ∧ h.IsListIter i1 l1 i ∧ h.IsListIter i2 l2 i ∧ h.IsList l1 xs ∧ h.IsList l2 ys ∧
    ((IsZip h z TI TO .none ∧ ∃ a b, IsPair h TO a b) ∨ ∃ T f oT, IsZipHeld h z TI TO T f ∧ h.get? T = some oT ∧ T ≠ z ∧ T ≠ i1 ∧ T ≠ i2 ∧ T ≠ S)
/-- the zip's own things lie apart from the list, and below it -/
structure ZlA (S z TI TO i1 i2 l1 l2 : Addr) : Prop where
  D : ZipApart z TI TO i1 i2 l1 l2
  z : z < S
  TI : TI < S
  TO : TO < S
  i1 : i1 < S
  i2 : i2 < S
  l1 : l1 < S
  l2 : l2 < S
section
variable {prog : Program} {w : World} {A : Around} {E : Value → Shared → Prop} {s : Shared} {S z TI TO i1 i2 l1 l2 : Addr} {xs ys : Array Value}
theorem ZlS.keep {i : Nat} {h h' : Heap} (B : ZlA S z TI TO i1 i2 l1 l2) (st : ZlS S z TI TO i1 i2 l1 l2 xs ys i h) (hk : ∀ b o, b ≠ S → h.get? b = some o → h'.get? b = some o) : ZlS S z TI TO i1 i2 l1 l2 xs ys i h' := by
  obtain ⟨hTI, h1, h2, hl1, hl2, hz⟩ := st
  refine ⟨hk _ _ (Nat.ne_of_lt B.TI) hTI, h1.at fun o e => hk _ o (Nat.ne_of_lt B.i1) e, h2.at fun o e => hk _ o (Nat.ne_of_lt B.i2) e, hl1.at fun o e => hk _ o (Nat.ne_of_lt B.l1) e, hl2.at fun o e => hk _ o (Nat.ne_of_lt B.l2) e, ?_⟩
  rcases hz with ⟨hz, a, b, hTO⟩ | ⟨T, f, oT, hz, hT, r1, r2, r3, r4⟩
  · exact .inl ⟨hk _ _ (Nat.ne_of_lt B.z) hz, a, b, hk _ _ (Nat.ne_of_lt B.TO) hTO⟩
  · exact .inr ⟨T, f, oT, hk _ _ (Nat.ne_of_lt B.z) hz, hk _ _ r4 hT, r1, r2, r3, r4⟩
theorem zl_item {i : Nat} {Q : Option Value → Shared → Prop} (B : ZlA S z TI TO i1 i2 l1 l2) (st : ZlS S z TI TO i1 i2 l1 l2 xs ys i s.heap) (hS : S < s.heap.objs.size) (hix : i < xs.size) (hiy : i < ys.size)
    (hQ : ∀ h', ZlS S z TI TO i1 i2 l1 l2 xs ys (i + 1) h' → h'.get? s.heap.objs.size = some { cls := .type "tuple", data := .seq #[xs[i], ys[i]] } → h'.objs.size = s.heap.objs.size + 1 →
      (∀ b o, b ≠ z → b ≠ TO → b ≠ i1 → b ≠ i2 → s.heap.get? b = some o → h'.get? b = some o) → Q (some (.ref s.heap.objs.size)) { s with heap := h' }) :
    wpAny (model prog w) A (pyNext (.ref z)) Q E s := by
  obtain ⟨hTI, h1, h2, hl1, hl2, hz⟩ := st
  have D := B.D
  have ex := Array.getElem?_eq_getElem hix
  have ey := Array.getElem?_eq_getElem hiy
  have n1 : s.heap.objs.size ≠ i1 := Nat.ne_of_gt (Nat.lt_trans B.i1 hS)
  have n2 : s.heap.objs.size ≠ i2 := Nat.ne_of_gt (Nat.lt_trans B.i2 hS)
  have nz : s.heap.objs.size ≠ z := Nat.ne_of_gt (Nat.lt_trans B.z hS)
  rcases hz with ⟨hz, a, b, hTO⟩ | ⟨T, f, oT, hz, hT, r1, r2, r3, r4⟩
  · refine wpAny_pyNext_zip_item D hz hTI hTO h1 h2 hl1 hl2 ex ey fun h' a1 a2 a3 a4 a5 a6 hk => ?_
    exact hQ h' ⟨hk _ _ D.TIz D.TITO D.TIi1 D.TIi2 hTI, a3, a4, hl1.at fun o e => hk _ o D.l1z D.l1TO D.l1i1 D.l1i2 e, hl2.at fun o e => hk _ o D.l2z D.l2TO D.l2i1 D.l2i2 e,
        .inr ⟨s.heap.objs.size, false, _, a1, a5, nz, n1, n2, Nat.ne_of_gt hS⟩⟩ a5 a6 hk
  · refine wpAny_pyNext_zip_item_held D hz hT hTI h1 h2 hl1 hl2 ex ey fun h' a1 a3 a4 a5 a6 hk => ?_
    exact hQ h' ⟨hk _ _ D.TIz D.TIi1 D.TIi2 hTI, a3, a4, hl1.at fun o e => hk _ o D.l1z D.l1i1 D.l1i2 e, hl2.at fun o e => hk _ o D.l2z D.l2i1 D.l2i2 e,
        .inr ⟨T, true, oT, a1, hk _ _ r1 r2 r3 hT, r1, r2, r3, r4⟩⟩ a5 a6 fun b o c1 _ c3 c4 e => hk b o c1 c3 c4 e
theorem zl_done {i : Nat} {Q : Option Value → Shared → Prop} (hh : A.handled = none) (B : ZlA S z TI TO i1 i2 l1 l2) (st : ZlS S z TI TO i1 i2 l1 l2 xs ys i s.heap) (hend : xs.size ≤ i)
    (hQ : ∀ h', (∀ b o, b ≠ z → b ≠ TO → b ≠ i1 → b ≠ i2 → s.heap.get? b = some o → h'.get? b = some o) → Q none { s with heap := h' }) : wpAny (model prog w) A (pyNext (.ref z)) Q E s := by
  obtain ⟨hTI, h1, h2, hl1, hl2, hz⟩ := st
  have he : xs[i]? = none ∨ ys[i]? = none := .inl (Array.getElem?_eq_none hend)
  rcases hz with ⟨hz, a, b, hTO⟩ | ⟨T, f, oT, hz, hT, r1, r2, r3, r4⟩
  · exact wpAny_pyNext_zip_end hh B.D hz hTI hTO h1 h2 hl1 hl2 he fun h' hk => hQ h' hk
  · exact wpAny_pyNext_zip_end_held hh B.D hz hT hTI h1 h2 hl1 hl2 he fun h' hk => hQ h' fun b o c1 _ c3 c4 e => hk b o c1 c3 c4 e
end
section
variable {prog : Program} {w : World} {A : Around} {s : Shared} {R : Result → Shared → Prop} {S z TI TO i1 i2 l1 l2 : Addr} {xs ys : Array Value}
theorem zl_loop (hh : A.handled = none) (B : ZlA S z TI TO i1 i2 l1 l2) (hxy : xs.size = ys.size) (hn : xs.size ≤ sizeLine) (res : Value) {h₁ : Heap}
    (hR : ∀ h' tk acc c as, (∀ b o, b ≠ S → b ≠ z → b ≠ TO → b ≠ i1 → b ≠ i2 → h₁.get? b = some o → h'.get? b = some o) → h'.get? S = some { cls := .type "list", dict := none, data := .seq acc c, slots := #[] } → as.length = xs.size → ZlG xs ys S h' as →
      acc.toList = as.map Value.ref → R (.ok (.ret res)) { s with heap := h', toks := tk }) :
    ∀ (k i : Nat) (h : Heap) (tk c : Nat) (acc : Array Value) (as : List Addr), xs.size - i = k → i ≤ xs.size → ZlS S z TI TO i1 i2 l1 l2 xs ys i h → (∀ b o, b ≠ S → b ≠ z → b ≠ TO → b ≠ i1 → b ≠ i2 → h₁.get? b = some o → h.get? b = some o) →
      h.get? S = some { cls := .type "list", dict := none, data := .seq acc c, slots := #[] } → acc.toList = as.map Value.ref → as.length = i → ZlG xs ys S h as →
      codeAny (model prog w) A (.builtin "list.extend.loop" ⟨[.ref S, .ref z, res], []⟩) R { s with heap := h, toks := tk } := by
  have far : ∀ a, S < a → a ≠ z ∧ a ≠ TO ∧ a ≠ i1 ∧ a ≠ i2 := fun a h => ⟨Nat.ne_of_gt (Nat.lt_trans B.z h), Nat.ne_of_gt (Nat.lt_trans B.TO h), Nat.ne_of_gt (Nat.lt_trans B.i1 h), Nat.ne_of_gt (Nat.lt_trans B.i2 h)⟩
  have Sz : S ≠ z := Nat.ne_of_gt B.z
  have STO : S ≠ TO := Nat.ne_of_gt B.TO
  have Si1 : S ≠ i1 := Nat.ne_of_gt B.i1
  have Si2 : S ≠ i2 := Nat.ne_of_gt B.i2
  intro k
  induction k with
  | zero =>
    intro i h tk c acc as hk hi hst hkeep hS hacc hal hG
    refine codeAny_builtin PySem.F.entry_extend_loop ?_
    rw [Around.under_plainId PySem.F.plain_extend_loop _]
    show wpAny _ A.in1 (pyNext (.ref z) >>= _) _ _ _
    refine wpAny_bind (zl_done (s := { s with heap := h, toks := tk }) (A := A.in1) hh B hst (by omega) fun h' he => ?_)
    refine wpAny_pure (hR h' tk acc c as (fun b o h0 h1 h2 h3 h4 e => he b o h1 h2 h3 h4 (hkeep b o h0 h1 h2 h3 h4 e)) (he S _ Sz STO Si1 Si2 hS) (by omega) ⟨hG.rise, hG.above, fun j a hj => ?_⟩ hacc)
    obtain ⟨x, y, f1, f2, e3⟩ := hG.pairs j a hj
    obtain ⟨q1, q2, q3, q4⟩ := far a (hG.above a (List.mem_of_getElem? hj))
    exact ⟨x, y, f1, f2, he a _ q1 q2 q3 q4 e3⟩
  | succ k ih =>
    intro i h tk c acc as hk hi hst hkeep hS hacc hal hG
    have hlt : i < xs.size := by omega
    have hlt2 : i < ys.size := by omega
    have hsz : acc.size = i := by rw [← Array.length_toList, hacc, List.length_map, hal]
    refine codeAny_builtin PySem.F.entry_extend_loop ?_
    rw [Around.under_plainId PySem.F.plain_extend_loop _]
    show wpAny _ A.in1 (pyNext (.ref z) >>= _) _ _ _
    refine wpAny_bind (zl_item (s := { s with heap := h, toks := tk }) B hst (Heap.lt_size hS) hlt hlt2 fun h' hst' ht hz' hkp => ?_)
    dsimp only at ht hz' hkp ⊢
    have hS' := hkp S _ Sz STO Si1 Si2 hS
    have up : ∀ b o, b ≠ S → h'.get? b = some o → (h'.update S (Obj.mapSeq (·.push (Value.ref h.objs.size)))).get? b = some o := fun b o hb e => (Heap.get?_update_other _ _ (Ne.symm hb)).trans e
    have hSl : S < h.objs.size := Heap.lt_size hS
    show wpAny _ A.in1 (updateSeq S (·.push (Value.ref h.objs.size)) >>= _) _ _ _
    refine wpAny_bind ?_
    refine wpAny_updateSeq hS' rfl (wpAny_pure ⟨plainId_quiet PySem.F.plain_extend_loop _, ih (i + 1) _ tk _ (acc.push (Value.ref h.objs.size)) (as ++ [h.objs.size]) (by omega) hlt (hst'.keep B up)
      (fun b o h0 h1 h2 h3 h4 e => up b o h0 (hkp b o h1 h2 h3 h4 (hkeep b o h0 h1 h2 h3 h4 e))) (Heap.get?_update_self _ hS' rfl) (by rw [Array.toList_push, hacc, List.map_append]; rfl) (by rw [List.length_append, hal]; rfl) ⟨?_, ?_, ?_⟩⟩) (by rw [hsz]; omega) (by show (acc.push (Value.ref h.objs.size)).size ≤ sizeLine + 1; rw [Array.size_push, hsz]; omega)
    · refine List.pairwise_append.mpr ⟨hG.rise, List.pairwise_singleton _ _, fun a ha b hb => ?_⟩
      rw [List.mem_singleton.mp hb]
      exact hG.there ha
    · intro a ha
      rcases List.mem_append.mp ha with ha | ha
      · exact hG.above a ha
      · rw [List.mem_singleton.mp ha]; exact hSl
    · intro j b hj
      rcases Nat.lt_trichotomy j as.length with h1 | h1 | h1
      · rw [List.getElem?_append_left h1] at hj
        obtain ⟨x, y, f1, f2, e3⟩ := hG.pairs j b hj
        have hb := hG.above b (List.mem_of_getElem? hj)
        obtain ⟨q1, q2, q3, q4⟩ := far b hb
        exact ⟨x, y, f1, f2, up b _ (Nat.ne_of_gt hb) (hkp b _ q1 q2 q3 q4 e3)⟩
      · subst h1
        have hb : h.objs.size = b := by simpa using hj
        subst hb
        subst hal
        exact ⟨_, _, Array.getElem?_eq_getElem hlt, Array.getElem?_eq_getElem hlt2, up _ _ (Nat.ne_of_gt hSl) ht⟩
      · have hnone : (as ++ [h.objs.size])[j]? = none := List.getElem?_eq_none (by rw [List.length_append, List.length_singleton]; omega)
        rw [hnone] at hj; cases hj
end
section
variable {prog : Program} {w : World} {A : Around} {E : Value → Shared → Prop} {s : Shared} {z TI TO i1 i2 l1 l2 : Addr} {xs ys : Array Value}
theorem zl_extend {S : Addr} {R : Result → Shared → Prop} (hh : A.handled = none) (B : ZlA S z TI TO i1 i2 l1 l2) (hxy : xs.size = ys.size) (hst : ZlS S z TI TO i1 i2 l1 l2 xs ys 0 s.heap) (hzz : IsZip s.heap z TI TO .none) (res : Value) (c₀ : Nat) (hS : s.heap.get? S = some { cls := .type "list", data := .seq #[] c₀ })
    (hR : ∀ h' tk acc c as, (∀ b o, b ≠ S → b ≠ z → b ≠ TO → b ≠ i1 → b ≠ i2 → s.heap.get? b = some o → h'.get? b = some o) → h'.get? S = some { cls := .type "list", dict := none, data := .seq acc c, slots := #[] } → as.length = xs.size → ZlG xs ys S h' as →
      acc.toList = as.map Value.ref → R (.ok (.ret res)) { s with heap := h', toks := tk }) (hn : xs.size ≤ sizeLine) :
    wpAny (model prog w) A.in1 (Builtin.List.listExtendWith (.ref S) (.ref z) res)
      (fun fin s' => match fin with | .done f => R (.ok f) s' | .again c' => c'.quiet = true ∧ codeAny (model prog w) A c' R s') (fun e s' => R (.error e) s') s := by
  have hTy : s.TypeIs (.ref z) "zip" := ⟨_, hzz, rfl⟩
  unfold Builtin.List.listExtendWith
  refine wpAny_bind (wpAny_typeOf (T := "zip") hTy ?_)
  have h1 : Builtin.List.listSameRef (.ref S) (.ref z) = false := by simp [Builtin.List.listSameRef, Nat.ne_of_gt B.z]
  have h2 : (Value.type "zip" == Value.type "list") = false := by decide
  have h3 : (Value.type "zip" == Value.type "tuple") = false := by decide
  simp only [h1, h2, h3, Bool.or_false, Bool.false_eq_true, if_false]
  refine wpAny_bind (wpAny_pyIter_zip hzz ?_)
  refine wpAny_bind (wpAny_holding ?_)
  unfold Builtin.List.listLengthHint
  refine wpAny_bind (wpAny_specialOf hTy zip_no_len ?_)
  show wpAny _ A.in1 (specialOf (Value.ref z) (Str.ofString "__length_hint__") >>= _) _ _ _
  refine wpAny_bind (wpAny_specialOf hTy zip_no_hint ?_)
  refine wpAny_pure ?_
  show wpAny _ A.in1 (rule "list.extend.makes-room" >>= fun _ => Builtin.List.listTouch (.ref S) >>= fun _ => again (.builtin "list.extend.loop" ⟨[.ref S, .ref z, res], []⟩)) _ _ _
  refine wpAny_bind (wpAny_rule ?_)
  refine wpAny_bind ?_
  show wpAny _ _ (updateSeq S (·.push .none) >>= fun _ => updateSeq S (·.pop)) _ _ _
  refine wpAny_bind (wpAny_updateSeq hS rfl ?_)
  have hS₂ := Heap.get?_update_self (Obj.mapSeq (·.push Value.none)) hS rfl
  refine wpAny_updateSeq (hz := by seq_fits) hS₂ rfl ?_
  have hS₃ := Heap.get?_update_self (Obj.mapSeq (·.pop)) hS₂ rfl
  have oth : ∀ b o, b ≠ S → s.heap.get? b = some o → ((s.heap.update S (Obj.mapSeq (·.push Value.none))).update S (Obj.mapSeq (·.pop))).get? b = some o :=
    fun b o hb e => (Heap.get?_update_other _ _ (Ne.symm hb)).trans ((Heap.get?_update_other _ _ (Ne.symm hb)).trans e)
  refine wpAny_pure ⟨plainId_quiet PySem.F.plain_extend_loop _, ?_⟩
  refine zl_loop (s := s) (h₁ := s.heap) hh B hxy hn res (fun h' tk' acc c as hk' hS' hl hG hacc => hR h' tk' acc c as hk' hS' hl hG hacc) xs.size 0 _ _ _ #[] [] (Nat.sub_zero _) (Nat.zero_le _) (hst.keep B oth) (fun b o h0 _ _ _ _ e => oth b o h0 e) hS₃ rfl rfl
    ⟨List.Pairwise.nil, (fun _ ha => nomatch ha), (fun j a hj => by simp at hj)⟩
theorem zl_init {S : Addr} {R : Result → Shared → Prop} (hh : A.handled = none) (B : ZlA S z TI TO i1 i2 l1 l2) (hxy : xs.size = ys.size) (hst : ZlS S z TI TO i1 i2 l1 l2 xs ys 0 s.heap) (hzz : IsZip s.heap z TI TO .none) (hS : s.heap.get? S = some { cls := .type "list", data := .seq #[] })
    (hR : ∀ h' tk acc c as, (∀ b o, b ≠ S → b ≠ z → b ≠ TO → b ≠ i1 → b ≠ i2 → s.heap.get? b = some o → h'.get? b = some o) → h'.get? S = some { cls := .type "list", dict := none, data := .seq acc c, slots := #[] } → as.length = xs.size → ZlG xs ys S h' as →
      acc.toList = as.map Value.ref → R (.ok (.ret .none)) { s with heap := h', toks := tk }) (hn : xs.size ≤ sizeLine) :
    wpAny (model prog w) A.in1 (Builtin.«list.__init__» ⟨[.ref S, .ref z], []⟩)
      (fun fin s' => match fin with | .done f => R (.ok f) s' | .again c' => c'.quiet = true ∧ codeAny (model prog w) A c' R s') (fun e s' => R (.error e) s') s := by
  show wpAny _ _ (do let old ← Builtin.List.listItems (.ref S); Builtin.List.listUpdate (.ref S) (fun _ => #[]); letGo old.toList.reverse; Builtin.List.listExtendWith (.ref S) (.ref z) .none) _ _ s
  refine wpAny_bind ?_
  unfold Builtin.List.listItems
  refine wpAny_bind (wpAny_seqItems hS rfl (wpAny_pure ?_))
  show wpAny _ _ (updateSeq S (fun _ => #[]) >>= fun _ => letGo (#[] : Array Value).toList.reverse >>= fun _ => Builtin.List.listExtendWith (.ref S) (.ref z) .none) _ _ s
  refine wpAny_bind (wpAny_updateSeq hS rfl ?_)
  have hS₂ := Heap.get?_update_self (Obj.mapSeq (fun _ => (#[] : Array Value))) hS rfl
  have oth : ∀ b o, b ≠ S → s.heap.get? b = some o → (s.heap.update S (Obj.mapSeq (fun _ => (#[] : Array Value)))).get? b = some o :=
    fun b o hb e => (Heap.get?_update_other _ _ (Ne.symm hb)).trans e
  refine wpAny_bind (wpAny_letGo ?_)
  refine zl_extend hh B hxy (hst.keep B oth) (oth z _ (Nat.ne_of_lt B.z) hzz) .none _ hS₂ (fun h' tk acc c as hk hS' hl hG hacc => ?_) hn
  exact hR h' tk acc c as (fun b o h0 h1 h2 h3 h4 e => hk b o h0 h1 h2 h3 h4 (oth b o h0 e)) hS' hl hG hacc
theorem zl_call {Q : Value → Shared → Prop} (hh : A.handled = none) (B : ZlA s.heap.objs.size z TI TO i1 i2 l1 l2) (hxy : xs.size = ys.size) (hTI : IsPair s.heap TI (.ref i1) (.ref i2)) (hTO : ∃ a b, IsPair s.heap TO a b) (h1 : s.heap.IsListIter i1 l1 0) (h2 : s.heap.IsListIter i2 l2 0) (hl1 : s.heap.IsList l1 xs) (hl2 : s.heap.IsList l2 ys) (hzz : IsZip s.heap z TI TO .none) (hn : xs.size ≤ sizeLine)
    (hQ : ∀ h' tk acc c as, (∀ b o, b ≠ z → b ≠ TO → b ≠ i1 → b ≠ i2 → s.heap.get? b = some o → h'.get? b = some o) → h'.get? s.heap.objs.size = some { cls := .type "list", dict := none, data := .seq acc c, slots := #[] } → as.length = xs.size → ZlG xs ys s.heap.objs.size h' as →
      acc.toList = as.map Value.ref → Q (.ref s.heap.objs.size) { s with heap := h', toks := tk }) :
    wpAny (model prog w) A (call (.type "list") [.ref z]) Q E s := by
  refine callType_codes (Q₁ := fun obj s₁ => obj = .ref s.heap.objs.size ∧ s₁ = { s with heap := s.heap.push { cls := .type "list", data := .seq #[] } }) PySem.F.called_list (PySem.F.typeCall_list_1 _) PySem.F.entry_list_init
    (code_list_new _ ⟨rfl, rfl⟩) fun obj s₁ h₁ => ?_
  obtain ⟨rfl, rfl⟩ := h₁
  have hS : (s.heap.push { cls := .type "list", data := .seq #[] }).get? s.heap.objs.size = some { cls := .type "list", data := .seq #[] } := Heap.get?_push_size _ rfl
  have pk : ∀ b o, s.heap.get? b = some o → (s.heap.push { cls := .type "list", data := .seq #[] }).get? b = some o := fun b o e => Heap.get?_push_of_some _ e
  obtain ⟨a, b, hTO⟩ := hTO
  refine ⟨⟨_, hS, rfl⟩, PySem.F.args_list_init_2 _ _, zl_init (A := A.in1) hh B hxy ⟨pk _ _ hTI, h1.at fun o e => pk _ o e, h2.at fun o e => pk _ o e, hl1.at fun o e => pk _ o e, hl2.at fun o e => pk _ o e, .inl ⟨pk _ _ hzz, a, b, pk _ _ hTO⟩⟩ (pk _ _ hzz) hS (fun h' tk acc c as hk hS' hl hG hacc => ?_) hn⟩
  exact ⟨rfl, hQ h' tk acc c as (fun b o h1 h2 h3 h4 e => hk b o (Nat.ne_of_lt (Heap.lt_size e)) h1 h2 h3 h4 (pk _ _ e)) hS' hl hG hacc⟩
end
end PySem.W
/-! list(zip(xs, ys)) over the hand layer, and over data. -/
namespace Am
open PySem PySem.Spec PyProof.Rows L2
def putZ : Hp → List Addr → List (V × V) → Hp
  | H, a :: as, p :: ps => putZ (upd H a (.tup [p.1, p.2])) as ps
  | H, _, _ => H
theorem putZ_off {b : Addr} : ∀ (as : List Addr) (ps : List (V × V)) (H : Hp), b ∉ as → putZ H as ps b = H b
  | [], _, _, _ => rfl
  | _ :: _, [], _, _ => rfl
  | a :: as, p :: ps, H, h => by
    show putZ (upd H a (.tup [p.1, p.2])) as ps b = H b
    rw [putZ_off as ps _ (fun z => h (List.mem_cons_of_mem _ z)), upd_ne (fun z => h (by rw [z]; exact List.mem_cons_self))]
theorem putZ_at : ∀ (as : List Addr) (ps : List (V × V)) (H : Hp), as.length = ps.length → as.Nodup → Paired (fun (t : Addr) (p : V × V) => putZ H as ps t = some (.tup [p.1, p.2])) as ps
  | [], [], _, _, _ => .nil
  | [], _ :: _, _, h, _ => by cases h
  | _ :: _, [], _, h, _ => by cases h
  | a :: as, p :: ps, H, h, hn => by
    have hn' := List.nodup_cons.mp hn
    have ih := putZ_at as ps (upd H a (.tup [p.1, p.2])) (Nat.succ.inj h) hn'.2
    refine .cons ?_ ih
    show putZ (upd H a (.tup [p.1, p.2])) as ps a = some (.tup [p.1, p.2])
    rw [putZ_off as ps _ hn'.1, upd_same]
def tListZip (K : PySem.W.Frag) (ta : TA) : TE := fun σ H Q => ta σ H fun vs H1 => ∃ a b xs ys, vs = [.ref a, .ref b] ∧ SqL K H1 a xs ∧ SqL K H1 b ys ∧ xs.length = ys.length ∧
  ∀ (H' : Hp) (p : Addr) (ts : List Addr), Same H1 H' → H1 p = none → (∀ t ∈ ts, H1 t = none) → p ∉ ts → H' p = some (.lst (ts.map V.ref)) → Paired (fun (t : Addr) (q : V × V) => H' t = some (.tup [q.1, q.2])) ts (xs.zip ys) → Q (.ref p) H'
section
variable {X : Cx}
theorem zl_laid {pins : List (Addr × Obj)} {σ : L2.St} {H : Hp} {s : Shared} {h' : Heap} {tk : Nat} {xs ys : List V} {its its2 : List Value} {acc : Array Value} {c : Nat} {as : List Addr} {L : Addr} (I : Inv X pins σ H s) (hz : xs.length ≤ sizeLine) (hxy : xs.length = ys.length) (r1 : Vals xs its) (r2 : Vals ys its2)
    (hk : ∀ b o, s.heap.get? b = some o → h'.get? b = some o) (hL : s.heap.objs.size ≤ L) (hS : h'.get? L = some { cls := .type "list", dict := none, data := .seq acc c, slots := #[] }) (hl : as.length = xs.length) (hG : PySem.W.ZlG its.toArray its2.toArray L h' as) (hacc : acc.toList = as.map Value.ref) :
    ∃ H' : Hp, Same H H' ∧ H L = none ∧ (∀ t ∈ as, H t = none) ∧ L ∉ as ∧ H' L = some (.lst (as.map V.ref)) ∧ Paired (fun (t : Addr) (q : V × V) => H' t = some (.tup [q.1, q.2])) as (xs.zip ys) ∧ Inv X pins σ H' { s with heap := h', toks := tk } := by
  have hzl : (xs.zip ys).length = xs.length := by rw [List.length_zip, hxy, Nat.min_self]
  have hSn : L ∉ as := fun z => Nat.lt_irrefl _ (hG.above _ z)
  have nd : as.Nodup := List.Pairwise.imp (fun {a b} (h : a < b) => Nat.ne_of_lt h) hG.rise
  have new : ∀ t ∈ as, H t = none := fun t ht => I.hok.fresh (Nat.le_trans hL (Nat.le_of_lt (hG.above t ht)))
  have newS : H L = none := I.hok.fresh hL
  have atP := putZ_at as (xs.zip ys) (upd H L (.lst (as.map V.ref))) (by omega) nd
  have off : ∀ b, b ∉ as → b ≠ L → putZ (upd H L (.lst (as.map V.ref))) as (xs.zip ys) b = H b := fun b h1 h2 => by rw [putZ_off as _ _ h1, upd_ne h2]
  have low : ∀ b o, s.heap.get? b = some o → b ∉ as ∧ b ≠ L := fun b o e => ⟨fun z => absurd (Heap.lt_size e) (Nat.not_lt.mpr (Nat.le_trans hL (Nat.le_of_lt (hG.above b z)))), Nat.ne_of_lt (Nat.lt_of_lt_of_le (Heap.lt_size e) hL)⟩
  have kp : ∀ b u, H b = some u → (putZ (upd H L (.lst (as.map V.ref))) as (xs.zip ys)) b = some u := fun b u e => by
    rw [off b (fun z => by rw [new b z] at e; cases e) (fun z => by rw [z, newS] at e; cases e)]
    exact e
  have eS : putZ (upd H L (.lst (as.map V.ref))) as (xs.zip ys) L = some (.lst (as.map V.ref)) := by rw [putZ_off as _ _ hSn, upd_same]
  refine ⟨putZ (upd H L (.lst (as.map V.ref))) as (xs.zip ys), kp, newS, new, hSn, eS, atP, ?_⟩
  refine I.call' (ch := []) rfl ⟨fun b o q _ _ _ => hk b o q, fun b o q _ _ _ => ⟨o.slots, hk b o q⟩, fun b o q n _ => ?_, fun b o q _ => ⟨o, hk b o q⟩, fun b xs q => kp b _ q, fun b o u q => kp b _ q, fun b ps q => ⟨#[], by rw [kp b _ q]; simp⟩⟩ (fun b u q => ?_) I.bare fun b z => by simp at z
  · obtain ⟨z1, z2⟩ := low b o q
    rw [off b z1 z2]
    exact n
  · by_cases hb : b ∈ as
    · obtain ⟨j, pk, e1, e2, e3⟩ := LiI.paired_ix atP hb
      rw [e3] at q
      cases q
      obtain ⟨x, y, f1, f2, f3⟩ := hG.pairs j b e1
      obtain ⟨g1, g2⟩ := zip_get e2
      obtain ⟨x', hx', rx⟩ := r1.get g1
      obtain ⟨y', hy', ry⟩ := r2.get g2
      have ex : x' = x := by
        have : its.toArray[j]? = some x' := by simpa using hx'
        exact Option.some.inj (this.symm.trans f1)
      have ey : y' = y := by
        have : its2.toArray[j]? = some y' := by simpa using hy'
        exact Option.some.inj (this.symm.trans f2)
      subst ex ey
      exact ⟨by show 2 ≤ sizeLine; decide, [x', y'], .cons rx (.cons ry .nil), ⟨_, f3, rfl, _, rfl⟩⟩
    · by_cases hb2 : b = L
      · rw [hb2] at q ⊢
        rw [eS] at q
        cases q
        refine ⟨by rw [List.length_map]; omega, acc.toList, c, by rw [hacc]; exact LiI.vals_refs as, ?_⟩
        rw [Array.toArray_toList]
        exact hS
      · rw [off b hb hb2] at q
        exact (I.hok b u q).stay (fun d v _ y => hk d v y) (fun d y => kp d _ y) fun d xs y => kp d _ y
theorem pe_listZip0 {e e2 : Expr} {ta : TA} {p p2 pos pos2 : Pos} (hc : X.calm = true) (hg : Gl X "list") (hm : X.mg "list" = none) (hgz : Gl X "zip") (hmz : X.mg "zip" = none) (ha : PA X [e, e2] ta)
    (hs0 : starEach [.Call (.Name "zip" p2) [e, e2] [] pos2] X.env = (false, eval (.Call (.Name "zip" p2) [e, e2] [] pos2) X.env) :: starEach [] X.env := by rfl)
    (hs : starEach [e, e2] X.env = (false, eval e X.env) :: starEach [e2] X.env := by rfl) (hpl : (backTo pos2 (starEach [e2] X.env)).any (·.1) = false := by rfl) :
    PE X (.Call (.Name "list" p) [.Call (.Name "zip" p2) [e, e2] [] pos2] [] pos) (tListZip X.K ta) := by
  refine ⟨fun pins s σ H Q I h => ?_⟩
  refine wpAny_Call_Name_kw (ld_blt I hg hm boot_list ?_)
  refine PyProof.Rows.callWith_type1 ?_ hs0 rfl
  rw [hs0]
  show wpAny _ _ (spliced ((false, eval (.Call (.Name "zip" p2) [e, e2] [] pos2) X.env) :: backTo pos (starEach [] X.env))) _ _ s
  refine Calls.spliced_cons ?_
  refine Call_ (ld_blt I hgz hmz PyProof.Rows.boot_zip (PyProof.Rows.callWith_type1 (thn (ha.run pos2 pins s σ H _ I h) fun us s1 ⟨vs, H1, I1, r1, q1⟩ => ?_) hs hpl))
  obtain ⟨a, b, xs, ys, ex, hqx, hqy, hxy, q⟩ := q1
  subst ex
  cases r1 with
  | cons r rr =>
    cases rr with
    | cons r' rr =>
      cases rr
      cases r
      cases r'
      obtain ⟨its, rv, p1, z1⟩ := I1.list hqx
      obtain ⟨its2, rv2, p2, z2⟩ := I1.list hqy
      have la : a < s1.heap.objs.size := p1.lt
      have lb : b < s1.heap.objs.size := p2.lt
      have e1 := rv.length
      have e2 := rv2.length
      refine call_zip_2 p1.isList p2.isList fun h' hz hTI hTO h1 h2 hsz hk => ?_
      refine Calls.spliced_nil ?_
      have hh : ∀ k : Nat, k < 5 → s1.heap.objs.size + k < h'.objs.size := fun k hk => by rw [hsz]; exact Nat.add_lt_add_left hk _
      have hA : PySem.W.ZlA h'.objs.size (s1.heap.objs.size + 4) (s1.heap.objs.size + 2) (s1.heap.objs.size + 3) s1.heap.objs.size (s1.heap.objs.size + 1) a b :=
        ⟨PySem.W.ktu_apart s1.heap.objs.size a b la lb, hh 4 (by decide), hh 2 (by decide), hh 3 (by decide), hh 0 (by decide), hh 1 (by decide), Nat.lt_trans la (hh 0 (by decide)), Nat.lt_trans lb (hh 0 (by decide))⟩
      refine PySem.W.zl_call (s := { s1 with heap := h' }) (I1.ok.hd hc) hA (xs := its.toArray) (ys := its2.toArray) (by simp; omega) hTI ⟨_, _, hTO⟩ h1 h2 (p1.isList.at fun o e => hk _ o e) (p2.isList.at fun o e => hk _ o e) hz (by simp; omega) fun h'' tk acc c as hk2 hS2 hl2 hG2 hacc2 => ?_
      have hext : ∀ b o, s1.heap.get? b = some o → h''.get? b = some o := fun b o e => by
        have hb := Heap.lt_size e
        have nb : ∀ k : Nat, b ≠ s1.heap.objs.size + k := fun k => Nat.ne_of_lt (Nat.lt_of_lt_of_le hb (Nat.le_add_right _ _))
        exact hk2 b o (nb 4) (nb 3) (nb 0) (nb 1) (hk b o e)
      obtain ⟨H', k1, k2, k3, k4, k5, k6, J⟩ := zl_laid (tk := tk) I1 z1 hxy rv rv2 hext (Nat.le_of_lt (hh 0 (by decide))) hS2 (by rw [hl2]; simp; omega) hG2 hacc2
      exact ⟨.ref _, H', J, rfl, q H' _ as k1 k2 k3 k4 k5 k6⟩
theorem pe_listZip {K : PySem.W.Frag} {e e2 : Expr} {ta : TA} {p p2 pos pos2 : Pos} (hc : X.calm = true) (hg : Gl X "list") (hm : X.mg "list" = none) (hgz : Gl X "zip") (hmz : X.mg "zip" = none) (ha : PA X [e, e2] ta)
    (hs0 : starEach [.Call (.Name "zip" p2) [e, e2] [] pos2] X.env = (false, eval (.Call (.Name "zip" p2) [e, e2] [] pos2) X.env) :: starEach [] X.env := by rfl)
    (hs : starEach [e, e2] X.env = (false, eval e X.env) :: starEach [e2] X.env := by rfl) (hpl : (backTo pos2 (starEach [e2] X.env)).any (·.1) = false := by rfl) (hK : X.K = K := by rfl) :
    PE X (.Call (.Name "list" p) [.Call (.Name "zip" p2) [e, e2] [] pos2] [] pos) (tListZip K ta) := by subst hK; exact pe_listZip0 hc hg hm hgz hmz ha hs0 hs hpl
end
section
variable {K : PySem.W.Frag} {ρ : Ro} {ta : TA}
theorem paired_zip {G H' : Hp} : ∀ {ts : List Addr} {xs ys : List V} {as bs : List D}, Paired (fun (t : Addr) (q : V × V) => H' t = some (.tup [q.1, q.2])) ts (xs.zip ys) → Reps K G xs as → Reps K G ys bs → (∀ t ∈ ts, ∀ o, H' t = some o → G t = some o) → as.length = bs.length → Reps K G (ts.map V.ref) (zipD as bs)
  | _, _, _, _, _, h, .nil, .nil, _, _ => by
    cases h
    exact .nil
  | _, _, _, _, _, h, .nil, .cons _ _, _, hl => by simp at hl
  | _, _, _, _, _, h, .cons _ _, .nil, _, hl => by simp at hl
  | _, _, _, _, _, h, .cons r1 rr1, .cons r2 rr2, hg, hl => by
    rw [List.zip_cons_cons] at h
    cases h with
    | cons h1 h2 =>
      refine .cons (.tup (hg _ (List.mem_cons_self ..) _ h1) (.cons r1 (.cons r2 .nil))) (paired_zip h2 rr1 rr2 (fun t ht => hg t (List.mem_cons_of_mem _ ht)) (by simpa using hl))
theorem ed_listZip {as bs : List D} (h : EdA K ta ρ [.lst as, .lst bs]) (hl : as.length = bs.length) : EvD K (tListZip K ta) ρ (.lst (zipD as bs)) := fun G H σ s l Q q => h G H σ s l _ fun vs G1 H1 g1 r1 => by
  obtain ⟨u, v, rfl, ra, rb⟩ := two_rep r1
  cases ra with
  | lst e1 k1 =>
    cases rb with
    | lst e2 k2 =>
      rename_i a xs b ys
      refine ⟨a, b, xs, ys, rfl, .inl (.inl (g1.sub _ _ e1)), .inl (.inl (g1.sub _ _ e2)), by rw [k1.length, k2.length, hl], fun H' p ts s1 hp ht hpt hL hP => ?_⟩
      let G' : Hp := fun b => if b = p ∨ b ∈ ts then H' b else G1 b
      have gp : G' p = some (.lst (ts.map V.ref)) := by show (if p = p ∨ p ∈ ts then H' p else G1 p) = _; rw [if_pos (.inl rfl)]; exact hL
      have sG : Same G1 G' := fun b o z => by
        have hb : ¬ (b = p ∨ b ∈ ts) := fun w => by
          have hz := g1.sub _ _ z
          rcases w with w | w
          · rw [w, hp] at hz; cases hz
          · rw [ht b w] at hz; cases hz
        show (if b = p ∨ b ∈ ts then H' b else G1 b) = _
        rw [if_neg hb]; exact z
      have sH : Same G' H' := fun b o z => by
        have z : (if b = p ∨ b ∈ ts then H' b else G1 b) = some o := z
        by_cases hb : b = p ∨ b ∈ ts
        · rw [if_pos hb] at z; exact z
        · rw [if_neg hb] at z; exact s1 _ _ (g1.sub _ _ z)
      refine q _ G' H' (g1.trans ⟨sG, sH, fun a o _ z => s1 a o z, fun a z => ?_, fun a o z n => ⟨o, s1 a o z, n⟩, fun a o z _ n => ?_⟩) (.lst gp (paired_zip hP (k1.mono sG) (k2.mono sG) (fun t htt o z => ?_) hl))
      · cases w : H1 a with
        | none => exact absurd w z
        | some o => rw [s1 a o w]; exact fun z => nomatch z
      · have hb : ¬ (a = p ∨ a ∈ ts) := fun w => by
          rcases w with w | w
          · rw [w, hp] at z; cases z
          · rw [ht a w] at z; cases z
        show (if a = p ∨ a ∈ ts then H' a else G1 a) = _
        rw [if_neg hb]; exact n
      · show (if t = p ∨ t ∈ ts then H' t else G1 t) = _
        rw [if_pos (.inr htt)]; exact z
end
end Am
/-! Promises of defs that give back a new cell. -/
namespace Am
open PySem PySem.Spec PyProof.Rows L2
def spN (K : PySem.W.Frag) (R : List D → (Own → Prop) → Prop) : Sp := fun vs H Q _ => ∃ (G : Hp) (ds : List D) (Φ : Own → Prop), Same G H ∧ Reps K G vs ds ∧ R ds Φ ∧
  ∀ p u G' H', Go [] G H G' H' → H p = none → G' p = none → OwnAt K G' H' p u → Φ u → Q (.ref p) H'
theorem len_N {K : PySem.W.Frag} {R : List D → (Own → Prop) → Prop} {n : Nat} (hn : ∀ ds Φ, R ds Φ → ds.length = n) {vs : List V} {H : Hp} {Q : VK} {E : XK} (h : spN K R vs H Q E) : vs.length = n := by
  obtain ⟨G, ds, Φ, _, r, hr, _⟩ := h
  rw [r.length, hn ds Φ hr]
section
variable {K : PySem.W.Frag} {M : List Addr} {ρ : Ro} {μ : Mem} {ta tb te : TE} {P : D → Mem → Prop}
theorem read_N {R : List D → (Own → Prop) → Prop} {t : TS} {N : List Str} {vs : List V} {H : Hp} {Q : VK} {E : XK} (h : spN K R vs H Q E)
    (hR : ∀ ds Φ, R ds Φ → Run K [] t (startR N ds) [] { rt := fun d μ => ∃ p u, d = .loc p ∧ (p, u) ∈ μ ∧ Φ u }) : t { nx := fun _ H' => Q .non H', rt := Q } (L2.start N vs) H := by
  obtain ⟨G, ds, Φ, s, r, hr, q⟩ := h
  have st : Stt K [] G H G H (L2.start N vs) (startR N ds) [] := ⟨Go.refl s, sl_start r, Ce.nil, fun _ h => (nomatch h), fun _ h => (nomatch h)⟩
  refine hR ds Φ hr _ G H G H _ st ⟨fun _ _ _ _ _ _ _ p => p.elim, fun v d' σ' ρ' μ' G' H' e s' r' p => ?_, fun _ _ _ _ _ _ _ p => p.elim, fun _ _ _ _ _ _ _ p => p.elim⟩
  obtain ⟨p, u, rfl, hm, hΦ⟩ := p
  cases r'
  obtain ⟨w, gp⟩ := s'.ce.at_ _ hm
  have h0 : H p = none := by
    rcases s'.own _ hm with z | z
    · cases z
    · exact z
  exact q p u G' H' s'.go h0 gp w hΦ
theorem ev_callN {R : List D → (Own → Prop) → Prop} {ta : TA} {E : XK} (ha : EvA K M ta ρ μ fun ds μ2 => ∃ Φ, R ds Φ ∧ ∀ p u, p ∉ M → p ∉ μ2.map (·.1) → Φ u → P (.loc p) ((p, u) :: μ2)) : Ev K M (tCall (spN K R) [] E ta) ρ μ P := fun G0 H0 G H σ s Q q => ha G0 H0 G H σ s _ fun vs ds G1 H1 μ2 e1 s1 r1 ⟨Φ, hR, hP⟩ => by
  show spN K R (vs ++ []) H1 Q E
  rw [List.append_nil]
  refine ⟨G1, ds, Φ, s1.sub, r1, hR, fun p u G' H' g hp gp w hΦ => ?_⟩
  have s2 := s1.step g
  refine q _ _ _ _ _ (e1.trans g.g) ⟨s2.go, s2.sl, ⟨fun c hc => ?_, ?_⟩, fun c hc => ?_, s2.base⟩ (.loc p) (hP p u (s1.freshM hp) (s1.freshμ hp) hΦ)
  · rcases List.mem_cons.mp hc with rfl | hc
    · exact ⟨w, gp⟩
    · exact s2.ce.at_ c hc
  · rw [List.map_cons, List.nodup_cons]
    exact ⟨s1.freshμ hp, s2.ce.nd⟩
  · rcases List.mem_cons.mp hc with rfl | hc
    · exact .inr (s1.fresh0 hp)
    · exact s2.own c hc
theorem run_mid {ts tu : TS} {Φ : Post} (J : Ro → Mem → Prop) (h : Run K M ts ρ μ { Φ with nx := J }) (h2 : ∀ ρ' μ', J ρ' μ' → Run K M tu ρ' μ' Φ) : Run K M (tSeq ts tu) ρ μ Φ :=
  run_seq (Run.imp h h2 (fun _ _ z => z) (fun _ _ z => z) fun _ _ z => z)
/-- a call of a def that changes one cell -/
theorem ev_call1 {R : List D → Mem → (D → Mem → Prop) → Prop} {ta : TA} {E : XK} {Φ : D → Mem → Prop} {ds : List D} {p : Addr} {u : Own} {i : Nat} (ha : EdA K ta ρ ds) (hi : μ[i]? = some (p, u)) (nd : (μ.map (·.1)).Nodup) (hR : R ds [(p, u)] Φ) (hP : ∀ d u', Φ d [(p, u')] → P d (μ.set i (p, u'))) (hΦ : ∀ d μ', Φ d μ' → ∃ u', μ' = [(p, u')]) : Ev K M (tCall (spM K R) [] E ta) ρ μ P :=
  ev_call (eva_of ha ⟨[(p, u)], fun c hc => by rw [List.mem_singleton.mp hc]; exact List.mem_of_getElem? hi, by simp, Φ, hR, fun d μ1' hk hd => by
    obtain ⟨u', rfl⟩ := hΦ d μ1' hd
    rw [putμ_one nd hi]
    exact hP d u' hd⟩)
end
/-! ### the pen -/
structure Pen where
  cells : List Int
  at_ : Int
  digits : Int
  count : Int
  fold : Int
def penO (p : Pen) : Own := .dk (skD [("cells", .lst (iD p.cells)), ("at", .int p.at_), ("digits", .int p.digits), ("count", .int p.count), ("fold", .int p.fold)])
structure PenOk (b : Int) (p : Pen) : Prop where
  a0 : 0 ≤ p.at_
  a1 : p.at_ ≤ p.cells.length
  d0 : 0 ≤ p.digits
  c0 : 0 ≤ p.count
  c1 : p.count ≤ b
  f0 : 0 ≤ p.fold
  f1 : p.fold < 2147483648
def PenAt (b : Int) (u : Own) : Prop := ∃ p, PenOk b p ∧ u = penO p
theorem PenAt.up {b c : Int} {u : Own} (h : PenAt b u) (l : b ≤ c) : PenAt c u := by
  obtain ⟨p, ok, e⟩ := h
  exact ⟨p, ⟨ok.a0, ok.a1, ok.d0, ok.c0, Int.le_trans ok.c1 l, ok.f0, ok.f1⟩, e⟩
def big : Int := 1000000000
def R_pen : List D → (Own → Prop) → Prop := fun ds Φ => ∃ cs : List Int, ds = [.lstF (iD cs)] ∧ Φ = fun u => PenAt 0 u
def R_draw : List D → Mem → (D → Mem → Prop) → Prop := fun ds μ Φ => ∃ p u, ∃ n b : Int, 0 < n ∧ n < 1000000 ∧ b < big ∧ PenAt b u ∧ ds = [.loc p, .int n] ∧ μ = [(p, u)] ∧ Φ = fun d μ' => ∃ u', μ' = [(p, u')] ∧ PenAt (b + 1) u' ∧ ∃ k : Int, 0 ≤ k ∧ k < n ∧ d = .int k
def R_pick : List D → Mem → (D → Mem → Prop) → Prop := fun ds μ Φ => ∃ p u l, ∃ b : Int, l ≠ [] ∧ l.length < 1000000 ∧ b < big ∧ PenAt b u ∧ ds = [.loc p, .lst l] ∧ μ = [(p, u)] ∧ Φ = fun d μ' => ∃ u', μ' = [(p, u')] ∧ PenAt (b + 1) u' ∧ d ∈ l
/-- helpers and amounts that a draw gives -/
structure ItemsOk (names : List Str) (most : Int) (hs : List Str) (as : List Int) : Prop where
  ne : hs ≠ []
  nd : hs.Nodup
  sub : ∀ h ∈ hs, h ∈ names
  len : hs.length = as.length
  am : ∀ a ∈ as, 1 ≤ a ∧ a ≤ most
def R_items : List D → Mem → (D → Mem → Prop) → Prop := fun ds μ Φ => ∃ p u names, ∃ most b : Int, names ≠ [] ∧ names.Nodup ∧ names.length ≤ 6 ∧ 0 < most ∧ most ≤ 20 ∧ b < big - 100 ∧ PenAt b u ∧ ds = [.loc p, .lst (sD names), .int most] ∧ μ = [(p, u)] ∧
  Φ = fun d μ' => ∃ u', μ' = [(p, u')] ∧ PenAt (b + 20) u' ∧ ∃ hs as, ItemsOk names most hs as ∧ d = .tup [.lst (sD hs), .lst (iD as)]
def R_twoOf : List D → Mem → (D → Mem → Prop) → Prop := fun ds μ Φ => ∃ p u names, ∃ b : Int, names.Nodup ∧ 2 ≤ names.length ∧ names.length ≤ 6 ∧ b < big - 100 ∧ PenAt b u ∧ ds = [.loc p, .lst (sD names)] ∧ μ = [(p, u)] ∧
  Φ = fun d μ' => ∃ u', μ' = [(p, u')] ∧ PenAt (b + 2) u' ∧ ∃ x y, x ≠ y ∧ x ∈ names ∧ y ∈ names ∧ d = .lst [.str x, .str y]
structure RdOk (names : List Str) (most : Int) (rd : List (Str × Option Int)) : Prop where
  ne : rd ≠ []
  nd : (rd.map (·.1)).Nodup
  sub : ∀ p ∈ rd, p.1 ∈ names
  am : ∀ p ∈ rd, ∀ x, p.2 = some x → 0 ≤ x ∧ x ≤ most
def R_readerOf : List D → Mem → (D → Mem → Prop) → Prop := fun ds μ Φ => ∃ p u names, ∃ most b : Int, names ≠ [] ∧ names.Nodup ∧ names.length ≤ 6 ∧ 0 < most ∧ most ≤ 20 ∧ b < big - 100 ∧ PenAt b u ∧ ds = [.loc p, .lst (sD names), .int most] ∧ μ = [(p, u)] ∧
  Φ = fun d μ' => ∃ u', μ' = [(p, u')] ∧ PenAt (b + 30) u' ∧ ∃ rd, RdOk names most rd ∧ d = encTr rd
/-- a mend that a draw gives -/
structure MdOk (nodes : List Str) (most : Int) (m : Mnd) : Prop where
  one : ∀ l v hs as, m = .one l v hs as → v ∈ nodes ∧ ItemsOk (nodes.filter fun n => !decide (n ∈ [v])) most hs as
  two : ∀ l u v h1 h2 a1 a2 sw, m = .two l u v h1 h2 a1 a2 sw → u ∈ nodes ∧ v ∈ nodes ∧ u ≠ v ∧ ItemsOk (nodes.filter fun n => !decide (n ∈ [u, v])) most h1 a1 ∧ ItemsOk (nodes.filter fun n => !decide (n ∈ [u, v])) most h2 a2 ∧ 0 ≤ sw ∧ sw ≤ most
def R_mendOf : List D → Mem → (D → Mem → Prop) → Prop := fun ds μ Φ => ∃ p u q kds lab nodes names, ∃ most b : Int, p ≠ q ∧ nodes.Nodup ∧ nodes.length ≤ 5 ∧ valD kds (.inr "nodes") = some (.lst (sD nodes)) ∧ (∀ n ∈ names, n ∈ nodes) ∧ names.Nodup ∧ (names.length = 1 ∨ names.length = 2) ∧ names.length < nodes.length ∧ 0 < most ∧ most ≤ 20 ∧ b < big - 1000 ∧ PenAt b u ∧
  ds = [.loc p, .loc q, .str lab, .lst (sD names), .int most] ∧ μ = [(p, u), (q, .dk kds)] ∧
  Φ = fun d μ' => ∃ u', μ' = [(p, u'), (q, .dk kds)] ∧ PenAt (b + 50) u' ∧ ∃ md, MdOk nodes most md ∧ md.label = lab ∧ md.nodes = names ∧ d = encTm md
end Am
namespace Am
open PySem PySem.Spec PyProof.Rows L2
theorem len__law_pen : ∀ ds Φ, R_pen ds Φ → ds.length = 1 := fun _ _ ⟨_, h, _⟩ => by rw [h]; rfl
abbrev s__law_pen : Stmt := topS 47
theorem sc__law_pen : FnScope ["_law_script", "_law_fold", "_law_cell"] ["_law_script"] (defScope s__law_pen) := ⟨rfl, rfl, rfl, by decide +kernel, rfl, by decide +kernel, by decide +kernel⟩
set_option maxHeartbeats 16000000 in
theorem ok__law_pen {P : Program} {w : World} {K : PySem.W.Frag} {mg : Str → Option Value} {base : Heap} {c : Cls4} {f : Addr} {fd : FuncData} (B : Blt mg) (hc : ClsOk K c mg) (F : FD K "_law_pen" "_law_pen" s__law_pen f fd) : FnOk P w K mg base CX0 1 f fd ["_law_script"] (spN K R_pen) := by
  have sc := sc__law_pen
  refine F.ok sc (fun vs H Q E h => len_N (n := 1) len__law_pen h) (fun cdv A outer s H vs Q E hr h => ?_)
  have hu := hu_of hr
  refine ⟨_, PSs.nox ((pss_cons (ps_set (i := 1) sc.nd rfl (Or.inl rfl) pe_int) 
      (pss_cons (ps_for PassesOwn.never rfl (xi_list (K := K) (pv 0)) (pg_name (i := 2) sc.nd rfl (Or.inl rfl))
        (pss_one (ps_set (i := 1) sc.nd rfl (Or.inl rfl) (pe_op op_mod (pe_callTy xc_int (by rfl) B.int boot_int (pa_cons (pe_op op_add (pe_op op_mul (pv 1) pe_int) (pv 2)) pa_nil)) pe_int)))) 
      (pss_one (ps_ret (pe_disp (pps_cons pe_str (pe_callTy (xc_list (K := K)) (by rfl) B.list boot_list (pa_cons (pv 0) pa_nil)) (pps_cons pe_str pe_int (pps_cons pe_str pe_int (pps_cons pe_str pe_int (pps_cons pe_str (pv 1) pps_nil))))) (by rfl) (by rfl) (fun z => by cases z) (by decide))))))), read_N h ?_⟩
  rintro ds Φ ⟨cs, rfl, rfl⟩
  refine run_seq (run_asg (ed_int 0) ?_)
  refine run_seq (run_for (items := iD cs) (it_listF (ed_var rfl)) (fun i ρ μ => ∃ x, ∃ f : Int, 0 ≤ f ∧ f < 1000000007 ∧ ρ = [some (.lstF (iD cs)), some (.int f), x] ∧ μ = []) ⟨none, 0, by decide, by decide, rfl, rfl⟩ (fun i d ρ1 μ1 hi hI => ?_) fun ρ1 μ1 hI => ?_)
  · obtain ⟨x, f, h0, h1, rfl, rfl⟩ := hI
    rw [List.getElem?_map] at hi
    cases hc : cs[i]? with
    | none => rw [hc] at hi; cases hi
    | some a =>
      rw [hc] at hi
      have hi : D.int a = d := Option.some.inj hi
      subst hi
      refine ⟨_, _, tg_name, run_asg (ed_op (ed_cb (ea_cons (ed_op (ed_op (ed_var rfl) (ed_int 41) (rv_intC (.inr ⟨by decide, by decide⟩))) (ed_var rfl) rv_int) ea_nil) rc_int) (ed_int 1000000007) (rv_intC (by decide))) ⟨some (.int a), (f * 41 + a) % 1000000007, Int.emod_nonneg _ (by decide), Int.emod_lt_of_pos _ (by decide), rfl, rfl⟩⟩
  · obtain ⟨x, f, h0, h1, rfl, rfl⟩ := hI
    refine run_retG (ev_dispC fun p hpM hpμ => ?_)
    refine evp_cons (ev_of (ed_cb (ea_cons (ed_var rfl) ea_nil) rc_listF) ?_)
    refine evp_cons (ev_of (ed_int 0) ?_)
    refine evp_cons (ev_of (ed_int 0) ?_)
    refine evp_cons (ev_of (ed_int 0) ?_)
    refine evp_cons (ev_of (ed_var rfl) ?_)
    refine evp_nil ⟨[], rfl, (show (["cells", "at", "digits", "count", "fold"] : List Str).Nodup by decide), (show 5 ≤ 15 by decide), p, _, rfl, List.mem_cons_self .., ⟨cs, 0, 0, 0, f⟩, ⟨Int.le_refl _, by show (0 : Int) ≤ _; omega, Int.le_refl _, Int.le_refl _, Int.le_refl _, h0, by show f < _; omega⟩, rfl⟩
theorem len__law_draw : ∀ ds μ Φ, R_draw ds μ Φ → ds.length = 2 := fun _ _ _ ⟨_, _, _, _, _, _, _, _, h, _⟩ => by rw [h]; rfl
theorem pow_small {x : Int} (h0 : 0 ≤ x) (h1 : x < 18446744073709551616) : x.natAbs < 2 ^ 64 := by omega
abbrev s__law_draw : Stmt := topS 48
theorem sc__law_draw : FnScope ["_law_pen_here", "_law_many", "_law_cell", "_law_digit", "_law_blend"] ["_law_pen_here", "_law_many"] (defScope s__law_draw) := ⟨rfl, rfl, rfl, by decide +kernel, rfl, by decide +kernel, by decide +kernel⟩
set_option maxHeartbeats 16000000 in
theorem ok__law_draw {P : Program} {w : World} {K : PySem.W.Frag} {mg : Str → Option Value} {base : Heap} {c : Cls4} {f : Addr} {fd : FuncData} (B : Blt mg) (hc : ClsOk K c mg) (F : FD K "_law_draw" "_law_draw" s__law_draw f fd) : FnOk P w K mg base CX0 1 f fd ["_law_pen_here", "_law_many"] (spM K R_draw) := by
  have sc := sc__law_draw
  refine F.ok sc (fun vs H Q E h => len_M (n := 2) len__law_draw h) (fun cdv A outer s H vs Q E hr h => ?_)
  have hu := hu_of hr
  refine ⟨_, PSs.nox ((pss_cons (ps_dput hu (pv 0) pe_str (pe_op op_add (pe_dget hu (pv 0) pe_str (fun _ _ => rfl)) pe_int) rfl) 
      (pss_cons (ps_if (PW.pt (pw_and (pt_cmpR op_eq (pe_dget hu (pv 0) pe_str (fun _ _ => rfl)) pe_int (nomark _)) (pw_and1 (pt_cmpR op_lt (pe_dget hu (pv 0) pe_str (fun _ _ => rfl)) (pe_callB (xc_len (K := K)) (by rfl) B.len boot_len (pa_cons (pe_dget hu (pv 0) pe_str (fun _ _ => rfl)) pa_nil)) (nomark _)))))
        (pss_cons (ps_set (i := 2) sc.nd rfl (Or.inl rfl) (pe_ix (xx_list (K := K)) (pe_dget hu (pv 0) pe_str (fun _ _ => rfl)) (pe_dget hu (pv 0) pe_str (fun _ _ => rfl)) (fun _ _ => rfl))) 
        (pss_cons (ps_dput hu (pv 0) pe_str (pe_op op_add (pe_dget hu (pv 0) pe_str (fun _ _ => rfl)) pe_int) rfl) 
        (pss_one (ps_if (pt_cmpR op_ge (pv 2) (pe_op op_pow pe_int pe_int) (nomark _))
          (pss_one (ps_dput hu (pv 0) pe_str (pe_op op_sub (pv 2) (pe_op op_pow pe_int pe_int)) rfl))
          (pss_one (ps_dput hu (pv 0) pe_str (pe_op op_mod (pe_callTy xc_int (by rfl) B.int boot_int (pa_cons (pe_op op_add (pe_op op_mul (pe_dget hu (pv 0) pe_str (fun _ _ => rfl)) pe_int) (pv 2)) pa_nil)) pe_int) rfl))))))
        pss_nil) 
      (pss_cons (ps_if (pt_cmpR op_gt (pe_dget hu (pv 0) pe_str (fun _ _ => rfl)) pe_int (nomark _))
        (pss_cons (ps_set (i := 3) sc.nd rfl (Or.inl rfl) (pe_op op_mod (pe_callTy xc_int (by rfl) B.int boot_int (pa_cons (pe_dget hu (pv 0) pe_str (fun _ _ => rfl)) pa_nil)) (pv 1))) 
        (pss_cons (ps_dput hu (pv 0) pe_str (pe_op op_fdiv (pe_dget hu (pv 0) pe_str (fun _ _ => rfl)) (pv 1)) rfl) 
        (pss_one (ps_ret (pv 3)))))
        pss_nil) 
      (pss_cons (ps_set (i := 4) sc.nd rfl (Or.inl rfl) (pe_op op_add (pe_op op_add (pe_dget hu (pv 0) pe_str (fun _ _ => rfl)) (pe_op op_mul (pe_dget hu (pv 0) pe_str (fun _ _ => rfl)) pe_int)) pe_int)) 
      (pss_one (ps_ret (pe_op op_mod (pe_op op_fdiv (pe_callTy xc_int (by rfl) B.int boot_int (pa_cons (pe_op op_mod (pe_op op_pow (pv 4) pe_int) pe_int) pa_nil)) pe_int) (pv 1))))))))), read_M h ?_⟩
  rintro ds μ Φ ⟨p, u, n, b, hn, hn2, hb, ⟨pn, ok, rfl⟩, rfl, rfl, rfl⟩ nd
  have ha0 := ok.a0
  have ha1 := ok.a1
  have hd0 := ok.d0
  have hc0 := ok.c0
  have hc1 := ok.c1
  have hf0 := ok.f0
  have hf1 := ok.f1
  have hbig : big = 1000000000 := rfl
  -- count
  refine run_seq (run_dputG (p := p) (s := "count") (ev_op (P1 := fun d μ1 => d = .int pn.count ∧ μ1 = [(p, penO pn)]) (ev_dget (i := 0) rfl rfl rfl ⟨rfl, rfl⟩) ?_))
  rintro _ _ ⟨rfl, rfl⟩
  refine ev_of (ed_int 1) ⟨_, rv_int, ed_var rfl, ed_str _, 0, _, rfl, (show 5 < 100000 by decide), ?_⟩
  let p1 : Pen := { pn with count := pn.count + 1 }
  show Run K _ _ _ [(p, penO p1)] _
  refine run_mid (fun ρ' μ' => ∃ p2 x2, PenOk (b + 1) p2 ∧ ρ' = [some (.loc p), some (.int n), x2, none, none] ∧ μ' = [(p, penO p2)]) ?_ ?_
  rotate_left
  · rintro _ _ ⟨p2, x2, ok2, rfl, rfl⟩
    have gd0 := ok2.d0
    have gc0 := ok2.c0
    have gc1 := ok2.c1
    have gf0 := ok2.f0
    have gf1 := ok2.f1
    refine run_seq (run_ifG (evt_test (ev_op (P1 := fun d μ1 => d = .int p2.digits ∧ μ1 = [(p, penO p2)]) (ev_dget (i := 0) rfl rfl rfl ⟨rfl, rfl⟩) ?_)))
    rintro _ _ ⟨rfl, rfl⟩
    refine ev_of (ed_int 0) ⟨_, rv_bl, _, rfl, ?_⟩
    by_cases hd : (0 : Int) < p2.digits
    · rw [if_pos (decide_eq_true hd)]
      refine run_seq (run_asgG (ev_op (P1 := fun d μ1 => d = .int p2.digits ∧ μ1 = [(p, penO p2)]) (ev_cb (eva_cons (P1 := fun d μ1 => d = .int p2.digits ∧ μ1 = [(p, penO p2)]) (ev_dget (i := 0) rfl rfl rfl ⟨rfl, rfl⟩) ?_)) ?_))
      · rintro _ _ ⟨rfl, rfl⟩
        exact eva_of ea_nil ⟨_, rc_int, rfl, rfl⟩
      rintro _ _ ⟨rfl, rfl⟩
      refine ev_of (ed_var rfl) ⟨_, rv_intC hn, ?_⟩
      refine run_seq (run_dputG (p := p) (s := "digits") (ev_op (P1 := fun d μ1 => d = .int p2.digits ∧ μ1 = [(p, penO p2)]) (ev_dget (i := 0) rfl rfl rfl ⟨rfl, rfl⟩) ?_))
      rintro _ _ ⟨rfl, rfl⟩
      refine ev_of (ed_var rfl) ⟨_, rv_intC ⟨hn, by omega⟩, ed_var rfl, ed_str _, 0, _, rfl, (show 5 < 100000 by decide), ?_⟩
      refine run_ret (ed_var rfl) ⟨_, List.Sublist.refl _, rfl, _, rfl, ⟨{ p2 with digits := p2.digits / n }, ⟨ok2.a0, ok2.a1, Int.ediv_nonneg gd0 (by omega), gc0, gc1, gf0, gf1⟩, rfl⟩, p2.digits % n, Int.emod_nonneg _ (by omega), Int.emod_lt_of_pos _ hn, rfl⟩
    · rw [if_neg (by rw [decide_eq_false hd]; decide)]
      refine run_next ?_
      refine run_seq (run_asgG (ev_op (P1 := fun d μ1 => d = .int (p2.fold + p2.count * 7907) ∧ μ1 = [(p, penO p2)]) (ev_op (P1 := fun d μ1 => d = .int p2.fold ∧ μ1 = [(p, penO p2)]) (ev_dget (i := 0) rfl rfl rfl ⟨rfl, rfl⟩) ?_) ?_))
      · rintro _ _ ⟨rfl, rfl⟩
        refine ev_op (P1 := fun d μ1 => d = .int p2.count ∧ μ1 = [(p, penO p2)]) (ev_dget (i := 0) rfl rfl rfl ⟨rfl, rfl⟩) ?_
        rintro _ _ ⟨rfl, rfl⟩
        exact ev_of (ed_int 7907) ⟨_, rv_intC (.inr ⟨by decide, by decide⟩), _, rv_int, rfl, rfl⟩
      rintro _ _ ⟨rfl, rfl⟩
      refine ev_of (ed_int 37) ⟨_, rv_int, ?_⟩
      refine run_ret (ed_op (ed_op (ed_cb (ea_cons (ed_op (ed_op (ed_var rfl) (ed_int 17) (rv_intC ⟨by decide, by decide, pow_small (by omega) (by omega)⟩)) (ed_int 2305843009213693951) (rv_intC (by decide))) ea_nil) rc_int) (ed_int 128) (rv_intC ⟨by decide, by decide⟩)) (ed_var rfl) (rv_intC hn)) ⟨_, List.Sublist.refl _, rfl, _, rfl, ⟨p2, ok2, rfl⟩, _, Int.emod_nonneg _ (by omega), Int.emod_lt_of_pos _ hn, rfl⟩
  refine run_ifG (evt_and (evt_test (ev_op (P1 := fun d μ1 => d = .int pn.digits ∧ μ1 = [(p, penO p1)]) (ev_dget (i := 0) rfl rfl rfl ⟨rfl, rfl⟩) ?_)))
  rintro _ _ ⟨rfl, rfl⟩
  refine ev_of (ed_int 0) ⟨_, rv_eq rfl rfl rfl, _, rfl, ?_⟩
  by_cases hd : V.int pn.digits = V.int 0
  · rw [if_pos (decide_eq_true hd)]
    refine evt_test (ev_op (P1 := fun d μ1 => d = .int pn.at_ ∧ μ1 = [(p, penO p1)]) (ev_dget (i := 0) rfl rfl rfl ⟨rfl, rfl⟩) ?_)
    rintro _ _ ⟨rfl, rfl⟩
    refine ev_cb (eva_cons (P1 := fun d μ1 => d = .lst (iD pn.cells) ∧ μ1 = [(p, penO p1)]) (ev_dget (i := 0) rfl rfl rfl ⟨rfl, rfl⟩) ?_)
    rintro _ _ ⟨rfl, rfl⟩
    refine eva_of ea_nil ⟨_, rc_lenL, _, rv_bl, _, rfl, ?_⟩
    rw [List.length_map]
    by_cases hlt : pn.at_ < (pn.cells.length : Int)
    · rw [if_pos (decide_eq_true hlt)]
      obtain ⟨k, hk⟩ : ∃ k : Nat, pn.at_ = (k : Int) := ⟨pn.at_.toNat, by omega⟩
      have hkl : k < pn.cells.length := by omega
      obtain ⟨cell, hcell⟩ : ∃ cell, pn.cells[k]? = some cell := ⟨_, List.getElem?_eq_getElem hkl⟩
      have hat : atI (iD pn.cells) pn.at_ = some (.int cell) := by
        rw [hk]
        refine atI_nat ?_
        rw [List.getElem?_map, hcell]
        rfl
      refine run_seq (run_asgG (ev_op (P1 := fun d μ1 => d = .lst (iD pn.cells) ∧ μ1 = [(p, penO p1)]) (ev_dget (i := 0) rfl rfl rfl ⟨rfl, rfl⟩) ?_))
      rintro _ _ ⟨rfl, rfl⟩
      refine ev_dget (i := 0) rfl rfl rfl ⟨_, rv_ixL hat, ?_⟩
      refine run_seq (run_dputG (p := p) (s := "at") (ev_op (P1 := fun d μ1 => d = .int pn.at_ ∧ μ1 = [(p, penO p1)]) (ev_dget (i := 0) rfl rfl rfl ⟨rfl, rfl⟩) ?_))
      rintro _ _ ⟨rfl, rfl⟩
      refine ev_of (ed_int 1) ⟨_, rv_int, ed_var rfl, ed_str _, 0, _, rfl, (show 5 < 100000 by decide), ?_⟩
      let p2 : Pen := { p1 with at_ := pn.at_ + 1 }
      show Run K _ _ _ [(p, penO p2)] _
      refine run_if (et_test (ed_op (ed_var rfl) (ed_op (ed_int 10) (ed_int 18) (rv_intC ⟨by decide, by decide, by decide⟩)) rv_bl)) (fun hge => ?_) fun hge => ?_
      · have hge := of_decide_eq_true hge
        refine run_dputG (p := p) (s := "digits") (ev_of (ed_op (ed_var rfl) (ed_op (ed_int 10) (ed_int 18) (rv_intC ⟨by decide, by decide, by decide⟩)) rv_int) ⟨ed_var rfl, ed_str _, 0, _, rfl, (show 5 < 100000 by decide), ?_⟩)
        exact ⟨{ p2 with digits := cell - 10 ^ (18 : Int).toNat }, _, ⟨by show 0 ≤ pn.at_ + 1; omega, by show pn.at_ + 1 ≤ (pn.cells.length : Int); omega, by show 0 ≤ cell - _; omega, by show 0 ≤ pn.count + 1; omega, by show pn.count + 1 ≤ b + 1; omega, hf0, hf1⟩, rfl, rfl⟩
      · refine run_dputG (p := p) (s := "fold") (ev_op (P1 := fun d μ1 => d = .int (pn.fold * 69069 + cell) ∧ μ1 = [(p, penO p2)]) (ev_cb (eva_cons (P1 := fun d μ1 => d = .int (pn.fold * 69069 + cell) ∧ μ1 = [(p, penO p2)]) (ev_op (P1 := fun d μ1 => d = .int (pn.fold * 69069) ∧ μ1 = [(p, penO p2)]) (ev_op (P1 := fun d μ1 => d = .int pn.fold ∧ μ1 = [(p, penO p2)]) (ev_dget (i := 0) rfl rfl rfl ⟨rfl, rfl⟩) ?_) ?_) ?_)) ?_)
        · rintro _ _ ⟨rfl, rfl⟩
          exact ev_of (ed_int 69069) ⟨_, rv_intC (.inr ⟨by decide, by decide⟩), rfl, rfl⟩
        · rintro _ _ ⟨rfl, rfl⟩
          exact ev_of (ed_var rfl) ⟨_, rv_int, rfl, rfl⟩
        · rintro _ _ ⟨rfl, rfl⟩
          exact eva_of ea_nil ⟨_, rc_int, rfl, rfl⟩
        · rintro _ _ ⟨rfl, rfl⟩
          refine ev_of (ed_int 2147483587) ⟨_, rv_intC (by decide), ed_var rfl, ed_str _, 0, _, rfl, (show 5 < 100000 by decide), ?_⟩
          have hm0 := Int.emod_nonneg (pn.fold * 69069 + cell) (b := 2147483587) (by decide)
          have hm1 := Int.emod_lt_of_pos (pn.fold * 69069 + cell) (b := 2147483587) (by decide)
          exact ⟨{ p2 with fold := (pn.fold * 69069 + cell) % 2147483587 }, _, ⟨by show 0 ≤ pn.at_ + 1; omega, by show pn.at_ + 1 ≤ (pn.cells.length : Int); omega, hd0, by show 0 ≤ pn.count + 1; omega, by show pn.count + 1 ≤ b + 1; omega, hm0, by show (pn.fold * 69069 + cell) % 2147483587 < _; omega⟩, rfl, rfl⟩
    · rw [if_neg (by rw [decide_eq_false hlt]; decide)]
      exact run_next ⟨p1, none, ⟨ha0, ha1, hd0, by show 0 ≤ pn.count + 1; omega, by show pn.count + 1 ≤ b + 1; omega, hf0, hf1⟩, rfl, rfl⟩
  · rw [if_neg (by rw [decide_eq_false hd]; decide)]
    exact run_next ⟨p1, none, ⟨ha0, ha1, hd0, by show 0 ≤ pn.count + 1; omega, by show pn.count + 1 ≤ b + 1; omega, hf0, hf1⟩, rfl, rfl⟩
theorem len__law_pick : ∀ ds μ Φ, R_pick ds μ Φ → ds.length = 2 := fun _ _ _ ⟨_, _, _, _, _, _, _, _, h, _⟩ => by rw [h]; rfl
abbrev s__law_pick : Stmt := topS 49
theorem sc__law_pick : FnScope ["_law_pen_here", "_law_some"] ["_law_pen_here", "_law_some"] (defScope s__law_pick) := ⟨rfl, rfl, rfl, by decide +kernel, rfl, by decide +kernel, by decide +kernel⟩
set_option maxHeartbeats 16000000 in
theorem ok__law_pick {P : Program} {w : World} {K : PySem.W.Frag} {mg : Str → Option Value} {base : Heap} {c : Cls4} {f : Addr} {fd : FuncData} (B : Blt mg) (hc : ClsOk K c mg)
    (h__law_draw : Fn P w K mg base "_law_draw" 1 ["_law_pen_here", "_law_many"] (spM K R_draw)) (F : FD K "_law_pick" "_law_pick" s__law_pick f fd) : FnOk P w K mg base CX0 2 f fd ["_law_pen_here", "_law_some"] (spM K R_pick) := by
  have sc := sc__law_pick
  refine F.ok sc (fun vs H Q E h => len_M (n := 2) len__law_pick h) (fun cdv A outer s H vs Q E hr h => ?_)
  have hu := hu_of hr
  refine ⟨_, PSs.nox ((pss_one (ps_ret (pe_ix (xx_list (K := K)) (pv 1) (pe_fn h__law_draw (hr.mono (by decide)) (by rfl) (pa_cons (pv 0) (pa_cons (pe_callB (xc_len (K := K)) (by rfl) B.len boot_len (pa_cons (pv 1) pa_nil)) pa_nil))) (fun _ _ => rfl))))), read_M h ?_⟩
  rintro ds μ Φ ⟨p, u, l, b, hl, hl2, hb, hp, rfl, rfl, rfl⟩ nd
  have hlen : 0 < l.length := List.length_pos_iff.mpr hl
  refine run_retG (ev_op (P1 := fun d μ1 => d = .lst l ∧ μ1 = [(p, u)]) (ev_of (ed_var rfl) ⟨rfl, rfl⟩) ?_)
  rintro _ _ ⟨rfl, rfl⟩
  refine ev_call1 (ea_cons (ed_var rfl) (ea_cons (ed_cb (ea_cons (ed_var rfl) ea_nil) rc_lenL) ea_nil)) (i := 0) rfl nd ⟨p, u, (l.length : Int), b, by omega, by omega, hb, hp, rfl, rfl, rfl⟩ ?_ ?_
  · rintro d u' ⟨u2, e, hp2, k, hk0, hk1, rfl⟩
    cases e
    obtain ⟨j, rfl⟩ : ∃ j : Nat, k = (j : Int) := ⟨k.toNat, by omega⟩
    have hj : j < l.length := by omega
    have hg : l[j]? = some l[j] := List.getElem?_eq_getElem hj
    exact ⟨_, rv_ixL (atI_nat hg), _, List.Sublist.refl _, rfl, _, rfl, hp2, List.getElem_mem hj⟩
  · rintro d μ' ⟨u2, e, _⟩
    exact ⟨u2, e⟩
end Am
/-! Targets that are cells: o.f, d[k], within a tuple of targets. -/
namespace Am
open PySem PySem.Spec PyProof.Rows L2
def gFld (K : PySem.W.Frag) (ta : TE) (f : Str) : TG := fun v σ H Q => ta σ H fun x H2 => ∃ a C dx fs, x = .ref a ∧ H2 a = some (.ins C dx fs) ∧ Cls K C ∧ NoAttr K C f ∧ fs.length < 1000 ∧ Q σ (upd H2 a (.ins C dx (putF f v fs)))
section
variable {X : Cx} {o : Expr} {f : Str} {pos : Pos} {ta : TE}
theorem pg_fld0 (ha : PE X o ta) : PG X (.Attribute o f pos) (gFld X.K ta f) := ⟨fun pins s σ H v u Q I r h =>
  PySem.W.kas_attr (thn (ha.run pins s σ H _ I h) fun ov s2 ⟨x, H2, I2, rx, a, C, dx, fs, ex, ea, c, n, l, q⟩ => by
    subst ex
    obtain rfl : ov = Value.ref a := rx
    exact setattr_ok I2 ea c n l r fun s3 I3 => ⟨σ, _, I3, q⟩)⟩
theorem xg_fld {K : PySem.W.Frag} (ha : PE X o ta) (hK : X.K = K := by rfl) : PG X (.Attribute o f pos) (gFld K ta f) := by subst hK; exact pg_fld0 ha
end
def TgM (K : PySem.W.Frag) (M : List Addr) (g : TG) (d : D) (ρ : Ro) (μ : Mem) (P : Ro → Mem → Prop) : Prop := ∀ (G0 H0 G H : Hp) (σ : L2.St) (v : V), Stt K M G0 H0 G H σ ρ μ → Rep K G v d → ∀ Q : L2.St → Hp → Prop,
  (∀ σ' G' H' ρ' μ', Same G G' → Stt K M G0 H0 G' H' σ' ρ' μ' → P ρ' μ' → Q σ' H') → g v σ H Q
def TgsM (K : PySem.W.Frag) (M : List Addr) (g : TGs) (ds : List D) (ρ : Ro) (μ : Mem) (P : Ro → Mem → Prop) : Prop := ∀ (G0 H0 G H : Hp) (σ : L2.St) (vs : List V), Stt K M G0 H0 G H σ ρ μ → Reps K G vs ds → ∀ Q : L2.St → Hp → Prop,
  (∀ σ' G' H' ρ' μ', Same G G' → Stt K M G0 H0 G' H' σ' ρ' μ' → P ρ' μ' → Q σ' H') → g vs σ H Q
section
variable {K : PySem.W.Frag} {M : List Addr} {ρ : Ro} {μ : Mem} {te td ty : TE} {d x : D} {ds : List D} {P : Ro → Mem → Prop} {Φ : Post}
theorem tgs_nil (h : P ρ μ) : TgsM K M gNil [] ρ μ P := fun G0 H0 G H σ vs s r Q q => by
  cases r
  exact ⟨rfl, q _ _ _ _ _ (Same.refl _) s h⟩
theorem tgs_cons {g : TG} {gs : TGs} (h : TgM K M g d ρ μ fun ρ1 μ1 => TgsM K M gs ds ρ1 μ1 P) : TgsM K M (gCons g gs) (d :: ds) ρ μ P := fun G0 H0 G H σ vs s r Q q => by
  cases r with
  | cons ra rr => exact ⟨_, _, rfl, h G0 H0 G H σ _ s ra _ fun σ1 G1 H1 ρ1 μ1 e1 s1 p1 => p1 G0 H0 G1 H1 σ1 _ s1 (rr.mono e1) Q fun σ2 G2 H2 ρ2 μ2 e2 s2 p2 => q σ2 G2 H2 ρ2 μ2 (e1.trans e2) s2 p2⟩
theorem tgm_tup {n : Nat} {gs : TGs} (hl : ds.length = n) (h : TgsM K M gs ds ρ μ P) : TgM K M (gTup K n gs) (.tup ds) ρ μ P := fun G0 H0 G H σ v s r Q q => by
  cases r with
  | tup e rr => exact ⟨_, _, rfl, .inl (.inl (s.sub _ _ e)), by rw [rr.length, hl], h G0 H0 G H σ _ s rr Q q⟩
theorem tgm_name {i : Nat} (h : P (ρ.set i (some d)) μ) : TgM K M (gName i) d ρ μ P := fun G0 H0 G H σ v s r Q q => q _ _ _ _ _ (Same.refl _) (s.set i r) h
theorem tgm_dput {p : Addr} {i : Nat} {kds : List (Key × D)} {s : Str} (ho : EvD K td ρ (.loc p)) (hy : EvD K ty ρ (.str s)) (hi : μ[i]? = some (p, .dk kds)) (hl : kds.length < 100000) (h : P ρ (μ.set i (p, .dk (putK' kds (.inr s) d)))) : TgM K M (gSub td ty rSetD) d ρ μ P := fun G0 H0 G H σ v st r Q q =>
  ho G H σ st.sub st.sl _ fun w G2 H2 g2 r2 => hy G2 H2 σ g2.sub (st.sl.mono g2.g) _ fun u G3 H3 g3 r3 => by
    cases r2; cases r3
    have s3 := st.step (g2.trans g3)
    obtain ⟨⟨kvs, hx, k1, rr⟩, _⟩ := s3.ce.at_ _ (List.mem_of_getElem? hi)
    obtain ⟨k2, r4⟩ := put_rep (k := (.inr s : Key)) (r.mono (g2.g.trans g3.g)) k1 rr
    have hlen : kvs.length < sizeLine := by
      have e := rr.length
      rw [List.length_map, List.length_map] at e
      rw [e]
      exact Nat.lt_of_lt_of_le hl (by decide)
    refine ⟨p, _, rfl, .inl ⟨kvs, .inr s, hx, rfl, hlen, rfl⟩, ?_⟩
    have s4 := s3.write (u := .dk (putK' kds (.inr s) d)) (List.mem_of_getElem? hi) (o := .dK (putK kvs (.inr s) v)) ⟨_, upd_same, k2, r4⟩
    rw [setμ_at s3.ce.nd hi] at s4
    exact q _ _ _ _ _ (g2.g.trans g3.g) s4 h
theorem tgm_fld {p C : Addr} {f : Str} {i : Nat} {fds : List (Str × D)} (ho : EvD K td ρ (.loc p)) (hi : μ[i]? = some (p, .ins C fds)) (c : Cls K C) (n : NoAttr K C f) (hl : fds.length < 1000) (h : P ρ (μ.set i (p, .ins C (putD f d fds)))) : TgM K M (gFld K td f) d ρ μ P := fun G0 H0 G H σ v st r Q q =>
  ho G H σ st.sub st.sl _ fun w G2 H2 g2 r2 => by
    cases r2
    have s2 := st.step g2
    obtain ⟨⟨dx, fs, hx, k1, rr⟩, _⟩ := s2.ce.at_ _ (List.mem_of_getElem? hi)
    refine ⟨p, C, dx, fs, rfl, hx, c, n, by have e := rr.length; rw [List.length_map, List.length_map] at e; omega, ?_⟩
    obtain ⟨k2, r3⟩ := putD_rep (f := f) (r.mono g2.g) k1 rr
    have s3 := s2.write (u := .ins C (putD f d fds)) (List.mem_of_getElem? hi) (o := .ins C dx (putF f v fs)) ⟨dx, _, upd_same, k2, r3⟩
    rw [setμ_at s2.ce.nd hi] at s3
    exact q _ _ _ _ _ g2.g s3 h
theorem run_asgM {g : TG} (h : Ev K M te ρ μ fun d μ1 => TgM K M g d ρ μ1 Φ.nx) : Run K M (tAsg te g) ρ μ Φ := fun Dn G0 H0 G H σ s k =>
  h G0 H0 G H σ s _ fun v d G1 H1 μ1 e1 s1 r1 p => p G0 H0 G1 H1 σ v s1 r1 _ fun σ' G' H' ρ' μ' e2 s2 p2 => k.nx _ _ _ _ _ (e1.trans e2) s2 p2
theorem run_par3G {i j l : Nat} {ta : TA} (h : EvA K M ta ρ μ fun ds μ1 => ∃ a b c, ds = [a, b, c] ∧ Φ.nx (((ρ.set i (some a)).set j (some b)).set l (some c)) μ1) : Run K M (tPar3 i j l ta) ρ μ Φ := fun Dn G0 H0 G H σ s k =>
  h G0 H0 G H σ s _ fun vs ds G' H' μ' e s' r ⟨a, b, c, ed, p⟩ => by
    subst ed
    cases r with
    | cons ra r =>
      cases r with
      | cons rb r =>
        cases r with
        | cons rc r =>
          cases r
          exact ⟨_, _, _, rfl, k.nx _ _ _ G' H' e (((s'.set i ra).set j rb).set l rc) p⟩
theorem ev_lcV {P : D → Mem → Prop} {wi : TI} {g : TG} {tt : TT} {vs : List Nat} {items : List D} (hl : items.length ≤ 100000) (I : Nat → List D → Mem → Prop) (hi : ItV K M wi ρ μ fun its μ1 => its = items ∧ I 0 [] μ1)
    (hs : ∀ (C : Addr) (i : Nat) d acc μ1, C ∉ M → C ∉ μ1.map (·.1) → items[i]? = some d → I i acc μ1 → acc.length ≤ i → ∃ is ρ2, Tg K g d is (wipeR ρ vs) ρ2 ∧ (∀ j ∈ is, j ∈ vs) ∧
      EvT K M tt ρ2 ((C, .lst acc) :: μ1) fun b μ2 => ∃ μ2', μ2 = (C, .lst acc) :: μ2' ∧ if b = true then Ev K M te ρ2 μ2 fun y μ3 => ∃ μ3', μ3 = (C, .lst acc) :: μ3' ∧ I (i + 1) (acc ++ [y]) μ3' else I (i + 1) acc μ2')
    (hd : ∀ acc μ1, I items.length acc μ1 → P (.lst acc) μ1) : Ev K M (tLc wi g tt te vs) ρ μ P := fun G0 H0 G H σ s Q q => hi G0 H0 G H σ s _ fun J its G1 H1 μ0 gg s1 it ⟨ei, h0⟩ C hC => by
  subst ei
  have hCM := s1.freshM hC
  have s2 := s1.cell (u := .lst []) hC (o := .lst []) ⟨[], upd_same, .nil⟩
  let St := fun (i : Nat) (H' : Hp) => ∃ (G' : Hp) (acc : List D) (μ' : Mem), Same G1 G' ∧ Stt K M G0 H0 G' H' σ ρ ((C, .lst acc) :: μ') ∧ I i acc μ' ∧ acc.length ≤ i
  refine ⟨fun i m H' => i ≤ its.length ∧ m = its.length - i ∧ St i H', ⟨its.length, Nat.zero_le _, rfl, G1, [], μ0, Same.refl _, s2, h0, Nat.le_refl _⟩, fun i m H' hW => ?_⟩
  obtain ⟨hle, hm, G', acc, μ', eG, s3, hI, hacc⟩ := hW
  obtain ⟨i1, i2, i3⟩ := it G' H' eG s3.sub
  by_cases hlt : i < its.length
  · refine .inr ⟨i1 i hlt, St (i + 1), fun H'' st => ⟨its.length - (i + 1), by omega, hlt, rfl, st⟩, fun x H2 y => ?_⟩
    obtain ⟨G2, d, e1, g3, r3⟩ := i3 i x H2 hlt y
    have s4 := s3.step g3
    have hnd := s4.ce.nd
    rw [List.map_cons, List.nodup_cons] at hnd
    obtain ⟨is, ρ2, tg, his, htt⟩ := hs C i d acc μ' hCM hnd.1 e1 hI hacc
    have l1 : Sl K G2 (L2.wipe σ vs) (wipeR ρ vs) := s4.sl.wipe vs
    refine tg x (L2.wipe σ vs) G2 H2 _ r3 s4.sub l1 fun σ' hw l2 => ⟨?_, ?_⟩
    · have e2 := hw vs his
      have e3 : L2.wipe (L2.wipe σ vs) vs = L2.wipe σ vs := wipe_wipe vs vs fun _ h => h
      rw [e2, e3]
    · have s5 : Stt K M G0 H0 G2 H2 σ' ρ2 ((C, .lst acc) :: μ') := ⟨s4.go, l2, s4.ce, s4.own, s4.base⟩
      refine htt G0 H0 G2 H2 σ' s5 _ fun b G3 H3 μ2 e5 s6 ⟨μ2', eμ, hb⟩ => ?_
      subst eμ
      cases b with
      | false =>
        have hb : I (i + 1) acc μ2' := hb
        show St (i + 1) H3
        exact ⟨G3, acc, μ2', eG.trans (g3.g.trans e5), ⟨s6.go, s4.sl.mono e5, s6.ce, s6.own, s6.base⟩, hb, Nat.le_succ_of_le hacc⟩
      | true =>
        show te σ' H3 _
        have hb : Ev K M te ρ2 ((C, .lst acc) :: μ2') _ := hb
        refine hb G0 H0 G3 H3 σ' s6 _ fun w y G4 H4 μ3 e6 s7 r7 ⟨μ3', eμ, hI3⟩ => ?_
        subst eμ
        obtain ⟨⟨xs, hx, rr⟩, _⟩ := s7.ce.at_ _ (List.mem_cons_self ..)
        have s8 := s7.write (u := .lst (acc ++ [y])) (List.mem_cons_self ..) (o := .lst (xs ++ [w])) ⟨_, upd_same, rr.snoc r7⟩
        rw [setμ_at (i := 0) s7.ce.nd rfl] at s8
        refine ⟨xs, hx, by rw [rr.length]; exact Nat.lt_of_le_of_lt (Nat.le_trans hacc (Nat.le_of_lt hlt)) (Nat.lt_of_le_of_lt hl (by decide)), G4, acc ++ [y], μ3', eG.trans (g3.g.trans (e5.trans e6)), ⟨s8.go, s4.sl.mono (e5.trans e6), s8.ce, s8.own, s8.base⟩, hI3, by rw [List.length_append]; exact Nat.succ_le_succ hacc⟩
  · have ei : i = its.length := by omega
    subst ei
    refine .inl ⟨i2, ?_⟩
    obtain ⟨⟨xs, hx, rr⟩, gp⟩ := s3.ce.at_ _ (List.mem_cons_self ..)
    have s9 := s3.freeze hCM hx
    exact q _ _ _ _ _ (gg.trans (eG.trans (same_new gp))) s9 (.lst upd_same (rr.mono (same_new gp))) (hd acc μ' hI)
end
end Am
namespace Am
open PySem PySem.Spec PyProof.Rows L2
section
variable {K : PySem.W.Frag} {M : List Addr} {ρ : Ro} {μ : Mem} {ta : TA} {E : XK} {P : D → Mem → Prop} {p : Addr} {u : Own} {i : Nat} {b n : Int}
theorem ev_draw (ha : EdA K ta ρ [.loc p, .int n]) (hi : μ[i]? = some (p, u)) (nd : (μ.map (·.1)).Nodup) (hn : 0 < n) (hn2 : n < 1000000) (hb : b < big) (hu : PenAt b u) (h : ∀ u' k, PenAt (b + 1) u' → 0 ≤ k → k < n → P (.int k) (μ.set i (p, u'))) : Ev K M (tCall (spM K R_draw) [] E ta) ρ μ P :=
  ev_call1 ha hi nd ⟨p, u, n, b, hn, hn2, hb, hu, rfl, rfl, rfl⟩ (fun d u' ⟨u2, e, h2, k, h0, h1, ed⟩ => by cases e; subst ed; exact h u' k h2 h0 h1) fun d μ' ⟨u2, e, _⟩ => ⟨u2, e⟩
theorem ev_pick {l : List D} (ha : EdA K ta ρ [.loc p, .lst l]) (hi : μ[i]? = some (p, u)) (nd : (μ.map (·.1)).Nodup) (hl : l ≠ []) (hl2 : l.length < 1000000) (hb : b < big) (hu : PenAt b u) (h : ∀ u' d, PenAt (b + 1) u' → d ∈ l → P d (μ.set i (p, u'))) : Ev K M (tCall (spM K R_pick) [] E ta) ρ μ P :=
  ev_call1 ha hi nd ⟨p, u, l, b, hl, hl2, hb, hu, rfl, rfl, rfl⟩ (fun d u' ⟨u2, e, h2, hd⟩ => by cases e; exact h u' d h2 hd) fun d μ' ⟨u2, e, _⟩ => ⟨u2, e⟩
end
theorem sub_of {α : Type} {hs l : List α} {j : Nat} {a : α} (h : List.Sublist hs (l.take j)) (ha : l[j]? = some a) : List.Sublist (hs ++ [a]) (l.take (j + 1)) := by
  rw [List.take_add_one, ha]
  exact h.append (List.Sublist.refl _)
theorem sub_of0 {α : Type} {hs l : List α} {j : Nat} (h : List.Sublist hs (l.take j)) : List.Sublist hs (l.take (j + 1)) := h.trans (by rw [List.take_add_one]; exact List.sublist_append_left _ _)
theorem mem_sD {d : D} {l : List Str} (h : d ∈ sD l) : ∃ n ∈ l, d = .str n := by
  obtain ⟨n, hn, e⟩ := List.mem_map.mp h
  exact ⟨n, hn, e.symm⟩
theorem len__law_items : ∀ ds μ Φ, R_items ds μ Φ → ds.length = 3 := fun _ _ _ ⟨_, _, _, _, _, _, _, _, _, _, _, _, h, _⟩ => by rw [h]; rfl
/-- the chosen ones: a sublist -/
def Chosen (names hs : List Str) : Prop := hs ≠ [] ∧ hs.Nodup ∧ (∀ h ∈ hs, h ∈ names) ∧ hs.length ≤ 6
theorem chosen_sub {names hs : List Str} (nd : names.Nodup) (hl : names.length ≤ 6) (h : List.Sublist hs names) (hne : hs ≠ []) : Chosen names hs := ⟨hne, nd.sublist h, fun _ hx => h.subset hx, Nat.le_trans h.length_le hl⟩
theorem chosen_one {names : List Str} {n : Str} (h : n ∈ names) : Chosen names [n] := ⟨by simp, by simp, fun x hx => by rw [List.mem_singleton.mp hx]; exact h, (show 1 ≤ 6 by decide)⟩
theorem chosen_rev {names hs : List Str} (h : Chosen names hs) : Chosen names hs.reverse := ⟨by simpa using h.1, by
  have := h.2.1
  rw [List.Nodup, List.pairwise_reverse]
  exact this.imp fun z => fun e => z e.symm, fun x hx => h.2.2.1 x (List.mem_reverse.mp hx), by rw [List.length_reverse]; exact h.2.2.2⟩
abbrev s__law_items : Stmt := topS 50
theorem sc__law_items : FnScope ["_law_pen_here", "_law_names", "_law_most", "_law_helpers", "_law_one"] ["_law_pen_here", "_law_names", "_law_most"] (defScope s__law_items) := ⟨rfl, rfl, rfl, by decide +kernel, rfl, by decide +kernel, by decide +kernel⟩
set_option maxHeartbeats 16000000 in
theorem ok__law_items {P : Program} {w : World} {K : PySem.W.Frag} {mg : Str → Option Value} {base : Heap} {c : Cls4} {f : Addr} {fd : FuncData} (B : Blt mg) (hc : ClsOk K c mg)
    (h__law_draw : Fn P w K mg base "_law_draw" 1 ["_law_pen_here", "_law_many"] (spM K R_draw))
    (h__law_pick : Fn P w K mg base "_law_pick" 2 ["_law_pen_here", "_law_some"] (spM K R_pick)) (F : FD K "_law_items" "_law_items" s__law_items f fd) : FnOk P w K mg base CX0 3 f fd ["_law_pen_here", "_law_names", "_law_most"] (spM K R_items) := by
  have sc := sc__law_items
  refine F.ok sc (fun vs H Q E h => len_M (n := 3) len__law_items h) (fun cdv A outer s H vs Q E hr h => ?_)
  have hu := hu_of hr
  refine ⟨_, PSs.nox ((pss_cons (ps_setLc (i := 3) (own := [("_law_one", 4)]) rfl sc.nd rfl rfl (sw_true rfl rfl rfl (by decide +kernel)) (xi_list (K := K) (pv 1)) (blkOk_by (own := [("_law_one", 4)]) (N := ["_law_pen_here", "_law_names", "_law_most", "_law_helpers", "_law_one"]) (sc := defScope s__law_items) (by decide +kernel)) (fun _ _ _ _ _ => (pg_name (i := 4) sc.nd rfl (Or.inl rfl))) (fun _ _ _ _ _ => (pts_one (pt_cmpR op_gt (pe_fn h__law_draw (hr.mono (by decide)) (by rfl) (pa_cons (pv 0) (pa_cons pe_int pa_nil))) pe_int (nomark _)))) (fun _ _ _ _ _ => (pv 4))) 
      (pss_cons (ps_if (pt_cmpR (xo_eqP (K := K) hr.units) (pv 3) (pe_lst pa_nil) (nomark _))
        (pss_one (ps_set (i := 3) sc.nd rfl (Or.inl rfl) (pe_lst (pa_cons (pe_fn h__law_pick (hr.mono (by decide)) (by rfl) (pa_cons (pv 0) (pa_cons (pv 1) pa_nil))) pa_nil))))
        pss_nil) 
      (pss_cons (ps_if (pt_cmpR op_eq (pe_fn h__law_draw (hr.mono (by decide)) (by rfl) (pa_cons (pv 0) (pa_cons pe_int pa_nil))) pe_int (nomark _))
        (pss_one (ps_set (i := 3) sc.nd rfl (Or.inl rfl) (xe_rev (K := K) (pv 3))))
        pss_nil) 
      (pss_one (ps_ret (pe_tup (pa_cons (pv 3) (pa_cons (pe_lc (own := [("_law_one", 4)]) rfl sc.nd (xi_list (K := K) (pv 3)) (blkOk_by (own := [("_law_one", 4)]) (N := ["_law_pen_here", "_law_names", "_law_most", "_law_helpers", "_law_one"]) (sc := defScope s__law_items) (by decide +kernel)) (fun _ _ _ _ _ => (pg_name (i := 4) sc.nd rfl (Or.inl rfl))) (fun _ _ _ _ _ => pts_nil) (fun _ _ _ _ _ => (pe_op op_add pe_int (pe_fn h__law_draw (hr.mono (by decide)) (by rfl) (pa_cons (pv 0) (pa_cons (pv 2) pa_nil)))))) pa_nil))))))))), read_M h ?_⟩
  rintro ds μ Φ ⟨p, u, names, most, b, hne, hnd, h6, hm0, hm1, hb, hu, rfl, rfl, rfl⟩ nd
  have hbig : big = 1000000000 := rfl
  refine run_mid (fun ρ' μ' => ∃ hs u', List.Sublist hs names ∧ PenAt (b + 6) u' ∧ ρ' = [some (.loc p), some (.lst (sD names)), some (.int most), some (.lst (sD hs)), none] ∧ μ' = [(p, u')]) ?_ ?_
  · refine run_asgG (ev_lc (items := sD names) (it_list (ed_var rfl)) (by rw [List.length_map]; omega) (fun j acc μ1 => j ≤ 6 ∧ ∃ hs u', acc = sD hs ∧ List.Sublist hs (names.take j) ∧ PenAt (b + j) u' ∧ μ1 = [(p, u')]) ⟨Nat.zero_le _, [], u, rfl, List.nil_sublist _, by simpa using hu, rfl⟩ (fun C j d acc μ1 hC1 hC2 hj hJ hacc => ?_) fun acc μ1 hJ => ?_)
    · obtain ⟨hj6, hs, u', rfl, hsub, hu', rfl⟩ := hJ
      rw [List.getElem?_map] at hj
      cases hn : names[j]? with
      | none => rw [hn] at hj; cases hj
      | some a =>
        rw [hn] at hj
        have hj : D.str a = d := Option.some.inj hj
        subst hj
        have hjl := (List.getElem?_eq_some_iff.mp hn).1
        refine ⟨_, _, tg_name, by simp, evt_test (ev_op (P1 := fun d μ1 => ∃ k u2, d = .int k ∧ PenAt (b + j + 1) u2 ∧ μ1 = [(C, .lst (sD hs)), (p, u2)]) (ev_draw (i := 1) (ea_cons (ed_var rfl) (ea_cons (ed_int 3) ea_nil)) rfl (by simpa using hC2) (by decide) (by decide) (by omega) hu' fun u2 k h2 h0 h1 => ⟨k, u2, rfl, h2, rfl⟩) ?_)⟩
        rintro _ _ ⟨k, u2, rfl, hu2, rfl⟩
        refine ev_of (ed_int 0) ⟨_, rv_bl, _, rfl, [(p, u2)], rfl, ?_⟩
        have hu3 : PenAt (b + ((j + 1 : Nat) : Int)) u2 := hu2.up (by omega)
        by_cases hk : (0 : Int) < k
        · rw [if_pos (decide_eq_true hk)]
          refine ev_of (ed_var rfl) ⟨[(p, u2)], rfl, by omega, hs ++ [a], u2, ?_, sub_of hsub hn, hu3, rfl⟩
          rw [show sD (hs ++ [a]) = sD hs ++ [D.str a] from List.map_append]
        · rw [if_neg (by rw [decide_eq_false hk]; decide)]
          exact ⟨by omega, hs, u2, rfl, sub_of0 hsub, hu3, rfl⟩
    · obtain ⟨hj6, hs, u', rfl, hsub, hu', rfl⟩ := hJ
      rw [List.length_map, List.take_length] at hsub
      exact ⟨hs, u', hsub, hu'.up (by rw [List.length_map]; omega), rfl, rfl⟩
  rintro _ _ ⟨hs, u1, hsub, hu1, rfl, rfl⟩
  refine run_mid (fun ρ' μ' => ∃ hs u', Chosen names hs ∧ PenAt (b + 7) u' ∧ ρ' = [some (.loc p), some (.lst (sD names)), some (.int most), some (.lst (sD hs)), none] ∧ μ' = [(p, u')]) ?_ ?_
  · refine run_if (et_test (ed_op (ed_var rfl) (ed_lst ea_nil (Nat.zero_le _)) lstS_eq)) (fun hb2 => ?_) fun hb2 => ?_
    · refine run_asgG (ev_lst (eva_cons (P1 := fun d μ1 => ∃ n u2, n ∈ names ∧ d = .str n ∧ PenAt (b + 7) u2 ∧ μ1 = [(p, u2)]) (ev_pick (i := 0) (ea_cons (ed_var rfl) (ea_cons (ed_var rfl) ea_nil)) rfl nd (by simpa using hne) (by rw [List.length_map]; omega) (by omega) hu1 fun u2 d h2 hd => ?_) ?_))
      · obtain ⟨n, hn, rfl⟩ := mem_sD hd
        exact ⟨n, u2, hn, rfl, h2.up (by omega), rfl⟩
      · rintro _ _ ⟨n, u2, hn, rfl, h2, rfl⟩
        exact eva_of ea_nil ⟨(show 1 ≤ 100000 by decide), [n], u2, chosen_one hn, h2, rfl, rfl⟩
    · exact run_next ⟨hs, u1, chosen_sub hnd h6 hsub (of_decide_eq_false hb2), hu1.up (by omega), rfl, rfl⟩
  rintro _ _ ⟨hs, u1, hch, hu1, rfl, rfl⟩
  refine run_mid (fun ρ' μ' => ∃ hs u', Chosen names hs ∧ PenAt (b + 8) u' ∧ ρ' = [some (.loc p), some (.lst (sD names)), some (.int most), some (.lst (sD hs)), none] ∧ μ' = [(p, u')]) ?_ ?_
  · refine run_ifG (evt_test (ev_op (P1 := fun d μ1 => ∃ k u2, d = .int k ∧ PenAt (b + 8) u2 ∧ μ1 = [(p, u2)]) (ev_draw (i := 0) (ea_cons (ed_var rfl) (ea_cons (ed_int 2) ea_nil)) rfl nd (by decide) (by decide) (by omega) hu1 fun u2 k h2 h0 h1 => ⟨k, u2, rfl, h2.up (by omega), rfl⟩) ?_))
    rintro _ _ ⟨k, u2, rfl, hu2, rfl⟩
    refine ev_of (ed_int 0) ⟨_, rv_eq rfl rfl rfl, _, rfl, ?_⟩
    by_cases hk : V.int k = V.int 0
    · rw [if_pos (decide_eq_true hk)]
      refine run_asg (ed_rev (ed_var rfl)) ⟨hs.reverse, u2, chosen_rev hch, hu2, ?_, rfl⟩
      show [_, _, _, some (D.lst (sD hs).reverse), _] = _
      rw [← List.map_reverse]
    · rw [if_neg (by rw [decide_eq_false hk]; decide)]
      exact run_next ⟨hs, u2, hch, hu2, rfl, rfl⟩
  rintro _ _ ⟨hs, u1, hch, hu1, rfl, rfl⟩
  refine run_retG (ev_tup (eva_cons (P1 := fun d μ1 => d = .lst (sD hs) ∧ μ1 = [(p, u1)]) (ev_of (ed_var rfl) ⟨rfl, rfl⟩) ?_))
  rintro _ _ ⟨rfl, rfl⟩
  refine eva_cons (P1 := fun d μ1 => ∃ as u', d = .lst (iD as) ∧ as.length = hs.length ∧ (∀ a ∈ as, 1 ≤ a ∧ a ≤ most) ∧ PenAt (b + 20) u' ∧ μ1 = [(p, u')]) (ev_lc (items := sD hs) (it_list (ed_var rfl)) (by rw [List.length_map]; have := hch.2.2.2; omega) (fun j acc μ1 => j ≤ hs.length ∧ ∃ as u', acc = iD as ∧ as.length = j ∧ (∀ a ∈ as, 1 ≤ a ∧ a ≤ most) ∧ PenAt (b + 8 + j) u' ∧ μ1 = [(p, u')]) ⟨Nat.zero_le _, [], u1, rfl, rfl, (fun a ha => by cases ha), by simpa using hu1, rfl⟩ (fun C j d acc μ1 hC1 hC2 hj hJ hacc => ?_) fun acc μ1 hJ => ?_) ?_
  · obtain ⟨hj6, as, u', rfl, hal, ham, hu', rfl⟩ := hJ
    have hjl : j < hs.length := by have := (List.getElem?_eq_some_iff.mp hj).1; rwa [List.length_map] at this
    have h6' := hch.2.2.2
    refine ⟨_, _, tg_name, by simp, evt_yes ⟨_, rfl, ?_⟩⟩
    rw [if_pos rfl]
    refine ev_op (P1 := fun d μ1 => d = .int 1 ∧ μ1 = [(C, .lst (iD as)), (p, u')]) (ev_of (ed_int 1) ⟨rfl, rfl⟩) ?_
    rintro _ _ ⟨rfl, rfl⟩
    refine ev_draw (i := 1) (ea_cons (ed_var rfl) (ea_cons (ed_var rfl) ea_nil)) rfl (by simpa using hC2) hm0 (by omega) (by omega) hu' fun u2 k h2 h0 h1 => ⟨_, rv_int, [(p, u2)], rfl, by omega, as ++ [1 + k], u2, ?_, ?_, ?_, h2.up (by omega), rfl⟩
    · rw [show iD (as ++ [1 + k]) = iD as ++ [D.int (1 + k)] from List.map_append]
    · rw [List.length_append, hal]; rfl
    · intro a ha
      rcases List.mem_append.mp ha with z | z
      · exact ham a z
      · rw [List.mem_singleton.mp z]; omega
  · obtain ⟨hj6, as, u', rfl, hal, ham, hu', rfl⟩ := hJ
    have h6' := hch.2.2.2
    exact ⟨as, u', rfl, by rw [hal, List.length_map], ham, hu'.up (by rw [List.length_map]; omega), rfl⟩
  · rintro _ _ ⟨as, u', rfl, hal, ham, hu', rfl⟩
    exact eva_of ea_nil ⟨(show 2 ≤ 100000 by decide), _, List.Sublist.refl _, rfl, u', rfl, hu', hs, as, ⟨hch.1, hch.2.1, hch.2.2.1, hal.symm, ham⟩, rfl⟩
theorem len__law_two_of : ∀ ds μ Φ, R_twoOf ds μ Φ → ds.length = 2 := fun _ _ _ ⟨_, _, _, _, _, _, _, _, _, h, _⟩ => by rw [h]; rfl
abbrev s__law_two_of : Stmt := topS 52
theorem sc__law_two_of : FnScope ["_law_pen_here", "_law_names", "_law_first", "_law_one"] ["_law_pen_here", "_law_names"] (defScope s__law_two_of) := ⟨rfl, rfl, rfl, by decide +kernel, rfl, by decide +kernel, by decide +kernel⟩
set_option maxHeartbeats 16000000 in
theorem ok__law_two_of {P : Program} {w : World} {K : PySem.W.Frag} {mg : Str → Option Value} {base : Heap} {c : Cls4} {f : Addr} {fd : FuncData} (B : Blt mg) (hc : ClsOk K c mg)
    (h__law_pick : Fn P w K mg base "_law_pick" 2 ["_law_pen_here", "_law_some"] (spM K R_pick)) (F : FD K "_law_two_of" "_law_two_of" s__law_two_of f fd) : FnOk P w K mg base CX0 3 f fd ["_law_pen_here", "_law_names"] (spM K R_twoOf) := by
  have sc := sc__law_two_of
  refine F.ok sc (fun vs H Q E h => len_M (n := 2) len__law_two_of h) (fun cdv A outer s H vs Q E hr h => ?_)
  have hu := hu_of hr
  refine ⟨_, PSs.nox ((pss_cons (ps_set (i := 2) sc.nd rfl (Or.inr rfl) (pe_fn h__law_pick (hr.mono (by decide)) (by rfl) (pa_cons (pv 0) (pa_cons (pv 1) pa_nil)))) 
      (pss_one (ps_ret (pe_lst (pa_cons (pv 2) (pa_cons (pe_fn h__law_pick (hr.mono (by decide)) (by rfl) (pa_cons (pv 0) (pa_cons (pe_lc (own := [("_law_one", 3)]) rfl sc.nd (xi_list (K := K) (pv 1)) (blkOk_by (own := [("_law_one", 3)]) (N := ["_law_pen_here", "_law_names", "_law_first", "_law_one"]) (sc := defScope s__law_two_of) (by decide +kernel)) (fun _ _ _ _ _ => (pg_name (i := 3) sc.nd rfl (Or.inl rfl))) (fun _ _ _ _ _ => (pts_one (pt_cmpR op_ne (pv 3) (pv 2) (nomark _)))) (fun _ _ _ _ _ => (pv 3))) pa_nil))) pa_nil))))))), read_M h ?_⟩
  rintro ds μ Φ ⟨p, u, names, b, hnd, h2, h6, hb, hu, rfl, rfl, rfl⟩ nd
  have hbig : big = 1000000000 := rfl
  have hne : names ≠ [] := fun z => by rw [z] at h2; simp at h2
  refine run_seq (run_asgG (ev_pick (i := 0) (ea_cons (ed_var rfl) (ea_cons (ed_var rfl) ea_nil)) rfl nd (by simpa using hne) (by rw [List.length_map]; omega) (by omega) hu fun u1 d h1 hd => ?_))
  obtain ⟨x, hx, rfl⟩ := mem_sD hd
  have hex : (names.filter fun n => !decide (V.str n = V.str x)) ≠ [] := by
    intro z
    have hall : ∀ n ∈ names, n = x := fun n hn => by
      have := List.filter_eq_nil_iff.mp z n hn
      simpa using this
    cases names with
    | nil => simp at h2
    | cons a names =>
      cases names with
      | nil => simp at h2
      | cons c names =>
        have e1 := hall a (by simp)
        have e2 := hall c (by simp)
        rw [List.nodup_cons] at hnd
        exact hnd.1 (by rw [e1, e2]; simp)
  refine run_retG (ev_lst (eva_cons (P1 := fun d μ1 => d = .str x ∧ μ1 = [(p, u1)]) (ev_of (ed_var rfl) ⟨rfl, rfl⟩) ?_))
  rintro _ _ ⟨rfl, rfl⟩
  refine eva_cons (P1 := fun d μ1 => ∃ y u2, y ∈ names ∧ x ≠ y ∧ d = .str y ∧ PenAt (b + 2) u2 ∧ μ1 = [(p, u2)]) (ev_pick (i := 0) (ea_cons (ed_var rfl) (ea_cons (ed_lcS D.str (fun n => !decide (V.str n = V.str x)) (fun n => n) (it_list (ed_var rfl)) (by omega) fun n hn => ⟨_, _, tg_name, by simp, et_test (ed_op (ed_var rfl) (ed_var rfl) (rv_ne rfl rfl rfl)), fun _ => ed_var rfl⟩) ea_nil)) rfl nd (by rw [List.map_id']; simpa using hex) (by rw [List.length_map, List.length_map]; have := List.length_filter_le (fun n => !decide (V.str n = V.str x)) names; omega) (by omega) h1 fun u2 d h2' hd2 => ?_) ?_
  · rw [List.map_id'] at hd2
    obtain ⟨y, hy, rfl⟩ := mem_sD hd2
    obtain ⟨hy1, hy2⟩ := List.mem_filter.mp hy
    exact ⟨y, u2, hy1, fun z => by rw [z] at hy2; simp at hy2, rfl, h2'.up (by omega), rfl⟩
  · rintro _ _ ⟨y, u2, hy, hxy, rfl, hu2, rfl⟩
    exact eva_of ea_nil ⟨(show 2 ≤ 100000 by decide), _, List.Sublist.refl _, rfl, u2, rfl, hu2, x, y, hxy, hx, hy, rfl⟩
end Am
namespace Am
open PySem PySem.Spec PyProof.Rows L2
theorem zipD_enc : ∀ (hs : List Str) (ls : List (Option Int)), zipD (sD hs) (ls.map optI) = (hs.zip ls).map encI
  | [], [] => rfl
  | [], _ :: _ => rfl
  | _ :: _, [] => rfl
  | a :: l, b :: m => by
    show D.tup [.str a, optI b] :: zipD (sD l) (m.map optI) = _
    rw [zipD_enc l m]
    rfl
theorem zip_fst {α β : Type} : ∀ {as : List α} {bs : List β}, as.length = bs.length → (as.zip bs).map (·.1) = as
  | [], _, _ => by simp
  | _ :: _, [], h => by simp at h
  | a :: as, b :: bs, h => by
    rw [List.zip_cons_cons, List.map_cons, zip_fst (by simpa using h)]
theorem nodup_rev {α : Type} {l : List α} (h : l.Nodup) : l.reverse.Nodup := by
  rw [List.Nodup, List.pairwise_reverse]
  exact h.imp fun z => fun e => z e.symm
theorem nodup_sub_len {α : Type} [DecidableEq α] : ∀ {L M : List α}, L.Nodup → (∀ x ∈ L, x ∈ M) → L.length ≤ M.length
  | [], M, _, _ => Nat.zero_le _
  | a :: L, M, nd, h => by
    rw [List.nodup_cons] at nd
    have ha := h a (List.mem_cons_self ..)
    have := nodup_sub_len (L := L) (M := M.erase a) nd.2 fun x hx => (List.mem_erase_of_ne (fun z => nd.1 (by rw [← z]; exact hx))).mpr (h x (List.mem_cons_of_mem _ hx))
    rw [List.length_erase_of_mem ha] at this
    have := List.length_pos_of_mem ha
    rw [List.length_cons]
    omega
theorem len__law_reader_of : ∀ ds μ Φ, R_readerOf ds μ Φ → ds.length = 3 := fun _ _ _ ⟨_, _, _, _, _, _, _, _, _, _, _, _, h, _⟩ => by rw [h]; rfl
abbrev s__law_reader_of : Stmt := topS 53
theorem sc__law_reader_of : FnScope ["_law_pen_here", "_law_names", "_law_most", "_law_chosen", "_law_limits", "_law_found", "_law_one"] ["_law_pen_here", "_law_names", "_law_most"] (defScope s__law_reader_of) := ⟨rfl, rfl, rfl, by decide +kernel, rfl, by decide +kernel, by decide +kernel⟩
set_option maxHeartbeats 16000000 in
theorem ok__law_reader_of {P : Program} {w : World} {K : PySem.W.Frag} {mg : Str → Option Value} {base : Heap} {c : Cls4} {f : Addr} {fd : FuncData} (B : Blt mg) (hc : ClsOk K c mg)
    (h__law_draw : Fn P w K mg base "_law_draw" 1 ["_law_pen_here", "_law_many"] (spM K R_draw))
    (h__law_pick : Fn P w K mg base "_law_pick" 2 ["_law_pen_here", "_law_some"] (spM K R_pick)) (F : FD K "_law_reader_of" "_law_reader_of" s__law_reader_of f fd) : FnOk P w K mg base CX0 3 f fd ["_law_pen_here", "_law_names", "_law_most"] (spM K R_readerOf) := by
  have sc := sc__law_reader_of
  refine F.ok sc (fun vs H Q E h => len_M (n := 3) len__law_reader_of h) (fun cdv A outer s H vs Q E hr h => ?_)
  have hu := hu_of hr
  refine ⟨_, PSs.nox ((pss_cons (ps_setLc (i := 3) (own := [("_law_one", 6)]) rfl sc.nd rfl rfl (sw_true rfl rfl rfl (by decide +kernel)) (xi_list (K := K) (pv 1)) (blkOk_by (own := [("_law_one", 6)]) (N := ["_law_pen_here", "_law_names", "_law_most", "_law_chosen", "_law_limits", "_law_found", "_law_one"]) (sc := defScope s__law_reader_of) (by decide +kernel)) (fun _ _ _ _ _ => (pg_name (i := 6) sc.nd rfl (Or.inl rfl))) (fun _ _ _ _ _ => (pts_one (pt_cmpR op_gt (pe_fn h__law_draw (hr.mono (by decide)) (by rfl) (pa_cons (pv 0) (pa_cons pe_int pa_nil))) pe_int (nomark _)))) (fun _ _ _ _ _ => (pv 6))) 
      (pss_cons (ps_if (pt_cmpR (xo_eqP (K := K) hr.units) (pv 3) (pe_lst pa_nil) (nomark _))
        (pss_one (ps_set (i := 3) sc.nd rfl (Or.inl rfl) (pe_lst (pa_cons (pe_fn h__law_pick (hr.mono (by decide)) (by rfl) (pa_cons (pv 0) (pa_cons (pv 1) pa_nil))) pa_nil))))
        pss_nil) 
      (pss_cons (ps_setLc (i := 4) (own := [("_law_one", 6)]) rfl sc.nd rfl rfl (sw_true rfl rfl rfl (by decide +kernel)) (xi_list (K := K) (pv 3)) (blkOk_by (own := [("_law_one", 6)]) (N := ["_law_pen_here", "_law_names", "_law_most", "_law_chosen", "_law_limits", "_law_found", "_law_one"]) (sc := defScope s__law_reader_of) (by decide +kernel)) (fun _ _ _ _ _ => (pg_name (i := 6) sc.nd rfl (Or.inl rfl))) (fun _ _ _ _ _ => pts_nil) (fun _ _ _ _ _ => (pe_ifExp (pt_cmpR op_gt (pe_fn h__law_draw (hr.mono (by decide)) (by rfl) (pa_cons (pv 0) (pa_cons pe_int pa_nil))) pe_int (nomark _)) pe_non (pe_fn h__law_draw (hr.mono (by decide)) (by rfl) (pa_cons (pv 0) (pa_cons (pe_op op_add (pv 2) pe_int) pa_nil)))))) 
      (pss_cons (ps_set (i := 5) sc.nd rfl (Or.inl rfl) (pe_listZip (K := K) rfl (by rfl) B.list (by rfl) B.zip (pa_cons (pv 3) (pa_cons (pv 4) pa_nil)))) 
      (pss_one (ps_ret (pe_ifExp (pt_cmpR op_eq (pe_fn h__law_draw (hr.mono (by decide)) (by rfl) (pa_cons (pv 0) (pa_cons pe_int pa_nil))) pe_int (nomark _)) (xe_rev (K := K) (pv 5)) (pv 5))))))))), read_M h ?_⟩
  rintro ds μ Φ ⟨p, u, names, most, b, hne, hnd, h6, hm0, hm1, hb, hu, rfl, rfl, rfl⟩ nd
  have hbig : big = 1000000000 := rfl
  refine run_mid (fun ρ' μ' => ∃ hs u', List.Sublist hs names ∧ PenAt (b + 6) u' ∧ ρ' = [some (.loc p), some (.lst (sD names)), some (.int most), some (.lst (sD hs)), none, none, none] ∧ μ' = [(p, u')]) ?_ ?_
  · refine run_asgG (ev_lc (items := sD names) (it_list (ed_var rfl)) (by rw [List.length_map]; omega) (fun j acc μ1 => j ≤ 6 ∧ ∃ hs u', acc = sD hs ∧ List.Sublist hs (names.take j) ∧ PenAt (b + j) u' ∧ μ1 = [(p, u')]) ⟨Nat.zero_le _, [], u, rfl, List.nil_sublist _, by simpa using hu, rfl⟩ (fun C j d acc μ1 hC1 hC2 hj hJ hacc => ?_) fun acc μ1 hJ => ?_)
    · obtain ⟨hj6, hs, u', rfl, hsub, hu', rfl⟩ := hJ
      rw [List.getElem?_map] at hj
      cases hn : names[j]? with
      | none => rw [hn] at hj; cases hj
      | some a =>
        rw [hn] at hj
        have hj : D.str a = d := Option.some.inj hj
        subst hj
        have hjl := (List.getElem?_eq_some_iff.mp hn).1
        refine ⟨_, _, tg_name, by simp, evt_test (ev_op (P1 := fun d μ1 => ∃ k u2, d = .int k ∧ PenAt (b + j + 1) u2 ∧ μ1 = [(C, .lst (sD hs)), (p, u2)]) (ev_draw (i := 1) (ea_cons (ed_var rfl) (ea_cons (ed_int 3) ea_nil)) rfl (by simpa using hC2) (by decide) (by decide) (by omega) hu' fun u2 k h2 h0 h1 => ⟨k, u2, rfl, h2, rfl⟩) ?_)⟩
        rintro _ _ ⟨k, u2, rfl, hu2, rfl⟩
        refine ev_of (ed_int 0) ⟨_, rv_bl, _, rfl, [(p, u2)], rfl, ?_⟩
        have hu3 : PenAt (b + ((j + 1 : Nat) : Int)) u2 := hu2.up (by omega)
        by_cases hk : (0 : Int) < k
        · rw [if_pos (decide_eq_true hk)]
          refine ev_of (ed_var rfl) ⟨[(p, u2)], rfl, by omega, hs ++ [a], u2, ?_, sub_of hsub hn, hu3, rfl⟩
          rw [show sD (hs ++ [a]) = sD hs ++ [D.str a] from List.map_append]
        · rw [if_neg (by rw [decide_eq_false hk]; decide)]
          exact ⟨by omega, hs, u2, rfl, sub_of0 hsub, hu3, rfl⟩
    · obtain ⟨hj6, hs, u', rfl, hsub, hu', rfl⟩ := hJ
      rw [List.length_map, List.take_length] at hsub
      exact ⟨hs, u', hsub, hu'.up (by rw [List.length_map]; omega), rfl, rfl⟩
  rintro _ _ ⟨hs, u1, hsub, hu1, rfl, rfl⟩
  refine run_mid (fun ρ' μ' => ∃ hs u', Chosen names hs ∧ PenAt (b + 7) u' ∧ ρ' = [some (.loc p), some (.lst (sD names)), some (.int most), some (.lst (sD hs)), none, none, none] ∧ μ' = [(p, u')]) ?_ ?_
  · refine run_if (et_test (ed_op (ed_var rfl) (ed_lst ea_nil (Nat.zero_le _)) lstS_eq)) (fun hb2 => ?_) fun hb2 => ?_
    · refine run_asgG (ev_lst (eva_cons (P1 := fun d μ1 => ∃ n u2, n ∈ names ∧ d = .str n ∧ PenAt (b + 7) u2 ∧ μ1 = [(p, u2)]) (ev_pick (i := 0) (ea_cons (ed_var rfl) (ea_cons (ed_var rfl) ea_nil)) rfl nd (by simpa using hne) (by rw [List.length_map]; omega) (by omega) hu1 fun u2 d h2 hd => ?_) ?_))
      · obtain ⟨n, hn, rfl⟩ := mem_sD hd
        exact ⟨n, u2, hn, rfl, h2.up (by omega), rfl⟩
      · rintro _ _ ⟨n, u2, hn, rfl, h2, rfl⟩
        exact eva_of ea_nil ⟨(show 1 ≤ 100000 by decide), [n], u2, chosen_one hn, h2, rfl, rfl⟩
    · exact run_next ⟨hs, u1, chosen_sub hnd h6 hsub (of_decide_eq_false hb2), hu1.up (by omega), rfl, rfl⟩
  rintro _ _ ⟨hs, u1, hch, hu1, rfl, rfl⟩
  have h6' := hch.2.2.2
  refine run_mid (fun ρ' μ' => ∃ (ls : List (Option Int)) (u' : Own), ls.length = hs.length ∧ (∀ o ∈ ls, ∀ x, o = some x → 0 ≤ x ∧ x ≤ most) ∧ PenAt (b + 20) u' ∧ ρ' = [some (.loc p), some (.lst (sD names)), some (.int most), some (.lst (sD hs)), some (.lst (ls.map optI)), none, none] ∧ μ' = [(p, u')]) ?_ ?_
  · refine run_asgG (ev_lc (items := sD hs) (it_list (ed_var rfl)) (by rw [List.length_map]; omega) (fun j acc μ1 => j ≤ hs.length ∧ ∃ (ls : List (Option Int)) (u' : Own), acc = ls.map optI ∧ ls.length = j ∧ (∀ o ∈ ls, ∀ x, o = some x → 0 ≤ x ∧ x ≤ most) ∧ PenAt (b + 7 + 2 * j) u' ∧ μ1 = [(p, u')]) ⟨Nat.zero_le _, [], u1, rfl, rfl, (fun a ha => (by cases ha)), by simpa using hu1, rfl⟩ (fun C j d acc μ1 hC1 hC2 hj hJ hacc => ?_) fun acc μ1 hJ => ?_)
    · obtain ⟨hj6, ls, u', rfl, hal, ham, hu', rfl⟩ := hJ
      have hjl : j < hs.length := by have := (List.getElem?_eq_some_iff.mp hj).1; rwa [List.length_map] at this
      refine ⟨_, _, tg_name, by simp, evt_yes ⟨_, rfl, ?_⟩⟩
      rw [if_pos rfl]
      have fin : ∀ (o : Option Int) u2, (∀ x, o = some x → 0 ≤ x ∧ x ≤ most) → PenAt (b + 7 + 2 * j + 2) u2 → ∃ μ3', [(C, Own.lst (ls.map optI)), (p, u2)] = (C, .lst (ls.map optI)) :: μ3' ∧ j + 1 ≤ hs.length ∧ ∃ (ls' : List (Option Int)) (u'' : Own), ls.map optI ++ [optI o] = ls'.map optI ∧ ls'.length = j + 1 ∧ (∀ o ∈ ls', ∀ x, o = some x → 0 ≤ x ∧ x ≤ most) ∧ PenAt (b + 7 + 2 * ((j + 1 : Nat) : Int)) u'' ∧ μ3' = [(p, u'')] := by
        intro o u2 ho hu2
        refine ⟨[(p, u2)], rfl, by omega, ls ++ [o], u2, by rw [List.map_append]; rfl, by rw [List.length_append, hal]; rfl, fun z hz x hx => ?_, hu2.up (by omega), rfl⟩
        rcases List.mem_append.mp hz with w | w
        · exact ham z w x hx
        · rw [List.mem_singleton.mp w] at hx; exact ho x hx
      refine ev_if (PT := fun bb μ1 => ∃ u2, PenAt (b + 7 + 2 * j + 1) u2 ∧ μ1 = [(C, .lst (ls.map optI)), (p, u2)]) (evt_test (ev_op (P1 := fun d μ1 => ∃ k u2, d = .int k ∧ PenAt (b + 7 + 2 * j + 1) u2 ∧ μ1 = [(C, .lst (ls.map optI)), (p, u2)]) (ev_draw (i := 1) (ea_cons (ed_var rfl) (ea_cons (ed_int 5) ea_nil)) rfl (by simpa using hC2) (by decide) (by decide) (by omega) hu' fun u2 k h2 h0 h1 => ⟨k, u2, rfl, h2, rfl⟩) ?_)) ?_ ?_
      · rintro _ _ ⟨k, u2, rfl, hu2, rfl⟩
        exact ev_of (ed_int 0) ⟨_, rv_bl, _, rfl, u2, hu2, rfl⟩
      · rintro μ1 ⟨u2, hu2, rfl⟩
        exact ev_of ed_non (fin none u2 (fun x hx => (by cases hx)) (hu2.up (by omega)))
      · rintro μ1 ⟨u2, hu2, rfl⟩
        exact ev_draw (i := 1) (ea_cons (ed_var rfl) (ea_cons (ed_op (ed_var rfl) (ed_int 1) rv_int) ea_nil)) rfl (by simpa using hC2) (by omega) (by omega) (by omega) hu2 fun u3 k h3 h0 h1 => fin (some k) u3 (fun x hx => by cases hx; exact ⟨h0, by omega⟩) (h3.up (by omega))
    · obtain ⟨hj6, ls, u', rfl, hal, ham, hu', rfl⟩ := hJ
      exact ⟨ls, u', by rw [hal, List.length_map], ham, hu'.up (by rw [List.length_map]; omega), rfl, rfl⟩
  rintro _ _ ⟨ls, u2, hll, hlm, hu2, rfl, rfl⟩
  refine run_seq (run_asg (d := .lst ((hs.zip ls).map encI)) (EvD.is (ed_listZip (ea_cons (ed_var rfl) (ea_cons (ed_var rfl) ea_nil)) (by rw [List.length_map, List.length_map, hll])) (by rw [zipD_enc])) ?_)
  have hfst : (hs.zip ls).map (·.1) = hs := zip_fst hll.symm
  have hrd : RdOk names most (hs.zip ls) := ⟨fun z => hch.1 (by rw [← hfst, z]; rfl), by rw [hfst]; exact hch.2.1, fun q hq => hch.2.2.1 _ (List.of_mem_zip hq).1, fun q hq x hx => hlm _ (List.of_mem_zip hq).2 x hx⟩
  have hrd2 : RdOk names most (hs.zip ls).reverse := ⟨by simpa using hrd.ne, by rw [List.map_reverse]; exact nodup_rev hrd.nd, fun q hq => hrd.sub q (List.mem_reverse.mp hq), fun q hq => hrd.am q (List.mem_reverse.mp hq)⟩
  refine run_retG (ev_if (PT := fun bb μ1 => ∃ u3, PenAt (b + 30) u3 ∧ μ1 = [(p, u3)]) (evt_test (ev_op (P1 := fun d μ1 => ∃ k u3, d = .int k ∧ PenAt (b + 30) u3 ∧ μ1 = [(p, u3)]) (ev_draw (i := 0) (ea_cons (ed_var rfl) (ea_cons (ed_int 3) ea_nil)) rfl nd (by decide) (by decide) (by omega) hu2 fun u3 k h2 h0 h1 => ⟨k, u3, rfl, h2.up (by omega), rfl⟩) ?_)) ?_ ?_)
  · rintro _ _ ⟨k, u3, rfl, hu3, rfl⟩
    exact ev_of (ed_int 0) ⟨_, rv_eq rfl rfl rfl, _, rfl, u3, hu3, rfl⟩
  · rintro μ1 ⟨u3, hu3, rfl⟩
    refine ev_of (ed_rev (ed_var rfl)) ⟨_, List.Sublist.refl _, rfl, u3, rfl, hu3, _, hrd2, ?_⟩
    rw [← List.map_reverse]
    rfl
  · rintro μ1 ⟨u3, hu3, rfl⟩
    exact ev_of (ed_var rfl) ⟨_, List.Sublist.refl _, rfl, u3, rfl, hu3, _, hrd, rfl⟩
theorem len__law_mend_of : ∀ ds μ Φ, R_mendOf ds μ Φ → ds.length = 5 := fun _ _ _ ⟨_, _, _, _, _, _, _, _, _, _, _, _, _, _, _, _, _, _, _, _, _, h, _⟩ => by rw [h]; rfl
def encIt (r : List Str × List Int) : D := .tup [.lst (sD r.1), .lst (iD r.2)]
abbrev s__law_mend_of : Stmt := topS 51
theorem sc__law_mend_of : FnScope ["_law_pen_here", "_law_store_here", "_law_label", "_law_names", "_law_most", "_law_others", "_law_rows", "_law_mend", "_law_one", "_law_row"] ["_law_pen_here", "_law_store_here", "_law_label", "_law_names", "_law_most"] (defScope s__law_mend_of) := ⟨rfl, rfl, rfl, by decide +kernel, rfl, by decide +kernel, by decide +kernel⟩
set_option maxHeartbeats 16000000 in
theorem ok__law_mend_of {P : Program} {w : World} {K : PySem.W.Frag} {mg : Str → Option Value} {base : Heap} {c : Cls4} {f : Addr} {fd : FuncData} (B : Blt mg) (hc : ClsOk K c mg)
    (h__law_items : Fn P w K mg base "_law_items" 3 ["_law_pen_here", "_law_names", "_law_most"] (spM K R_items))
    (h__law_draw : Fn P w K mg base "_law_draw" 1 ["_law_pen_here", "_law_many"] (spM K R_draw)) (F : FD K "_law_mend_of" "_law_mend_of" s__law_mend_of f fd) : FnOk P w K mg base CX0 4 f fd ["_law_pen_here", "_law_store_here", "_law_label", "_law_names", "_law_most"] (spM K R_mendOf) := by
  have sc := sc__law_mend_of
  refine F.ok sc (fun vs H Q E h => len_M (n := 5) len__law_mend_of h) (fun cdv A outer s H vs Q E hr h => ?_)
  have hu := hu_of hr
  refine ⟨_, PSs.nox ((pss_cons (ps_set (i := 5) sc.nd rfl (Or.inr rfl) (pe_lc (own := [("_law_one", 8)]) rfl sc.nd (xi_list (K := K) (pe_dget hu (pv 1) pe_str (fun _ _ => rfl))) (blkOk_by (own := [("_law_one", 8)]) (N := ["_law_pen_here", "_law_store_here", "_law_label", "_law_names", "_law_most", "_law_others", "_law_rows", "_law_mend", "_law_one", "_law_row"]) (sc := defScope s__law_mend_of) (by decide +kernel)) (fun _ _ _ _ _ => (pg_name (i := 8) sc.nd rfl (Or.inl rfl))) (fun _ _ _ _ _ => (pts_one (pt_cmpR (xo_notIn (K := K)) (pv 8) (pv 3) rfl))) (fun _ _ _ _ _ => (pv 8)))) 
      (pss_cons (ps_setLc (i := 6) (own := [("_law_one", 8)]) rfl sc.nd rfl rfl (sw_true rfl rfl rfl (by decide +kernel)) (xi_list (K := K) (pv 3)) (blkOk_by (own := [("_law_one", 8)]) (N := ["_law_pen_here", "_law_store_here", "_law_label", "_law_names", "_law_most", "_law_others", "_law_rows", "_law_mend", "_law_one", "_law_row"]) (sc := defScope s__law_mend_of) (by decide +kernel)) (fun _ _ _ _ _ => (pg_name (i := 8) sc.nd rfl (Or.inl rfl))) (fun _ _ _ _ _ => pts_nil) (fun _ _ _ _ _ => (pe_fn h__law_items (hr.mono (by decide)) (by rfl) (pa_cons (pv 0) (pa_cons (pv 5) (pa_cons (pv 4) pa_nil)))))) 
      (pss_cons (ps_set (i := 7) sc.nd rfl (Or.inl rfl) (pe_disp (pps_cons pe_str (pv 2) (pps_cons pe_str (pe_ifExp (pt_cmpR op_eq (pe_callB (xc_len (K := K)) (by rfl) B.len boot_len (pa_cons (pv 3) pa_nil)) pe_int (nomark _)) pe_str pe_str) (pps_cons pe_str (pv 3) (pps_cons pe_str pe_non pps_nil)))) (by rfl) (by rfl) (fun z => by cases z) (by decide))) 
      (pss_cons (ps_asg (pe_tup (pa_cons (pe_lc (own := [("_law_row", 9)]) rfl sc.nd (xi_list (K := K) (pv 6)) (blkOk_by (own := [("_law_row", 9)]) (N := ["_law_pen_here", "_law_store_here", "_law_label", "_law_names", "_law_most", "_law_others", "_law_rows", "_law_mend", "_law_one", "_law_row"]) (sc := defScope s__law_mend_of) (by decide +kernel)) (fun _ _ _ _ _ => (pg_name (i := 9) sc.nd rfl (Or.inl rfl))) (fun _ _ _ _ _ => pts_nil) (fun _ _ _ _ _ => (pe_ix (xx_tup (K := K)) (pv 9) pe_int (fun _ _ => rfl)))) (pa_cons (pe_lc (own := [("_law_row", 9)]) rfl sc.nd (xi_list (K := K) (pv 6)) (blkOk_by (own := [("_law_row", 9)]) (N := ["_law_pen_here", "_law_store_here", "_law_label", "_law_names", "_law_most", "_law_others", "_law_rows", "_law_mend", "_law_one", "_law_row"]) (sc := defScope s__law_mend_of) (by decide +kernel)) (fun _ _ _ _ _ => (pg_name (i := 9) sc.nd rfl (Or.inl rfl))) (fun _ _ _ _ _ => pts_nil) (fun _ _ _ _ _ => (pe_ix (xx_tup (K := K)) (pv 9) pe_int (fun _ _ => rfl)))) pa_nil))) (xg_tup (K := K) (n := 2) rfl (pgs_cons (pg_sub (pv 7) pe_str (set_dict hu)) (pgs_cons (pg_sub (pv 7) pe_str (set_dict hu)) pgs_nil)))) 
      (pss_cons (ps_if (pt_cmpR op_eq (pe_callB (xc_len (K := K)) (by rfl) B.len boot_len (pa_cons (pv 3) pa_nil)) pe_int (nomark _))
        (pss_one (ps_dput hu (pv 7) pe_str (pe_fn h__law_draw (hr.mono (by decide)) (by rfl) (pa_cons (pv 0) (pa_cons (pe_op op_add (pv 4) pe_int) pa_nil))) rfl))
        pss_nil) 
      (pss_one (ps_ret (pv 7))))))))), read_M h ?_⟩
  rintro ds μ Φ ⟨p, u, q, kds, lab, nodes, names, most, b, hpq, hnn, hn5, hval, hsub, hnd, hl12, hlt, hm0, hm1, hb, hu, rfl, rfl, rfl⟩ nd
  have hbig : big = 1000000000 := rfl
  let others := nodes.filter fun n => !decide (n ∈ names)
  have hol : others.length ≤ 5 := Nat.le_trans (List.length_filter_le _ _) hn5
  have hone : others ≠ [] := fun z => by
    have hall : ∀ n ∈ nodes, n ∈ names := fun n hn => by
      have := List.filter_eq_nil_iff.mp z n hn
      simpa using this
    have := nodup_sub_len hnn hall
    omega
  have hond : others.Nodup := hnn.filter _
  refine run_seq (run_asgG (ev_lcV (items := sD nodes) (by rw [List.length_map]; omega) (fun j acc μ1 => acc = sD ((nodes.take j).filter fun n => !decide (n ∈ names)) ∧ μ1 = [(p, u), (q, .dk kds)]) (iv_list (ev_dget (i := 1) rfl rfl hval ⟨_, rfl, rfl, rfl, rfl⟩)) (fun C j d acc μ1 hC1 hC2 hj hJ hacc => ?_) fun acc μ1 hJ => ?_))
  · obtain ⟨rfl, rfl⟩ := hJ
    rw [List.getElem?_map] at hj
    cases hn : nodes[j]? with
    | none => rw [hn] at hj; cases hj
    | some a =>
      rw [hn] at hj
      have hj : D.str a = d := Option.some.inj hj
      subst hj
      have etk : nodes.take (j + 1) = nodes.take j ++ [a] := by rw [List.take_add_one, hn]; rfl
      refine ⟨_, _, tg_name, by simp, evt_of (et_test (ed_op (ed_var rfl) (ed_var rfl) rv_notInL)) ⟨_, rfl, ?_⟩⟩
      by_cases hk : a ∈ names
      · rw [if_neg (by simp [hk])]
        refine ⟨?_, rfl⟩
        rw [etk, List.filter_append, List.filter_cons, if_neg (by simp [hk]), List.filter_nil, List.append_nil]
      · rw [if_pos (by simp [hk])]
        refine ev_of (ed_var rfl) ⟨_, rfl, ?_, rfl⟩
        rw [etk, List.filter_append, List.filter_cons, if_pos (by simp [hk]), List.filter_nil, show sD (_ ++ [a]) = sD _ ++ [D.str a] from List.map_append]
  obtain ⟨rfl, rfl⟩ := hJ
  rw [List.length_map, List.take_length]
  refine run_mid (fun ρ' μ' => ∃ (its : List (List Str × List Int)) (u' : Own), its.length = names.length ∧ (∀ r ∈ its, ItemsOk others most r.1 r.2) ∧ PenAt (b + 40) u' ∧ ρ' = [some (.loc p), some (.loc q), some (.str lab), some (.lst (sD names)), some (.int most), some (.lst (sD others)), some (.lst (its.map encIt)), none, none, none] ∧ μ' = [(p, u'), (q, .dk kds)]) ?_ ?_
  · refine run_asgG (ev_lc (items := sD names) (it_list (ed_var rfl)) (by rw [List.length_map]; omega) (fun j acc μ1 => j ≤ names.length ∧ ∃ (its : List (List Str × List Int)) (u' : Own), acc = its.map encIt ∧ its.length = j ∧ (∀ r ∈ its, ItemsOk others most r.1 r.2) ∧ PenAt (b + 20 * j) u' ∧ μ1 = [(p, u'), (q, .dk kds)]) ⟨Nat.zero_le _, [], u, rfl, rfl, (fun a ha => (by cases ha)), by simpa using hu, rfl⟩ (fun C j d acc μ1 hC1 hC2 hj hJ hacc => ?_) fun acc μ1 hJ => ?_)
    · obtain ⟨hj6, its, u', rfl, hal, ham, hu', rfl⟩ := hJ
      have hjl : j < names.length := by have := (List.getElem?_eq_some_iff.mp hj).1; rwa [List.length_map] at this
      refine ⟨_, _, tg_name, by simp, evt_yes ⟨_, rfl, ?_⟩⟩
      rw [if_pos rfl]
      refine ev_call1 (i := 1) (ea_cons (ed_var rfl) (ea_cons (ed_var rfl) (ea_cons (ed_var rfl) ea_nil))) rfl (List.nodup_cons.mpr ⟨hC2, nd⟩) ⟨p, u', others, most, b + 20 * j, hone, hond, by omega, hm0, hm1, by omega, hu', rfl, rfl, rfl⟩ (fun d u2 hd => ?_) fun d μ' hd => ?_
      · obtain ⟨u3, e, h3, hs, as, hok, rfl⟩ := hd
        cases e
        refine ⟨[(p, u2), (q, .dk kds)], rfl, by omega, its ++ [(hs, as)], u2, by rw [List.map_append]; rfl, by rw [List.length_append, hal]; rfl, fun r hr => ?_, h3.up (by omega), rfl⟩
        rcases List.mem_append.mp hr with w | w
        · exact ham r w
        · rw [List.mem_singleton.mp w]; exact hok
      · obtain ⟨u3, e, _⟩ := hd
        exact ⟨u3, e⟩
    · obtain ⟨hj6, its, u', rfl, hal, ham, hu', rfl⟩ := hJ
      exact ⟨its, u', by rw [hal, List.length_map], ham, hu'.up (by rw [List.length_map]; omega), rfl, rfl⟩
  rintro _ _ ⟨its, u1, hil, hio, hu1, rfl, rfl⟩
  have hkind : ∃ kz : Str, kz = (if names.length = 1 then "one" else "pair") := ⟨_, rfl⟩
  obtain ⟨kz, hkz⟩ := hkind
  refine run_seq (run_asgG (ev_dispC fun m hmM hmμ => evp_cons (ev_of (ed_var rfl) (evp_cons (ev_of (d := .str kz) (ed_if (b := decide (names.length = 1)) (EdT.is (et_test (ed_op (ed_cb (ea_cons (ed_var rfl) ea_nil) rc_lenL) (ed_int 1) (rv_eq rfl rfl rfl))) ?_) (fun hb2 => EvD.is (ed_str "one") ?_) fun hb2 => EvD.is (ed_str "pair") ?_) (evp_cons (ev_of (ed_var rfl) (evp_cons (ev_of ed_non (evp_nil ⟨_, rfl, ?_, (show 4 ≤ 15 by decide), ?_⟩))))))))))
  · rw [List.length_map]
    refine decide_eq_decide.mpr ⟨fun z => ?_, fun z => by rw [z]; rfl⟩
    injection z with z
    omega
  · rw [hkz, if_pos (of_decide_eq_true hb2)]
  · rw [hkz, if_neg (of_decide_eq_false hb2)]
  · show (["label", "kind", "nodes", "swap"] : List Str).Nodup
    decide
  have hmp : m ≠ p := fun z => hmμ (by rw [z]; simp)
  have hmq : m ≠ q := fun z => hmμ (by rw [z]; simp)
  refine run_seq (run_asgM (ev_of (ed_tup (ea_cons (ed_lc0 encIt (fun r => D.lst (sD r.1)) (it_list (ed_var rfl)) (by omega) fun r hr => ⟨_, _, tg_name, by simp, ed_op (ed_var rfl) (ed_int 0) (rv_ixT rfl)⟩) (ea_cons (ed_lc0 encIt (fun r => D.lst (iD r.2)) (it_list (ed_var rfl)) (by omega) fun r hr => ⟨_, _, tg_name, by simp, ed_op (ed_var rfl) (ed_int 1) (rv_ixT rfl)⟩) ea_nil)) (show 2 ≤ 100000 by decide)) (tgm_tup rfl (tgs_cons (tgm_dput (p := m) (i := 0) (ed_var rfl) (ed_str _) rfl (show 4 < 100000 by decide) (tgs_cons (tgm_dput (p := m) (i := 0) (ed_var rfl) (ed_str _) rfl (show 5 < 100000 by decide) (tgs_nil ?_))))))))
  have hnd3 : (([(m, Own.dk []), (p, u1), (q, .dk kds)] : Mem).map (·.1)).Nodup := by simp [hmp, hmq, hpq]
  let kd0 : List (Str × D) := [("label", .str lab), ("kind", .str kz), ("nodes", .lst (sD names)), ("swap", .non), ("helpers", .lst (its.map fun r => D.lst (sD r.1))), ("amounts", .lst (its.map fun r => D.lst (iD r.2)))]
  show Run K _ _ _ [(m, .dk (skD kd0)), (p, u1), (q, .dk kds)] _
  refine run_mid (fun ρ' μ' => ∃ sw u' x8 x9, ((names.length = 1 ∧ sw = D.non) ∨ (names.length = 2 ∧ ∃ k : Int, 0 ≤ k ∧ k ≤ most ∧ sw = .int k)) ∧ PenAt (b + 50) u' ∧ ρ' = [some (.loc p), some (.loc q), some (.str lab), some (.lst (sD names)), some (.int most), some (.lst (sD others)), some (.lst (its.map encIt)), some (.loc m), x8, x9] ∧ μ' = [(m, .dk (skD [("label", .str lab), ("kind", .str kz), ("nodes", .lst (sD names)), ("swap", sw), ("helpers", .lst (its.map fun r => D.lst (sD r.1))), ("amounts", .lst (its.map fun r => D.lst (iD r.2)))])), (p, u'), (q, .dk kds)]) ?_ ?_
  · refine run_if (b := decide (names.length = 2)) (EdT.is (et_test (ed_op (ed_cb (ea_cons (ed_var rfl) ea_nil) rc_lenL) (ed_int 2) (rv_eq rfl rfl rfl))) ?_) (fun hb2 => ?_) fun hb2 => ?_
    · rw [List.length_map]
      refine decide_eq_decide.mpr ⟨fun z => ?_, fun z => by rw [z]; rfl⟩
      injection z with z
      omega
    · refine run_dputG (p := m) (s := "swap") (ev_draw (i := 1) (ea_cons (ed_var rfl) (ea_cons (ed_op (ed_var rfl) (ed_int 1) rv_int) ea_nil)) rfl hnd3 (by omega) (by omega) (by omega) hu1 fun u2 k h2 h0 h1 => ⟨ed_var rfl, ed_str _, 0, _, rfl, (show 6 < 100000 by decide), .int k, u2, _, _, .inr ⟨of_decide_eq_true hb2, k, h0, by omega, rfl⟩, h2.up (by omega), rfl, rfl⟩)
    · have h2 := of_decide_eq_false hb2
      exact run_next ⟨.non, u1, _, _, .inl ⟨by omega, rfl⟩, hu1.up (by omega), rfl, rfl⟩
  rintro _ _ ⟨sw, u2, x8, x9, hsw, hu2, rfl, rfl⟩
  refine run_freezeU (i := 7) hmM rfl (run_ret (ed_var rfl) ⟨_, List.Sublist.refl _, rfl, u2, rfl, hu2, ?_⟩)
  rcases hsw with ⟨h1, rfl⟩ | ⟨h2, k, hk0, hk1, rfl⟩
  · rw [h1] at hil
    obtain ⟨v, rfl⟩ := List.length_eq_one_iff.mp h1
    obtain ⟨⟨hs, as⟩, rfl⟩ := List.length_eq_one_iff.mp hil
    have hio1 := hio (hs, as) (List.mem_singleton.mpr rfl)
    refine ⟨.one lab v hs as, ⟨fun l v' hs' as' e => ?_, fun _ _ _ _ _ _ _ _ e => (by cases e)⟩, rfl, rfl, ?_⟩
    · cases e
      exact ⟨hsub v (List.mem_singleton.mpr rfl), hio1⟩
    · rw [hkz, if_pos h1]
      rfl
  · have h1 : ¬ names.length = 1 := by omega
    obtain ⟨x, y, rfl⟩ : ∃ x y, names = [x, y] := by
      cases names with
      | nil => simp at h2
      | cons x l =>
        cases l with
        | nil => simp at h2
        | cons y l =>
          cases l with
          | nil => exact ⟨x, y, rfl⟩
          | cons _ _ => simp at h2
    obtain ⟨⟨g1, a1⟩, ⟨g2, a2⟩, rfl⟩ : ∃ r1 r2, its = [r1, r2] := by
      cases its with
      | nil => simp at hil
      | cons x l =>
        cases l with
        | nil => simp at hil
        | cons y l =>
          cases l with
          | nil => exact ⟨x, y, rfl⟩
          | cons _ _ => simp at hil
    have hxy : x ≠ y := fun z => by rw [z] at hnd; simp at hnd
    refine ⟨.two lab x y g1 g2 a1 a2 k, ⟨fun _ _ _ _ e => (by cases e), fun l u' v' h1' h2' a1' a2' sw' e => ?_⟩, rfl, rfl, ?_⟩
    · cases e
      exact ⟨hsub x (by simp), hsub y (by simp), hxy, hio (g1, a1) (by simp), hio (g2, a2) (by simp), hk0, hk1⟩
    · rw [hkz, if_neg h1]
      rfl
end Am
/-! A dict that is a cell handed to a def that only reads it; parts of lists, ranges, by what a draw gives; names and labels. -/
namespace Am
open PySem PySem.Spec PyProof.Rows L2
mutual
def noDk : D → Bool
  | .lst ds => noDks ds
  | .tup ds => noDks ds
  | .tupF ds => noDks ds
  | .dk _ => false
  | .lstF _ => false
  | .ins _ fs => noDkf fs
  | .dt kds => noDkt kds
  | .dtF kds => noDkt kds
  | .non => true
  | .bl _ => true
  | .int _ => true
  | .str _ => true
  | .loc _ => true
def noDks : List D → Bool
  | [] => true
  | d :: ds => noDk d && noDks ds
def noDkt : List (List Key × D) → Bool
  | [] => true
  | (_, d) :: ds => noDk d && noDkt ds
def noDkf : List (Str × D) → Bool
  | [] => true
  | (_, d) :: ds => noDk d && noDkf ds
end
theorem noDkt_eq : ∀ l : List (List Key × D), noDkt l = noDks (l.map (·.2))
  | [] => by simp [noDkt, noDks]
  | (_, d) :: ds => by simp [noDkt, noDks, noDkt_eq ds]
theorem noDkf_eq : ∀ l : List (Str × D), noDkf l = noDks (l.map (·.2))
  | [] => by simp [noDkf, noDks]
  | (_, d) :: ds => by simp [noDkf, noDks, noDkf_eq ds]
def without (G : Hp) (a : Addr) : Hp := fun b => if b = a then none else G b
theorem without_ne {G : Hp} {a b : Addr} (h : b ≠ a) : without G a b = G b := if_neg h
section
variable {K : PySem.W.Frag} {G : Hp} {a : Addr}
theorem dk_ne {kvs : List (Key × V)} (h : G a = some (.dK kvs)) {b : Addr} {o : HO} (e : G b = some o) (h1 : ∀ kvs, o ≠ .dK kvs) : b ≠ a := fun z => by
  subst z
  rw [h] at e
  exact h1 kvs (Option.some.inj e).symm
mutual
theorem Rep.lose {kvs : List (Key × V)} (h : G a = some (.dK kvs)) : ∀ {v : V} {d : D}, noDk d = true → Rep K G v d → Rep K (without G a) v d
  | _, _, _, .non => .non
  | _, _, _, .bl b => .bl b
  | _, _, _, .int i => .int i
  | _, _, _, .str s => .str s
  | _, _, _, .loc p => .loc p
  | _, _, n, .lst e r => .lst (by rw [without_ne (dk_ne h e (fun _ z => nomatch z))]; exact e) (Reps.lose h (by simpa [noDk] using n) r)
  | _, _, n, .tup e r => .tup (by rw [without_ne (dk_ne h e (fun _ z => nomatch z))]; exact e) (Reps.lose h (by simpa [noDk] using n) r)
  | _, _, n, .tupF e k r => .tupF (by rw [without_ne (dk_ne h e (fun _ z => nomatch z))]; exact e) k (Reps.lose h (by simpa [noDk] using n) r)
  | _, _, n, .dt e k r => .dt (by rw [without_ne (dk_ne h e (fun _ z => nomatch z))]; exact e) k (Reps.lose h (by simpa [noDk, noDkt_eq] using n) r)
  | _, _, n, .dtF e k r => .dtF (by rw [without_ne (dk_ne h e (fun _ z => nomatch z))]; exact e) k (Reps.lose h (by simpa [noDk, noDkt_eq] using n) r)
  | _, _, n, .ins e k r => .ins (by rw [without_ne (dk_ne h e (fun _ z => nomatch z))]; exact e) k (Reps.lose h (by simpa [noDk, noDkf_eq] using n) r)
  | _, _, n, .dk _ _ _ => by simp [noDk] at n
  | _, _, n, .lstF _ _ => by simp [noDk] at n
theorem Reps.lose {kvs : List (Key × V)} (h : G a = some (.dK kvs)) : ∀ {vs : List V} {ds : List D}, noDks ds = true → Reps K G vs ds → Reps K (without G a) vs ds
  | _, _, _, .nil => .nil
  | _, d :: ds, n, .cons r rr => by
    have n2 : noDk d = true ∧ noDks ds = true := by simpa [noDks] using n
    exact .cons (Rep.lose h n2.1 r) (Reps.lose h n2.2 rr)
end
end
section
variable {K : PySem.W.Frag} {M : List Addr} {ρ : Ro} {μ : Mem} {te tb : TE} {P : D → Mem → Prop}
theorem ev_callF {R : List D → D → Prop} {ta : TA} {E : XK} {p : Addr} {i : Nat} {kds : List (Key × D)} {rest : List D} {d : D} (ha : EdA K ta ρ (.loc p :: rest)) (hi : μ[i]? = some (p, .dk kds)) (hR : R (.dk kds :: rest) d) (hd : noDk d = true) (h : P d μ) : Ev K M (tCall (spP K R) [] E ta) ρ μ P := fun G0 H0 G H σ s Q q =>
  ha G H σ s.sub s.sl _ fun vs G1 H1 g1 r1 => by
    have s1 := s.step g1
    obtain ⟨⟨kvs, hx, k1, rr⟩, gp⟩ := s1.ce.at_ _ (List.mem_of_getElem? hi)
    show spP K R (vs ++ []) H1 Q E
    rw [List.append_nil]
    cases r1 with
    | cons ra r1 =>
      cases ra
      have sg : Same G1 (upd G1 p (.dK kvs)) := same_new gp
      have sH : Same (upd G1 p (.dK kvs)) H1 := fun b o z => by
        by_cases e : b = p
        · subst e; rw [upd_same] at z; rw [hx]; exact z
        · rw [upd_ne e] at z; exact s1.sub b o z
      refine ⟨upd G1 p (.dK kvs), _, d, sH, .cons (.dk upd_same k1 (rr.mono sg)) (r1.mono sg), hR, fun v G' H' g2 r2 => ?_⟩
      have gp' : G' p = some (.dK kvs) := g2.g _ _ upd_same
      have g3 : Go [] G1 H1 (without G' p) H' := by
        refine ⟨fun b o z => ?_, fun b o z => ?_, g2.keep, g2.dom, g2.cel, fun b o z no n => ?_⟩
        · have e : b ≠ p := ne_of_none z gp
          rw [without_ne e]
          exact g2.g _ _ (by rw [upd_ne e]; exact z)
        · by_cases e : b = p
          · subst e
            have : without G' b b = none := if_pos rfl
            rw [this] at z; cases z
          · rw [without_ne e] at z
            exact g2.sub _ _ z
        · by_cases e : b = p
          · subst e
            exact if_pos rfl
          · rw [without_ne e]
            exact g2.new b o z no (by rw [upd_ne e]; exact n)
      exact q v d _ H' μ (g1.g.trans g3.g) (s1.step g3) (Rep.lose gp' hd r2) h
theorem ev_slH {ds : List D} (h : EvD K te ρ (.lst ds)) (hh : Ev K M tb ρ μ fun d μ1 => ∃ k : Nat, d = .int (k : Int) ∧ P (.lst (ds.take k)) μ1) : Ev K M (L2.tSl (rSlL K) te tNoPart (tPart tb)) ρ μ P := fun G0 H0 G H σ s Q q =>
  h G H σ s.sub s.sl _ fun v G1 H1 g1 r1 => hh G0 H0 G1 H1 σ (s.step g1) _ fun w d G2 H2 μ2 e2 s2 r2 ⟨k, ed, p2⟩ => by
    subst ed
    cases r2
    have r3 := r1.mono e2
    cases r3 with
    | lst e r =>
      rename_i a xs
      refine ⟨_, rfl, a, xs, rfl, .inl (.inl (s2.sub _ _ e)), fun p hp => ?_⟩
      have hc := cutV_reps r none (some (k : Int))
      have ec : (ds.drop (HT.sIx ds.length 0 none)).take (HT.sIx ds.length ds.length (some (k : Int)) - HT.sIx ds.length 0 none) = ds.take k := by
        rw [HT.sIx_none, HT.sIx_nat, List.drop_zero, Nat.sub_zero]
        rcases Nat.le_total k ds.length with z | z
        · rw [Nat.min_eq_left z]
        · rw [Nat.min_eq_right z, List.take_length, List.take_of_length_le z]
      rw [ec] at hc
      have g3 : Go [] G2 H2 (upd G2 p (.lst (cutV xs none (some (k : Int))))) (upd H2 p (.lst (cutV xs none (some (k : Int))))) := Go.alloc s2.sub hp
      exact q _ _ _ _ _ (g1.g.trans (e2.trans g3.g)) (s2.step g3) (.lst upd_same (hc.mono (same_new (free_sub s2.sub hp)))) p2
theorem iv_rng1 {ta : TA} {PI : List D → Mem → Prop} (h : EvA K M ta ρ μ fun ds μ1 => ∃ n : Nat, ds = [.int (n : Int)] ∧ n < 1000 ∧ PI ((List.range n).map fun i : Nat => .int (i : Int)) μ1) : ItV K M (iRng1 ta) ρ μ PI := fun G0 H0 G H σ s R q =>
  h G0 H0 G H σ s _ fun vs ds G1 H1 μ1 e1 s1 r1 ⟨n, ed, hn, p⟩ => by
    subst ed
    cases r1 with
    | cons r rr =>
      cases rr; cases r
      refine ⟨(n : Int), rfl, by omega, by omega, q _ _ G1 H1 μ1 e1 s1 (fun G2 H2 e1 e2 => ?_) p⟩
      rw [List.length_map, List.length_range, Int.toNat_natCast]
      refine ⟨fun i hi => hi, Nat.le_refl _, fun i x H3 hi y => ?_⟩
      obtain ⟨rfl, rfl⟩ := y
      refine ⟨G2, .int (i : Int), by rw [List.getElem?_map, List.getElem?_range hi]; rfl, Go.refl e2, ?_⟩
      rw [Int.zero_add]
      exact .int _
theorem run_forW {Φ : Post} {ts : TS} {wi : TI} {g : TG} (hi : ItV K M wi ρ μ fun its μ1 => ∃ I : Nat → Ro → Mem → Prop, I 0 ρ μ1 ∧
    (∀ (i : Nat) d ρ1 μ1, its[i]? = some d → I i ρ1 μ1 → ∃ is ρ2, Tg K g d is ρ1 ρ2 ∧ Run K M ts ρ2 μ1 { nx := I (i + 1), ct := I (i + 1), bk := Φ.nx, rt := Φ.rt }) ∧
    (∀ ρ1 μ1, I its.length ρ1 μ1 → Φ.nx ρ1 μ1)) : Run K M (tFor wi g ts) ρ μ Φ := fun Dn G0 H0 G H σ s k =>
  hi G0 H0 G H σ s _ fun J its G1 H1 μ0 gg s1 it ⟨I, h0, hs, hd⟩ => by
    let W := fun (i : Nat) (σ' : L2.St) (H' : Hp) => ∃ G' ρ1 μ1, Same G1 G' ∧ Stt K M G0 H0 G' H' σ' ρ1 μ1 ∧ I i ρ1 μ1
    refine ⟨fun i m σ' H' => i ≤ its.length ∧ m = its.length - i ∧ W i σ' H', ⟨its.length, Nat.zero_le _, rfl, G1, ρ, μ0, Same.refl _, s1, h0⟩, fun i m σ' H' hW => ?_⟩
    obtain ⟨hle, hm, G', ρ1, μ1, eG, s2, inv⟩ := hW
    obtain ⟨i1, i2, i3⟩ := it G' H' eG s2.sub
    by_cases hlt : i < its.length
    · refine .inr ⟨i1 i hlt, W (i + 1), fun σ'' H'' w => ⟨its.length - (i + 1), by omega, hlt, rfl, w⟩, fun x H2 y => ?_⟩
      obtain ⟨G2, d, e1, g3, r3⟩ := i3 i x H2 hlt y
      obtain ⟨is, ρ2, tg, body⟩ := hs i d ρ1 μ1 e1 inv
      have s3 := s2.step g3
      refine tg x σ' G2 H2 _ r3 s3.sub s3.sl fun σ2 _ l2 => ?_
      have s4 := s3.slots l2
      refine body _ G0 H0 G2 H2 σ2 s4 ⟨fun a b c d' e f q w => ?_, fun a a2 b c c2 d' e f q q2 w => ?_, fun a b c d' e f q w => ?_, fun a b c d' e f q w => ?_⟩
      · exact ⟨d', b, c, eG.trans (g3.g.trans f), q, w⟩
      · exact k.rt a a2 b c c2 d' e (gg.trans (eG.trans (g3.g.trans f))) q q2 w
      · exact k.nx a b c d' e (gg.trans (eG.trans (g3.g.trans f))) q w
      · exact ⟨d', b, c, eG.trans (g3.g.trans f), q, w⟩
    · have ei : i = its.length := by omega
      subst ei
      exact .inl ⟨i2, k.nx _ _ _ _ _ (gg.trans eG) s2 (hd ρ1 μ1 inv)⟩
theorem ev_lcW {P : D → Mem → Prop} {wi : TI} {g : TG} {tt : TT} {vs : List Nat} (hi : ItV K M wi ρ μ fun its μ1 => its.length ≤ 100000 ∧ ∃ I : Nat → List D → Mem → Prop, I 0 [] μ1 ∧
    (∀ (C : Addr) (i : Nat) d acc μ1, C ∉ M → C ∉ μ1.map (·.1) → its[i]? = some d → I i acc μ1 → acc.length ≤ i → ∃ is ρ2, Tg K g d is (wipeR ρ vs) ρ2 ∧ (∀ j ∈ is, j ∈ vs) ∧
      EvT K M tt ρ2 ((C, .lst acc) :: μ1) fun b μ2 => ∃ μ2', μ2 = (C, .lst acc) :: μ2' ∧ if b = true then Ev K M te ρ2 μ2 fun y μ3 => ∃ μ3', μ3 = (C, .lst acc) :: μ3' ∧ I (i + 1) (acc ++ [y]) μ3' else I (i + 1) acc μ2') ∧
    (∀ acc μ1, I its.length acc μ1 → P (.lst acc) μ1)) : Ev K M (tLc wi g tt te vs) ρ μ P := fun G0 H0 G H σ s Q q => hi G0 H0 G H σ s _ fun J its G1 H1 μ0 gg s1 it ⟨hl, I, h0, hs, hd⟩ C hC => by
  have hCM := s1.freshM hC
  have s2 := s1.cell (u := .lst []) hC (o := .lst []) ⟨[], upd_same, .nil⟩
  let St := fun (i : Nat) (H' : Hp) => ∃ (G' : Hp) (acc : List D) (μ' : Mem), Same G1 G' ∧ Stt K M G0 H0 G' H' σ ρ ((C, .lst acc) :: μ') ∧ I i acc μ' ∧ acc.length ≤ i
  refine ⟨fun i m H' => i ≤ its.length ∧ m = its.length - i ∧ St i H', ⟨its.length, Nat.zero_le _, rfl, G1, [], μ0, Same.refl _, s2, h0, Nat.le_refl _⟩, fun i m H' hW => ?_⟩
  obtain ⟨hle, hm, G', acc, μ', eG, s3, hI, hacc⟩ := hW
  obtain ⟨i1, i2, i3⟩ := it G' H' eG s3.sub
  by_cases hlt : i < its.length
  · refine .inr ⟨i1 i hlt, St (i + 1), fun H'' st => ⟨its.length - (i + 1), by omega, hlt, rfl, st⟩, fun x H2 y => ?_⟩
    obtain ⟨G2, d, e1, g3, r3⟩ := i3 i x H2 hlt y
    have s4 := s3.step g3
    have hnd := s4.ce.nd
    rw [List.map_cons, List.nodup_cons] at hnd
    obtain ⟨is, ρ2, tg, his, htt⟩ := hs C i d acc μ' hCM hnd.1 e1 hI hacc
    have l1 : Sl K G2 (L2.wipe σ vs) (wipeR ρ vs) := s4.sl.wipe vs
    refine tg x (L2.wipe σ vs) G2 H2 _ r3 s4.sub l1 fun σ' hw l2 => ⟨?_, ?_⟩
    · have e2 := hw vs his
      have e3 : L2.wipe (L2.wipe σ vs) vs = L2.wipe σ vs := wipe_wipe vs vs fun _ h => h
      rw [e2, e3]
    · have s5 : Stt K M G0 H0 G2 H2 σ' ρ2 ((C, .lst acc) :: μ') := ⟨s4.go, l2, s4.ce, s4.own, s4.base⟩
      refine htt G0 H0 G2 H2 σ' s5 _ fun b G3 H3 μ2 e5 s6 ⟨μ2', eμ, hb⟩ => ?_
      subst eμ
      cases b with
      | false =>
        have hb : I (i + 1) acc μ2' := hb
        show St (i + 1) H3
        exact ⟨G3, acc, μ2', eG.trans (g3.g.trans e5), ⟨s6.go, s4.sl.mono e5, s6.ce, s6.own, s6.base⟩, hb, Nat.le_succ_of_le hacc⟩
      | true =>
        show te σ' H3 _
        have hb : Ev K M te ρ2 ((C, .lst acc) :: μ2') _ := hb
        refine hb G0 H0 G3 H3 σ' s6 _ fun w y G4 H4 μ3 e6 s7 r7 ⟨μ3', eμ, hI3⟩ => ?_
        subst eμ
        obtain ⟨⟨xs, hx, rr⟩, _⟩ := s7.ce.at_ _ (List.mem_cons_self ..)
        have s8 := s7.write (u := .lst (acc ++ [y])) (List.mem_cons_self ..) (o := .lst (xs ++ [w])) ⟨_, upd_same, rr.snoc r7⟩
        rw [setμ_at (i := 0) s7.ce.nd rfl] at s8
        refine ⟨xs, hx, by rw [rr.length]; exact Nat.lt_of_le_of_lt (Nat.le_trans hacc (Nat.le_of_lt hlt)) (Nat.lt_of_le_of_lt hl (by decide)), G4, acc ++ [y], μ3', eG.trans (g3.g.trans (e5.trans e6)), ⟨s8.go, s4.sl.mono (e5.trans e6), s8.ce, s8.own, s8.base⟩, hI3, by rw [List.length_append]; exact Nat.succ_le_succ hacc⟩
  · have ei : i = its.length := by omega
    subst ei
    refine .inl ⟨i2, ?_⟩
    obtain ⟨⟨xs, hx, rr⟩, gp⟩ := s3.ce.at_ _ (List.mem_cons_self ..)
    have s9 := s3.freeze hCM hx
    exact q _ _ _ _ _ (gg.trans (eG.trans (same_new gp))) s9 (.lst upd_same (rr.mono (same_new gp))) (hd acc μ' hI)
/-- what a dict with text keys holds -/
theorem run_freezeDk {Φ : Post} {ts : TS} {p q : Addr} {s : Str} {ds : List D} {kds : List (Key × D)} {μ' : Mem} (hp : p ∉ M) (hf : ∀ kv ∈ kds, kv.1 = .inr s → kv.2 = .loc p) (hs : (valD kds (.inr s)).isSome = true) (h : Run K M ts ρ ((q, .dk (putK' kds (.inr s) (.lst ds))) :: μ') Φ) : Run K M ts ρ ((p, .lst ds) :: (q, .dk kds) :: μ') Φ := fun Dn G0 H0 G H σ s' k => by
  obtain ⟨⟨xs, hx, rr⟩, gp⟩ := s'.ce.at_ _ (List.mem_cons_self ..)
  have s1 := s'.freeze hp hx
  have gg : Same G (upd G p (.lst xs)) := same_new gp
  have r2 : Rep K (upd G p (.lst xs)) (.ref p) (.lst ds) := .lst upd_same (rr.mono gg)
  have hany : (kds.any fun kv => decide (kv.1 = .inr s)) = true := by
    cases z : valD kds (.inr s) with
    | none => rw [z] at hs; cases hs
    | some u =>
      unfold valD at z
      obtain ⟨kv, h4, h5⟩ := Option.map_eq_some_iff.mp z
      exact List.any_eq_true.mpr ⟨kv, List.mem_of_find?_eq_some h4, List.find?_some (p := fun kv : Key × D => decide (kv.1 = .inr s)) h4⟩
  have ep : putK' kds (.inr s) (.lst ds) = kds.map (fun kv => if kv.1 = .inr s then (kv.1, .lst ds) else kv) := by unfold putK'; rw [if_pos hany]
  refine h Dn G0 H0 _ H σ ⟨s1.go, s1.sl, ⟨fun c hc => ?_, s1.ce.nd⟩, fun c hc => ?_, s1.base⟩ (k.mono gg)
  · rcases List.mem_cons.mp hc with rfl | hc
    · obtain ⟨⟨kvs, hq, k1, r1⟩, gq⟩ := s1.ce.at_ _ (List.mem_cons_self ..)
      refine ⟨⟨kvs, hq, ?_, ?_⟩, gq⟩
      · rw [ep, k1, List.map_map]
        refine List.map_congr_left fun kv _ => ?_
        show kv.1 = (if kv.1 = .inr s then (kv.1, D.lst ds) else kv).1
        by_cases e : kv.1 = .inr s
        · rw [if_pos e]
        · rw [if_neg e]
      · rw [ep]
        clear ep hany hs
        have aux : ∀ {vs : List V} {kds : List (Key × D)}, (∀ kv ∈ kds, kv.1 = .inr s → kv.2 = .loc p) → Reps K (upd G p (.lst xs)) vs (kds.map (·.2)) → Reps K (upd G p (.lst xs)) vs ((kds.map (fun kv => if kv.1 = .inr s then (kv.1, D.lst ds) else kv)).map (·.2)) := by
          intro vs kds
          induction kds generalizing vs with
          | nil => intro _ h; exact h
          | cons kd kds ih =>
            intro hf h
            rw [List.map_cons] at h
            cases h with
            | cons r rr =>
              simp only [List.map_cons]
              refine .cons ?_ (ih (fun kv hkv => hf kv (List.mem_cons_of_mem _ hkv)) rr)
              by_cases e : kd.1 = .inr s
              · rw [if_pos e]
                rw [hf kd (List.mem_cons_self ..) e] at r
                cases r
                exact r2
              · rw [if_neg e]
                exact r
        exact aux hf r1
    · exact s1.ce.at_ c (List.mem_cons_of_mem _ hc)
  · rcases List.mem_cons.mp hc with rfl | hc
    · exact s1.own (q, .dk kds) (List.mem_cons_self ..)
    · exact s1.own c (List.mem_cons_of_mem _ hc)
end
theorem drop1 {α : Type} (l : List α) : (l.drop (HT.sIx l.length 0 (some 1))).take (HT.sIx l.length l.length none - HT.sIx l.length 0 (some 1)) = l.drop 1 := by
  have e : HT.sIx l.length 0 (some 1) = min 1 l.length := HT.sIx_nat l.length 0 1
  rw [HT.sIx_none, e]
  cases l with
  | nil => rfl
  | cons a l =>
    have : min 1 (a :: l).length = 1 := by rw [List.length_cons]; omega
    rw [this]
    show (l.take ((a :: l).length - 1)) = l
    rw [List.length_cons, Nat.add_sub_cancel, List.take_length]
/-! ### names and labels -/
def pools : List (List Str) := [["a", "b", "c1", "d", "x9", "f"], ["x9", "d", "c1", "f", "a", "b"]]
def labsAt (P : List Str) (k : Nat) : List Str := if k < 6 then [P.getD k "", ("m" : Str) ++ P.getD k ""] else if k = 10 then [("p" : Str) ++ ((toString (0 : Int) : String) : Str)] else if k = 11 then [("p" : Str) ++ ((toString (1 : Int) : String) : Str)] else if k = 20 then ["again"] else []
theorem labs_apart : ∀ P ∈ pools, ∀ k : Fin 21, ∀ k' : Fin 21, ∀ a ∈ labsAt P k.val, a ∈ labsAt P k'.val → k = k' := by decide +kernel
theorem pool_nodup : ∀ P ∈ pools, P.Nodup := by decide +kernel
/-- the mends have labels that were given one after another -/
structure LabInv (P : List Str) (bound : Nat) (ms : List Mnd) : Prop where
  nd : (ms.map Mnd.label).Nodup
  at_ : ∀ m ∈ ms, ∃ k, k < bound ∧ m.label ∈ labsAt P k
theorem LabInv.up {P : List Str} {b b' : Nat} {ms : List Mnd} (h : LabInv P b ms) (l : b ≤ b') : LabInv P b' ms := ⟨h.nd, fun m hm => let ⟨k, h1, h2⟩ := h.at_ m hm; ⟨k, Nat.lt_of_lt_of_le h1 l, h2⟩⟩
theorem LabInv.snoc {P : List Str} (hP : P ∈ pools) {b : Nat} {ms : List Mnd} {m : Mnd} (h : LabInv P b ms) (hb : b < 21) (hm : m.label ∈ labsAt P b) : LabInv P (b + 1) (ms ++ [m]) := by
  refine ⟨?_, fun x hx => ?_⟩
  · rw [List.map_append, List.nodup_append]
    refine ⟨h.nd, by simp, fun a ha c hc => ?_⟩
    obtain ⟨x, hx, rfl⟩ := List.mem_map.mp ha
    have hc : c = m.label := by simpa using hc
    subst hc
    intro e
    obtain ⟨k, hk, hl⟩ := h.at_ x hx
    have := labs_apart P hP ⟨k, by omega⟩ ⟨b, hb⟩ x.label hl (by rw [e]; exact hm)
    have := congrArg Fin.val this
    simp at this
    omega
  · rcases List.mem_append.mp hx with hx | hx
    · obtain ⟨k, hk, hl⟩ := h.at_ x hx
      exact ⟨k, by omega, hl⟩
    · rw [List.mem_singleton.mp hx]
      exact ⟨b, by omega, hm⟩
/-- what the law's stores are like -/
structure Good (s : Sto) : Prop where
  pool : ∃ P ∈ pools, ∃ j, 2 ≤ j ∧ j ≤ 5 ∧ s.nodes = P.take j ∧ LabInv P 21 s.mends
  rl : s.rooms.length = s.nodes.length
  r0 : ∀ a ∈ s.rooms, 0 ≤ a ∧ a ≤ 4
  fresh : List.Sublist s.fresh (s.nodes.drop 1)
  mends : ∀ m ∈ s.mends, MdOk s.nodes 4 m
  mfew : s.mends.length ≤ 8
  rne : s.readers ≠ []
  rfew : s.readers.length ≤ 3
  readers : ∀ r ∈ s.readers, RdOk s.nodes 4 r
  file : 1 ≤ s.file ∧ s.file ≤ 20
theorem Good.nd {s : Sto} (g : Good s) : s.nodes.Nodup := by
  obtain ⟨P, hP, j, _, _, e, _⟩ := g.pool
  rw [e]
  exact (pool_nodup P hP).sublist (List.take_sublist _ _)
theorem Good.few {s : Sto} (g : Good s) : s.nodes.length ≤ 5 := by
  obtain ⟨P, hP, j, _, h5, e, _⟩ := g.pool
  rw [e, List.length_take]
  omega
theorem MdOk.toOk {nodes : List Str} {most : Int} {m : Mnd} (hn : nodes.length ≤ 5) (h : MdOk nodes most m) : MndOk nodes m := by
  have hI : ∀ {names : List Str} {hs : List Str} {as : List Int}, ItemsOk (nodes.filter fun n => !decide (n ∈ names)) most hs as → (∀ x ∈ hs, x ∈ nodes) ∧ hs.length = as.length ∧ hs.length ≤ 7 ∧ ∀ a ∈ as, 0 ≤ a := fun {names hs as} i => by
    have hs1 : ∀ x ∈ hs, x ∈ nodes := fun x hx => (List.mem_filter.mp (i.sub x hx)).1
    have := nodup_sub_len i.nd hs1
    exact ⟨hs1, i.len, by omega, fun a ha => by have := (i.am a ha).1; omega⟩
  refine ⟨fun l v hs as e => ?_, fun l u v h1 h2 a1 a2 sw e => ?_⟩
  · obtain ⟨hv, i⟩ := h.one l v hs as e
    obtain ⟨q1, q2, q3, q4⟩ := hI i
    exact ⟨hv, q1, q2, q3, q4⟩
  · obtain ⟨hu, hv, ne, i, k, s0, _⟩ := h.two l u v h1 h2 a1 a2 sw e
    obtain ⟨q1, q2, q3, q4⟩ := hI i
    obtain ⟨z1, z2, z3, z4⟩ := hI k
    exact ⟨hu, hv, ne, q1, z1, q2, z2, q3, z3, q4, z4, s0⟩
theorem RdOk.few {nodes : List Str} {most : Int} {rd : List (Str × Option Int)} (hn : nodes.length ≤ 5) (h : RdOk nodes most rd) : rd.length ≤ 5 := by
  have := nodup_sub_len (L := rd.map (·.1)) (M := nodes) h.nd fun x hx => by
    obtain ⟨p, hp, rfl⟩ := List.mem_map.mp hx
    exact h.sub p hp
  rw [List.length_map] at this
  omega
theorem Good.okay {s : Sto} (g : Good s) : Okay s := by
  refine ⟨g.nd, g.few, g.rl, fun a ha => (g.r0 a ha).1, fun m hm => (g.mends m hm).toOk g.few, by have := g.mfew; omega, ?_, fun r hr p hp => ⟨(g.readers r hr).sub p hp, fun x hx => ((g.readers r hr).am p hp x hx).1⟩, by have := g.rfew; omega, fun r hr => by have := (g.readers r hr).few g.few; omega⟩
  obtain ⟨P, hP, j, _, _, _, hl⟩ := g.pool
  exact hl.nd
def R_lstore : List D → Mem → (D → Mem → Prop) → Prop := fun ds μ Φ => ∃ p u pairs, ∃ b : Int, b < big - 2000 ∧ PenAt b u ∧ ds = [.loc p, .int 5, .bl pairs] ∧ μ = [(p, u)] ∧ Φ = fun d μ' => ∃ u', μ' = [(p, u')] ∧ PenAt (b + 1000) u' ∧ ∃ s, Good s ∧ d = encT s
end Am
namespace Am
open PySem PySem.Spec PyProof.Rows L2
theorem len__law_store : ∀ ds μ Φ, R_lstore ds μ Φ → ds.length = 3 := fun _ _ _ ⟨_, _, _, _, _, _, h, _⟩ => by rw [h]; rfl
theorem MdOk.up {nodes : List Str} {a b : Int} {m : Mnd} (h : MdOk nodes a m) (l : a ≤ b) : MdOk nodes b m := by
  have hI : ∀ {ns hs as}, ItemsOk ns a hs as → ItemsOk ns b hs as := fun i => ⟨i.ne, i.nd, i.sub, i.len, fun x hx => ⟨(i.am x hx).1, Int.le_trans (i.am x hx).2 l⟩⟩
  refine ⟨fun l v hs as e => ?_, fun l u v h1 h2 a1 a2 sw e => ?_⟩
  · obtain ⟨q1, q2⟩ := h.one l v hs as e
    exact ⟨q1, hI q2⟩
  · obtain ⟨q1, q2, q3, q4, q5, q6, q7⟩ := h.two l u v h1 h2 a1 a2 sw e
    exact ⟨q1, q2, q3, hI q4, hI q5, q6, by omega⟩
theorem RdOk.up {nodes : List Str} {a b : Int} {r : List (Str × Option Int)} (h : RdOk nodes a r) (l : a ≤ b) : RdOk nodes b r := ⟨h.ne, h.nd, h.sub, fun p hp x hx => ⟨(h.am p hp x hx).1, Int.le_trans (h.am p hp x hx).2 l⟩⟩
/-- the store under way -/
def kdsT (nodes : List Str) (rooms : List Int) (fresh : List Str) (mends : D) (file : Int) : List (Key × D) := skD [("nodes", .lst (sD nodes)), ("rooms", .lst (iD rooms)), ("new", .lst (sD fresh)), ("mends", mends), ("file", .int file)]
theorem noDk_lay (s : Sto) : noDk (.lst (s.readers.map (layD s))) = true := by
  have hrow : ∀ l : Row, noDk (rowD s l) = true := fun l => by
    rw [rowD_eq]
    unfold noDk
    rw [noDkt_eq]
    have e : (tkD (rowL s l)).map (·.2) = l.zipIdx.map fun p => optI p.1 := by
      unfold tkD rowL
      rw [List.map_map, List.map_map]
      rfl
    rw [e]
    have : ∀ z : List (Option Int × Nat), noDks (z.map fun p => optI p.1) = true := by
      intro z
      induction z with
      | nil => simp [noDks]
      | cons a z ih =>
        have : noDk (optI a.1) = true := by cases a.1 <;> simp [optI, noDk]
        simp [noDks, this, ih]
    exact this _
  have hlay : ∀ rd, noDk (layD s rd) = true := fun rd => by
    unfold layD noDk
    have : ∀ z : List Row, noDks (z.map (rowD s)) = true := by
      intro z
      induction z with
      | nil => simp [noDks]
      | cons a z ih => simp [noDks, hrow a, ih]
    exact this _
  unfold noDk
  have : ∀ z : List (List (Str × Option Int)), noDks (z.map (layD s)) = true := by
    intro z
    induction z with
    | nil => simp [noDks]
    | cons a z ih => simp [noDks, hlay a, ih]
  exact this _
theorem lab_at {P : List Str} {j k : Nat} {n : Str} (h : (P.take j)[k]? = some n) : P.getD k "" = n := by
  have hk := (List.getElem?_eq_some_iff.mp h).1
  rw [List.length_take] at hk
  rw [List.getElem?_take, if_pos (by omega)] at h
  rw [List.getD_eq_getElem?_getD, h]
  rfl
/-- a mend made while the store is under way -/
theorem ev_mendOf {K : PySem.W.Frag} {M : List Addr} {ρ : Ro} {μ0 : Mem} {ta : TA} {E : XK} {P : D → Mem → Prop} {l q p : Addr} {o : Own} {kds : List (Key × D)} {nodes : List Str} {most b : Int} (hlq : l ≠ q) (hlp : l ≠ p) (hqp : q ≠ p) (hnn : nodes.Nodup) (hn5 : nodes.length ≤ 5) (hval : valD kds (.inr "nodes") = some (.lst (sD nodes))) (hm0 : 0 < most) (hm1 : most ≤ 20) (hb : b < big - 1000)
    (ha : EvA K M ta ρ μ0 fun ds μ2 => ∃ u lab names, ds = [.loc p, .loc q, .str lab, .lst (sD names), .int most] ∧ μ2 = [(l, o), (q, .dk kds), (p, u)] ∧ PenAt b u ∧ (∀ n ∈ names, n ∈ nodes) ∧ names.Nodup ∧ (names.length = 1 ∨ names.length = 2) ∧ names.length < nodes.length ∧
      ∀ u' md, PenAt (b + 50) u' → MdOk nodes most md → md.label = lab → P (encTm md) [(l, o), (q, .dk kds), (p, u')]) : Ev K M (tCall (spM K R_mendOf) [] E ta) ρ μ0 P := by
  intro G0 H0 G H σ s Q k
  refine ev_call (P := P) (R := R_mendOf) (ta := ta) ?_ G0 H0 G H σ s Q k
  intro G0 H0 G H σ s Q k
  refine ha G0 H0 G H σ s Q fun vs ds G' H' μ' e1 s1 r1 ⟨u, lab, names, ed, eμ, hu, h1, h2, h3, h4, hP⟩ => k vs ds G' H' μ' e1 s1 r1 ?_
  subst ed eμ
  refine ⟨[(p, u), (q, .dk kds)], fun c hc => ?_, by simp [hqp.symm], _, ⟨p, u, q, kds, lab, nodes, names, most, b, hqp.symm, hnn, hn5, hval, h1, h2, h3, h4, hm0, hm1, hb, hu, rfl, rfl, rfl⟩, fun d μ1' hk hd => ?_⟩
  · simp at hc
    rcases hc with rfl | rfl <;> simp
  · obtain ⟨u', rfl, hu', md, hmd, hlab, _, rfl⟩ := hd
    have e : putμ [(l, o), (q, .dk kds), (p, u)] [(p, u'), (q, .dk kds)] = [(l, o), (q, .dk kds), (p, u')] := by
      have b1 : (l == p) = false := beq_eq_false_iff_ne.mpr hlp
      have b2 : (l == q) = false := beq_eq_false_iff_ne.mpr hlq
      have b3 : (q == p) = false := beq_eq_false_iff_ne.mpr hqp
      simp [putμ, List.lookup, b1, b2, b3]
    rw [e]
    exact hP u' md hu' hmd hlab
abbrev s__law_store : Stmt := topS 54
theorem sc__law_store : FnScope ["_law_pen_here", "_law_most", "_law_pairs", "_law_pool", "_law_names", "_law_size", "_law_store_here", "_law_name", "_law_label", "_law_lap", "_law_layers_here", "_law_menu", "_law_one", "_law_count"] ["_law_pen_here", "_law_most", "_law_pairs"] (defScope s__law_store) := ⟨rfl, rfl, rfl, by decide +kernel, rfl, by decide +kernel, by decide +kernel⟩
set_option maxHeartbeats 16000000 in
theorem ok__law_store {P : Program} {w : World} {K : PySem.W.Frag} {mg : Str → Option Value} {base : Heap} {c : Cls4} {f : Addr} {fd : FuncData} (B : Blt mg) (hc : ClsOk K c mg)
    (h__law_pick : Fn P w K mg base "_law_pick" 2 ["_law_pen_here", "_law_some"] (spM K R_pick))
    (h__law_draw : Fn P w K mg base "_law_draw" 1 ["_law_pen_here", "_law_many"] (spM K R_draw))
    (h__law_mend_of : Fn P w K mg base "_law_mend_of" 4 ["_law_pen_here", "_law_store_here", "_law_label", "_law_names", "_law_most"] (spM K R_mendOf))
    (h__law_two_of : Fn P w K mg base "_law_two_of" 3 ["_law_pen_here", "_law_names"] (spM K R_twoOf))
    (h__law_reader_of : Fn P w K mg base "_law_reader_of" 3 ["_law_pen_here", "_law_names", "_law_most"] (spM K R_readerOf))
    (h__law_all_layers : Fn P w K mg base "_law_all_layers" 4 ["_law_store_here"] (spP K R_allLayers))
    (h__law_file : Fn P w K mg base "_law_file" 2 ["_law_store_here", "_law_layers_here", "_law_mends"] (spP K R_file)) (F : FD K "_law_store" "_law_store" s__law_store f fd) : FnOk P w K mg base CX0 5 f fd ["_law_pen_here", "_law_most", "_law_pairs"] (spM K R_lstore) := by
  have sc := sc__law_store
  refine F.ok sc (fun vs H Q E h => len_M (n := 3) len__law_store h) (fun cdv A outer s H vs Q E hr h => ?_)
  have hu := hu_of hr
  refine ⟨_, PSs.nox ((pss_cons (ps_set (i := 3) sc.nd rfl (Or.inl rfl) (pe_fn h__law_pick (hr.mono (by decide)) (by rfl) (pa_cons (pv 0) (pa_cons (pe_lst (pa_cons (pe_lst (pa_cons pe_str (pa_cons pe_str (pa_cons pe_str (pa_cons pe_str (pa_cons pe_str (pa_cons pe_str pa_nil))))))) (pa_cons (pe_lst (pa_cons pe_str (pa_cons pe_str (pa_cons pe_str (pa_cons pe_str (pa_cons pe_str (pa_cons pe_str pa_nil))))))) pa_nil))) pa_nil)))) 
      (pss_cons (ps_set (i := 4) sc.nd rfl (Or.inr rfl) (pe_slice (xx_sl (K := K)) (pv 3) po_none (po_some (pe_op op_add pe_int (pe_fn h__law_draw (hr.mono (by decide)) (by rfl) (pa_cons (pv 0) (pa_cons (pe_op op_sub (pv 1) pe_int) pa_nil))))))) 
      (pss_cons (ps_set (i := 5) sc.nd rfl (Or.inr rfl) (pe_fn h__law_pick (hr.mono (by decide)) (by rfl) (pa_cons (pv 0) (pa_cons (pe_lst (pa_cons pe_int (pa_cons pe_int (pa_cons pe_int (pa_cons pe_int (pa_cons pe_int pa_nil)))))) pa_nil)))) 
      (pss_cons (ps_set (i := 6) sc.nd rfl (Or.inr rfl) (pe_disp (pps_cons pe_str (pv 4) (pps_cons pe_str (pe_lc (own := [("_law_one", 12)]) rfl sc.nd (xi_list (K := K) (pv 4)) (blkOk_by (own := [("_law_one", 12)]) (N := ["_law_pen_here", "_law_most", "_law_pairs", "_law_pool", "_law_names", "_law_size", "_law_store_here", "_law_name", "_law_label", "_law_lap", "_law_layers_here", "_law_menu", "_law_one", "_law_count"]) (sc := defScope s__law_store) (by decide +kernel)) (fun _ _ _ _ _ => (pg_name (i := 12) sc.nd rfl (Or.inl rfl))) (fun _ _ _ _ _ => pts_nil) (fun _ _ _ _ _ => (pe_ifExp (pt_cmpR op_gt (pe_fn h__law_draw (hr.mono (by decide)) (by rfl) (pa_cons (pv 0) (pa_cons pe_int pa_nil))) pe_int (nomark _)) (pe_op op_add pe_int (pe_fn h__law_draw (hr.mono (by decide)) (by rfl) (pa_cons (pv 0) (pa_cons (pv 5) pa_nil)))) pe_int))) pps_nil)) (by rfl) (by rfl) (fun z => by cases z) (by decide))) 
      (pss_cons (ps_dput hu (pv 6) pe_str (pe_lc (own := [("_law_one", 12)]) rfl sc.nd (xi_list (K := K) (pe_slice (xx_sl (K := K)) (pv 4) (po_some pe_int) po_none)) (blkOk_by (own := [("_law_one", 12)]) (N := ["_law_pen_here", "_law_most", "_law_pairs", "_law_pool", "_law_names", "_law_size", "_law_store_here", "_law_name", "_law_label", "_law_lap", "_law_layers_here", "_law_menu", "_law_one", "_law_count"]) (sc := defScope s__law_store) (by decide +kernel)) (fun _ _ _ _ _ => (pg_name (i := 12) sc.nd rfl (Or.inl rfl))) (fun _ _ _ _ _ => (pts_one (pt_cmpR op_eq (pe_fn h__law_draw (hr.mono (by decide)) (by rfl) (pa_cons (pv 0) (pa_cons pe_int pa_nil))) pe_int (nomark _)))) (fun _ _ _ _ _ => (pv 12))) rfl) 
      (pss_cons (ps_asg (pe_tup (pa_cons (pe_lst pa_nil) (pa_cons (pe_op op_add pe_int (pe_fn h__law_draw (hr.mono (by decide)) (by rfl) (pa_cons (pv 0) (pa_cons (pe_op op_add (pe_op op_mul pe_int (pv 5)) pe_int) pa_nil)))) pa_nil))) (xg_tup (K := K) (n := 2) rfl (pgs_cons (pg_sub (pv 6) pe_str (set_dict hu)) (pgs_cons (pg_sub (pv 6) pe_str (set_dict hu)) pgs_nil)))) 
      (pss_cons (ps_for PassesOwn.never rfl (xi_list (K := K) (pv 4)) (pg_name (i := 7) sc.nd rfl (Or.inl rfl))
        (pss_one (ps_if (pt_cmpR op_gt (pe_fn h__law_draw (hr.mono (by decide)) (by rfl) (pa_cons (pv 0) (pa_cons pe_int pa_nil))) pe_int (nomark _))
          (pss_cons (ps_set (i := 8) sc.nd rfl (Or.inl rfl) (pe_ifExp (pt_cmpR op_gt (pe_fn h__law_draw (hr.mono (by decide)) (by rfl) (pa_cons (pv 0) (pa_cons pe_int pa_nil))) pe_int (nomark _)) (pe_op xo_addZ pe_str (pv 7)) (pv 7))) 
          (pss_one (ps_expr (xe_bm (K := K) PySem.F.plainAttrs_list PySem.F.slot_list_append PySem.F.type_list_append mt_append (pe_dget hu (pv 6) pe_str (fun _ _ => rfl)) (pa_cons (pe_fn h__law_mend_of (hr.mono (by decide)) (by rfl) (pa_cons (pv 0) (pa_cons (pv 6) (pa_cons (pv 8) (pa_cons (pe_lst (pa_cons (pv 7) pa_nil)) (pa_cons (pv 5) pa_nil)))))) pa_nil)))))
          pss_nil))) 
      (pss_cons (ps_for PassesOwn.never rfl (pi_range1 (by rfl) B.range (pa_cons (pe_ifExp (PW.pt (pw_and (pt_val (pv 2)) (pw_and1 (pt_cmpR op_gt (pe_callB (xc_len (K := K)) (by rfl) B.len boot_len (pa_cons (pv 4) pa_nil)) pe_int (nomark _))))) (pe_fn h__law_draw (hr.mono (by decide)) (by rfl) (pa_cons (pv 0) (pa_cons pe_int pa_nil))) pe_int) pa_nil)) (pg_name (i := 9) sc.nd rfl (Or.inl rfl))
        (pss_one (ps_expr (xe_bm (K := K) PySem.F.plainAttrs_list PySem.F.slot_list_append PySem.F.type_list_append mt_append (pe_dget hu (pv 6) pe_str (fun _ _ => rfl)) (pa_cons (pe_fn h__law_mend_of (hr.mono (by decide)) (by rfl) (pa_cons (pv 0) (pa_cons (pv 6) (pa_cons (pe_op xo_addZ pe_str (pe_callTy xc_strI (by rfl) B.str boot_str (pa_cons (pv 9) pa_nil))) (pa_cons (pe_fn h__law_two_of (hr.mono (by decide)) (by rfl) (pa_cons (pv 0) (pa_cons (pv 4) pa_nil))) (pa_cons (pv 5) pa_nil)))))) pa_nil))))) 
      (pss_cons (ps_if (pt_cmpR op_eq (pe_fn h__law_draw (hr.mono (by decide)) (by rfl) (pa_cons (pv 0) (pa_cons pe_int pa_nil))) pe_int (nomark _))
        (pss_one (ps_expr (xe_bm (K := K) PySem.F.plainAttrs_list PySem.F.slot_list_append PySem.F.type_list_append mt_append (pe_dget hu (pv 6) pe_str (fun _ _ => rfl)) (pa_cons (pe_fn h__law_mend_of (hr.mono (by decide)) (by rfl) (pa_cons (pv 0) (pa_cons (pv 6) (pa_cons pe_str (pa_cons (pe_lst (pa_cons (pe_fn h__law_pick (hr.mono (by decide)) (by rfl) (pa_cons (pv 0) (pa_cons (pv 4) pa_nil))) pa_nil)) (pa_cons (pv 5) pa_nil)))))) pa_nil))))
        pss_nil) 
      (pss_cons (ps_dput hu (pv 6) pe_str (pe_lc (own := [("_law_lap", 9)]) rfl sc.nd (pi_range1 (by rfl) B.range (pa_cons (pe_op op_add pe_int (pe_fn h__law_draw (hr.mono (by decide)) (by rfl) (pa_cons (pv 0) (pa_cons pe_int pa_nil)))) pa_nil)) (blkOk_by (own := [("_law_lap", 9)]) (N := ["_law_pen_here", "_law_most", "_law_pairs", "_law_pool", "_law_names", "_law_size", "_law_store_here", "_law_name", "_law_label", "_law_lap", "_law_layers_here", "_law_menu", "_law_one", "_law_count"]) (sc := defScope s__law_store) (by decide +kernel)) (fun _ _ _ _ _ => (pg_name (i := 9) sc.nd rfl (Or.inl rfl))) (fun _ _ _ _ _ => pts_nil) (fun _ _ _ _ _ => (pe_fn h__law_reader_of (hr.mono (by decide)) (by rfl) (pa_cons (pv 0) (pa_cons (pv 4) (pa_cons (pv 5) pa_nil)))))) rfl) 
      (pss_cons (ps_set (i := 10) sc.nd rfl (Or.inr rfl) (pe_fn h__law_all_layers (hr.mono (by decide)) (by rfl) (pa_cons (pv 6) pa_nil))) 
      (pss_cons (ps_set (i := 11) sc.nd rfl (Or.inl rfl) (pe_op op_cat (pe_lc (own := [("_law_count", 13)]) rfl sc.nd (xi_list (K := K) (pe_lst (pa_cons pe_non (pa_cons pe_non (pa_cons pe_int (pa_cons pe_int (pa_cons pe_int pa_nil))))))) (blkOk_by (own := [("_law_count", 13)]) (N := ["_law_pen_here", "_law_most", "_law_pairs", "_law_pool", "_law_names", "_law_size", "_law_store_here", "_law_name", "_law_label", "_law_lap", "_law_layers_here", "_law_menu", "_law_one", "_law_count"]) (sc := defScope s__law_store) (by decide +kernel)) (fun _ _ _ _ _ => (pg_name (i := 13) sc.nd rfl (Or.inl rfl))) (fun _ _ _ _ _ => pts_nil) (fun _ _ _ _ _ => (pe_fn h__law_file (hr.mono (by decide)) (by rfl) (pa_cons (pv 6) (pa_cons (pv 10) (pa_cons (pv 13) pa_nil)))))) (pe_lst (pa_cons (pe_dget hu (pv 6) pe_str (fun _ _ => rfl)) pa_nil)))) 
      (pss_cons (ps_dput hu (pv 6) pe_str (pe_callB (xc_max2 rfl) (by rfl) B.max boot_max (pa_cons pe_int (pa_cons (pe_callB (xc_min2 rfl) (by rfl) B.min boot_min (pa_cons pe_int (pa_cons (pe_op op_add (pe_fn h__law_pick (hr.mono (by decide)) (by rfl) (pa_cons (pv 0) (pa_cons (pv 11) pa_nil))) (pe_fn h__law_pick (hr.mono (by decide)) (by rfl) (pa_cons (pv 0) (pa_cons (pe_lst (pa_cons pe_int (pa_cons pe_int (pa_cons pe_int (pa_cons pe_int pa_nil))))) pa_nil)))) pa_nil))) pa_nil))) rfl) 
      (pss_one (ps_ret (pv 6))))))))))))))))), read_M h ?_⟩
  rintro ds μ Φ ⟨p, u, pairs, b, hb, hu, rfl, rfl, rfl⟩ nd
  have hbig : big = 1000000000 := rfl
  -- the pool
  refine run_mid (fun ρ' μ' => ∃ P ∈ pools, ∃ u', PenAt (b + 1) u' ∧ ρ' = [some (.loc p), some (.int 5), some (.bl pairs), some (.lst (sD P)), none, none, none, none, none, none, none, none, none, none] ∧ μ' = [(p, u')]) ?_ ?_
  · refine run_asgG (ev_pick (l := pools.map fun P => .lst (sD P)) (i := 0) (ea_cons (ed_var rfl) (ea_cons (ed_lst (ea_cons (ed_lst (ea_cons (ed_str _) (ea_cons (ed_str _) (ea_cons (ed_str _) (ea_cons (ed_str _) (ea_cons (ed_str _) (ea_cons (ed_str _) ea_nil)))))) (show 6 ≤ 100000 by decide)) (ea_cons (ed_lst (ea_cons (ed_str _) (ea_cons (ed_str _) (ea_cons (ed_str _) (ea_cons (ed_str _) (ea_cons (ed_str _) (ea_cons (ed_str _) ea_nil)))))) (show 6 ≤ 100000 by decide)) ea_nil)) (show 2 ≤ 100000 by decide)) ea_nil)) rfl nd (by simp [pools]) (show 2 < 1000000 by decide) (by omega) hu fun u' d h1 hd => ?_)
    obtain ⟨P, hP, rfl⟩ := List.mem_map.mp hd
    exact ⟨P, hP, u', h1, rfl, rfl⟩
  rintro _ _ ⟨P, hP, u1, hu1, rfl, rfl⟩
  have hP6 : P.length = 6 := by
    simp [pools] at hP
    rcases hP with rfl | rfl <;> rfl
  -- the names
  refine run_mid (fun ρ' μ' => ∃ j, 2 ≤ j ∧ j ≤ 5 ∧ ∃ u', PenAt (b + 2) u' ∧ ρ' = [some (.loc p), some (.int 5), some (.bl pairs), some (.lst (sD P)), some (.lst (sD (P.take j))), none, none, none, none, none, none, none, none, none] ∧ μ' = [(p, u')]) ?_ ?_
  · refine run_asgG (ev_slH (ed_var rfl) (ev_op (P1 := fun d μ1 => d = .int 2 ∧ μ1 = [(p, u1)]) (ev_of (ed_int 2) ⟨rfl, rfl⟩) ?_))
    rintro _ _ ⟨rfl, rfl⟩
    refine ev_draw (i := 0) (ea_cons (ed_var rfl) (ea_cons (ed_op (ed_var rfl) (ed_int 1) rv_int) ea_nil)) rfl nd (by decide) (by decide) (by omega) hu1 fun u2 k h2 h0 h1 => ⟨_, rv_int, (2 + k).toNat, ?_, (2 + k).toNat, by omega, by omega, u2, h2.up (by omega), ?_, rfl⟩
    · rw [Int.toNat_of_nonneg (by omega)]
    · show [_, _, _, _, some (D.lst ((sD P).take (2 + k).toNat)), _, _, _, _, _, _, _, _, _] = _
      rw [← List.map_take]
  rintro _ _ ⟨j, hj2, hj5, u2, hu2, rfl, rfl⟩
  let names := P.take j
  have hnl : names.length = j := by show (P.take j).length = j; rw [List.length_take]; omega
  have hnn : names.Nodup := (pool_nodup P hP).sublist (List.take_sublist _ _)
  -- the size
  refine run_mid (fun ρ' μ' => ∃ sz : Int, 1 ≤ sz ∧ sz ≤ 4 ∧ ∃ u', PenAt (b + 3) u' ∧ ρ' = [some (.loc p), some (.int 5), some (.bl pairs), some (.lst (sD P)), some (.lst (sD names)), some (.int sz), none, none, none, none, none, none, none, none] ∧ μ' = [(p, u')]) ?_ ?_
  · refine run_asgG (ev_pick (l := iD [1, 2, 2, 3, 4]) (i := 0) (ea_cons (ed_var rfl) (ea_cons (ed_lst (ea_cons (ed_int _) (ea_cons (ed_int _) (ea_cons (ed_int _) (ea_cons (ed_int _) (ea_cons (ed_int _) ea_nil))))) (show 5 ≤ 100000 by decide)) ea_nil)) rfl nd (by simp) (show 5 < 1000000 by decide) (by omega) hu2 fun u' d h1 hd => ?_)
    obtain ⟨z, hz, rfl⟩ := List.mem_map.mp hd
    have hz4 : 1 ≤ z ∧ z ≤ 4 := by
      simp at hz
      omega
    exact ⟨z, hz4.1, hz4.2, u', h1.up (by omega), rfl, rfl⟩
  rintro _ _ ⟨sz, hs1, hs4, u3, hu3, rfl, rfl⟩
  -- the store's cell: nodes, rooms
  refine run_mid (fun ρ' μ' => ∃ q u' rooms, q ≠ p ∧ PenAt (b + 20) u' ∧ rooms.length = names.length ∧ (∀ a ∈ rooms, (0 : Int) ≤ a ∧ a ≤ 4) ∧ ρ' = [some (.loc p), some (.int 5), some (.bl pairs), some (.lst (sD P)), some (.lst (sD names)), some (.int sz), some (.loc q), none, none, none, none, none, none, none] ∧ μ' = [(q, .dk (skD [("nodes", .lst (sD names)), ("rooms", .lst (iD rooms))])), (p, u')]) ?_ ?_
  · refine run_asgG (ev_dispC fun q hqM hqμ => evp_cons (ev_of (ed_var rfl) (evp_cons (ev_lc (items := sD names) (it_list (ed_var rfl)) (by rw [List.length_map]; omega) (fun i acc μ1 => i ≤ names.length ∧ ∃ (rooms : List Int) (u' : Own), acc = iD rooms ∧ rooms.length = i ∧ (∀ a ∈ rooms, (0 : Int) ≤ a ∧ a ≤ 4) ∧ PenAt (b + 3 + 2 * i) u' ∧ μ1 = [(q, .dk []), (p, u')]) ⟨Nat.zero_le _, [], u3, rfl, rfl, (fun a ha => (by cases ha)), by simpa using hu3, rfl⟩ (fun C i d acc μ1 hC1 hC2 hi hJ hacc => ?_) fun acc μ1 hJ => ?_))))
    · obtain ⟨hi6, rooms, u', rfl, hal, ham, hu', rfl⟩ := hJ
      have hil : i < names.length := by have := (List.getElem?_eq_some_iff.mp hi).1; rwa [List.length_map] at this
      have hqp : q ≠ p := fun z => hqμ (by rw [z]; simp)
      have hnd3 : ∀ {u'' : Own}, (([(C, Own.lst (iD rooms)), (q, .dk []), (p, u'')] : Mem).map (·.1)).Nodup := by
        intro u''
        simp only [List.map_cons, List.map_nil, List.mem_cons, List.not_mem_nil, or_false, not_or] at hC2
        simp [hC2.1, hC2.2, hqp]
      refine ⟨_, _, tg_name, by simp, evt_yes ⟨_, rfl, ?_⟩⟩
      rw [if_pos rfl]
      have fin : ∀ (o : Int) v, (0 ≤ o ∧ o ≤ 4) → PenAt (b + 3 + 2 * i + 2) v → ∃ μ3', [(C, Own.lst (iD rooms)), (q, .dk []), (p, v)] = (C, .lst (iD rooms)) :: μ3' ∧ i + 1 ≤ names.length ∧ ∃ (rooms' : List Int) (u'' : Own), iD rooms ++ [D.int o] = iD rooms' ∧ rooms'.length = i + 1 ∧ (∀ a ∈ rooms', (0 : Int) ≤ a ∧ a ≤ 4) ∧ PenAt (b + 3 + 2 * ((i + 1 : Nat) : Int)) u'' ∧ μ3' = [(q, .dk []), (p, u'')] := by
        intro o v ho hv
        refine ⟨_, rfl, by omega, rooms ++ [o], v, by rw [show iD (rooms ++ [o]) = iD rooms ++ [D.int o] from List.map_append], by rw [List.length_append, hal]; rfl, fun z hz => ?_, hv.up (by omega), rfl⟩
        rcases List.mem_append.mp hz with w | w
        · exact ham z w
        · rw [List.mem_singleton.mp w]; exact ho
      refine ev_if (PT := fun bb μ1 => ∃ v, PenAt (b + 3 + 2 * i + 1) v ∧ μ1 = [(C, .lst (iD rooms)), (q, .dk []), (p, v)]) (evt_test (ev_op (P1 := fun d μ1 => ∃ k v, d = .int k ∧ PenAt (b + 3 + 2 * i + 1) v ∧ μ1 = [(C, .lst (iD rooms)), (q, .dk []), (p, v)]) (ev_draw (i := 2) (ea_cons (ed_var rfl) (ea_cons (ed_int 8) ea_nil)) rfl hnd3 (by decide) (by decide) (by omega) hu' fun v k h2 h0 h1 => ⟨k, v, rfl, h2, rfl⟩) ?_)) ?_ ?_
      · rintro _ _ ⟨k, v, rfl, hv, rfl⟩
        exact ev_of (ed_int 0) ⟨_, rv_bl, _, rfl, v, hv, rfl⟩
      · rintro μ1 ⟨v, hv, rfl⟩
        refine ev_op (P1 := fun d μ1 => d = .int 1 ∧ μ1 = [(C, .lst (iD rooms)), (q, .dk []), (p, v)]) (ev_of (ed_int 1) ⟨rfl, rfl⟩) ?_
        rintro _ _ ⟨rfl, rfl⟩
        exact ev_draw (i := 2) (ea_cons (ed_var rfl) (ea_cons (ed_var rfl) ea_nil)) rfl hnd3 (by omega) (by omega) (by omega) hv fun v3 k h3 h0 h1 => ⟨_, rv_int, fin (1 + k) v3 (by omega) (h3.up (by omega))⟩
      · rintro μ1 ⟨v, hv, rfl⟩
        exact ev_of (ed_int 0) (fin 0 v (by omega) (hv.up (by omega)))
    · obtain ⟨hi6, rooms, u', rfl, hal, ham, hu', rfl⟩ := hJ
      have hqp : q ≠ p := fun z => hqμ (by rw [z]; simp)
      refine evp_nil ⟨_, rfl, (show (["nodes", "rooms"] : List Str).Nodup by decide), (show 2 ≤ 15 by decide), q, u', rooms, hqp, hu'.up (by rw [List.length_map, hnl]; omega), by rw [hal, List.length_map], ham, rfl, rfl⟩
  rintro _ _ ⟨q, u4, rooms, hqp, hu4, hrl, hr0, rfl, rfl⟩
  have hndq : ∀ {o v : Own}, (([(q, o), (p, v)] : Mem).map (·.1)).Nodup := by intro o v; simp [hqp]
  -- new
  refine run_mid (fun ρ' μ' => ∃ u' fresh, PenAt (b + 30) u' ∧ List.Sublist fresh (names.drop 1) ∧ ρ' = [some (.loc p), some (.int 5), some (.bl pairs), some (.lst (sD P)), some (.lst (sD names)), some (.int sz), some (.loc q), none, none, none, none, none, none, none] ∧ μ' = [(q, .dk (skD [("nodes", .lst (sD names)), ("rooms", .lst (iD rooms)), ("new", .lst (sD fresh))])), (p, u')]) ?_ ?_
  · have hd1 : (sD (names.drop 1)).length ≤ 5 := by rw [List.length_map, List.length_drop]; omega
    refine run_dputG (p := q) (s := "new") (ev_lc (items := sD (names.drop 1)) (ItE.is (it_list (ed_sl (ed_var rfl) (eo_some (ed_int 1)) eo_none)) (by rw [drop1, ← List.map_drop])) (by omega) (fun i acc μ1 => i ≤ 5 ∧ ∃ hs u', acc = sD hs ∧ List.Sublist hs ((names.drop 1).take i) ∧ PenAt (b + 20 + i) u' ∧ μ1 = [(q, .dk (skD [("nodes", .lst (sD names)), ("rooms", .lst (iD rooms))])), (p, u')]) ⟨Nat.zero_le _, [], u4, rfl, List.nil_sublist _, by simpa using hu4, rfl⟩ (fun C i d acc μ1 hC1 hC2 hi hJ hacc => ?_) fun acc μ1 hJ => ?_)
    · obtain ⟨hi6, hs, u', rfl, hsub, hu', rfl⟩ := hJ
      have hnd3 : ∀ {u'' : Own}, (([(C, Own.lst (sD hs)), (q, .dk (skD [("nodes", .lst (sD names)), ("rooms", .lst (iD rooms))])), (p, u'')] : Mem).map (·.1)).Nodup := by
        intro u''
        simp only [List.map_cons, List.map_nil, List.mem_cons, List.not_mem_nil, or_false, not_or] at hC2
        simp [hC2.1, hC2.2, hqp]
      rw [List.getElem?_map] at hi
      cases hn : (names.drop 1)[i]? with
      | none => rw [hn] at hi; cases hi
      | some a =>
        rw [hn] at hi
        have hi : D.str a = d := Option.some.inj hi
        subst hi
        have hil := (List.getElem?_eq_some_iff.mp hn).1
        rw [List.length_drop] at hil
        refine ⟨_, _, tg_name, by simp, evt_test (ev_op (P1 := fun d μ1 => ∃ k v, d = .int k ∧ PenAt (b + 20 + i + 1) v ∧ μ1 = [(C, .lst (sD hs)), (q, .dk (skD [("nodes", .lst (sD names)), ("rooms", .lst (iD rooms))])), (p, v)]) (ev_draw (i := 2) (ea_cons (ed_var rfl) (ea_cons (ed_int 8) ea_nil)) rfl hnd3 (by decide) (by decide) (by omega) hu' fun v k h2 h0 h1 => ⟨k, v, rfl, h2, rfl⟩) ?_)⟩
        rintro _ _ ⟨k, v, rfl, hv, rfl⟩
        refine ev_of (ed_int 0) ⟨_, rv_eq rfl rfl rfl, _, rfl, _, rfl, ?_⟩
        have hv3 : PenAt (b + 20 + ((i + 1 : Nat) : Int)) v := hv.up (by omega)
        by_cases hk : V.int k = V.int 0
        · rw [if_pos (decide_eq_true hk)]
          refine ev_of (ed_var rfl) ⟨_, rfl, by omega, hs ++ [a], v, ?_, sub_of hsub hn, hv3, rfl⟩
          rw [show sD (hs ++ [a]) = sD hs ++ [D.str a] from List.map_append]
        · rw [if_neg (by rw [decide_eq_false hk]; decide)]
          exact ⟨by omega, hs, v, rfl, sub_of0 hsub, hv3, rfl⟩
    · obtain ⟨hi6, hs, u', rfl, hsub, hu', rfl⟩ := hJ
      rw [List.length_map, List.take_length] at hsub
      exact ⟨ed_var rfl, ed_str _, 0, _, rfl, (show 2 < 100000 by decide), u', hs, hu'.up (by omega), hsub, rfl, rfl⟩
  rintro _ _ ⟨u5, fresh, hu5, hfr, rfl, rfl⟩
  -- mends, file
  refine run_mid (fun ρ' μ' => ∃ l u' file, l ≠ q ∧ l ≠ p ∧ (1 ≤ file ∧ file ≤ (20 : Int)) ∧ PenAt (b + 31) u' ∧ ρ' = [some (.loc p), some (.int 5), some (.bl pairs), some (.lst (sD P)), some (.lst (sD names)), some (.int sz), some (.loc q), none, none, none, none, none, none, none] ∧ μ' = [(l, .lst []), (q, .dk (kdsT names rooms fresh (.loc l) file)), (p, u')]) ?_ ?_
  · refine run_asgM (ev_tup (eva_cons (P1 := fun d μ1 => ∃ l, l ≠ q ∧ l ≠ p ∧ d = .loc l ∧ μ1 = [(l, .lst []), (q, .dk (skD [("nodes", .lst (sD names)), ("rooms", .lst (iD rooms)), ("new", .lst (sD fresh))])), (p, u5)]) (ev_lstC (eva_of ea_nil ⟨Nat.zero_le _, fun l hlM hlμ => ⟨l, fun z => hlμ (by rw [z]; simp), fun z => hlμ (by rw [z]; simp), rfl, rfl⟩⟩)) ?_))
    rintro _ _ ⟨l, hlq, hlp, rfl, rfl⟩
    refine eva_cons (P1 := fun d μ1 => ∃ k v, d = .int k ∧ (1 ≤ k ∧ k ≤ 20) ∧ PenAt (b + 31) v ∧ μ1 = [(l, .lst []), (q, .dk (skD [("nodes", .lst (sD names)), ("rooms", .lst (iD rooms)), ("new", .lst (sD fresh))])), (p, v)]) (ev_op (P1 := fun d μ1 => d = .int 1 ∧ μ1 = [(l, .lst []), (q, .dk (skD [("nodes", .lst (sD names)), ("rooms", .lst (iD rooms)), ("new", .lst (sD fresh))])), (p, u5)]) (ev_of (ed_int 1) ⟨rfl, rfl⟩) ?_) ?_
    · rintro _ _ ⟨rfl, rfl⟩
      exact ev_draw (i := 2) (ea_cons (ed_var rfl) (ea_cons (ed_op (ed_op (ed_int 2) (ed_var rfl) (rv_intC (.inl ⟨by decide, by decide⟩))) (ed_int 2) rv_int) ea_nil)) rfl (by simp [hlq, hlp, hqp]) (by omega) (by omega) (by omega) hu5 fun v k h2 h0 h1 => ⟨_, rv_int, 1 + k, v, rfl, ⟨by omega, by omega⟩, h2.up (by omega), rfl⟩
    · rintro _ _ ⟨k, v, rfl, hk, hv, rfl⟩
      refine eva_of ea_nil ⟨(show 2 ≤ 100000 by decide), tgm_tup rfl (tgs_cons (tgm_dput (p := q) (i := 1) (ed_var rfl) (ed_str _) rfl (show 3 < 100000 by decide) (tgs_cons (tgm_dput (p := q) (i := 1) (ed_var rfl) (ed_str _) rfl (show 4 < 100000 by decide) (tgs_nil ⟨l, v, k, hlq, hlp, hk, hv, rfl, rfl⟩)))))⟩
  rintro _ _ ⟨l, u6, file, hlq, hlp, hfile, hu6, rfl, rfl⟩
  have hf9 : 1 ≤ file ∧ file ≤ 20 := hfile
  let kds := kdsT names rooms fresh (.loc l) file
  have hndl : ∀ {o v w : Own}, (([(l, o), (q, v), (p, w)] : Mem).map (·.1)).Nodup := by intro o v w; simp [hlq, hlp, hqp]
  have hdot : ∀ {ρ : Ro} {ms : List Mnd} {v : Own} {i : Nat} {te : TE} {Φ : Post}, ρ[6]? = some (some (.loc q)) → ms.length < 100 → Ev K [p] te ρ [(l, .lst (ms.map encTm)), (q, .dk kds), (p, v)] (fun d μ2 => ∃ md v', d = encTm md ∧ μ2 = [(l, .lst (ms.map encTm)), (q, .dk kds), (p, v')] ∧ Φ.nx ρ [(l, .lst ((ms ++ [md]).map encTm)), (q, .dk kds), (p, v')]) → Run K [p] (tDrop (tBM K "list" rAppend (tDGet (tVar 6) (tC (.str "mends"))) (tCons te tNil))) ρ [(l, .lst (ms.map encTm)), (q, .dk kds), (p, v)] Φ := by
    intro ρ ms v i te Φ h6 hml h
    refine run_appG (p := l) (ev_dget (p := q) (i := 1) h6 rfl rfl ⟨rfl, ⟨0, _, rfl⟩, Ev.to h ?_⟩)
    rintro _ _ ⟨md, v', rfl, rfl, hn⟩
    refine ⟨0, _, rfl, by rw [List.length_map]; omega, ?_⟩
    rw [List.map_append] at hn
    exact hn
  -- one mend for a name
  refine run_mid (fun ρ' μ' => ∃ x7 x8 ms v, LabInv P 5 ms ∧ (∀ md ∈ ms, MdOk names sz md) ∧ ms.length ≤ 5 ∧ PenAt (b + 300) v ∧ ρ' = [some (.loc p), some (.int 5), some (.bl pairs), some (.lst (sD P)), some (.lst (sD names)), some (.int sz), some (.loc q), x7, x8, none, none, none, none, none] ∧ μ' = [(l, .lst (ms.map encTm)), (q, .dk kds), (p, v)]) ?_ ?_
  · refine run_for (items := sD names) (it_list (ed_var rfl)) (fun i ρ μ => i ≤ 5 ∧ ∃ x7 x8 ms v, LabInv P i ms ∧ (∀ md ∈ ms, MdOk names sz md) ∧ ms.length ≤ i ∧ PenAt (b + 31 + 52 * i) v ∧ ρ = [some (.loc p), some (.int 5), some (.bl pairs), some (.lst (sD P)), some (.lst (sD names)), some (.int sz), some (.loc q), x7, x8, none, none, none, none, none] ∧ μ = [(l, .lst (ms.map encTm)), (q, .dk kds), (p, v)]) ⟨Nat.zero_le _, none, none, [], u6, ⟨List.nodup_nil, fun m hm => (by cases hm)⟩, fun m hm => (by cases hm), Nat.le_refl _, by simpa using hu6, rfl, rfl⟩ (fun i d ρ1 μ1 hi hI => ?_) fun ρ1 μ1 hI => ?_
    · obtain ⟨hi5, x7, x8, ms, v, hL, hM, hml, hv, rfl, rfl⟩ := hI
      rw [List.getElem?_map] at hi
      cases hn : names[i]? with
      | none => rw [hn] at hi; cases hi
      | some a =>
        rw [hn] at hi
        have hi : D.str a = d := Option.some.inj hi
        subst hi
        have hil := (List.getElem?_eq_some_iff.mp hn).1
        have hPa := lab_at hn
        refine ⟨_, _, tg_name, run_ifG (evt_test (ev_op (P1 := fun d μ1 => ∃ k v, d = .int k ∧ PenAt (b + 31 + 52 * i + 1) v ∧ μ1 = [(l, .lst (ms.map encTm)), (q, .dk kds), (p, v)]) (ev_draw (i := 2) (ea_cons (ed_var rfl) (ea_cons (ed_int 6) ea_nil)) rfl hndl (by decide) (by decide) (by omega) hv fun v k h2 h0 h1 => ⟨k, v, rfl, h2, rfl⟩) ?_))⟩
        rintro _ _ ⟨k, v1, rfl, hv1, rfl⟩
        refine ev_of (ed_int 0) ⟨_, rv_bl, _, rfl, ?_⟩
        by_cases hk : (0 : Int) < k
        · rw [if_pos (decide_eq_true hk)]
          refine run_mid (fun ρ' μ' => ∃ lab v2, lab ∈ labsAt P i ∧ PenAt (b + 31 + 52 * i + 2) v2 ∧ ρ' = [some (.loc p), some (.int 5), some (.bl pairs), some (.lst (sD P)), some (.lst (sD names)), some (.int sz), some (.loc q), some (.str a), some (.str lab), none, none, none, none, none] ∧ μ' = [(l, .lst (ms.map encTm)), (q, .dk kds), (p, v2)]) ?_ ?_
          · have hi6 : i < 6 := by omega
            have hlabs : labsAt P i = [a, ("m" : Str) ++ a] := by unfold labsAt; rw [if_pos hi6, hPa]
            have hal : a.length ≤ 10 := by
              have : ∀ P ∈ pools, ∀ n ∈ P, n.length ≤ 10 := by decide +kernel
              exact this P hP a (List.mem_of_mem_take (List.mem_of_getElem? hn))
            refine run_asgG (ev_if (PT := fun bb μ1 => ∃ v2, PenAt (b + 31 + 52 * i + 2) v2 ∧ μ1 = [(l, .lst (ms.map encTm)), (q, .dk kds), (p, v2)]) (evt_test (ev_op (P1 := fun d μ1 => ∃ k v, d = .int k ∧ PenAt (b + 31 + 52 * i + 2) v ∧ μ1 = [(l, .lst (ms.map encTm)), (q, .dk kds), (p, v)]) (ev_draw (i := 2) (ea_cons (ed_var rfl) (ea_cons (ed_int 3) ea_nil)) rfl hndl (by decide) (by decide) (by omega) hv1 fun v k h2 h0 h1 => ⟨k, v, rfl, h2.up (by omega), rfl⟩) ?_)) ?_ ?_)
            · rintro _ _ ⟨k, v2, rfl, hv2, rfl⟩
              exact ev_of (ed_int 0) ⟨_, rv_bl, _, rfl, v2, hv2, rfl⟩
            · rintro μ1 ⟨v2, hv2, rfl⟩
              exact ev_of (ed_op (ed_str "m") (ed_var rfl) (rv_addZ (Nat.le_trans (Nat.add_le_add (show ("m" : Str).length ≤ 1 by decide +kernel) hal) (by decide)))) ⟨("m" : Str) ++ a, v2, by rw [hlabs]; simp, hv2, rfl, rfl⟩
            · rintro μ1 ⟨v2, hv2, rfl⟩
              exact ev_of (ed_var rfl) ⟨a, v2, by rw [hlabs]; simp, hv2, rfl, rfl⟩
          · rintro _ _ ⟨lab, v2, hlab, hv2, rfl, rfl⟩
            refine hdot (i := 0) rfl (by omega) (ev_mendOf (most := sz) (kds := kds) (o := .lst (ms.map encTm)) hlq hlp hqp hnn (by omega) rfl (by omega) (by omega) (by omega) (eva_of (ea_cons (ed_var rfl) (ea_cons (ed_var rfl) (ea_cons (ed_var rfl) (ea_cons (ed_lst (ea_cons (ed_var rfl) ea_nil) (show 1 ≤ 100000 by decide)) (ea_cons (ed_var rfl) ea_nil))))) ⟨v2, lab, [a], rfl, rfl, hv2, fun n hn' => by rw [List.mem_singleton.mp hn']; exact List.mem_of_getElem? hn, by simp, .inl rfl, by show 1 < names.length; omega, fun v3 md hv3 hmd hlm => ⟨md, v3, rfl, rfl, by omega, _, _, ms ++ [md], v3, hL.snoc hP (by omega) (by rw [hlm]; exact hlab), fun x hx => ?_, by rw [List.length_append]; exact Nat.succ_le_succ hml, hv3.up (by omega), rfl, rfl⟩⟩))
            rcases List.mem_append.mp hx with w | w
            · exact hM x w
            · rw [List.mem_singleton.mp w]; exact hmd
        · rw [if_neg (by rw [decide_eq_false hk]; decide)]
          exact run_next ⟨by omega, _, _, ms, v1, hL.up (Nat.le_succ _), hM, by omega, hv1.up (by omega), rfl, rfl⟩
    · obtain ⟨hi5, x7, x8, ms, v, hL, hM, hml, hv, rfl, rfl⟩ := hI
      exact ⟨x7, x8, ms, v, hL.up hi5, hM, by omega, hv.up (by omega), rfl, rfl⟩
  rintro _ _ ⟨x7, x8, ms1, v1, hL1, hM1, hml1, hv1, rfl, rfl⟩
  -- pairs
  refine run_mid (fun ρ' μ' => ∃ x9 ms v, LabInv P 20 ms ∧ (∀ md ∈ ms, MdOk names sz md) ∧ ms.length ≤ 7 ∧ PenAt (b + 500) v ∧ ρ' = [some (.loc p), some (.int 5), some (.bl pairs), some (.lst (sD P)), some (.lst (sD names)), some (.int sz), some (.loc q), x7, x8, x9, none, none, none, none] ∧ μ' = [(l, .lst (ms.map encTm)), (q, .dk kds), (p, v)]) ?_ ?_
  · refine run_forW (iv_rng1 (eva_cons (P1 := fun d μ1 => ∃ (n : Nat) (v : Own), n ≤ 2 ∧ (0 < n → 2 < names.length) ∧ d = .int (n : Int) ∧ PenAt (b + 301) v ∧ μ1 = [(l, .lst (ms1.map encTm)), (q, .dk kds), (p, v)]) (ev_if (PT := fun bb μ1 => bb = (pairs && decide ((2 : Int) < names.length)) ∧ μ1 = [(l, .lst (ms1.map encTm)), (q, .dk kds), (p, v1)]) (evt_of (b := (pairs && decide ((2 : Int) < (names.length : Int)))) (EdT.is (et_and (et_B (ed_var rfl)) fun _ => et_test (ed_op (ed_cb (ea_cons (ed_var rfl) ea_nil) rc_lenL) (ed_int 2) rv_bl)) (by rw [List.length_map])) ⟨rfl, rfl⟩) (by
        rintro μ1 ⟨hb2, rfl⟩
        have h3 : 2 < names.length := by
          have := (Bool.and_eq_true_iff.mp hb2.symm).2
          have := of_decide_eq_true this
          omega
        exact ev_draw (i := 2) (ea_cons (ed_var rfl) (ea_cons (ed_int 3) ea_nil)) rfl hndl (by decide) (by decide) (by omega) hv1 fun v k h2 h0 h1 => ⟨k.toNat, v, by omega, fun _ => h3, by rw [Int.toNat_of_nonneg h0], h2.up (by omega), rfl⟩) (by
        rintro μ1 ⟨hb2, rfl⟩
        exact ev_of (ed_int 0) ⟨0, v1, by omega, fun z => absurd z (Nat.lt_irrefl _), rfl, hv1.up (by omega), rfl⟩)) ?_))
    rintro _ _ ⟨n, v2, hn2, hn3, rfl, hv2, rfl⟩
    refine eva_of ea_nil ⟨n, rfl, by omega, fun i ρ μ => i ≤ n ∧ ∃ x9 ms v, LabInv P (10 + i) ms ∧ (∀ md ∈ ms, MdOk names sz md) ∧ ms.length ≤ 5 + i ∧ PenAt (b + 301 + 52 * i) v ∧ ρ = [some (.loc p), some (.int 5), some (.bl pairs), some (.lst (sD P)), some (.lst (sD names)), some (.int sz), some (.loc q), x7, x8, x9, none, none, none, none] ∧ μ = [(l, .lst (ms.map encTm)), (q, .dk kds), (p, v)], ⟨Nat.zero_le _, none, ms1, v2, hL1.up (by decide), hM1, hml1, by simpa using hv2, rfl, rfl⟩, fun i d ρ1 μ1 hi hI => ?_, fun ρ1 μ1 hI => ?_⟩
    · obtain ⟨hin, x9, ms, v, hL, hM, hml, hv, rfl, rfl⟩ := hI
      rw [List.getElem?_map] at hi
      cases hr2 : (List.range n)[i]? with
      | none => rw [hr2] at hi; cases hi
      | some k =>
        rw [hr2] at hi
        have hi : D.int (k : Int) = d := Option.some.inj hi
        subst hi
        obtain ⟨hk1, hk2⟩ := List.getElem?_eq_some_iff.mp hr2
        rw [List.getElem_range] at hk2
        subst hk2
        rw [List.length_range] at hk1
        have h3 := hn3 (by omega)
        have hi2 : i = 0 ∨ i = 1 := by omega
        have hlab : ("p" : Str) ++ ((toString (i : Int) : String) : Str) ∈ labsAt P (10 + i) := by
          rcases hi2 with rfl | rfl <;> simp [labsAt]
        have hlen : ("p" : Str).length + ((toString (i : Int) : String) : Str).length ≤ sizeLine := by
          rcases hi2 with rfl | rfl <;> decide +kernel
        refine ⟨_, _, tg_name, hdot (i := 0) rfl (by omega) (ev_mendOf (most := sz) (kds := kds) (o := .lst (ms.map encTm)) (b := b + 301 + 52 * i + 2) hlq hlp hqp hnn (by omega) rfl (by omega) (by omega) (by omega) (eva_cons (P1 := fun d μ1 => d = .loc p ∧ μ1 = [(l, .lst (ms.map encTm)), (q, .dk kds), (p, v)]) (ev_of (ed_var rfl) ⟨rfl, rfl⟩) ?_))⟩
        rintro _ _ ⟨rfl, rfl⟩
        refine eva_cons (P1 := fun d μ1 => d = .loc q ∧ μ1 = [(l, .lst (ms.map encTm)), (q, .dk kds), (p, v)]) (ev_of (ed_var rfl) ⟨rfl, rfl⟩) ?_
        rintro _ _ ⟨rfl, rfl⟩
        refine eva_cons (P1 := fun d μ1 => d = .str (("p" : Str) ++ ((toString (i : Int) : String) : Str)) ∧ μ1 = [(l, .lst (ms.map encTm)), (q, .dk kds), (p, v)]) (ev_of (ed_op (ed_str "p") (ed_cb (ea_cons (ed_var rfl) ea_nil) (rc_strI (by rcases hi2 with rfl | rfl <;> decide))) (rv_addZ hlen)) ⟨rfl, rfl⟩) ?_
        rintro _ _ ⟨rfl, rfl⟩
        refine eva_cons (P1 := fun d μ1 => ∃ x y v2, x ≠ y ∧ x ∈ names ∧ y ∈ names ∧ d = .lst [.str x, .str y] ∧ PenAt (b + 301 + 52 * i + 2) v2 ∧ μ1 = [(l, .lst (ms.map encTm)), (q, .dk kds), (p, v2)]) (ev_call1 (i := 2) (ea_cons (ed_var rfl) (ea_cons (ed_var rfl) ea_nil)) rfl hndl ⟨p, v, names, b + 301 + 52 * i, hnn, by omega, by omega, by omega, hv, rfl, rfl, rfl⟩ (fun d u' hd => ?_) fun d μ' hd => ?_) ?_
        · obtain ⟨u2, e, h2, x, y, hxy, hx, hy, rfl⟩ := hd
          cases e
          exact ⟨x, y, u', hxy, hx, hy, rfl, h2, rfl⟩
        · obtain ⟨u2, e, _⟩ := hd
          exact ⟨u2, e⟩
        rintro _ _ ⟨x, y, v2, hxy, hx, hy, rfl, hv2, rfl⟩
        refine eva_of (ea_cons (ed_var rfl) ea_nil) ⟨v2, _, [x, y], rfl, rfl, hv2, fun n hn' => ?_, by simp [hxy], .inr rfl, h3, fun v3 md hv3 hmd hlm => ⟨md, v3, rfl, rfl, by omega, _, ms ++ [md], v3, ?_, fun z hz => ?_, by rw [List.length_append]; exact Nat.succ_le_succ hml, hv3.up (by omega), rfl, rfl⟩⟩
        · simp at hn'
          rcases hn' with rfl | rfl
          · exact hx
          · exact hy
        · exact hL.snoc hP (by omega) (by rw [hlm]; exact hlab)
        · rcases List.mem_append.mp hz with w | w
          · exact hM z w
          · rw [List.mem_singleton.mp w]; exact hmd
    · obtain ⟨hin, x9, ms, v, hL, hM, hml, hv, rfl, rfl⟩ := hI
      rw [List.length_map, List.length_range] at hin hL hml hv
      exact ⟨x9, ms, v, hL.up (by omega), hM, by omega, hv.up (by omega), rfl, rfl⟩
  rintro _ _ ⟨x9, ms2, v2, hL2, hM2, hml2, hv2, rfl, rfl⟩
  -- again
  refine run_mid (fun ρ' μ' => ∃ ms v, LabInv P 21 ms ∧ (∀ md ∈ ms, MdOk names sz md) ∧ ms.length ≤ 8 ∧ PenAt (b + 600) v ∧ ρ' = [some (.loc p), some (.int 5), some (.bl pairs), some (.lst (sD P)), some (.lst (sD names)), some (.int sz), some (.loc q), x7, x8, x9, none, none, none, none] ∧ μ' = [(l, .lst (ms.map encTm)), (q, .dk kds), (p, v)]) ?_ ?_
  · refine run_ifG (evt_test (ev_op (P1 := fun d μ1 => ∃ k v, d = .int k ∧ PenAt (b + 501) v ∧ μ1 = [(l, .lst (ms2.map encTm)), (q, .dk kds), (p, v)]) (ev_draw (i := 2) (ea_cons (ed_var rfl) (ea_cons (ed_int 4) ea_nil)) rfl hndl (by decide) (by decide) (by omega) hv2 fun v k h2 h0 h1 => ⟨k, v, rfl, h2.up (by omega), rfl⟩) ?_))
    rintro _ _ ⟨k, v3, rfl, hv3, rfl⟩
    refine ev_of (ed_int 0) ⟨_, rv_eq rfl rfl rfl, _, rfl, ?_⟩
    by_cases hk : V.int k = V.int 0
    · rw [if_pos (decide_eq_true hk)]
      refine hdot (i := 0) rfl (by omega) (ev_mendOf (most := sz) (kds := kds) (o := .lst (ms2.map encTm)) (b := b + 502) hlq hlp hqp hnn (by omega) rfl (by omega) (by omega) (by omega) (eva_cons (P1 := fun d μ1 => d = .loc p ∧ μ1 = [(l, .lst (ms2.map encTm)), (q, .dk kds), (p, v3)]) (ev_of (ed_var rfl) ⟨rfl, rfl⟩) ?_))
      rintro _ _ ⟨rfl, rfl⟩
      refine eva_cons (P1 := fun d μ1 => d = .loc q ∧ μ1 = [(l, .lst (ms2.map encTm)), (q, .dk kds), (p, v3)]) (ev_of (ed_var rfl) ⟨rfl, rfl⟩) ?_
      rintro _ _ ⟨rfl, rfl⟩
      refine eva_cons (P1 := fun d μ1 => d = .str "again" ∧ μ1 = [(l, .lst (ms2.map encTm)), (q, .dk kds), (p, v3)]) (ev_of (ed_str _) ⟨rfl, rfl⟩) ?_
      rintro _ _ ⟨rfl, rfl⟩
      refine eva_cons (P1 := fun d μ1 => ∃ x v, x ∈ names ∧ d = .lst [.str x] ∧ PenAt (b + 502) v ∧ μ1 = [(l, .lst (ms2.map encTm)), (q, .dk kds), (p, v)]) (ev_lst (eva_cons (P1 := fun d μ1 => ∃ x v, x ∈ names ∧ d = .str x ∧ PenAt (b + 502) v ∧ μ1 = [(l, .lst (ms2.map encTm)), (q, .dk kds), (p, v)]) (ev_pick (i := 2) (ea_cons (ed_var rfl) (ea_cons (ed_var rfl) ea_nil)) rfl hndl (by intro z; have := congrArg List.length z; rw [List.length_map, hnl] at this; simp at this; omega) (by rw [List.length_map]; omega) (by omega) hv3 fun v d h1 hd => ?_) ?_)) ?_
      · obtain ⟨x, hx, rfl⟩ := mem_sD hd
        exact ⟨x, v, hx, rfl, h1.up (by omega), rfl⟩
      · rintro _ _ ⟨x, v, hx, rfl, hv, rfl⟩
        exact eva_of ea_nil ⟨(show 1 ≤ 100000 by decide), x, v, hx, rfl, hv, rfl⟩
      rintro _ _ ⟨x, v, hx, rfl, hv, rfl⟩
      refine eva_of (ea_cons (ed_var rfl) ea_nil) ⟨v, _, [x], rfl, rfl, hv, fun n hn' => by rw [List.mem_singleton.mp hn']; exact hx, by simp, .inl rfl, by show 1 < names.length; omega, fun v4 md hv4 hmd hlm => ⟨md, v4, rfl, rfl, ms2 ++ [md], v4, hL2.snoc hP (by decide) (by rw [hlm]; simp [labsAt]), fun z hz => ?_, by rw [List.length_append]; exact Nat.succ_le_succ hml2, hv4.up (by omega), rfl, rfl⟩⟩
      rcases List.mem_append.mp hz with w | w
      · exact hM2 z w
      · rw [List.mem_singleton.mp w]; exact hmd
    · rw [if_neg (by rw [decide_eq_false hk]; decide)]
      exact run_next ⟨ms2, v3, hL2.up (by decide), hM2, by omega, hv3.up (by omega), rfl, rfl⟩
  rintro _ _ ⟨ms, v3, hL, hM, hml, hv3, rfl, rfl⟩
  refine run_freezeDk (s := "mends") (fun z => hlp (by simpa using z)) (fun kv hkv e => ?_) rfl ?_
  · simp [kds, kdsT, skD] at hkv
    rcases hkv with rfl | rfl | rfl | rfl | rfl
    · exact absurd (Sum.inr.inj e) (by decide +kernel)
    · exact absurd (Sum.inr.inj e) (by decide +kernel)
    · exact absurd (Sum.inr.inj e) (by decide +kernel)
    · rfl
    · exact absurd (Sum.inr.inj e) (by decide +kernel)
  show Run K _ _ _ [(q, .dk (kdsT names rooms fresh (.lst (ms.map encTm)) file)), (p, v3)] _
  -- readers
  refine run_mid (fun ρ' μ' => ∃ rs v, rs ≠ [] ∧ rs.length ≤ 3 ∧ (∀ r ∈ rs, RdOk names sz r) ∧ PenAt (b + 700) v ∧ ρ' = [some (.loc p), some (.int 5), some (.bl pairs), some (.lst (sD P)), some (.lst (sD names)), some (.int sz), some (.loc q), x7, x8, x9, none, none, none, none] ∧ μ' = [(q, .dk (skD (keysT ⟨"", file, names, rooms, fresh, ms, rs⟩))), (p, v)]) ?_ ?_
  · refine run_dputG (p := q) (s := "readers") (ev_lcW (iv_rng1 (eva_cons (P1 := fun d μ1 => ∃ (n : Nat) (v : Own), 1 ≤ n ∧ n ≤ 3 ∧ d = .int (n : Int) ∧ PenAt (b + 601) v ∧ μ1 = [(q, .dk (kdsT names rooms fresh (.lst (ms.map encTm)) file)), (p, v)]) (ev_op (P1 := fun d μ1 => d = .int 1 ∧ μ1 = [(q, .dk (kdsT names rooms fresh (.lst (ms.map encTm)) file)), (p, v3)]) (ev_of (ed_int 1) ⟨rfl, rfl⟩) ?_) ?_)))
    · rintro _ _ ⟨rfl, rfl⟩
      exact ev_draw (i := 1) (ea_cons (ed_var rfl) (ea_cons (ed_int 3) ea_nil)) rfl hndq (by decide) (by decide) (by omega) hv3 fun v k h2 h0 h1 => ⟨_, rv_int, (1 + k).toNat, v, by omega, by omega, by rw [Int.toNat_of_nonneg (by omega)], h2.up (by omega), rfl⟩
    rintro _ _ ⟨n, v4, hn1, hn3, rfl, hv4, rfl⟩
    refine eva_of ea_nil ⟨n, rfl, by omega, by rw [List.length_map, List.length_range]; omega, fun i acc μ1 => i ≤ n ∧ ∃ (rs : List (List (Str × Option Int))) (v : Own), acc = rs.map encTr ∧ rs.length = i ∧ (∀ r ∈ rs, RdOk names sz r) ∧ PenAt (b + 601 + 30 * i) v ∧ μ1 = [(q, .dk (kdsT names rooms fresh (.lst (ms.map encTm)) file)), (p, v)], ⟨Nat.zero_le _, [], v4, rfl, rfl, fun r hr => (by cases hr), by simpa using hv4, rfl⟩, fun C i d acc μ1 hC1 hC2 hi hJ hacc => ?_, fun acc μ1 hJ => ?_⟩
    · obtain ⟨hin, rs, v, rfl, hrl2, hrs, hv, rfl⟩ := hJ
      have hil : i < n := by have := (List.getElem?_eq_some_iff.mp hi).1; rwa [List.length_map, List.length_range] at this
      rw [List.getElem?_map, List.getElem?_range hil] at hi
      have hi : D.int (i : Int) = d := Option.some.inj hi
      subst hi
      refine ⟨_, _, tg_name, by simp, evt_yes ⟨_, rfl, ?_⟩⟩
      rw [if_pos rfl]
      refine ev_call1 (i := 2) (ea_cons (ed_var rfl) (ea_cons (ed_var rfl) (ea_cons (ed_var rfl) ea_nil))) rfl (List.nodup_cons.mpr ⟨hC2, hndq⟩) ⟨p, v, names, sz, b + 601 + 30 * i, (by intro z; rw [z] at hnl; simp at hnl; omega), hnn, by omega, by omega, by omega, by omega, hv, rfl, rfl, rfl⟩ (fun d u' hd => ?_) fun d μ' hd => ?_
      · obtain ⟨u2, e, h2, rd, hrd, rfl⟩ := hd
        cases e
        refine ⟨_, rfl, by omega, rs ++ [rd], u', by rw [List.map_append]; rfl, by rw [List.length_append, hrl2]; rfl, fun r hr => ?_, h2.up (by omega), rfl⟩
        rcases List.mem_append.mp hr with w | w
        · exact hrs r w
        · rw [List.mem_singleton.mp w]; exact hrd
      · obtain ⟨u2, e, _⟩ := hd
        exact ⟨u2, e⟩
    · obtain ⟨hin, rs, v, rfl, hrl2, hrs, hv, rfl⟩ := hJ
      rw [List.length_map, List.length_range] at hrl2 hv
      exact ⟨ed_var rfl, ed_str _, 0, _, rfl, (show 5 < 100000 by decide), rs, v, (by intro z; rw [z] at hrl2; simp at hrl2; omega), by omega, hrs, hv.up (by omega), rfl, rfl⟩
  rintro _ _ ⟨rs, v5, hrne, hr3, hrs, hv5, rfl, rfl⟩
  let s0 : Sto := ⟨"", file, names, rooms, fresh, ms, rs⟩
  have good0 : ∀ f : Int, 1 ≤ f → f ≤ 20 → Good ⟨"", f, names, rooms, fresh, ms, rs⟩ := fun f f1 f2 => ⟨⟨P, hP, j, hj2, hj5, rfl, hL⟩, hrl, hr0, hfr, fun m hm => (hM m hm).up hs4, hml, hrne, hr3, fun r hr => (hrs r hr).up hs4, f1, f2⟩
  have g0 : Good s0 := good0 file hf9.1 hf9.2
  have fx : ∀ rd ∈ s0.readers, Fix s0 rd := fun rd _ => fix_of g0.okay
  refine run_seq (run_asgG (ev_callF (p := q) (i := 0) (ea_cons (ed_var rfl) ea_nil) rfl ⟨s0, g0.okay, fx, rfl, rfl⟩ (noDk_lay s0) ?_))
  refine run_mid (fun ρ' μ' => ∃ L : List Int, L ≠ [] ∧ L.length ≤ 10 ∧ ρ' = [some (.loc p), some (.int 5), some (.bl pairs), some (.lst (sD P)), some (.lst (sD names)), some (.int sz), some (.loc q), x7, x8, x9, some (.lst (s0.readers.map (layD s0))), some (.lst (iD L)), none, none] ∧ μ' = [(q, .dk (skD (keysT s0))), (p, v5)]) ?_ ?_
  · refine run_asgG (ev_op (P1 := fun d μ1 => ∃ L : List Int, L.length ≤ 5 ∧ d = .lst (iD L) ∧ μ1 = [(q, .dk (skD (keysT s0))), (p, v5)]) (ev_lc (items := ([none, none, some 0, some 1, some 2] : List (Option Nat)).map optN) (it_list (ed_lst (ea_cons ed_non (ea_cons ed_non (ea_cons (ed_int 0) (ea_cons (ed_int 1) (ea_cons (ed_int 2) ea_nil))))) (show 5 ≤ 100000 by decide))) (show 5 ≤ 100000 by decide) (fun i acc μ1 => i ≤ 5 ∧ ∃ L : List Int, L.length = i ∧ acc = iD L ∧ μ1 = [(q, .dk (skD (keysT s0))), (p, v5)]) ⟨Nat.zero_le _, [], rfl, rfl, rfl⟩ (fun C i d acc μ1 hC1 hC2 hi hJ hacc => ?_) fun acc μ1 hJ => ?_) ?_)
    · obtain ⟨hi5, L, hLl, rfl, rfl⟩ := hJ
      rw [List.getElem?_map] at hi
      cases hjn : ([none, none, some 0, some 1, some 2] : List (Option Nat))[i]? with
      | none => rw [hjn] at hi; cases hi
      | some jj =>
        rw [hjn] at hi
        have hi : optN jj = d := Option.some.inj hi
        subst hi
        have hil : i < 5 := (List.getElem?_eq_some_iff.mp hjn).1
        refine ⟨_, _, tg_name, by simp, evt_yes ⟨_, rfl, ?_⟩⟩
        rw [if_pos rfl]
        refine ev_callF (p := q) (i := 1) (ea_cons (ed_var rfl) (ea_cons (ed_var rfl) (ea_cons (ed_var rfl) ea_nil))) rfl ⟨s0, jj, g0.okay, hrne, fx, rfl, rfl⟩ (by simp [noDk]) ⟨_, rfl, by omega, L ++ [minL (pricesF s0 jj)], by rw [List.length_append, hLl]; rfl, ?_, rfl⟩
        rw [show iD (L ++ [minL (pricesF s0 jj)]) = iD L ++ [D.int (minL (pricesF s0 jj))] from List.map_append]
    · obtain ⟨hi5, L, hLl, rfl, rfl⟩ := hJ
      exact ⟨L, by rw [hLl]; exact hi5, rfl, rfl⟩
    · rintro _ _ ⟨L, hLl, rfl, rfl⟩
      refine ev_lst (eva_cons (P1 := fun d μ1 => d = .int file ∧ μ1 = [(q, .dk (skD (keysT s0))), (p, v5)]) (ev_dget (p := q) (i := 0) rfl rfl rfl ⟨rfl, rfl⟩) ?_)
      rintro _ _ ⟨rfl, rfl⟩
      refine eva_of ea_nil ⟨(show 1 ≤ 100000 by decide), _, rv_cat (by rw [List.length_map]; show _ + 1 ≤ _; omega), L ++ [file], by simp, by rw [List.length_append]; exact Nat.succ_le_succ (by omega), ?_, rfl⟩
      rw [show iD (L ++ [file]) = iD L ++ [D.int file] from List.map_append]
      rfl
  rintro _ _ ⟨L, hLne, hLl, rfl, rfl⟩
  refine run_mid (fun ρ' μ' => ∃ (f : Int) (v : Own), 1 ≤ f ∧ f ≤ 20 ∧ PenAt (b + 1000) v ∧ ρ' = [some (.loc p), some (.int 5), some (.bl pairs), some (.lst (sD P)), some (.lst (sD names)), some (.int sz), some (.loc q), x7, x8, x9, some (.lst (s0.readers.map (layD s0))), some (.lst (iD L)), none, none] ∧ μ' = [(q, .dk (skD (keysT ⟨"", f, names, rooms, fresh, ms, rs⟩))), (p, v)]) ?_ ?_
  · refine run_dputG (p := q) (s := "file") (ev_cb (eva_cons (P1 := fun d μ1 => d = .int 1 ∧ μ1 = [(q, .dk (skD (keysT s0))), (p, v5)]) (ev_of (ed_int 1) ⟨rfl, rfl⟩) ?_))
    rintro _ _ ⟨rfl, rfl⟩
    refine eva_cons (P1 := fun d μ1 => ∃ (y : Int) (v : Own), y ≤ 20 ∧ d = .int y ∧ PenAt (b + 1000) v ∧ μ1 = [(q, .dk (skD (keysT s0))), (p, v)]) (ev_cb (eva_cons (P1 := fun d μ1 => d = .int 20 ∧ μ1 = [(q, .dk (skD (keysT s0))), (p, v5)]) (ev_of (ed_int 20) ⟨rfl, rfl⟩) ?_)) ?_
    · rintro _ _ ⟨rfl, rfl⟩
      refine eva_cons (P1 := fun d μ1 => ∃ (y : Int) (v : Own), d = .int y ∧ PenAt (b + 1000) v ∧ μ1 = [(q, .dk (skD (keysT s0))), (p, v)]) (ev_op (P1 := fun d μ1 => ∃ (y : Int) (v : Own), d = .int y ∧ PenAt (b + 701) v ∧ μ1 = [(q, .dk (skD (keysT s0))), (p, v)]) (ev_pick (i := 1) (ea_cons (ed_var rfl) (ea_cons (ed_var rfl) ea_nil)) rfl hndq (by simpa using hLne) (by rw [List.length_map]; omega) (by omega) hv5 fun v d h1 hd => ?_) ?_) ?_
      · obtain ⟨y, _, rfl⟩ := List.mem_map.mp hd
        exact ⟨y, v, rfl, h1.up (by omega), rfl⟩
      · rintro _ _ ⟨y, v, rfl, hv, rfl⟩
        refine ev_pick (l := iD [0, 0, 0, 1]) (i := 1) (ea_cons (ed_var rfl) (ea_cons (ed_lst (ea_cons (ed_int _) (ea_cons (ed_int _) (ea_cons (ed_int _) (ea_cons (ed_int _) ea_nil)))) (show 4 ≤ 100000 by decide)) ea_nil)) rfl hndq (by simp) (show 4 < 1000000 by decide) (by omega) hv fun v2 d h1 hd => ?_
        obtain ⟨z, _, rfl⟩ := List.mem_map.mp hd
        exact ⟨_, rv_int, y + z, v2, rfl, h1.up (by omega), rfl⟩
      · rintro _ _ ⟨y, v, rfl, hv, rfl⟩
        exact eva_of ea_nil ⟨_, rc_min2, (if y < 20 then y else 20), v, by split <;> omega, rfl, hv, rfl⟩
    · rintro _ _ ⟨y, v, hy, rfl, hv, rfl⟩
      exact eva_of ea_nil ⟨_, rc_max2, ed_var rfl, ed_str _, 0, _, rfl, (show 6 < 100000 by decide), (if y > 1 then y else 1), v, by split <;> omega, by split <;> omega, hv, rfl, rfl⟩
  rintro _ _ ⟨f, v6, hf1, hf2, hv6, rfl, rfl⟩
  refine run_freezeU (i := 6) (by simpa using hqp) rfl (run_ret (ed_var rfl) ⟨_, List.Sublist.refl _, rfl, v6, rfl, hv6, _, good0 f hf1 hf2, rfl⟩)
end Am
/-! The text of a store: rows of words. -/
namespace Am
open PySem PySem.Spec PyProof.Rows L2

abbrev numT (i : Int) : Str := ((toString i : String) : Str)
theorem app_assoc (a b c : Str) : a ++ b ++ c = a ++ (b ++ c) := TL.ext_tl (by simp only [TL.tl_append, List.append_assoc])
theorem txt_join (y : Str) (l : List Str) : TL.tl (Txt.join y l) = TL.joinL (TL.tl y) (l.map TL.tl) := (congrArg TL.tl (TL.join_eq y l)).trans (TL.tl_join y l)
theorem join_one (y a : Str) : Txt.join y [a] = a := TL.ext_tl (by rw [txt_join]; rfl)
theorem join_cons (y a b : Str) (l : List Str) : Txt.join y (a :: b :: l) = a ++ y ++ Txt.join y (b :: l) := TL.ext_tl (by
  rw [txt_join, TL.tl_append, TL.tl_append, txt_join, List.append_assoc]
  rfl)
theorem join_two (y a b : Str) : Txt.join y [a, b] = a ++ y ++ b := by rw [join_cons, join_one]
theorem join_app (y : Str) : ∀ {l m : List Str}, l ≠ [] → m ≠ [] → Txt.join y (l ++ m) = Txt.join y l ++ y ++ Txt.join y m
  | [], _, h, _ => absurd rfl h
  | [a], [], _, h => absurd rfl h
  | [a], b :: m, _, _ => by
    show Txt.join y (a :: b :: m) = _
    rw [join_cons, join_one]
  | a :: a' :: l, m, _, h => by
    show Txt.join y (a :: a' :: (l ++ m)) = _
    rw [join_cons, show a' :: (l ++ m) = (a' :: l) ++ m from rfl, join_app y (l := a' :: l) (m := m) (by simp) h, join_cons]
    simp only [app_assoc]
theorem split_join {c : Nat} (hc : c < 256) {l : List Str} (hne : l ≠ []) (h : ∀ p ∈ l, c ∉ TL.tl p) : Txt.split (Txt.join ⟨#[c]⟩ l) ⟨#[c]⟩ = l := by
  refine TL.map_tl_inj ?_
  rw [TL.split_spl (Txt.join ⟨#[c]⟩ l) ⟨#[c]⟩ (by simp [TL.tl]) (TL.kind_ok (by simp [hc])), txt_join]
  refine TL.spl_join (s := c) (S := []) (by simpa using hne) fun p hp => ?_
  obtain ⟨q, hq, rfl⟩ := List.mem_map.mp hp
  exact h q hq
theorem join_len (y : Str) (l : List Str) {B : Nat} (h : ∀ p ∈ l, p.length ≤ B) : (Txt.join y l).length ≤ l.length * (B + y.length) := by
  have e : Txt.join y l = Str.join y l := TL.join_eq y l
  rw [e]
  refine Nat.le_trans (StrLaws.join_length_le y l) ?_
  have := StrLaws.sumLen_le l h
  rw [Nat.mul_add]
  omega
theorem join_fit (y : Str) (l : List Str) {B N : Nat} (h : ∀ p ∈ l, p.length ≤ B) (hn : l.length ≤ N) (hb : N * (B + y.length) ≤ 16777216) : (l.map (·.length)).sum + l.length * y.length ≤ 16777216 := by
  have := StrLaws.sumLen_le l h
  have h2 : l.length * (B + y.length) ≤ N * (B + y.length) := Nat.mul_le_mul_right _ hn
  rw [Nat.mul_add] at h2
  omega
theorem num_len {n : Int} (h0 : 0 ≤ n) (h : n ≤ 100) : (numT n).length ≤ 10 := PySem.W.KT.len_num h0 (by omega)
theorem num_log {n : Int} (h0 : 0 ≤ n) (h : n ≤ 100) : n.natAbs.log2 < 1920 := by
  have : n.natAbs ≤ 100 := by omega
  have h2 := Nat.log2_lt (n := n.natAbs) (k := 1920)
  by_cases z : n.natAbs = 0
  · rw [z]; decide
  · exact (h2 z).mpr (Nat.lt_of_le_of_lt this (by decide))
theorem num_free (k : Nat) (hk : k ≠ 45 ∧ (k < 48 ∨ 57 < k)) (i : Int) : k ∉ TL.tl (numT i) := int_text_free' k hk i
/-! ### the rows -/
def itemW (p : Str × Int) : Str := p.1 ++ ":" ++ numT p.2
def limW (p : Str × Option Int) : Str := match p.2 with
  | none => p.1
  | some a => p.1 ++ ":" ++ numT a
def itemsW (hs : List Str) (as : List Int) : List Str := (hs.zip as).map itemW
def nodeW (s : Sto) (p : Str × Int) : List Str := [if p.1 ∈ s.fresh then "new" else "node", p.1, numT p.2]
def mendW : Mnd → List Str
  | .one l v hs as => [("mend" : Str), l, v, "from"] ++ itemsW hs as
  | .two l u v h1 h2 a1 a2 sw => [("pair" : Str), l, u, v, "swap", numT sw, "from"] ++ (itemsW h1 a1 ++ (("and" : Str) :: itemsW h2 a2))
def readW (r : List (Str × Option Int)) : List Str := ("reader" : Str) :: r.map limW
def rowsW (s : Sto) : List (List Str) := [("file" : Str), numT s.file] :: ((s.nodes.zip s.rooms).map (nodeW s) ++ (s.mends.map mendW ++ s.readers.map readW))
abbrev lineW (ws : List Str) : Str := Txt.join " " ws
def textOf (s : Sto) : Str := Txt.join "\n" ((rowsW s).map lineW) ++ "\n"
theorem line_file (s : Sto) : ("file " : Str) ++ numT s.file = lineW [("file" : Str), numT s.file] := by
  rw [lineW, join_two]
  rw [show ("file " : Str) = "file" ++ " " from by decide +kernel]
theorem line_node (s : Sto) (p : Str × Int) : (if p.1 ∈ s.fresh then ("new " : Str) else "node ") ++ p.1 ++ " " ++ numT p.2 = lineW (nodeW s p) := by
  unfold nodeW lineW
  rw [join_cons, join_two]
  by_cases h : p.1 ∈ s.fresh
  · rw [if_pos h, if_pos h, show ("new " : Str) = "new" ++ " " from by decide +kernel]
    simp only [app_assoc]
  · rw [if_neg h, if_neg h, show ("node " : Str) = "node" ++ " " from by decide +kernel]
    simp only [app_assoc]
theorem line_one (l v : Str) (ws : List Str) (h : ws ≠ []) : ("mend " : Str) ++ (l ++ " " ++ Txt.join " " [v]) ++ " from " ++ lineW ws = lineW ([("mend" : Str), l, v, "from"] ++ ws) := by
  unfold lineW
  rw [join_app " " (by simp) h, join_cons, join_cons, join_two, join_one, show ("mend " : Str) = "mend" ++ " " from by decide +kernel, show (" from " : Str) = " " ++ ("from" ++ " ") from by decide +kernel]
  simp only [app_assoc]
theorem line_two (l u v sw : Str) (ws vs : List Str) (h : ws ≠ []) (h2 : vs ≠ []) : ("pair " : Str) ++ (l ++ " " ++ Txt.join " " [u, v]) ++ " swap " ++ sw ++ " from " ++ Txt.join " and " [lineW ws, lineW vs] = lineW ([("pair" : Str), l, u, v, "swap", sw, "from"] ++ (ws ++ (("and" : Str) :: vs))) := by
  unfold lineW
  rw [join_app " " (by simp) (by simp), join_app " " h (by simp), show (("and" : Str) :: vs) = [("and" : Str)] ++ vs from rfl, join_app " " (by simp) h2, join_one, join_two, join_two, join_cons, join_cons, join_cons, join_cons, join_cons, join_two,
    show ("pair " : Str) = "pair" ++ " " from by decide +kernel, show (" swap " : Str) = " " ++ ("swap" ++ " ") from by decide +kernel, show (" from " : Str) = " " ++ ("from" ++ " ") from by decide +kernel, show (" and " : Str) = " " ++ ("and" ++ " ") from by decide +kernel]
  simp only [app_assoc]
theorem line_read (r : List (Str × Option Int)) (h : r ≠ []) : ("reader " : Str) ++ Txt.join " " (r.map limW) = lineW (readW r) := by
  unfold lineW readW
  rw [show (("reader" : Str) :: r.map limW) = [("reader" : Str)] ++ r.map limW from rfl, join_app " " (by simp) (by simpa using h), join_one, show ("reader " : Str) = "reader" ++ " " from by decide +kernel]
/-! ### lengths -/
theorem pool_short : ∀ P ∈ pools, ∀ n ∈ P, n.length ≤ 2 := by decide +kernel
theorem lab_short : ∀ P ∈ pools, ∀ k : Fin 21, ∀ a ∈ labsAt P k.val, a.length ≤ 10 := by decide +kernel
theorem Good.short {s : Sto} (g : Good s) : ∀ n ∈ s.nodes, n.length ≤ 2 := by
  obtain ⟨P, hP, j, _, _, e, _⟩ := g.pool
  intro n hn
  rw [e] at hn
  exact pool_short P hP n (List.mem_of_mem_take hn)
theorem Good.labShort {s : Sto} (g : Good s) : ∀ m ∈ s.mends, m.label.length ≤ 10 := by
  obtain ⟨P, hP, j, _, _, e, hl⟩ := g.pool
  intro m hm
  obtain ⟨k, hk, h⟩ := hl.at_ m hm
  exact lab_short P hP ⟨k, hk⟩ _ h
theorem item_short {p : Str × Int} (h : p.1.length ≤ 2) (h0 : 0 ≤ p.2) (h1 : p.2 ≤ 100) : (itemW p).length ≤ 20 := by
  have := num_len h0 h1
  unfold itemW
  rw [Str.length_append, Str.length_append, show (":" : Str).length = 1 from by decide +kernel]
  omega
theorem lim_short {p : Str × Option Int} (h : p.1.length ≤ 2) (h0 : ∀ x, p.2 = some x → 0 ≤ x ∧ x ≤ 100) : (limW p).length ≤ 20 := by
  obtain ⟨n, o⟩ := p
  cases o with
  | none => exact Nat.le_trans h (by decide)
  | some a => exact item_short (p := (n, a)) h (h0 a rfl).1 (h0 a rfl).2
section
variable {K : PySem.W.Frag} {ρ : Ro} {to te : TE}
theorem ed_join {a : Str} {ys : List Str} (ho : EvD K to ρ (.str a)) (he : EvD K te ρ (.lst (sD ys))) (hl : (ys.map (·.length)).sum + ys.length * a.length ≤ 16777216) : EvD K (tM1 (rJoinZ K) to te) ρ (.str (Txt.join a ys)) := fun G H σ st sl Q q => ho G H σ st sl _ fun v G1 H1 g1 r1 => by
  cases r1
  refine ⟨⟨a, rfl⟩, he G1 H1 σ g1.sub (sl.mono g1.g) _ fun w G2 H2 g2 r2 => ?_⟩
  cases r2 with
  | lst e rr =>
    have e2 := reps_str rr
    subst e2
    exact ⟨a, _, ys, rfl, rfl, .inl (sqL_of g2.sub e), hl, q _ _ _ (g1.trans g2) (.str _)⟩
end
def R_text : List D → D → Prop := fun ds d => ∃ s, Good s ∧ ds = [encT s] ∧ d = .str (textOf s)
end Am
namespace Am
open PySem PySem.Spec PyProof.Rows L2
theorem len__law_store_text : ∀ ds d, R_text ds d → ds.length = 1 := fun _ _ ⟨_, _, h, _⟩ => by rw [h]; rfl
theorem mem_rowsT {s : Sto} (g : Good s) {p : Str × Int} (h : p ∈ s.nodes.zip s.rooms) : p.1.length ≤ 2 ∧ 0 ≤ p.2 ∧ p.2 ≤ 4 := ⟨g.short _ (List.of_mem_zip h).1, g.r0 _ (List.of_mem_zip h).2⟩
theorem items_len {nodes : List Str} (hs2 : ∀ n ∈ nodes, n.length ≤ 2) {names hs : List Str} {as : List Int} (i : ItemsOk (nodes.filter fun n => !decide (n ∈ names)) 4 hs as) : ∀ p ∈ hs.zip as, p.1.length ≤ 2 ∧ 0 ≤ p.2 ∧ p.2 ≤ 4 := fun p hp => by
  have h1 := (List.mem_filter.mp (i.sub _ (List.of_mem_zip hp).1)).1
  have h2 := i.am _ (List.of_mem_zip hp).2
  exact ⟨hs2 _ h1, by omega, h2.2⟩
theorem items_few {nodes : List Str} (hn : nodes.length ≤ 5) {names hs : List Str} {as : List Int} (i : ItemsOk (nodes.filter fun n => !decide (n ∈ names)) 4 hs as) : (hs.zip as).length ≤ 5 := by
  have := nodup_sub_len i.nd fun x hx => (List.mem_filter.mp (i.sub x hx)).1
  rw [List.length_zip]
  omega
theorem items_ne {names hs : List Str} {as : List Int} (i : ItemsOk names 4 hs as) : itemsW hs as ≠ [] := by
  intro h
  have := congrArg List.length h
  unfold itemsW at this
  rw [List.length_map, List.length_zip, ← i.len] at this
  simp at this
  exact i.ne this
theorem items_short {nodes : List Str} (hs2 : ∀ n ∈ nodes, n.length ≤ 2) {names hs : List Str} {as : List Int} (i : ItemsOk (nodes.filter fun n => !decide (n ∈ names)) 4 hs as) : ∀ w ∈ itemsW hs as, w.length ≤ 20 := fun w hw => by
  obtain ⟨p, hp, rfl⟩ := List.mem_map.mp hw
  obtain ⟨h1, h2, h3⟩ := items_len hs2 i p hp
  exact item_short h1 h2 (by omega)
theorem itemsW_few {nodes : List Str} (hn : nodes.length ≤ 5) {names hs : List Str} {as : List Int} (i : ItemsOk (nodes.filter fun n => !decide (n ∈ names)) 4 hs as) : (itemsW hs as).length ≤ 5 := by
  unfold itemsW
  rw [List.length_map]
  exact items_few hn i
theorem line_short {ws : List Str} (h : ∀ w ∈ ws, w.length ≤ 20) (hn : ws.length ≤ 30) : (lineW ws).length ≤ 630 := by
  refine Nat.le_trans (join_len " " ws h) ?_
  rw [show (" " : Str).length = 1 from by decide +kernel]
  omega
theorem row_short {s : Sto} (g : Good s) : ∀ ws ∈ rowsW s, (lineW ws).length ≤ 630 := by
  have hfew := g.few
  have hlit : ∀ w ∈ [("file" : Str), "new", "node", "mend", "pair", "from", "swap", "and", "reader"], w.length ≤ 20 := by decide +kernel
  intro ws hws
  unfold rowsW at hws
  rcases List.mem_cons.mp hws with rfl | hws
  · have hf := g.file
    have := num_len (n := s.file) (by omega) (by omega)
    refine line_short (fun w hw => ?_) (show 2 ≤ 30 by decide)
    simp only [List.mem_cons, List.not_mem_nil, or_false] at hw
    rcases hw with rfl | rfl
    · exact hlit _ (by simp)
    · omega
  rcases List.mem_append.mp hws with hws | hws
  · obtain ⟨q, hq, rfl⟩ := List.mem_map.mp hws
    obtain ⟨h1, h2, h3⟩ := mem_rowsT g hq
    have := num_len (n := q.2) h2 (by omega)
    refine line_short (fun w hw => ?_) (show 3 ≤ 30 by decide)
    unfold nodeW at hw
    simp only [List.mem_cons, List.not_mem_nil, or_false] at hw
    rcases hw with rfl | rfl | rfl
    · by_cases z : q.1 ∈ s.fresh
      · rw [if_pos z]; exact hlit _ (by simp)
      · rw [if_neg z]; exact hlit _ (by simp)
    · omega
    · omega
  rcases List.mem_append.mp hws with hws | hws
  · obtain ⟨md, hmd, rfl⟩ := List.mem_map.mp hws
    have hok := g.mends md hmd
    have hlab := g.labShort md hmd
    cases md with
    | one lb nv hs as =>
      obtain ⟨hv, iI⟩ := hok.one lb nv hs as rfl
      have hll : lb.length ≤ 10 := hlab
      have hvl := g.short nv hv
      have hf := itemsW_few hfew iI
      refine line_short (fun w hw => ?_) (by show ([("mend" : Str), lb, nv, "from"] ++ itemsW hs as).length ≤ 30; rw [List.length_append]; simp only [List.length_cons, List.length_nil]; omega)
      have hw : w ∈ [("mend" : Str), lb, nv, "from"] ++ itemsW hs as := hw
      rcases List.mem_append.mp hw with hw | hw
      · simp only [List.mem_cons, List.not_mem_nil, or_false] at hw
        rcases hw with rfl | rfl | rfl | rfl
        · exact hlit _ (by simp)
        · omega
        · omega
        · exact hlit _ (by simp)
      · exact items_short g.short iI w hw
    | two lb nu nv h1 h2 a1 a2 sw =>
      obtain ⟨hu, hv, huv, iI, iJ, s0, s4⟩ := hok.two lb nu nv h1 h2 a1 a2 sw rfl
      have hll : lb.length ≤ 10 := hlab
      have hul := g.short nu hu
      have hvl := g.short nv hv
      have hsl := num_len (n := sw) s0 (by omega)
      have hf := itemsW_few hfew iI
      have hf2 := itemsW_few hfew iJ
      refine line_short (fun w hw => ?_) (by show ([("pair" : Str), lb, nu, nv, "swap", numT sw, "from"] ++ (itemsW h1 a1 ++ (("and" : Str) :: itemsW h2 a2))).length ≤ 30; rw [List.length_append, List.length_append]; simp only [List.length_cons, List.length_nil]; omega)
      have hw : w ∈ [("pair" : Str), lb, nu, nv, "swap", numT sw, "from"] ++ (itemsW h1 a1 ++ (("and" : Str) :: itemsW h2 a2)) := hw
      rcases List.mem_append.mp hw with hw | hw
      · simp only [List.mem_cons, List.not_mem_nil, or_false] at hw
        rcases hw with rfl | rfl | rfl | rfl | rfl | rfl | rfl
        · exact hlit _ (by simp)
        · omega
        · omega
        · omega
        · exact hlit _ (by simp)
        · omega
        · exact hlit _ (by simp)
      rcases List.mem_append.mp hw with hw | hw
      · exact items_short g.short iI w hw
      rcases List.mem_cons.mp hw with rfl | hw
      · exact hlit _ (by simp)
      · exact items_short g.short iJ w hw
  · obtain ⟨rd, hrd, rfl⟩ := List.mem_map.mp hws
    have hok := g.readers rd hrd
    have hl := hok.few hfew
    refine line_short (fun w hw => ?_) (by unfold readW; rw [List.length_cons, List.length_map]; omega)
    rcases List.mem_cons.mp hw with rfl | hw
    · exact hlit _ (by simp)
    · obtain ⟨q, hq, rfl⟩ := List.mem_map.mp hw
      exact lim_short (g.short _ (hok.sub q hq)) fun x hx => by have := hok.am q hq x hx; omega
theorem item_ev {K : PySem.W.Frag} {ρ : Ro} {i j : Nat} {q : Str × Int} (hi : ρ[i]? = some (some (.str q.1))) (hj : ρ[j]? = some (some (.int q.2))) (h : q.1.length ≤ 2 ∧ 0 ≤ q.2 ∧ q.2 ≤ 4) : EvD K (tOp rAddZ (tOp rAddZ (tVar i) (tC (.str ":"))) (tCB rStrI (tCons (tVar j) tNil))) ρ (.str (itemW q)) := by
  have hbl := num_len (n := q.2) h.2.1 (by omega)
  exact ed_op (ed_op (ed_var hi) (ed_str ":") (rv_addZ (Nat.le_trans (Nat.add_le_add h.1 (show (":" : Str).length ≤ 1 by decide +kernel)) (by decide)))) (ed_cb (ea_cons (ed_var hj) ea_nil) (rc_strI (num_log h.2.1 (by omega)))) (rv_addZ (Nat.le_trans (Nat.add_le_add (show _ ≤ 3 by rw [Str.length_append]; exact Nat.add_le_add h.1 (show (":" : Str).length ≤ 1 by decide +kernel)) hbl) (by decide)))
abbrev s__law_store_text : Stmt := topS 55
theorem sc__law_store_text : FnScope ["_law_store_here", "_law_rows", "_law_name", "_law_room", "_law_mend", "_law_items_here", "_law_names", "_law_amounts", "_law_head", "_law_reader", "_law_words", "_law_limit", "_law_amount"] ["_law_store_here"] (defScope s__law_store_text) := ⟨rfl, rfl, rfl, by decide +kernel, rfl, by decide +kernel, by decide +kernel⟩
set_option maxHeartbeats 16000000 in
theorem ok__law_store_text {P : Program} {w : World} {K : PySem.W.Frag} {mg : Str → Option Value} {base : Heap} {c : Cls4} {f : Addr} {fd : FuncData} (B : Blt mg) (hc : ClsOk K c mg) (F : FD K "_law_store_text" "_law_store_text" s__law_store_text f fd) : FnOk P w K mg base CX0 1 f fd ["_law_store_here"] (spP K R_text) := by
  have sc := sc__law_store_text
  refine F.ok sc (fun vs H Q E h => len_P (n := 1) len__law_store_text h) (fun cdv A outer s H vs Q E hr h => ?_)
  have hu := hu_of hr
  refine ⟨_, PSs.nox ((pss_cons (ps_set (i := 1) sc.nd rfl (Or.inl rfl) (pe_lst (pa_cons (pe_op xo_addZ pe_str (pe_callTy xc_strI (by rfl) B.str boot_str (pa_cons (pe_dget hu (pv 0) pe_str (fun _ _ => rfl)) pa_nil))) pa_nil))) 
      (pss_cons (ps_for PassesOwn.never rfl (xi_zip (K := K) (by rfl) B.zip (pa_cons (pe_dget hu (pv 0) pe_str (fun _ _ => rfl)) (pa_cons (pe_dget hu (pv 0) pe_str (fun _ _ => rfl)) pa_nil))) (xg_tup (K := K) (n := 2) rfl (pgs_cons (pg_name (i := 2) sc.nd rfl (Or.inl rfl)) (pgs_cons (pg_name (i := 3) sc.nd rfl (Or.inl rfl)) pgs_nil)))
        (pss_one (ps_expr (xe_bm (K := K) PySem.F.plainAttrs_list PySem.F.slot_list_append PySem.F.type_list_append mt_append (pv 1) (pa_cons (pe_op xo_addZ (pe_op xo_addZ (pe_op xo_addZ (pe_ifExp (pt_cmpR (xo_in (K := K)) (pv 2) (pe_dget hu (pv 0) pe_str (fun _ _ => rfl)) rfl) pe_str pe_str) (pv 2)) pe_str) (pe_callTy xc_strI (by rfl) B.str boot_str (pa_cons (pv 3) pa_nil))) pa_nil))))) 
      (pss_cons (ps_for PassesOwn.never rfl (xi_list (K := K) (pe_dget hu (pv 0) pe_str (fun _ _ => rfl))) (pg_name (i := 4) sc.nd rfl (Or.inl rfl))
        (pss_cons (ps_set (i := 5) sc.nd rfl (Or.inl rfl) (pe_lst pa_nil)) 
        (pss_cons (ps_for PassesOwn.never rfl (xi_zip (K := K) (by rfl) B.zip (pa_cons (pe_dget hu (pv 4) pe_str (fun _ _ => rfl)) (pa_cons (pe_dget hu (pv 4) pe_str (fun _ _ => rfl)) pa_nil))) (xg_tup (K := K) (n := 2) rfl (pgs_cons (pg_name (i := 6) sc.nd rfl (Or.inl rfl)) (pgs_cons (pg_name (i := 7) sc.nd rfl (Or.inl rfl)) pgs_nil)))
          (pss_one (ps_expr (xe_bm (K := K) PySem.F.plainAttrs_list PySem.F.slot_list_append PySem.F.type_list_append mt_append (pv 5) (pa_cons (xe_join (K := K) pe_str (pe_lc (own := [("_law_name", 2), ("_law_amount", 12)]) rfl sc.nd (xi_zip (K := K) (by rfl) B.zip (pa_cons (pv 6) (pa_cons (pv 7) pa_nil))) (blkOk_by (own := [("_law_name", 2), ("_law_amount", 12)]) (N := ["_law_store_here", "_law_rows", "_law_name", "_law_room", "_law_mend", "_law_items_here", "_law_names", "_law_amounts", "_law_head", "_law_reader", "_law_words", "_law_limit", "_law_amount"]) (sc := defScope s__law_store_text) (by decide +kernel)) (fun _ _ _ _ _ => (xg_tup (K := K) (n := 2) rfl (pgs_cons (pg_name (i := 2) sc.nd rfl (Or.inl rfl)) (pgs_cons (pg_name (i := 12) sc.nd rfl (Or.inl rfl)) pgs_nil)))) (fun _ _ _ _ _ => pts_nil) (fun _ _ _ _ _ => (pe_op xo_addZ (pe_op xo_addZ (pv 2) pe_str) (pe_callTy xc_strI (by rfl) B.str boot_str (pa_cons (pv 12) pa_nil)))))) pa_nil))))) 
        (pss_cons (ps_set (i := 8) sc.nd rfl (Or.inl rfl) (pe_op xo_addZ (pe_op xo_addZ (pe_dget hu (pv 4) pe_str (fun _ _ => rfl)) pe_str) (xe_join (K := K) pe_str (pe_dget hu (pv 4) pe_str (fun _ _ => rfl))))) 
        (pss_one (ps_if (pt_cmpR op_eq (pe_dget hu (pv 4) pe_str (fun _ _ => rfl)) pe_str (nomark _))
          (pss_one (ps_expr (xe_bm (K := K) PySem.F.plainAttrs_list PySem.F.slot_list_append PySem.F.type_list_append mt_append (pv 1) (pa_cons (pe_op xo_addZ (pe_op xo_addZ (pe_op xo_addZ pe_str (pv 8)) pe_str) (pe_ix (xx_list (K := K)) (pv 5) pe_int (fun _ _ => rfl))) pa_nil))))
          (pss_one (ps_expr (xe_bm (K := K) PySem.F.plainAttrs_list PySem.F.slot_list_append PySem.F.type_list_append mt_append (pv 1) (pa_cons (pe_op xo_addZ (pe_op xo_addZ (pe_op xo_addZ (pe_op xo_addZ (pe_op xo_addZ pe_str (pv 8)) pe_str) (pe_callTy xc_strI (by rfl) B.str boot_str (pa_cons (pe_dget hu (pv 4) pe_str (fun _ _ => rfl)) pa_nil))) pe_str) (xe_join (K := K) pe_str (pv 5))) pa_nil)))))))))) 
      (pss_cons (ps_for PassesOwn.never rfl (xi_list (K := K) (pe_dget hu (pv 0) pe_str (fun _ _ => rfl))) (pg_name (i := 9) sc.nd rfl (Or.inl rfl))
        (pss_cons (ps_setLc (i := 10) (own := [("_law_name", 2), ("_law_limit", 11)]) rfl sc.nd rfl rfl (sw_true rfl rfl rfl (by decide +kernel)) (xi_list (K := K) (pv 9)) (blkOk_by (own := [("_law_name", 2), ("_law_limit", 11)]) (N := ["_law_store_here", "_law_rows", "_law_name", "_law_room", "_law_mend", "_law_items_here", "_law_names", "_law_amounts", "_law_head", "_law_reader", "_law_words", "_law_limit", "_law_amount"]) (sc := defScope s__law_store_text) (by decide +kernel)) (fun _ _ _ _ _ => (xg_tup (K := K) (n := 2) rfl (pgs_cons (pg_name (i := 2) sc.nd rfl (Or.inl rfl)) (pgs_cons (pg_name (i := 11) sc.nd rfl (Or.inl rfl)) pgs_nil)))) (fun _ _ _ _ _ => pts_nil) (fun _ _ _ _ _ => (pe_ifExp (pt_cmpR xo_isN (pv 11) pe_non (nomark _)) (pv 2) (pe_op xo_addZ (pe_op xo_addZ (pv 2) pe_str) (pe_callTy xc_strI (by rfl) B.str boot_str (pa_cons (pv 11) pa_nil)))))) 
        (pss_one (ps_expr (xe_bm (K := K) PySem.F.plainAttrs_list PySem.F.slot_list_append PySem.F.type_list_append mt_append (pv 1) (pa_cons (pe_op xo_addZ pe_str (xe_join (K := K) pe_str (pv 10))) pa_nil)))))) 
      (pss_one (ps_ret (pe_op xo_addZ (xe_join (K := K) pe_str (pv 1)) pe_str)))))))), read_P h ?_⟩
  rintro ds d ⟨s, g, rfl, rfl⟩
  have hsz : sizeLine = 16777216 := by decide
  have hfile := g.file
  have hfew := g.few
  have hfl := num_len (n := s.file) (by omega) (by omega)
  -- rows
  refine run_mid (fun ρ' μ' => ∃ p, ρ' = [some (encT s), some (.loc p), none, none, none, none, none, none, none, none, none, none, none] ∧ μ' = [(p, .lst (sD [lineW [("file" : Str), numT s.file]]))]) ?_ ?_
  · refine run_asgG (ev_lstC (eva_of (ea_cons (ed_op (ed_str "file ") (ed_cb (ea_cons (ed_T_file (ed_var rfl)) ea_nil) (rc_strI (num_log (by omega) (by omega)))) (rv_addZ (Nat.le_trans (Nat.add_le_add (show ("file " : Str).length ≤ 5 by decide +kernel) hfl) (by decide)))) ea_nil) ⟨(show 1 ≤ 100000 by decide), fun p hpM hpμ => ⟨p, rfl, ?_⟩⟩))
    rw [line_file]
    rfl
  rintro _ _ ⟨p, rfl, rfl⟩
  -- nodes
  refine run_mid (fun ρ' μ' => ∃ x y, ρ' = [some (encT s), some (.loc p), x, y, none, none, none, none, none, none, none, none, none] ∧ μ' = [(p, .lst (sD (([("file" : Str), numT s.file] :: (s.nodes.zip s.rooms).map (nodeW s)).map lineW)))]) ?_ ?_
  · refine run_for (items := (s.nodes.zip s.rooms).map encSI) (ItE.is (it_zipL (ea_cons (ed_T_nodes (ed_var rfl)) (ea_cons (ed_T_rooms (ed_var rfl)) ea_nil)) (by rw [List.length_map, List.length_map, g.rl])) (zipD_zip s.nodes s.rooms))
      (fun i ρ μ => ∃ x y, ρ = [some (encT s), some (.loc p), x, y, none, none, none, none, none, none, none, none, none] ∧ μ = [(p, .lst (sD (([("file" : Str), numT s.file] :: ((s.nodes.zip s.rooms).take i).map (nodeW s)).map lineW)))]) ⟨none, none, rfl, rfl⟩ (fun i d ρ1 μ1 hi hI => ?_) fun ρ1 μ1 hI => ?_
    · obtain ⟨x, y, rfl, rfl⟩ := hI
      rw [List.getElem?_map] at hi
      cases hp : (s.nodes.zip s.rooms)[i]? with
      | none => rw [hp] at hi; cases hi
      | some q =>
        rw [hp] at hi
        have hi : encSI q = d := Option.some.inj hi
        subst hi
        obtain ⟨h1, h2, h3⟩ := mem_rowsT g (List.mem_of_getElem? hp)
        have hnl := num_len (n := q.2) h2 (by omega)
        have hil := (List.getElem?_eq_some_iff.mp hp).1
        rw [List.length_zip] at hil
        have hw : ((if q.1 ∈ s.fresh then ("new " : Str) else "node ")).length ≤ 5 := by
          by_cases z : q.1 ∈ s.fresh
          · rw [if_pos z]; decide +kernel
          · rw [if_neg z]; decide +kernel
        have h1l : (" " : Str).length = 1 := by decide +kernel
        refine ⟨_, _, tg_two, run_app (i := 0) rfl rfl (d := .str (lineW (nodeW s q))) (EvD.is (ed_op (ed_op (ed_op (ed_if (x := .str (if q.1 ∈ s.fresh then ("new " : Str) else "node ")) (et_test (ed_op (ed_var rfl) (ed_T_new (ed_var rfl)) rv_inL)) (fun hb => EvD.is (ed_str "new ") (by rw [if_pos (of_decide_eq_true hb)])) (fun hb => EvD.is (ed_str "node ") (by rw [if_neg (of_decide_eq_false hb)]))) (ed_var rfl) (rv_addZ (by omega))) (ed_str " ") (rv_addZ (by rw [Str.length_append]; omega))) (ed_cb (ea_cons (ed_var rfl) ea_nil) (rc_strI (num_log h2 (by omega)))) (rv_addZ (Nat.le_trans (Nat.add_le_add (show _ ≤ 8 by rw [Str.length_append, Str.length_append]; omega) hnl) (by decide)))) (by rw [line_node])) (by
          rw [List.length_map, List.length_map, List.length_cons, List.length_map, List.length_take]; omega) ⟨_, _, rfl, ?_⟩⟩
        have etk : (s.nodes.zip s.rooms).take (i + 1) = (s.nodes.zip s.rooms).take i ++ [q] := by rw [List.take_add_one, hp]; rfl
        rw [etk]
        simp
    · obtain ⟨x, y, rfl, rfl⟩ := hI
      rw [List.length_map, List.take_length]
      exact ⟨_, _, rfl, rfl⟩
  rintro _ _ ⟨x, y, rfl, rfl⟩
  -- mends
  refine run_mid (fun ρ' μ' => ∃ x y z u v t o, ρ' = [some (encT s), some (.loc p), x, y, z, u, v, t, o, none, none, none, none] ∧ μ' = [(p, .lst (sD (([("file" : Str), numT s.file] :: ((s.nodes.zip s.rooms).map (nodeW s) ++ s.mends.map mendW)).map lineW)))]) ?_ ?_
  · refine run_for (items := s.mends.map encTm) (it_list (ed_T_mends (ed_var rfl)))
      (fun i ρ μ => ∃ x y z u v t o, ρ = [some (encT s), some (.loc p), x, y, z, u, v, t, o, none, none, none, none] ∧ μ = [(p, .lst (sD (([("file" : Str), numT s.file] :: ((s.nodes.zip s.rooms).map (nodeW s) ++ (s.mends.take i).map mendW)).map lineW)))]) ⟨x, y, none, none, none, none, none, rfl, by rw [List.take_zero, List.map_nil, List.append_nil]⟩ (fun i d ρ1 μ1 hi hI => ?_) fun ρ1 μ1 hI => ?_
    · obtain ⟨x, y, z, u, v, t, o, rfl, rfl⟩ := hI
      rw [List.getElem?_map] at hi
      cases hm : s.mends[i]? with
      | none => rw [hm] at hi; cases hi
      | some md =>
        rw [hm] at hi
        have hi : encTm md = d := Option.some.inj hi
        subst hi
        have hmem : md ∈ s.mends := List.mem_of_getElem? hm
        have hok := g.mends md hmem
        have hlab := g.labShort md hmem
        have hil := (List.getElem?_eq_some_iff.mp hm).1
        have hmf := g.mfew
        have etk : s.mends.take (i + 1) = s.mends.take i ++ [md] := by rw [List.take_add_one, hm]; rfl
        have hlen : (sD (([("file" : Str), numT s.file] :: ((s.nodes.zip s.rooms).map (nodeW s) ++ (s.mends.take i).map mendW)).map lineW)).length < 100000 := by
          rw [List.length_map, List.length_map, List.length_cons, List.length_append, List.length_map, List.length_map, List.length_zip, List.length_take]
          omega
        refine ⟨_, _, tg_name, ?_⟩
        -- the items
        refine run_mid (fun ρ' μ' => ∃ q x y u v, q ≠ p ∧ ρ' = [some (encT s), some (.loc p), x, y, some (encTm md), some (.loc q), u, v, o, none, none, none, none] ∧ μ' = [(q, .lst []), (p, .lst (sD (([("file" : Str), numT s.file] :: ((s.nodes.zip s.rooms).map (nodeW s) ++ (s.mends.take i).map mendW)).map lineW)))]) ?_ ?_
        · exact run_asgG (ev_lstC (eva_of ea_nil ⟨Nat.zero_le _, fun q hqM hqμ => ⟨q, x, y, v, t, fun z => hqμ (by rw [z]; simp), rfl, rfl⟩⟩))
        rintro _ _ ⟨q, x, y, v, t, hqp, rfl, rfl⟩
        cases md with
        | one lb nv hs as =>
          obtain ⟨hv, iI⟩ := hok.one lb nv hs as rfl
          have hll : lb.length ≤ 10 := hlab
          have hvl := g.short nv hv
          have hiw : (lineW (itemsW hs as)).length ≤ 630 := line_short (items_short g.short iI) (by have := itemsW_few hfew iI; omega)
          refine run_mid (fun ρ' μ' => ∃ x y u v, ρ' = [some (encT s), some (.loc p), x, y, some (encTm (.one lb nv hs as)), some (.loc q), u, v, o, none, none, none, none] ∧ μ' = [(q, .lst (sD [lineW (itemsW hs as)])), (p, .lst (sD (([("file" : Str), numT s.file] :: ((s.nodes.zip s.rooms).map (nodeW s) ++ (s.mends.take i).map mendW)).map lineW)))]) ?_ ?_
          · refine run_forU (items := [.tup [.lst (sD hs), .lst (iD as)]]) (it_zipL (ea_cons (ed_Tm_helpers1 (ed_var rfl)) (ea_cons (ed_Tm_amounts1 (ed_var rfl)) ea_nil)) rfl) ⟨_, _, tg_two, run_app (i := 0) rfl rfl (d := .str (lineW (itemsW hs as))) (EvD.is (ed_join (ys := itemsW hs as) (ed_str " ") (ed_lcS0 encSI itemW (ItE.is (it_zipL (ea_cons (ed_var rfl) (ea_cons (ed_var rfl) ea_nil)) (by rw [List.length_map, List.length_map, iI.len])) (zipD_zip hs as)) (by have := items_few hfew iI; omega) fun q hq => ⟨_, _, tg_two, by simp, item_ev rfl rfl (items_len g.short iI q hq)⟩) (join_fit " " _ (B := 20) (N := 5) (items_short g.short iI) (itemsW_few hfew iI) (by decide +kernel))) rfl) (by decide) ⟨_, _, _, _, rfl, rfl⟩⟩
          rintro _ _ ⟨x, y, v, t, rfl, rfl⟩
          have hd1 : (lb ++ (" " : Str)).length ≤ 11 := by rw [Str.length_append]; exact Nat.add_le_add hll (show (" " : Str).length ≤ 1 by decide +kernel)
          have hd2 : (lb ++ " " ++ Txt.join " " [nv]).length ≤ 13 := by rw [Str.length_append, join_one]; exact Nat.add_le_add hd1 hvl
          have hd3 : (("mend " : Str) ++ (lb ++ " " ++ Txt.join " " [nv])).length ≤ 18 := by rw [Str.length_append]; exact Nat.add_le_add (show ("mend " : Str).length ≤ 5 by decide +kernel) hd2
          have hd4 : (("mend " : Str) ++ (lb ++ " " ++ Txt.join " " [nv]) ++ " from ").length ≤ 24 := by rw [Str.length_append]; exact Nat.add_le_add hd3 (show (" from " : Str).length ≤ 6 by decide +kernel)
          refine run_freeze (i := 5) (by simp) rfl ?_
          refine run_seq (run_asg (d := .str (lb ++ " " ++ Txt.join " " [nv])) (ed_op (ed_op (ed_Tm_label (ed_var rfl)) (ed_str " ") (rv_addZ (Nat.le_trans (Nat.add_le_add hll (show (" " : Str).length ≤ 1 by decide +kernel)) (by decide)))) (ed_join (ed_str " ") (ed_Tm_nodes (ed_var rfl)) (join_fit " " _ (B := 2) (N := 2) (fun w hw => by rw [List.mem_singleton.mp hw]; exact hvl) (show 1 ≤ 2 by decide) (by decide +kernel))) (rv_addZ (Nat.le_trans (Nat.add_le_add hd1 (show (Txt.join " " [nv]).length ≤ 2 by rw [join_one]; exact hvl)) (by decide)))) ?_)
          refine run_yes (EdT.is (et_test (ed_op (ed_Tm_kind (ed_var rfl)) (ed_str "one") (rv_eq rfl rfl rfl))) (show decide (V.str "one" = V.str "one") = true by decide +kernel)) ?_
          refine run_app (i := 0) rfl rfl (d := .str (lineW (mendW (.one lb nv hs as)))) (EvD.is (ed_op (ed_op (ed_op (ed_str "mend ") (ed_var rfl) (rv_addZ (Nat.le_trans (Nat.add_le_add (show ("mend " : Str).length ≤ 5 by decide +kernel) hd2) (by decide)))) (ed_str " from ") (rv_addZ (Nat.le_trans (Nat.add_le_add hd3 (show (" from " : Str).length ≤ 6 by decide +kernel)) (by decide)))) (ed_op (ed_var rfl) (ed_int 0) (rv_ixL (z := .str (lineW (itemsW hs as))) rfl)) (rv_addZ (Nat.le_trans (Nat.add_le_add hd4 hiw) (by decide)))) (by rw [line_one _ _ _ (items_ne iI)]; rfl)) hlen ⟨_, _, _, _, _, _, _, rfl, ?_⟩
          rw [etk]
          simp
        | two lb nu nv h1 h2 a1 a2 sw =>
          obtain ⟨hu, hv, huv, iI, iJ, s0, s4⟩ := hok.two lb nu nv h1 h2 a1 a2 sw rfl
          have hll : lb.length ≤ 10 := hlab
          have hul := g.short nu hu
          have hvl := g.short nv hv
          have hsl := num_len (n := sw) s0 (by omega)
          have hiw : (lineW (itemsW h1 a1)).length ≤ 630 := line_short (items_short g.short iI) (by have := itemsW_few hfew iI; omega)
          have hjw : (lineW (itemsW h2 a2)).length ≤ 630 := line_short (items_short g.short iJ) (by have := itemsW_few hfew iJ; omega)
          refine run_mid (fun ρ' μ' => ∃ x y u v, ρ' = [some (encT s), some (.loc p), x, y, some (encTm (.two lb nu nv h1 h2 a1 a2 sw)), some (.loc q), u, v, o, none, none, none, none] ∧ μ' = [(q, .lst (sD [lineW (itemsW h1 a1), lineW (itemsW h2 a2)])), (p, .lst (sD (([("file" : Str), numT s.file] :: ((s.nodes.zip s.rooms).map (nodeW s) ++ (s.mends.take i).map mendW)).map lineW)))]) ?_ ?_
          · refine run_forU (items := [.tup [.lst (sD h1), .lst (iD a1)], .tup [.lst (sD h2), .lst (iD a2)]]) (it_zipL (ea_cons (ed_Tm_helpers2 (ed_var rfl)) (ea_cons (ed_Tm_amounts2 (ed_var rfl)) ea_nil)) rfl) ⟨_, _, tg_two, run_app (i := 0) rfl rfl (d := .str (lineW (itemsW h1 a1))) (EvD.is (ed_join (ys := itemsW h1 a1) (ed_str " ") (ed_lcS0 encSI itemW (ItE.is (it_zipL (ea_cons (ed_var rfl) (ea_cons (ed_var rfl) ea_nil)) (by rw [List.length_map, List.length_map, iI.len])) (zipD_zip h1 a1)) (by have := items_few hfew iI; omega) fun q hq => ⟨_, _, tg_two, by simp, item_ev rfl rfl (items_len g.short iI q hq)⟩) (join_fit " " _ (B := 20) (N := 5) (items_short g.short iI) (itemsW_few hfew iI) (by decide +kernel))) rfl) (by decide) ⟨_, _, tg_two, run_app (i := 0) rfl rfl (d := .str (lineW (itemsW h2 a2))) (EvD.is (ed_join (ys := itemsW h2 a2) (ed_str " ") (ed_lcS0 encSI itemW (ItE.is (it_zipL (ea_cons (ed_var rfl) (ea_cons (ed_var rfl) ea_nil)) (by rw [List.length_map, List.length_map, iJ.len])) (zipD_zip h2 a2)) (by have := items_few hfew iJ; omega) fun q hq => ⟨_, _, tg_two, by simp, item_ev rfl rfl (items_len g.short iJ q hq)⟩) (join_fit " " _ (B := 20) (N := 5) (items_short g.short iJ) (itemsW_few hfew iJ) (by decide +kernel))) rfl) (show 1 < 100000 by decide) ⟨_, _, _, _, rfl, rfl⟩⟩⟩
          rintro _ _ ⟨x, y, v, t, rfl, rfl⟩
          have hnn : (Txt.join " " [nu, nv]).length ≤ 5 := by rw [join_two, Str.length_append, Str.length_append]; exact Nat.add_le_add (Nat.add_le_add hul (show (" " : Str).length ≤ 1 by decide +kernel)) hvl
          have hd1 : (lb ++ (" " : Str)).length ≤ 11 := by rw [Str.length_append]; exact Nat.add_le_add hll (show (" " : Str).length ≤ 1 by decide +kernel)
          have hd2 : (lb ++ " " ++ Txt.join " " [nu, nv]).length ≤ 16 := by rw [Str.length_append]; exact Nat.add_le_add hd1 hnn
          have hd3 : (("pair " : Str) ++ (lb ++ " " ++ Txt.join " " [nu, nv])).length ≤ 21 := by rw [Str.length_append]; exact Nat.add_le_add (show ("pair " : Str).length ≤ 5 by decide +kernel) hd2
          have hd4 : (("pair " : Str) ++ (lb ++ " " ++ Txt.join " " [nu, nv]) ++ " swap ").length ≤ 27 := by rw [Str.length_append]; exact Nat.add_le_add hd3 (show (" swap " : Str).length ≤ 6 by decide +kernel)
          have hd5 : (("pair " : Str) ++ (lb ++ " " ++ Txt.join " " [nu, nv]) ++ " swap " ++ numT sw).length ≤ 37 := by rw [Str.length_append]; exact Nat.add_le_add hd4 hsl
          have hd6 : (("pair " : Str) ++ (lb ++ " " ++ Txt.join " " [nu, nv]) ++ " swap " ++ numT sw ++ " from ").length ≤ 43 := by rw [Str.length_append]; exact Nat.add_le_add hd5 (show (" from " : Str).length ≤ 6 by decide +kernel)
          have hdd : ∀ w ∈ [lineW (itemsW h1 a1), lineW (itemsW h2 a2)], w.length ≤ 630 := fun w hw => by
            simp at hw
            rcases hw with rfl | rfl
            · exact hiw
            · exact hjw
          refine run_freeze (i := 5) (by simp) rfl ?_
          refine run_seq (run_asg (d := .str (lb ++ " " ++ Txt.join " " [nu, nv])) (ed_op (ed_op (ed_Tm_label (ed_var rfl)) (ed_str " ") (rv_addZ (Nat.le_trans (Nat.add_le_add hll (show (" " : Str).length ≤ 1 by decide +kernel)) (by decide)))) (ed_join (ed_str " ") (ed_Tm_nodes (ed_var rfl)) (join_fit " " _ (B := 2) (N := 2) (fun w hw => by
            have hw : w ∈ [nu, nv] := hw
            simp at hw
            rcases hw with rfl | rfl
            · exact hul
            · exact hvl) (show 2 ≤ 2 by decide) (by decide +kernel))) (rv_addZ (Nat.le_trans (Nat.add_le_add hd1 hnn) (by decide)))) ?_)
          refine run_no (EdT.is (et_test (ed_op (ed_Tm_kind (ed_var rfl)) (ed_str "one") (rv_eq rfl rfl rfl))) (show decide (V.str "pair" = V.str "one") = false by decide +kernel)) ?_
          refine run_app (i := 0) rfl rfl (d := .str (lineW (mendW (.two lb nu nv h1 h2 a1 a2 sw)))) (EvD.is (ed_op (ed_op (ed_op (ed_op (ed_op (ed_str "pair ") (ed_var rfl) (rv_addZ (Nat.le_trans (Nat.add_le_add (show ("pair " : Str).length ≤ 5 by decide +kernel) hd2) (by decide)))) (ed_str " swap ") (rv_addZ (Nat.le_trans (Nat.add_le_add hd3 (show (" swap " : Str).length ≤ 6 by decide +kernel)) (by decide)))) (ed_cb (ea_cons (ed_Tm_swap2 (ed_var rfl)) ea_nil) (rc_strI (num_log s0 (by omega)))) (rv_addZ (Nat.le_trans (Nat.add_le_add hd4 hsl) (by decide)))) (ed_str " from ") (rv_addZ (Nat.le_trans (Nat.add_le_add hd5 (show (" from " : Str).length ≤ 6 by decide +kernel)) (by decide)))) (ed_join (ed_str " and ") (ed_var rfl) (join_fit " and " _ (B := 630) (N := 2) hdd (show 2 ≤ 2 by decide) (by decide +kernel))) (rv_addZ (Nat.le_trans (Nat.add_le_add hd6 (Nat.le_trans (join_len " and " _ hdd) (show 2 * (630 + (" and " : Str).length) ≤ 2000 by decide +kernel))) (by decide)))) (by rw [line_two _ _ _ _ _ _ (items_ne iI) (items_ne iJ)]; rfl)) hlen ⟨_, _, _, _, _, _, _, rfl, ?_⟩
          rw [etk]
          simp
    · obtain ⟨x, y, z, u, v, t, o, rfl, rfl⟩ := hI
      rw [List.length_map, List.take_length]
      exact ⟨_, _, _, _, _, _, _, rfl, rfl⟩
  rintro _ _ ⟨x, y, z, u, v, t, o, rfl, rfl⟩
  -- readers
  refine run_mid (fun ρ' μ' => ∃ x l w a, ρ' = [some (encT s), some (.loc p), x, y, z, u, v, t, o, l, w, a, none] ∧ μ' = [(p, .lst (sD ((rowsW s).map lineW)))]) ?_ ?_
  · refine run_for (items := s.readers.map encTr) (it_list (ed_T_readers (ed_var rfl)))
      (fun i ρ μ => ∃ x l w a, ρ = [some (encT s), some (.loc p), x, y, z, u, v, t, o, l, w, a, none] ∧ μ = [(p, .lst (sD (([("file" : Str), numT s.file] :: ((s.nodes.zip s.rooms).map (nodeW s) ++ (s.mends.map mendW ++ (s.readers.take i).map readW))).map lineW)))]) ⟨x, none, none, none, rfl, by rw [List.take_zero, List.map_nil, List.append_nil]⟩ (fun i d ρ1 μ1 hi hI => ?_) fun ρ1 μ1 hI => ?_
    · obtain ⟨x, l, w, a, rfl, rfl⟩ := hI
      rw [List.getElem?_map] at hi
      cases hm : s.readers[i]? with
      | none => rw [hm] at hi; cases hi
      | some rd =>
        rw [hm] at hi
        have hi : encTr rd = d := Option.some.inj hi
        subst hi
        have hmem : rd ∈ s.readers := List.mem_of_getElem? hm
        have hok := g.readers rd hmem
        have hil := (List.getElem?_eq_some_iff.mp hm).1
        have hmf := g.mfew
        have hrf := g.rfew
        have hrd := hok.few hfew
        have etk : s.readers.take (i + 1) = s.readers.take i ++ [rd] := by rw [List.take_add_one, hm]; rfl
        have hsh : ∀ w ∈ rd.map limW, w.length ≤ 20 := fun w hw => by
          obtain ⟨q, hq, rfl⟩ := List.mem_map.mp hw
          exact lim_short (g.short _ (hok.sub q hq)) fun x hx => by have := hok.am q hq x hx; omega
        refine ⟨_, _, tg_name, ?_⟩
        refine run_seq (run_asg (d := .lst (sD (rd.map limW))) (ed_lcS0 encI limW (it_list (ed_var rfl)) (by omega) fun q hq => ⟨_, _, tg_two, by simp, ?_⟩) ?_)
        · obtain ⟨n, ol⟩ := q
          have hn2 : n.length ≤ 2 := g.short _ (hok.sub _ hq)
          cases ol with
          | none => exact ed_if (et_test (ed_op (ed_var rfl) ed_non rv_isN)) (fun _ => ed_var rfl) fun hb => (by cases hb)
          | some b =>
            have hb4 := hok.am _ hq b rfl
            have hbl := num_len (n := b) hb4.1 (by omega)
            refine ed_if (et_test (ed_op (ed_var rfl) ed_non rv_isN)) (fun hb => (by cases hb)) fun _ => ed_op (ed_op (ed_var rfl) (ed_str ":") (rv_addZ (Nat.le_trans (Nat.add_le_add hn2 (show (":" : Str).length ≤ 1 by decide +kernel)) (by decide)))) (ed_cb (ea_cons (ed_var rfl) ea_nil) (rc_strI (num_log hb4.1 (by omega)))) (rv_addZ (Nat.le_trans (Nat.add_le_add (show _ ≤ 3 by rw [Str.length_append]; exact Nat.add_le_add hn2 (show (":" : Str).length ≤ 1 by decide +kernel)) hbl) (by decide)))
        · refine run_app (i := 0) rfl rfl (d := .str (lineW (readW rd))) (EvD.is (ed_op (ed_str "reader ") (ed_join (ed_str " ") (ed_var rfl) (join_fit " " _ (B := 20) (N := 5) hsh (by rw [List.length_map]; exact hrd) (by decide +kernel))) (rv_addZ (Nat.le_trans (Nat.add_le_add (show ("reader " : Str).length ≤ 7 by decide +kernel) (Nat.le_trans (join_len " " _ hsh) (show _ ≤ 200 by rw [List.length_map, show (" " : Str).length = 1 from by decide +kernel]; omega))) (by decide)))) (by rw [line_read rd hok.ne])) (by
            rw [List.length_map, List.length_map, List.length_cons, List.length_append, List.length_append, List.length_map, List.length_map, List.length_map, List.length_zip, List.length_take]; omega) ⟨_, _, _, _, rfl, ?_⟩
          rw [etk]
          simp
    · obtain ⟨x, l, w, a, rfl, rfl⟩ := hI
      rw [List.length_map, List.take_length]
      exact ⟨_, _, _, _, rfl, rfl⟩
  rintro _ _ ⟨x, l, w, a, rfl, rfl⟩
  have hrow : ∀ r ∈ (rowsW s).map lineW, r.length ≤ 630 := fun r hr => by
    obtain ⟨ws, hws, rfl⟩ := List.mem_map.mp hr
    exact row_short g ws hws
  have hfew2 : ((rowsW s).map lineW).length ≤ 30 := by
    have h1 := g.mfew
    have h2 := g.rfew
    unfold rowsW
    rw [List.length_map, List.length_cons, List.length_append, List.length_append, List.length_map, List.length_map, List.length_map, List.length_zip]
    omega
  have hnl : ("\n" : Str).length = 1 := by decide +kernel
  refine run_freeze (i := 1) (by simp) rfl (run_ret (ed_op (ed_join (ed_str "\n") (ed_var rfl) (join_fit "\n" _ (B := 630) (N := 30) hrow hfew2 (by decide +kernel))) (ed_str "\n") (rv_addZ (Nat.le_trans (Nat.add_le_add (Nat.le_trans (join_len "\n" _ hrow) (show _ ≤ 30 * 631 by rw [hnl]; exact Nat.mul_le_mul_right _ hfew2)) (Nat.le_of_eq hnl)) (by decide)))) rfl)
end Am
/-! What the readers of texts promise on a store's text. -/
namespace Am
open PySem PySem.Spec PyProof.Rows L2
section
variable {K : PySem.W.Frag} {ρ : Ro} {to te ta tb tc : TE} {x y z : D}
theorem ed_split {a b : Str} (ho : EvD K to ρ (.str a)) (he : EvD K te ρ (.str b)) (hb : (b.length == 0) = false) (hl : a.length + 2 ≤ sizeLine) : EvD K (tM1 rSplitZ to te) ρ (.lst (sD (Txt.split a b))) := fun G H σ st sl Q q => ho G H σ st sl _ fun v G1 H1 g1 r1 => by
  cases r1
  refine ⟨⟨a, rfl⟩, he G1 H1 σ g1.sub (sl.mono g1.g) _ fun w G2 H2 g2 r2 => ?_⟩
  cases r2
  refine ⟨a, b, rfl, rfl, hb, hl, fun p hp => ?_⟩
  have gp : Go [] G2 H2 (upd G2 p (.lst ((Txt.split a b).map V.str))) (upd H2 p (.lst ((Txt.split a b).map V.str))) := Go.alloc g2.sub hp
  refine q _ _ _ (g1.trans (g2.trans gp)) (.lst upd_same ?_)
  have : ∀ l : List Str, Reps K (upd G2 p (.lst ((Txt.split a b).map V.str))) (l.map V.str) (sD l) := by
    intro l
    induction l with
    | nil => exact .nil
    | cons a l ih => exact .cons (.str a) ih
  exact this _
theorem ed_part {a b : Str} (ho : EvD K to ρ (.str a)) (he : EvD K te ρ (.str b)) (hb : (b.length == 0) = false) (hl : a.length ≤ sizeLine) : EvD K (tM1 rPartZ to te) ρ (.tup [.str (Txt.partition a b).1, .str (Txt.partition a b).2.1, .str (Txt.partition a b).2.2]) := fun G H σ st sl Q q => ho G H σ st sl _ fun v G1 H1 g1 r1 => by
  cases r1
  refine ⟨⟨a, rfl⟩, he G1 H1 σ g1.sub (sl.mono g1.g) _ fun w G2 H2 g2 r2 => ?_⟩
  cases r2
  refine ⟨a, b, rfl, rfl, hb, hl, fun p hp => ?_⟩
  exact q _ _ _ (g1.trans (g2.trans (Go.alloc g2.sub hp))) (.tup upd_same (.cons (.str _) (.cons (.str _) (.cons (.str _) .nil))))
def sgn (c : Nat) : D := .str ⟨#[c]⟩
theorem it_str {a : Str} (h : EvD K te ρ (.str a)) : ItE K (iStr te) ρ ((TL.tl a).map sgn) := fun G H σ s l R q => h G H σ s l _ fun v G1 H1 g1 r1 => by
  cases r1
  refine ⟨a, rfl, q _ G1 H1 g1 fun G2 H2 e1 e2 => ?_⟩
  have hl : ((TL.tl a).map sgn).length = a.cps.size := by rw [List.length_map]; exact Array.length_toList
  rw [hl]
  refine ⟨fun i hi => hi, Nat.le_refl _, fun i x H3 hi y => ?_⟩
  obtain ⟨rfl, c, hc, rfl⟩ := y
  refine ⟨G2, sgn c, ?_, Go.refl e2, .str _⟩
  rw [List.getElem?_map]
  have : (TL.tl a)[i]? = some c := by
    show a.cps.toList[i]? = some c
    rw [Array.getElem?_toList]
    exact hc
  rw [this]
  rfl
theorem ed_orV {a b : Bool} (h1 : EvD K ta ρ (.bl a)) (h2 : a = false → EvD K tb ρ (.bl b)) : EvD K (tOrV ta tb) ρ (.bl (a || b)) := fun G H σ s l Q q => h1 G H σ s l _ fun v G1 H1 g1 r1 => by
  cases r1
  refine ⟨a, rfl, ?_⟩
  cases a with
  | true => exact q _ G1 H1 g1 (.bl true)
  | false => exact h2 rfl G1 H1 σ g1.sub (l.mono g1.g) Q fun w G3 H3 g3 r3 => q w G3 H3 (g1.trans g3) r3
theorem RvD.is {r : R2} {z' : D} (h : RvD K r x y z) (e : z = z') : RvD K r x y z' := e ▸ h
theorem ed_chain {r r' : R2} {p : Bool} {u : D} (ha : EvD K ta ρ x) (hb : EvD K tb ρ y) (h1 : RvD K r x y (.bl p)) (hc : EvD K tc ρ z) (h2 : RvD K r' y z u) (hp : p = true) : EvD K (tChain r r' ta tb tc) ρ u := fun G H σ s l Q q => ha G H σ s l _ fun v G1 H1 g1 r1 =>
  hb G1 H1 σ g1.sub (l.mono g1.g) _ fun w G2 H2 g2 r2 => by
    refine h1 G2 H2 v w g2.sub (r1.mono g2.g) r2 _ fun k G3 H3 g3 r3 => ?_
    cases r3
    refine ⟨p, rfl, ?_⟩
    rw [if_pos hp]
    exact hc G3 H3 σ g3.sub (l.mono (g1.g.trans (g2.g.trans g3.g))) _ fun o G4 H4 g4 r4 => h2 G4 H4 w o g4.sub (r2.mono (g3.g.trans g4.g)) r4 _ fun k G5 H5 g5 r5 => q _ _ _ (g1.trans (g2.trans (g3.trans (g4.trans g5)))) r5
end
/-! ### names -/
abbrev SMALLs : Str := "abcdefghijklmnopqrstuvwxyz"
abbrev DIGITSs : Str := "0123456789"
structure NameOk (w : Str) : Prop where
  len : 1 ≤ w.length ∧ w.length ≤ 12
  head : ∃ c, (TL.tl w)[0]? = some c ∧ c ∈ TL.tl SMALLs
  all_ : ∀ c ∈ TL.tl w, c ∈ TL.tl SMALLs ∨ c ∈ TL.tl DIGITSs
def R_isName : List D → D → Prop := fun ds d => ∃ w, NameOk w ∧ ds = [.str w] ∧ d = .bl true
def R_needText : List D → D → Prop := fun ds d => ∃ w, ds = [.str w] ∧ d = .non
def R_textLines : List D → D → Prop := fun ds d => ∃ ls : List Str, ls ≠ [] ∧ (∀ l ∈ ls, 10 ∉ TL.tl l) ∧ (Txt.join "\n" ls ++ "\n").length + 2 ≤ sizeLine ∧ ds = [.str (Txt.join "\n" ls ++ "\n")] ∧ d = .lst (sD ls)
theorem num_facts : ∀ n : Fin 101, (1 ≤ (numT (n.val : Int)).length ∧ (numT (n.val : Int)).length ≤ 3) ∧ ∀ c ∈ TL.tl (numT (n.val : Int)), c ∈ TL.tl DIGITSs := by decide +kernel
theorem num_ok {n : Int} (h0 : 0 ≤ n) (h1 : n ≤ 100) : (1 ≤ (numT n).length ∧ (numT n).length ≤ 3) ∧ ∀ c ∈ TL.tl (numT n), c ∈ TL.tl DIGITSs := by
  obtain ⟨m, rfl⟩ := Int.eq_ofNat_of_zero_le h0
  exact num_facts ⟨m, by omega⟩
theorem mem_joinL {S : List Nat} {c : Nat} : ∀ {l : List (List Nat)}, c ∈ TL.joinL S l → c ∈ S ∨ ∃ p ∈ l, c ∈ p
  | [], h => by cases h
  | [p], h => .inr ⟨p, by simp, h⟩
  | p :: q :: r, h => by
    have h : c ∈ p ++ (S ++ TL.joinL S (q :: r)) := h
    rcases List.mem_append.mp h with h | h
    · exact .inr ⟨p, by simp, h⟩
    rcases List.mem_append.mp h with h | h
    · exact .inl h
    rcases mem_joinL h with h | ⟨x, hx, h⟩
    · exact .inl h
    · exact .inr ⟨x, List.mem_cons_of_mem _ hx, h⟩
theorem line_free {ws : List Str} (h : ∀ w ∈ ws, 10 ∉ TL.tl w) : 10 ∉ TL.tl (lineW ws) := fun hm => by
  unfold lineW at hm
  rw [txt_join] at hm
  rcases mem_joinL hm with z | ⟨p, hp, z⟩
  · exact absurd z (by decide +kernel)
  · obtain ⟨w, hw, rfl⟩ := List.mem_map.mp hp
    exact h w hw z
theorem str_nil (a : Str) : a ++ ("" : Str) = a := TL.ext_tl (by rw [TL.tl_append, show TL.tl ("" : Str) = [] from by decide +kernel, List.append_nil])
theorem split_lines {ls : List Str} (hne : ls ≠ []) (h : ∀ l ∈ ls, 10 ∉ TL.tl l) : Txt.split (Txt.join "\n" ls ++ "\n") "\n" = ls ++ [("" : Str)] := by
  have e : Txt.join "\n" (ls ++ [("" : Str)]) = Txt.join "\n" ls ++ "\n" := by rw [join_app "\n" hne (by simp), join_one, str_nil]
  rw [← e, show ("\n" : Str) = ⟨#[10]⟩ from by decide +kernel]
  refine split_join (by decide) (by simp) fun p hp => ?_
  rcases List.mem_append.mp hp with z | z
  · exact h p z
  · rw [List.mem_singleton.mp z]
    decide +kernel
theorem split_words {ws : List Str} (hne : ws ≠ []) (h : ∀ w ∈ ws, 32 ∉ TL.tl w) : Txt.split (lineW ws) " " = ws := by
  unfold lineW
  rw [show (" " : Str) = ⟨#[32]⟩ from by decide +kernel]
  exact split_join (by decide) hne h
abbrev encWs (ws : List Str) : D := .lst (sD ws)
structure RowsOk (rows : List (List Str)) : Prop where
  ne : rows ≠ []
  few : rows.length ≤ 100
  row : ∀ ws ∈ rows, ws ≠ [] ∧ ws.length ≤ 100 ∧ ∀ w ∈ ws, w.length ≤ 20 ∧ 32 ∉ TL.tl w ∧ 10 ∉ TL.tl w
def txtOf (rows : List (List Str)) : Str := Txt.join "\n" (rows.map lineW) ++ "\n"
def R_textRows : List D → D → Prop := fun ds d => ∃ rows, RowsOk rows ∧ ds = [.str (txtOf rows)] ∧ d = .lst (rows.map encWs)
def R_wordAt : List D → D → Prop := fun ds d => ∃ (ws : List Str) (k : Nat) (line : D) (w : Str), ws[k]? = some w ∧ ds = [encWs ws, .int (k : Nat), line] ∧ d = .str w
def R_noMore : List D → D → Prop := fun ds d => ∃ (ws : List Str) (k : Nat) (line : D), ws.length ≤ k ∧ ds = [encWs ws, .int (k : Nat), line] ∧ d = .non
def R_numberOf : List D → D → Prop := fun ds d => ∃ n lo hi : Int, 0 ≤ n ∧ n ≤ 100 ∧ lo ≤ n ∧ n ≤ hi ∧ ds = [.str (numT n), .int lo, .int hi] ∧ d = .int n
def R_numberAt : List D → D → Prop := fun ds d => ∃ (ws : List Str) (k : Nat) (line : D) (n lo hi : Int), ws[k]? = some (numT n) ∧ 0 ≤ n ∧ n ≤ 100 ∧ lo ≤ n ∧ n ≤ hi ∧ ds = [encWs ws, .int (k : Nat), line, .int lo, .int hi] ∧ d = .int n
def R_newName : List D → D → Prop := fun ds d => ∃ (ws : List Str) (k : Nat) (line : D) (l : List Str) (w : Str), ws[k]? = some w ∧ NameOk w ∧ w ∉ l ∧ (ds = [encWs ws, .int (k : Nat), line, .lst (sD l)] ∨ ds = [encWs ws, .int (k : Nat), line, .tupF (sD l)]) ∧ d = .str w
def R_oneOf : List D → D → Prop := fun ds d => ∃ (ws : List Str) (k : Nat) (line : D) (l : List Str) (w : Str), ws[k]? = some w ∧ w ∈ l ∧ (ds = [encWs ws, .int (k : Nat), line, .lst (sD l)] ∨ ds = [encWs ws, .int (k : Nat), line, .tupF (sD l)] ∨ ds = [encWs ws, .int (k : Nat), line, .tup (sD l)]) ∧ d = .str w
end Am
namespace Am
open PySem PySem.Spec PyProof.Rows L2
theorem len_is_name : ∀ ds d, R_isName ds d → ds.length = 1 := fun _ _ ⟨_, _, h, _⟩ => by rw [h]; rfl
abbrev s_is_name : Stmt := topS 28
theorem sc_is_name : FnScope ["value", "sign"] ["value"] (defScope s_is_name) := ⟨rfl, rfl, rfl, by decide +kernel, rfl, by decide +kernel, by decide +kernel⟩
set_option maxHeartbeats 16000000 in
theorem ok_is_name {P : Program} {w : World} {K : PySem.W.Frag} {mg : Str → Option Value} {base : Heap} {c : Cls4} {f : Addr} {fd : FuncData} (B : Blt mg) (hc : ClsOk K c mg) (F : FD K "is_name" "is_name" s_is_name f fd) : FnOk P w K mg base CX0 1 f fd ["value"] (spP K R_isName) := by
  have sc := sc_is_name
  refine F.ok sc (fun vs H Q E h => len_P (n := 1) len_is_name h) (fun cdv A outer s H vs Q E hr h => ?_)
  have hu := hu_of hr
  refine ⟨_, PSs.nox ((pss_cons (ps_if (PW.pt (pw_or (pt_not (pt_val (pe_callB (xc_isi (K := K)) (by rfl) B.isinstance boot_isinstance (pa_cons (pv 0) (pa_cons (pe_bltn (v := .ty "str") (by rfl) B.str boot_str rfl) pa_nil))))) (pw_or (pt_not (pt_chain op_le op_le pe_int (pe_callB xc_lenZ (by rfl) B.len boot_len (pa_cons (pv 0) pa_nil)) pe_int)) (pw_or1 (pt_cmpR xo_notInZ (pe_ix ix_str (pv 0) pe_int (fun _ _ => rfl)) (pe_gs (by rfl) B.c_SMALL) rfl)))))
        (pss_one (ps_ret pe_bl))
        pss_nil) 
      (pss_one (ps_ret (pe_callB (xc_all (K := K) rfl) (by rfl) B.all boot_all (pa_cons (pe_lc (own := [("sign", 1)]) rfl sc.nd (pi_str (pv 0)) (blkOk_by (own := [("sign", 1)]) (N := ["value", "sign"]) (sc := defScope s_is_name) (by decide +kernel)) (fun _ _ _ _ _ => (pg_name (i := 1) sc.nd rfl (Or.inl rfl))) (fun _ _ _ _ _ => pts_nil) (fun _ _ _ _ _ => (pe_or (pe_cmpR xo_inZ (pv 1) (pe_gs (by rfl) B.c_SMALL) rfl) (pe_one (pe_cmpR xo_inZ (pv 1) (pe_gs (by rfl) B.c_DIGITS) rfl))))) pa_nil)))))), read_P h ?_⟩
  rintro ds d ⟨w, hw, rfl, rfl⟩
  obtain ⟨h1, h12⟩ := hw.len
  obtain ⟨c0, hc0, hs0⟩ := hw.head
  have hsz : sizeLine = 16777216 := by decide
  have hat : atI (TL.tl w) 0 = some c0 := atI_nat (j := 0) hc0
  refine run_seq (run_no (EdT.is (et_or (et_not (et_B (ed_isi (ed_var rfl) rfl kit_ss))) fun _ => et_or (et_not (et_test (ed_chain (p := true) (ed_int 1) (ed_cb (ea_cons (ed_var rfl) ea_nil) (rc_lenZ (by omega))) (RvD.is rv_bl (congrArg D.bl (decide_eq_true (by omega)))) (ed_int 12) rv_bl rfl))) fun _ => et_test (ed_op (ed_op (ed_var rfl) (ed_int 0) (rv_ixS (by omega) hat)) (ed_str _) rv_notInZ)) (by show (!true || (!_ || !decide (c0 ∈ SMALLs.cps.toList))) = false; rw [decide_eq_true hs0, decide_eq_true (by omega)]; rfl)) (run_next ?_))
  refine run_ret (EvD.is (ed_cb (ea_cons (ed_lcB0 sgn (fun c => decide (c ∈ TL.tl SMALLs) || decide (c ∈ TL.tl DIGITSs)) (it_str (ed_var rfl)) (show (TL.tl w).length ≤ 100000 by have : (TL.tl w).length = w.length := Array.length_toList; omega) fun c hc => ⟨_, _, tg_name, by simp, ed_orV (ed_op (ed_var rfl) (ed_str _) rv_inZ) fun _ => ed_op (ed_var rfl) (ed_str _) rv_inZ⟩) ea_nil) rc_all) (congrArg D.bl ?_)) rfl
  rw [List.all_eq_true]
  intro b hb
  obtain ⟨c, hc, rfl⟩ := List.mem_map.mp hb
  have := hw.all_ c hc
  simpa using this
theorem len_need_text : ∀ ds d, R_needText ds d → ds.length = 1 := fun _ _ ⟨_, h, _⟩ => by rw [h]; rfl
abbrev s_need_text : Stmt := topS 29
theorem sc_need_text : FnScope ["value"] ["value"] (defScope s_need_text) := ⟨rfl, rfl, rfl, by decide +kernel, rfl, by decide +kernel, by decide +kernel⟩
set_option maxHeartbeats 16000000 in
theorem ok_need_text {P : Program} {w : World} {K : PySem.W.Frag} {mg : Str → Option Value} {base : Heap} {c : Cls4} {f : Addr} {fd : FuncData} (B : Blt mg) (hc : ClsOk K c mg) (F : FD K "need_text" "need_text" s_need_text f fd) : FnOk P w K mg base CX0 1 f fd ["value"] (spP K R_needText) := by
  have sc := sc_need_text
  refine F.ok sc (fun vs H Q E h => len_P (n := 1) len_need_text h) (fun cdv A outer s H vs Q E hr h => ?_)
  have hu := hu_of hr
  refine ⟨_, PSs.nox ((pss_one (ps_if (pt_not (pt_val (pe_callB (xc_isi (K := K)) (by rfl) B.isinstance boot_isinstance (pa_cons (pv 0) (pa_cons (pe_bltn (v := .ty "str") (by rfl) B.str boot_str rfl) pa_nil)))))
        (pss_one ps_never)
        pss_nil))), read_P h ?_⟩
  rintro ds d ⟨w, rfl, rfl⟩
  exact run_no (EdT.is (et_not (et_B (ed_isi (ed_var rfl) rfl kit_ss))) rfl) (run_next rfl)
theorem len_text_lines : ∀ ds d, R_textLines ds d → ds.length = 1 := fun _ _ ⟨_, _, _, _, h, _⟩ => by rw [h]; rfl
abbrev s_text_lines : Stmt := topS 30
theorem sc_text_lines : FnScope ["text", "lines"] ["text"] (defScope s_text_lines) := ⟨rfl, rfl, rfl, by decide +kernel, rfl, by decide +kernel, by decide +kernel⟩
set_option maxHeartbeats 16000000 in
theorem ok_text_lines {P : Program} {w : World} {K : PySem.W.Frag} {mg : Str → Option Value} {base : Heap} {c : Cls4} {f : Addr} {fd : FuncData} (B : Blt mg) (hc : ClsOk K c mg) (F : FD K "text_lines" "text_lines" s_text_lines f fd) : FnOk P w K mg base CX0 1 f fd ["text"] (spP K R_textLines) := by
  have sc := sc_text_lines
  refine F.ok sc (fun vs H Q E h => len_P (n := 1) len_text_lines h) (fun cdv A outer s H vs Q E hr h => ?_)
  have hu := hu_of hr
  refine ⟨_, PSs.nox ((pss_cons (ps_set (i := 1) sc.nd rfl (Or.inl rfl) (xe_split (pv 0) pe_str)) 
      (pss_one (ps_ret (pe_ifExp (pt_cmpR op_eq (pe_ix (xx_list (K := K)) (pv 1) (pe_un un_neg pe_int) (fun _ _ => rfl)) pe_str (nomark _)) (pe_slice (xx_sl (K := K)) (pv 1) po_none (po_some (pe_un un_neg pe_int))) (pv 1)))))), read_P h ?_⟩
  rintro ds d ⟨ls, hne, hfr, hlen, rfl, rfl⟩
  refine run_seq (run_asg (d := .lst (sD (ls ++ [("" : Str)]))) (EvD.is (ed_split (ed_var rfl) (ed_str _) (by decide +kernel) hlen) (by rw [split_lines hne hfr])) ?_)
  have hat : atI (sD (ls ++ [("" : Str)])) (-1) = some (.str "") := by
    rw [show sD (ls ++ [("" : Str)]) = sD ls ++ [D.str ""] from List.map_append]
    exact atI_last _ _
  refine run_ret (ed_if (EdT.is (et_test (ed_op (ed_op (ed_var rfl) (ed_un (ed_int 1) ru_neg) (rv_ixL hat)) (ed_str "") (rv_eq rfl rfl rfl))) (show decide (V.str "" = V.str "") = true by decide +kernel)) (fun _ => EvD.is (ed_sl (ed_var rfl) eo_none (eo_some (ed_un (ed_int 1) ru_neg))) ?_) fun hb => (by cases hb)) rfl
  rw [show sD (ls ++ [("" : Str)]) = sD ls ++ [D.str ""] from List.map_append]
  have e : HT.sIx (sD ls ++ [D.str ""]).length (sD ls ++ [D.str ""]).length (some (-1)) = (sD ls).length := by
    show (if (-1 : Int) < 0 then ((-1 : Int) + ((sD ls ++ [D.str ""]).length : Int)).toNat else min (-1 : Int).toNat (sD ls ++ [D.str ""]).length) = _
    rw [if_pos (by decide), List.length_append]
    show ((-1 : Int) + ((sD ls).length + 1 : Nat)).toNat = _
    omega
  rw [e, HT.sIx_none, List.drop_zero, Nat.sub_zero, List.take_left']
  rfl
theorem len_text_rows : ∀ ds d, R_textRows ds d → ds.length = 1 := fun _ _ ⟨_, _, h, _⟩ => by rw [h]; rfl
abbrev s_text_rows : Stmt := topS 31
theorem sc_text_rows : FnScope ["text", "line"] ["text"] (defScope s_text_rows) := ⟨rfl, rfl, rfl, by decide +kernel, rfl, by decide +kernel, by decide +kernel⟩
set_option maxHeartbeats 16000000 in
theorem ok_text_rows {P : Program} {w : World} {K : PySem.W.Frag} {mg : Str → Option Value} {base : Heap} {c : Cls4} {f : Addr} {fd : FuncData} (B : Blt mg) (hc : ClsOk K c mg)
    (h_text_lines : Fn P w K mg base "text_lines" 1 ["text"] (spP K R_textLines)) (F : FD K "text_rows" "text_rows" s_text_rows f fd) : FnOk P w K mg base CX0 2 f fd ["text"] (spP K R_textRows) := by
  have sc := sc_text_rows
  refine F.ok sc (fun vs H Q E h => len_P (n := 1) len_text_rows h) (fun cdv A outer s H vs Q E hr h => ?_)
  have hu := hu_of hr
  refine ⟨_, PSs.nox ((pss_one (ps_ret (pe_lc (own := [("line", 1)]) rfl sc.nd (xi_list (K := K) (pe_fn h_text_lines (hr.mono (by decide)) (by rfl) (pa_cons (pv 0) pa_nil))) (blkOk_by (own := [("line", 1)]) (N := ["text", "line"]) (sc := defScope s_text_rows) (by decide +kernel)) (fun _ _ _ _ _ => (pg_name (i := 1) sc.nd rfl (Or.inl rfl))) (fun _ _ _ _ _ => pts_nil) (fun _ _ _ _ _ => (xe_split (pv 1) pe_str)))))), read_P h ?_⟩
  rintro ds d ⟨rows, hr, rfl, rfl⟩
  have hsz : sizeLine = 16777216 := by decide
  have h1l : (" " : Str).length = 1 := by decide +kernel
  have hnl : ("\n" : Str).length = 1 := by decide +kernel
  have hll : ∀ ws ∈ rows, (lineW ws).length ≤ 2100 := fun ws hws => by
    have := join_len " " ws (B := 20) fun w hw => ((hr.row ws hws).2.2 w hw).1
    have h2 := (hr.row ws hws).2.1
    rw [h1l] at this
    show (Txt.join " " ws).length ≤ 2100
    omega
  have hfew := hr.few
  have htl : (txtOf rows).length + 2 ≤ sizeLine := by
    have := join_len "\n" (rows.map lineW) (B := 2100) fun w hw => by
      obtain ⟨ws, hws, rfl⟩ := List.mem_map.mp hw
      exact hll ws hws
    rw [List.length_map, hnl] at this
    unfold txtOf
    rw [Str.length_append, hnl]
    omega
  refine run_ret (ed_lc0 (fun ws => D.str (lineW ws)) encWs (ItE.is (it_list (ed_call (d := .lst (sD (rows.map lineW))) (ea_cons (ed_var rfl) ea_nil) ⟨rows.map lineW, by simpa using hr.ne, fun l hl => ?_, htl, rfl, rfl⟩)) (by show (rows.map lineW).map D.str = _; rw [List.map_map]; rfl)) (by omega) fun ws hws => ⟨_, _, tg_name, by simp, ?_⟩) rfl
  · obtain ⟨ws, hws, rfl⟩ := List.mem_map.mp hl
    exact line_free fun w hw => ((hr.row ws hws).2.2 w hw).2.2
  · refine EvD.is (ed_split (ed_var rfl) (ed_str " ") (by decide +kernel) (by have := hll ws hws; omega)) ?_
    rw [split_words (hr.row ws hws).1 fun w hw => ((hr.row ws hws).2.2 w hw).2.1]
theorem len_word_at : ∀ ds d, R_wordAt ds d → ds.length = 3 := fun _ _ ⟨_, _, _, _, _, h, _⟩ => by rw [h]; rfl
abbrev s_word_at : Stmt := topS 32
theorem sc_word_at : FnScope ["words", "at", "line"] ["words", "at", "line"] (defScope s_word_at) := ⟨rfl, rfl, rfl, by decide +kernel, rfl, by decide +kernel, by decide +kernel⟩
set_option maxHeartbeats 16000000 in
theorem ok_word_at {P : Program} {w : World} {K : PySem.W.Frag} {mg : Str → Option Value} {base : Heap} {c : Cls4} {f : Addr} {fd : FuncData} (B : Blt mg) (hc : ClsOk K c mg) (F : FD K "word_at" "word_at" s_word_at f fd) : FnOk P w K mg base CX0 1 f fd ["words", "at", "line"] (spP K R_wordAt) := by
  have sc := sc_word_at
  refine F.ok sc (fun vs H Q E h => len_P (n := 3) len_word_at h) (fun cdv A outer s H vs Q E hr h => ?_)
  have hu := hu_of hr
  refine ⟨_, PSs.nox ((pss_cons (ps_if (pt_cmpR op_ge (pv 1) (pe_callB (xc_len (K := K)) (by rfl) B.len boot_len (pa_cons (pv 0) pa_nil)) (nomark _))
        (pss_one ps_never)
        pss_nil) 
      (pss_one (ps_ret (pe_ix (xx_list (K := K)) (pv 0) (pv 1) (fun _ _ => rfl)))))), read_P h ?_⟩
  rintro ds d ⟨ws, k, line, w, hk, rfl, rfl⟩
  have hl := (List.getElem?_eq_some_iff.mp hk).1
  have hr : (sD ws)[k]? = some (.str w) := by rw [List.getElem?_map, hk]; rfl
  refine run_seq (run_no (EdT.is (et_test (ed_op (ed_var rfl) (ed_cb (ea_cons (ed_var rfl) ea_nil) rc_lenL) rv_bl)) (by rw [List.length_map]; exact decide_eq_false (by omega))) (run_next ?_))
  exact run_ret (ed_op (ed_var rfl) (ed_var rfl) (rv_ixL (atI_nat hr))) rfl
theorem len_no_more : ∀ ds d, R_noMore ds d → ds.length = 3 := fun _ _ ⟨_, _, _, _, h, _⟩ => by rw [h]; rfl
abbrev s_no_more : Stmt := topS 33
theorem sc_no_more : FnScope ["words", "many", "line"] ["words", "many", "line"] (defScope s_no_more) := ⟨rfl, rfl, rfl, by decide +kernel, rfl, by decide +kernel, by decide +kernel⟩
set_option maxHeartbeats 16000000 in
theorem ok_no_more {P : Program} {w : World} {K : PySem.W.Frag} {mg : Str → Option Value} {base : Heap} {c : Cls4} {f : Addr} {fd : FuncData} (B : Blt mg) (hc : ClsOk K c mg) (F : FD K "no_more" "no_more" s_no_more f fd) : FnOk P w K mg base CX0 1 f fd ["words", "many", "line"] (spP K R_noMore) := by
  have sc := sc_no_more
  refine F.ok sc (fun vs H Q E h => len_P (n := 3) len_no_more h) (fun cdv A outer s H vs Q E hr h => ?_)
  have hu := hu_of hr
  refine ⟨_, PSs.nox ((pss_one (ps_if (pt_cmpR op_gt (pe_callB (xc_len (K := K)) (by rfl) B.len boot_len (pa_cons (pv 0) pa_nil)) (pv 1) (nomark _))
        (pss_one ps_never)
        pss_nil))), read_P h ?_⟩
  rintro ds d ⟨ws, k, line, hk, rfl, rfl⟩
  exact run_no (EdT.is (et_test (ed_op (ed_cb (ea_cons (ed_var rfl) ea_nil) rc_lenL) (ed_var rfl) rv_bl)) (by rw [List.length_map]; exact decide_eq_false (by omega))) (run_next rfl)
theorem len_number_of : ∀ ds d, R_numberOf ds d → ds.length = 3 := fun _ _ ⟨_, _, _, _, _, _, _, h, _⟩ => by rw [h]; rfl
abbrev s_number_of : Stmt := topS 34
theorem sc_number_of : FnScope ["word", "low", "high", "sign"] ["word", "low", "high"] (defScope s_number_of) := ⟨rfl, rfl, rfl, by decide +kernel, rfl, by decide +kernel, by decide +kernel⟩
set_option maxHeartbeats 16000000 in
theorem ok_number_of {P : Program} {w : World} {K : PySem.W.Frag} {mg : Str → Option Value} {base : Heap} {c : Cls4} {f : Addr} {fd : FuncData} (B : Blt mg) (hc : ClsOk K c mg) (F : FD K "number_of" "number_of" s_number_of f fd) : FnOk P w K mg base CX0 1 f fd ["word", "low", "high"] (spP K R_numberOf) := by
  have sc := sc_number_of
  refine F.ok sc (fun vs H Q E h => len_P (n := 3) len_number_of h) (fun cdv A outer s H vs Q E hr h => ?_)
  have hu := hu_of hr
  refine ⟨_, PSs.nox ((pss_cons (ps_if (PW.pt (pw_or (pt_not (pt_chain op_le op_le pe_int (pe_callB xc_lenZ (by rfl) B.len boot_len (pa_cons (pv 0) pa_nil)) pe_int)) (pw_or1 (pt_not (pt_val (pe_callB (xc_all (K := K) rfl) (by rfl) B.all boot_all (pa_cons (pe_lc (own := [("sign", 3)]) rfl sc.nd (pi_str (pv 0)) (blkOk_by (own := [("sign", 3)]) (N := ["word", "low", "high", "sign"]) (sc := defScope s_number_of) (by decide +kernel)) (fun _ _ _ _ _ => (pg_name (i := 3) sc.nd rfl (Or.inl rfl))) (fun _ _ _ _ _ => pts_nil) (fun _ _ _ _ _ => (pe_cmpR xo_inZ (pv 3) (pe_gs (by rfl) B.c_DIGITS) rfl))) pa_nil)))))))
        (pss_one (ps_ret pe_non))
        pss_nil) 
      (pss_one (ps_ret (pe_ifExp (pt_chain op_le op_le (pv 1) (pe_callTy xc_intZ (by rfl) B.int boot_int (pa_cons (pv 0) pa_nil)) (pv 2)) (pe_callTy xc_intZ (by rfl) B.int boot_int (pa_cons (pv 0) pa_nil)) pe_non))))), read_P h ?_⟩
  rintro ds d ⟨n, lo, hi, h0, h1, hlo, hhi, rfl, rfl⟩
  obtain ⟨⟨l1, l3⟩, hd⟩ := num_ok h0 h1
  have hsz : sizeLine = 16777216 := by decide
  have hall : ((TL.tl (numT n)).map fun c => decide (c ∈ TL.tl DIGITSs)).all id = true := by
    rw [List.all_eq_true]
    intro b hb
    obtain ⟨c, hc, rfl⟩ := List.mem_map.mp hb
    exact decide_eq_true (hd c hc)
  refine run_seq (run_no (EdT.is (et_or (et_not (et_test (ed_chain (p := true) (ed_int 1) (ed_cb (ea_cons (ed_var rfl) ea_nil) (rc_lenZ (by omega))) (RvD.is rv_bl (congrArg D.bl (decide_eq_true (by omega)))) (ed_int 4) rv_bl rfl))) fun _ => et_not (et_B (ed_cb (ea_cons (ed_lcB0 sgn (fun c => decide (c ∈ TL.tl DIGITSs)) (it_str (ed_var rfl)) (show (TL.tl (numT n)).length ≤ 100000 by have : (TL.tl (numT n)).length = (numT n).length := Array.length_toList; omega) fun c hc => ⟨_, _, tg_name, by simp, ed_op (ed_var rfl) (ed_str _) rv_inZ⟩) ea_nil) rc_all))) (by rw [hall, decide_eq_true (by omega)]; rfl)) (run_next ?_))
  have hr : PySem.intText? (numT n) = some n := PySem.W.KIN.num_reads h0 (by omega)
  refine run_ret (ed_if (EdT.is (et_test (ed_chain (p := true) (ed_var rfl) (ed_cb (ea_cons (ed_var rfl) ea_nil) (rc_intZ hr (by omega))) (RvD.is rv_bl (congrArg D.bl (decide_eq_true (by omega)))) (ed_var rfl) rv_bl rfl)) (decide_eq_true (by omega))) (fun _ => ed_cb (ea_cons (ed_var rfl) ea_nil) (rc_intZ hr (by omega))) fun hb => (by cases hb)) rfl
theorem len_number_at : ∀ ds d, R_numberAt ds d → ds.length = 5 := fun _ _ ⟨_, _, _, _, _, _, _, _, _, _, _, h, _⟩ => by rw [h]; rfl
abbrev s_number_at : Stmt := topS 35
theorem sc_number_at : FnScope ["words", "at", "line", "low", "high", "found"] ["words", "at", "line", "low", "high"] (defScope s_number_at) := ⟨rfl, rfl, rfl, by decide +kernel, rfl, by decide +kernel, by decide +kernel⟩
set_option maxHeartbeats 16000000 in
theorem ok_number_at {P : Program} {w : World} {K : PySem.W.Frag} {mg : Str → Option Value} {base : Heap} {c : Cls4} {f : Addr} {fd : FuncData} (B : Blt mg) (hc : ClsOk K c mg)
    (h_number_of : Fn P w K mg base "number_of" 1 ["word", "low", "high"] (spP K R_numberOf))
    (h_word_at : Fn P w K mg base "word_at" 1 ["words", "at", "line"] (spP K R_wordAt)) (F : FD K "number_at" "number_at" s_number_at f fd) : FnOk P w K mg base CX0 2 f fd ["words", "at", "line", "low", "high"] (spP K R_numberAt) := by
  have sc := sc_number_at
  refine F.ok sc (fun vs H Q E h => len_P (n := 5) len_number_at h) (fun cdv A outer s H vs Q E hr h => ?_)
  have hu := hu_of hr
  refine ⟨_, PSs.nox ((pss_cons (ps_set (i := 5) sc.nd rfl (Or.inl rfl) (pe_fn h_number_of (hr.mono (by decide)) (by rfl) (pa_cons (pe_fn h_word_at (hr.mono (by decide)) (by rfl) (pa_cons (pv 0) (pa_cons (pv 1) (pa_cons (pv 2) pa_nil)))) (pa_cons (pv 3) (pa_cons (pv 4) pa_nil))))) 
      (pss_cons (ps_if (pt_cmpR xo_isN (pv 5) pe_non (nomark _))
        (pss_one ps_never)
        pss_nil) 
      (pss_one (ps_ret (pv 5)))))), read_P h ?_⟩
  rintro ds d ⟨ws, k, line, n, lo, hi, hk, h0, h1, hlo, hhi, rfl, rfl⟩
  refine run_seq (run_asg (ed_call (d := .int n) (ea_cons (ed_call (d := .str (numT n)) (ea_cons (ed_var rfl) (ea_cons (ed_var rfl) (ea_cons (ed_var rfl) ea_nil))) ⟨ws, k, line, _, hk, rfl, rfl⟩) (ea_cons (ed_var rfl) (ea_cons (ed_var rfl) ea_nil))) ⟨n, lo, hi, h0, h1, hlo, hhi, rfl, rfl⟩) ?_)
  refine run_seq (run_no (EdT.is (et_test (ed_op (ed_var rfl) ed_non rv_isN)) rfl) (run_next ?_))
  exact run_ret (ed_var rfl) rfl
theorem len_new_name_at : ∀ ds d, R_newName ds d → ds.length = 4 := fun _ _ ⟨_, _, _, _, _, _, _, _, h, _⟩ => by rcases h with h | h <;> rw [h] <;> rfl
abbrev s_new_name_at : Stmt := topS 36
theorem sc_new_name_at : FnScope ["words", "at", "line", "known", "word"] ["words", "at", "line", "known"] (defScope s_new_name_at) := ⟨rfl, rfl, rfl, by decide +kernel, rfl, by decide +kernel, by decide +kernel⟩
set_option maxHeartbeats 16000000 in
theorem ok_new_name_at {P : Program} {w : World} {K : PySem.W.Frag} {mg : Str → Option Value} {base : Heap} {c : Cls4} {f : Addr} {fd : FuncData} (B : Blt mg) (hc : ClsOk K c mg)
    (h_word_at : Fn P w K mg base "word_at" 1 ["words", "at", "line"] (spP K R_wordAt))
    (h_is_name : Fn P w K mg base "is_name" 1 ["value"] (spP K R_isName)) (F : FD K "new_name_at" "new_name_at" s_new_name_at f fd) : FnOk P w K mg base CX0 2 f fd ["words", "at", "line", "known"] (spP K R_newName) := by
  have sc := sc_new_name_at
  refine F.ok sc (fun vs H Q E h => len_P (n := 4) len_new_name_at h) (fun cdv A outer s H vs Q E hr h => ?_)
  have hu := hu_of hr
  refine ⟨_, PSs.nox ((pss_cons (ps_set (i := 4) sc.nd rfl (Or.inl rfl) (pe_fn h_word_at (hr.mono (by decide)) (by rfl) (pa_cons (pv 0) (pa_cons (pv 1) (pa_cons (pv 2) pa_nil))))) 
      (pss_cons (ps_if (PW.pt (pw_or (pt_not (pt_val (pe_fn h_is_name (hr.mono (by decide)) (by rfl) (pa_cons (pv 4) pa_nil)))) (pw_or1 (pt_cmpR (xo_in (K := K)) (pv 4) (pv 3) rfl))))
        (pss_one ps_never)
        pss_nil) 
      (pss_one (ps_ret (pv 4)))))), read_P h ?_⟩
  rintro ds d ⟨ws, k, line, l, w, hk, hw, hwl, hds, rfl⟩
  have hf : decide (w ∈ l) = false := decide_eq_false hwl
  rcases hds with rfl | rfl
  · refine run_seq (run_asg (ed_call (d := .str w) (ea_cons (ed_var rfl) (ea_cons (ed_var rfl) (ea_cons (ed_var rfl) ea_nil))) ⟨ws, k, line, _, hk, rfl, rfl⟩) ?_)
    refine run_seq (run_no (EdT.is (et_or (et_not (et_B (ed_call (d := .bl true) (ea_cons (ed_var rfl) ea_nil) ⟨w, hw, rfl, rfl⟩))) fun _ => et_test (ed_op (ed_var rfl) (ed_var rfl) rv_inL)) (by rw [hf]; rfl)) (run_next ?_))
    exact run_ret (ed_var rfl) rfl
  · refine run_seq (run_asg (ed_call (d := .str w) (ea_cons (ed_var rfl) (ea_cons (ed_var rfl) (ea_cons (ed_var rfl) ea_nil))) ⟨ws, k, line, _, hk, rfl, rfl⟩) ?_)
    refine run_seq (run_no (EdT.is (et_or (et_not (et_B (ed_call (d := .bl true) (ea_cons (ed_var rfl) ea_nil) ⟨w, hw, rfl, rfl⟩))) fun _ => et_test (ed_op (ed_var rfl) (ed_var rfl) rv_inF)) (by rw [hf]; rfl)) (run_next ?_))
    exact run_ret (ed_var rfl) rfl
theorem len_one_of_at : ∀ ds d, R_oneOf ds d → ds.length = 4 := fun _ _ ⟨_, _, _, _, _, _, _, h, _⟩ => by rcases h with h | h | h <;> rw [h] <;> rfl
abbrev s_one_of_at : Stmt := topS 37
theorem sc_one_of_at : FnScope ["words", "at", "line", "known", "word"] ["words", "at", "line", "known"] (defScope s_one_of_at) := ⟨rfl, rfl, rfl, by decide +kernel, rfl, by decide +kernel, by decide +kernel⟩
set_option maxHeartbeats 16000000 in
theorem ok_one_of_at {P : Program} {w : World} {K : PySem.W.Frag} {mg : Str → Option Value} {base : Heap} {c : Cls4} {f : Addr} {fd : FuncData} (B : Blt mg) (hc : ClsOk K c mg)
    (h_word_at : Fn P w K mg base "word_at" 1 ["words", "at", "line"] (spP K R_wordAt)) (F : FD K "one_of_at" "one_of_at" s_one_of_at f fd) : FnOk P w K mg base CX0 2 f fd ["words", "at", "line", "known"] (spP K R_oneOf) := by
  have sc := sc_one_of_at
  refine F.ok sc (fun vs H Q E h => len_P (n := 4) len_one_of_at h) (fun cdv A outer s H vs Q E hr h => ?_)
  have hu := hu_of hr
  refine ⟨_, PSs.nox ((pss_cons (ps_set (i := 4) sc.nd rfl (Or.inl rfl) (pe_fn h_word_at (hr.mono (by decide)) (by rfl) (pa_cons (pv 0) (pa_cons (pv 1) (pa_cons (pv 2) pa_nil))))) 
      (pss_cons (ps_if (pt_cmpR (xo_notIn (K := K)) (pv 4) (pv 3) rfl)
        (pss_one ps_never)
        pss_nil) 
      (pss_one (ps_ret (pv 4)))))), read_P h ?_⟩
  rintro ds d ⟨ws, k, line, l, w, hk, hwl, hds, rfl⟩
  have hf : decide (w ∈ l) = true := decide_eq_true hwl
  rcases hds with rfl | rfl | rfl
  · refine run_seq (run_asg (ed_call (d := .str w) (ea_cons (ed_var rfl) (ea_cons (ed_var rfl) (ea_cons (ed_var rfl) ea_nil))) ⟨ws, k, line, _, hk, rfl, rfl⟩) ?_)
    exact run_seq (run_no (EdT.is (et_test (ed_op (ed_var rfl) (ed_var rfl) rv_notInL)) (by rw [hf]; rfl)) (run_next (run_ret (ed_var rfl) rfl)))
  · refine run_seq (run_asg (ed_call (d := .str w) (ea_cons (ed_var rfl) (ea_cons (ed_var rfl) (ea_cons (ed_var rfl) ea_nil))) ⟨ws, k, line, _, hk, rfl, rfl⟩) ?_)
    exact run_seq (run_no (EdT.is (et_test (ed_op (ed_var rfl) (ed_var rfl) rv_notInF)) (by rw [hf]; rfl)) (run_next (run_ret (ed_var rfl) rfl)))
  · refine run_seq (run_asg (ed_call (d := .str w) (ea_cons (ed_var rfl) (ea_cons (ed_var rfl) (ea_cons (ed_var rfl) ea_nil))) ⟨ws, k, line, _, hk, rfl, rfl⟩) ?_)
    exact run_seq (run_no (EdT.is (et_test (ed_op (ed_var rfl) (ed_var rfl) rv_notInT)) (by rw [hf]; rfl)) (run_next (run_ret (ed_var rfl) rfl)))
end Am
/-! A test that looks into a cell; what stores.py promises. -/
namespace Am
open PySem PySem.Spec PyProof.Rows L2
section
variable {K : PySem.W.Frag} {M : List Addr} {ρ : Ro} {μ : Mem}
theorem evt_peek {tt : TT} {p : Addr} {i j : Nat} {ds : List D} {b : Bool} {PT : Bool → Mem → Prop} (hj : ρ[j]? = some (some (.loc p))) (hi : μ[i]? = some (p, .lst ds)) (h : EdT K tt (ρ.set j (some (.lst ds))) b) (q : PT b μ) : EvT K M tt ρ μ PT := fun G0 H0 G1 H1 σ s1 Q k => by
  obtain ⟨⟨xs, hx, rr⟩, gp⟩ := s1.ce.at_ _ (List.mem_of_getElem? hi)
  have sg : Same G1 (upd G1 p (.lst xs)) := same_new gp
  have sH : Same (upd G1 p (.lst xs)) H1 := fun b o z => by
    by_cases e : b = p
    · subst e; rw [upd_same] at z; rw [hx]; exact z
    · rw [upd_ne e] at z; exact s1.sub b o z
  obtain ⟨v, h1, h2⟩ := s1.sl.get hj
  cases h2
  have r2 : Rep K (upd G1 p (.lst xs)) (.ref p) (.lst ds) := .lst upd_same (rr.mono sg)
  have s2 := (s1.sl.mono sg).set r2 j
  have eσ : σ.set j (some (.ref p)) = σ := by
    apply List.ext_getElem?
    intro n
    by_cases e : j = n
    · subst e
      rw [List.getElem?_set_self (by
        rcases Nat.lt_or_ge j σ.length with z | z
        · exact z
        · rw [List.getElem?_eq_none z] at h1; cases h1), h1]
    · rw [List.getElem?_set_ne e]
  rw [eσ] at s2
  refine h _ H1 σ sH s2 _ fun G' H' g2 => ?_
  have g3 : Go [] G1 H1 (without G' p) H' := by
    refine ⟨fun b o z => ?_, fun b o z => ?_, g2.keep, g2.dom, g2.cel, fun b o z no n => ?_⟩
    · have e : b ≠ p := ne_of_none z gp
      rw [without_ne e]
      exact g2.g _ _ (by rw [upd_ne e]; exact z)
    · by_cases e : b = p
      · subst e
        have : without G' b b = none := if_pos rfl
        rw [this] at z; cases z
      · rw [without_ne e] at z
        exact g2.sub _ _ z
    · by_cases e : b = p
      · subst e
        exact if_pos rfl
      · rw [without_ne e]
        exact g2.new b o z no (by rw [upd_ne e]; exact n)
  exact k b _ H' μ g3.g (s1.step g3) q
theorem run_noP {Φ : Post} {tc : TT} {ts tu : TS} (h : EvT K M tc ρ μ fun b μ1 => b = false ∧ μ1 = μ) (h2 : Run K M tu ρ μ Φ) : Run K M (tIfS tc ts tu) ρ μ Φ := run_ifG (h.imp fun b μ1 hb => by
  obtain ⟨rfl, rfl⟩ := hb
  rw [if_neg (by decide)]
  exact h2)
end
/-! ### items -/
theorem item_at {pre post hs : List Str} {as : List Int} {i : Nat} {n : Str} {a : Int} (h1 : hs[i]? = some n) (h2 : as[i]? = some a) : (pre ++ (itemsW hs as ++ post))[pre.length + i]? = some (itemW (n, a)) := by
  rw [List.getElem?_append_right (by omega), Nat.add_sub_cancel_left]
  have hz : (hs.zip as)[i]? = some (n, a) := by rw [List.getElem?_zip_eq_some]; exact ⟨h1, h2⟩
  have hl := (List.getElem?_eq_some_iff.mp hz).1
  rw [List.getElem?_append_left (by unfold itemsW; rw [List.length_map]; exact hl)]
  unfold itemsW
  rw [List.getElem?_map, hz]
  rfl
theorem item_colon (p : Str × Int) : 58 ∈ TL.tl (itemW p) := by
  unfold itemW
  rw [TL.tl_append, TL.tl_append]
  exact List.mem_append_left _ (List.mem_append_right _ (by decide +kernel))
/-- names that may stand ahead of a colon -/
structure LinksOk (known hs : List Str) (as : List Int) : Prop where
  ne : hs ≠ []
  nd : hs.Nodup
  sub : ∀ h ∈ hs, h ∈ known
  len : hs.length = as.length
  am : ∀ a ∈ as, 1 ≤ a ∧ a ≤ 4
  colon : ∀ h ∈ hs, 58 ∉ TL.tl h
  short : ∀ h ∈ hs, h.length ≤ 2
theorem part_item {n : Str} {a : Int} (h : 58 ∉ TL.tl n) : Txt.partition (itemW (n, a)) ":" = (n, (":" : Str), numT a) := TL.partition_app (y := ":") (s := 58) (S := []) (by decide +kernel) h
theorem part_plain {n : Str} (h : 58 ∉ TL.tl n) : Txt.partition n ":" = (n, Str.empty, Str.empty) := TL.partition_none (y := ":") (s := 58) (S := []) (by decide +kernel) h
def R_links : List D → D → Prop := fun ds d => ∃ (pre post known hs : List Str) (as : List Int) (line e : D), LinksOk known hs as ∧ (pre ++ (itemsW hs as ++ post)).length ≤ 100 ∧
  ((e = .non ∧ post = []) ∨ ∃ rest, e = .str "and" ∧ post = ("and" : Str) :: rest) ∧
  ds = [encWs (pre ++ (itemsW hs as ++ post)), .int (pre.length : Nat), line, .lst (sD known), e] ∧ d = .tup [.tup (sD hs), .tup (iD as), .int ((pre.length + hs.length : Nat) : Int)]
def R_ritems : List D → D → Prop := fun ds d => ∃ (r : List (Str × Option Int)) (nodes : List Str) (line : D), RdOk nodes 4 r ∧ r.length ≤ 5 ∧ (∀ n ∈ nodes, 58 ∉ TL.tl n ∧ n.length ≤ 2) ∧ ds = [encWs (readW r), line, .tupF (sD nodes)] ∧ d = encR r
def R_Minit (c : Cls4) : List D → Mem → (D → Mem → Prop) → Prop := fun ds μ Φ => ∃ p a b e f g h, ds = [.loc p, a, b, e, f, g, h] ∧ μ = [(p, .ins c.M [])] ∧ Φ = fun d μ' => d = .non ∧ μ' = [(p, .ins c.M [("label", a), ("kind", b), ("nodes", e), ("helpers", f), ("amounts", g), ("swap", h)])]
def R_rmend (c : Cls4) : List D → D → Prop := fun ds d => ∃ (md : Mnd) (nodes labels : List Str) (line : D), MdOk nodes 4 md ∧ nodes.length ≤ 5 ∧ (∀ n ∈ nodes, 58 ∉ TL.tl n ∧ n.length ≤ 2) ∧ NameOk md.label ∧ md.label ∉ labels ∧ ds = [encWs (mendW md), line, .lst (sD labels), .tupF (sD nodes)] ∧ d = encM c md
end Am
namespace Am
open PySem PySem.Spec PyProof.Rows L2
theorem len_links_at : ∀ ds d, R_links ds d → ds.length = 5 := fun _ _ ⟨_, _, _, _, _, _, _, _, _, _, h, _⟩ => by rw [h]; rfl
abbrev s_links_at : Stmt := topS 42
theorem sc_links_at : FnScope ["words", "start", "line", "known", "end", "helpers", "amounts", "at", "name", "colon", "rest", "amount"] ["words", "start", "line", "known", "end"] (defScope s_links_at) := ⟨rfl, rfl, rfl, by decide +kernel, rfl, by decide +kernel, by decide +kernel⟩
set_option maxHeartbeats 16000000 in
theorem ok_links_at {P : Program} {w : World} {K : PySem.W.Frag} {mg : Str → Option Value} {base : Heap} {c : Cls4} {f : Addr} {fd : FuncData} (B : Blt mg) (hc : ClsOk K c mg)
    (h_word_at : Fn P w K mg base "word_at" 1 ["words", "at", "line"] (spP K R_wordAt))
    (h_number_of : Fn P w K mg base "number_of" 1 ["word", "low", "high"] (spP K R_numberOf)) (F : FD K "links_at" "links_at" s_links_at f fd) : FnOk P w K mg base CX0 2 f fd ["words", "start", "line", "known", "end"] (spP K R_links) := by
  have sc := sc_links_at
  refine F.ok sc (fun vs H Q E h => len_P (n := 5) len_links_at h) (fun cdv A outer s H vs Q E hr h => ?_)
  have hu := hu_of hr
  refine ⟨_, PSs.nox ((pss_cons (ps_par3 (i := 5) (j := 6) (l := 7) rfl sc.nd rfl rfl rfl (by decide) (by decide) (by decide) rfl rfl rfl (pa_cons (pe_lst pa_nil) (pa_cons (pe_lst pa_nil) (pa_cons (pv 1) pa_nil))) (by rfl)) 
      (pss_cons (ps_while PassesOwn.never (PW.pt (pw_or (pt_cmpR op_eq (pv 7) (pv 1) (nomark _)) (pw_or1 (PW.pt (pw_and (pt_cmpR op_lt (pv 7) (pe_callB (xc_len (K := K)) (by rfl) B.len boot_len (pa_cons (pv 0) pa_nil)) (nomark _)) (pw_and1 (pt_cmpR op_ne (pe_ix (xx_list (K := K)) (pv 0) (pv 7) (fun _ _ => rfl)) (pv 4) (nomark _))))))))
        (pss_cons (ps_asg (xe_partition (pe_fn h_word_at (hr.mono (by decide)) (by rfl) (pa_cons (pv 0) (pa_cons (pv 7) (pa_cons (pv 2) pa_nil)))) pe_str) (xg_tup (K := K) (n := 3) rfl (pgs_cons (pg_name (i := 8) sc.nd rfl (Or.inl rfl)) (pgs_cons (pg_name (i := 9) sc.nd rfl (Or.inl rfl)) (pgs_cons (pg_name (i := 10) sc.nd rfl (Or.inl rfl)) pgs_nil))))) 
        (pss_cons (ps_set (i := 11) sc.nd rfl (Or.inl rfl) (pe_fn h_number_of (hr.mono (by decide)) (by rfl) (pa_cons (pv 10) (pa_cons pe_int (pa_cons (pe_gi (by rfl) B.c_MOST) pa_nil))))) 
        (pss_cons (ps_if (PW.pt (pw_or (pt_cmpR (xo_notIn (K := K)) (pv 8) (pv 3) rfl) (pw_or (pt_cmpR (xo_in (K := K)) (pv 8) (pv 5) rfl) (pw_or1 (pt_cmpR xo_isN (pv 11) pe_non (nomark _))))))
          (pss_one ps_never)
          pss_nil) 
        (pss_cons (ps_expr (xe_bm (K := K) PySem.F.plainAttrs_list PySem.F.slot_list_append PySem.F.type_list_append mt_append (pv 5) (pa_cons (pv 8) pa_nil))) 
        (pss_cons (ps_expr (xe_bm (K := K) PySem.F.plainAttrs_list PySem.F.slot_list_append PySem.F.type_list_append mt_append (pv 6) (pa_cons (pv 11) pa_nil))) 
        (pss_one (ps_aug (i := 7) sc.nd rfl (Or.inl rfl) pe_int ip_add)))))))) 
      (pss_one (ps_ret (pe_tup (pa_cons (pe_callTy (xc_tuple (K := K)) (by rfl) B.tuple boot_tuple (pa_cons (pv 5) pa_nil)) (pa_cons (pe_callTy (xc_tuple (K := K)) (by rfl) B.tuple boot_tuple (pa_cons (pv 6) pa_nil)) (pa_cons (pv 7) pa_nil))))))))), read_P h ?_⟩
  rintro ds d ⟨pre, post, known, hs, as, line, e, lk, hlen, he, rfl, rfl⟩
  obtain ⟨ev, hev, hsc, hnc, hpost⟩ : ∃ ev, scD e = some ev ∧ (∀ a, scal (V.str a) ev = true) ∧ (∀ a : Str, 58 ∈ TL.tl a → ¬ V.str a = ev) ∧ (post = [] ∨ ∃ rest, post = ("and" : Str) :: rest ∧ ev = V.str "and") := by
    rcases he with ⟨rfl, rfl⟩ | ⟨rest, rfl, rfl⟩
    · exact ⟨.non, rfl, fun _ => rfl, fun _ _ h => (nomatch h), .inl rfl⟩
    · exact ⟨.str "and", rfl, fun _ => rfl, fun a ha h => by
        have h := V.str.inj h
        subst h
        exact absurd ha (by decide +kernel), .inr ⟨rest, rfl, rfl⟩⟩
  have hll : (itemsW hs as).length = hs.length := by unfold itemsW; rw [List.length_map, List.length_zip, ← lk.len]; omega
  rw [List.length_append, List.length_append, hll] at hlen
  have hpos := List.length_pos_iff.mpr lk.ne
  have hwl : ((sD (pre ++ (itemsW hs as ++ post))).length : Int) = ((pre.length + hs.length + post.length : Nat) : Int) := by
    rw [List.length_map, List.length_append, List.length_append, hll]
    omega
  refine run_mid (fun ρ' μ' => ∃ p q, p ≠ q ∧ ρ' = [some (encWs (pre ++ (itemsW hs as ++ post))), some (.int (pre.length : Nat)), some line, some (.lst (sD known)), some e, some (.loc p), some (.loc q), some (.int (pre.length : Nat)), none, none, none, none] ∧ μ' = [(q, .lst []), (p, .lst [])]) ?_ ?_
  · refine run_par3G (eva_cons (P1 := fun d μ1 => ∃ p, d = .loc p ∧ μ1 = [(p, .lst [])]) (ev_lstC (eva_of ea_nil ⟨Nat.zero_le _, fun p hpM hpμ => ⟨p, rfl, rfl⟩⟩)) ?_)
    rintro _ _ ⟨p, rfl, rfl⟩
    refine eva_cons (P1 := fun d μ1 => ∃ q, p ≠ q ∧ d = .loc q ∧ μ1 = [(q, .lst []), (p, .lst [])]) (ev_lstC (eva_of ea_nil ⟨Nat.zero_le _, fun q hqM hqμ => ⟨q, fun z => hqμ (by rw [z]; simp), rfl, rfl⟩⟩)) ?_
    rintro _ _ ⟨q, hpq, rfl, rfl⟩
    exact eva_of (ea_cons (ed_var rfl) ea_nil) ⟨_, _, _, rfl, p, q, hpq, rfl, rfl⟩
  rintro _ _ ⟨p, q, hpq, rfl, rfl⟩
  refine run_seq (run_while (fun m ρ μ => ∃ i x y z t, m = hs.length - i ∧ i ≤ hs.length ∧ ρ = [some (encWs (pre ++ (itemsW hs as ++ post))), some (.int (pre.length : Nat)), some line, some (.lst (sD known)), some e, some (.loc p), some (.loc q), some (.int ((pre.length + i : Nat) : Int)), x, y, z, t] ∧ μ = [(q, .lst (iD (as.take i))), (p, .lst (sD (hs.take i)))]) hs.length ⟨0, none, none, none, none, rfl, Nat.zero_le _, rfl, rfl⟩ ?_)
  rintro m _ _ ⟨i, x, y, z, t, hm, hi, rfl, rfl⟩
  rcases Nat.lt_or_ge i hs.length with hlt | hge
  · -- one more
    obtain ⟨n, hn⟩ : ∃ n, hs[i]? = some n := ⟨_, List.getElem?_eq_getElem hlt⟩
    obtain ⟨a, ha⟩ : ∃ a, as[i]? = some a := ⟨_, List.getElem?_eq_getElem (by rw [← lk.len]; exact hlt)⟩
    have hw := item_at (pre := pre) (post := post) hn ha
    have hwD : (sD (pre ++ (itemsW hs as ++ post)))[pre.length + i]? = some (.str (itemW (n, a))) := by rw [List.getElem?_map, hw]; rfl
    have hnm : n ∈ hs := List.mem_of_getElem? hn
    have ham := lk.am a (List.mem_of_getElem? ha)
    have hcol := lk.colon n hnm
    have hns := lk.short n hnm
    refine evt_of (b := true) (EdT.is (et_or (et_test (ed_op (ed_var rfl) (ed_var rfl) (rv_eq rfl rfl rfl))) fun _ => et_and (et_test (ed_op (ed_var rfl) (ed_cb (ea_cons (ed_var rfl) ea_nil) rc_lenL) rv_bl)) fun _ => et_test (ed_op (ed_op (ed_var rfl) (ed_var rfl) (rv_ixL (atI_nat hwD))) (ed_var rfl) (rv_ne rfl hev (hsc _)))) ?_) ?_
    · rw [hwl, decide_eq_true (show ((pre.length + i : Nat) : Int) < _ by omega), decide_eq_false (hnc _ (item_colon (n, a)))]
      simp
    rw [if_pos rfl]
    have etn : hs.take (i + 1) = hs.take i ++ [n] := by rw [List.take_add_one, hn]; rfl
    have eta : as.take (i + 1) = as.take i ++ [a] := by rw [List.take_add_one, ha]; rfl
    have hnin : n ∉ hs.take i := fun hmem => by
      have hnd := lk.nd
      rw [← List.take_append_drop i hs, List.nodup_append] at hnd
      refine hnd.2.2 n hmem n ?_ rfl
      rw [List.drop_eq_getElem_cons hlt]
      have : hs[i] = n := by
        have h2 := List.getElem?_eq_getElem hlt
        rw [hn] at h2
        exact (Option.some.inj h2).symm
      rw [this]
      simp
    have hsz : sizeLine = 16777216 := by decide
    have hil := item_short (p := (n, a)) hns (by omega) (show a ≤ 100 by omega)
    refine run_seq (run_asgT (d := .tup [.str n, .str ":", .str (numT a)]) (EvD.is (ed_part (ed_call (d := .str (itemW (n, a))) (ea_cons (ed_var rfl) (ea_cons (ed_var rfl) (ea_cons (ed_var rfl) ea_nil))) ⟨_, _, _, _, hw, rfl, rfl⟩) (ed_str ":") (by decide +kernel) (by omega)) (by rw [part_item hcol])) tg_three ?_)
    refine run_seq (run_asg (ed_call (d := .int a) (ea_cons (ed_var rfl) (ea_cons (ed_int 1) (ea_cons (ed_int 40) ea_nil))) ⟨a, 1, 40, by omega, by omega, by omega, by omega, rfl, rfl⟩) ?_)
    refine run_seq (run_noP (evt_peek (j := 5) (i := 1) rfl rfl (EdT.is (et_or (et_test (ed_op (ed_var rfl) (ed_var rfl) rv_notInL)) fun _ => et_or (et_test (ed_op (ed_var rfl) (ed_var rfl) rv_inL)) fun _ => et_test (ed_op (ed_var rfl) ed_non rv_isN)) (by
      rw [decide_eq_true (lk.sub n hnm), decide_eq_false hnin]
      rfl)) ⟨rfl, rfl⟩) (run_next ?_))
    refine run_seq (run_app (i := 1) rfl rfl (ed_var rfl) (by rw [List.length_map, List.length_take]; omega) ?_)
    refine run_seq (run_app (i := 0) rfl rfl (ed_var rfl) (by rw [List.length_map, List.length_take]; omega) ?_)
    refine run_aug rfl (ed_int 1) ⟨hs.length - (i + 1), by omega, i + 1, some (.str n), some (.str ":"), some (.str (numT a)), some (.int a), rfl, hlt, ?_, ?_⟩
    · show [_, _, _, _, _, _, _, some (D.int (((pre.length + i : Nat) : Int) + 1)), _, _, _, _] = _
      rw [show ((pre.length + i : Nat) : Int) + 1 = ((pre.length + (i + 1) : Nat) : Int) by omega]
    · rw [etn, eta, show iD (as.take i ++ [a]) = iD (as.take i) ++ [D.int a] from List.map_append, show sD (hs.take i ++ [n]) = sD (hs.take i) ++ [D.str n] from List.map_append]
      rfl
  · have ei : i = hs.length := by omega
    subst ei
    have hat : hs.length ≠ 0 := by omega
    refine evt_of (b := false) ?_ ?_
    · rcases hpost with rfl | ⟨rest, rfl, rfl⟩
      · refine EdT.is (et_or (et_test (ed_op (ed_var rfl) (ed_var rfl) (rv_eq rfl rfl rfl))) fun _ => et_and (b := false) (et_test (ed_op (ed_var rfl) (ed_cb (ea_cons (ed_var rfl) ea_nil) rc_lenL) rv_bl)) fun hb => ?_) ?_
        · have hb := of_decide_eq_true hb
          rw [hwl] at hb
          simp at hb
        · rw [Bool.and_false, Bool.or_false]
          refine decide_eq_false fun h => ?_
          have := V.int.inj h
          omega
      · have hwD : (sD (pre ++ (itemsW hs as ++ (("and" : Str) :: rest))))[pre.length + hs.length]? = some (.str "and") := by
          rw [List.getElem?_map, List.getElem?_append_right (by omega), Nat.add_sub_cancel_left, List.getElem?_append_right (by omega), hll, Nat.sub_self]
          rfl
        refine EdT.is (et_or (et_test (ed_op (ed_var rfl) (ed_var rfl) (rv_eq rfl rfl rfl))) fun _ => et_and (et_test (ed_op (ed_var rfl) (ed_cb (ea_cons (ed_var rfl) ea_nil) rc_lenL) rv_bl)) fun _ => et_test (ed_op (ed_op (ed_var rfl) (ed_var rfl) (rv_ixL (atI_nat hwD))) (ed_var rfl) (rv_ne rfl hev (hsc _)))) ?_
        rw [decide_eq_true (rfl : V.str "and" = V.str "and"), Bool.not_true, Bool.and_false, Bool.or_false]
        refine decide_eq_false fun h => ?_
        have := V.int.inj h
        omega
    rw [if_neg (by decide)]
    refine run_freeze (i := 6) (by simp) rfl (run_freeze (i := 5) (by simp) rfl ?_)
    rw [List.take_length, lk.len, List.take_length]
    exact run_ret (ed_tup (ea_cons (ed_cb (ea_cons (ed_var rfl) ea_nil) rc_tuple) (ea_cons (ed_cb (ea_cons (ed_var rfl) ea_nil) rc_tuple) (ea_cons (ed_var rfl) ea_nil))) (show 3 ≤ 100000 by decide)) rfl
theorem len_reader_items : ∀ ds d, R_ritems ds d → ds.length = 3 := fun _ _ ⟨_, _, _, _, _, _, h, _⟩ => by rw [h]; rfl
abbrev s_reader_items : Stmt := topS 43
theorem sc_reader_items : FnScope ["words", "line", "nodes", "found", "at", "name", "colon", "rest", "limit", "item"] ["words", "line", "nodes"] (defScope s_reader_items) := ⟨rfl, rfl, rfl, by decide +kernel, rfl, by decide +kernel, by decide +kernel⟩
set_option maxHeartbeats 16000000 in
theorem ok_reader_items {P : Program} {w : World} {K : PySem.W.Frag} {mg : Str → Option Value} {base : Heap} {c : Cls4} {f : Addr} {fd : FuncData} (B : Blt mg) (hc : ClsOk K c mg)
    (h_word_at : Fn P w K mg base "word_at" 1 ["words", "at", "line"] (spP K R_wordAt))
    (h_number_of : Fn P w K mg base "number_of" 1 ["word", "low", "high"] (spP K R_numberOf)) (F : FD K "reader_items" "reader_items" s_reader_items f fd) : FnOk P w K mg base CX0 2 f fd ["words", "line", "nodes"] (spP K R_ritems) := by
  have sc := sc_reader_items
  refine F.ok sc (fun vs H Q E h => len_P (n := 3) len_reader_items h) (fun cdv A outer s H vs Q E hr h => ?_)
  have hu := hu_of hr
  refine ⟨_, PSs.nox ((pss_cons (ps_set (i := 3) sc.nd rfl (Or.inl rfl) (pe_lst pa_nil)) 
      (pss_cons (ps_for PassesOwn.never rfl (pi_range2 (by rfl) B.range (pa_cons pe_int (pa_cons (pe_callB (xc_max (K := K) rfl) (by rfl) B.max boot_max (pa_cons (pe_lst (pa_cons pe_int (pa_cons (pe_callB (xc_len (K := K)) (by rfl) B.len boot_len (pa_cons (pv 0) pa_nil)) pa_nil))) pa_nil)) pa_nil))) (pg_name (i := 4) sc.nd rfl (Or.inl rfl))
        (pss_cons (ps_asg (xe_partition (pe_fn h_word_at (hr.mono (by decide)) (by rfl) (pa_cons (pv 0) (pa_cons (pv 4) (pa_cons (pv 1) pa_nil)))) pe_str) (xg_tup (K := K) (n := 3) rfl (pgs_cons (pg_name (i := 5) sc.nd rfl (Or.inl rfl)) (pgs_cons (pg_name (i := 6) sc.nd rfl (Or.inl rfl)) (pgs_cons (pg_name (i := 7) sc.nd rfl (Or.inl rfl)) pgs_nil))))) 
        (pss_cons (ps_set (i := 8) sc.nd rfl (Or.inl rfl) (pe_ifExp (pt_cmpR op_eq (pv 6) pe_str (nomark _)) (pe_fn h_number_of (hr.mono (by decide)) (by rfl) (pa_cons (pv 7) (pa_cons pe_int (pa_cons (pe_gi (by rfl) B.c_MOST) pa_nil)))) pe_non)) 
        (pss_cons (ps_if (PW.pt (pw_or (pt_cmpR (xo_notIn (K := K)) (pv 5) (pv 2) rfl) (pw_or (pt_cmpR (xo_in (K := K)) (pv 5) (pe_lc (own := [("item", 9)]) rfl sc.nd (xi_list (K := K) (pv 3)) (blkOk_by (own := [("item", 9)]) (N := ["words", "line", "nodes", "found", "at", "name", "colon", "rest", "limit", "item"]) (sc := defScope s_reader_items) (by decide +kernel)) (fun _ _ _ _ _ => (pg_name (i := 9) sc.nd rfl (Or.inl rfl))) (fun _ _ _ _ _ => pts_nil) (fun _ _ _ _ _ => (pe_ix (xx_tup (K := K)) (pv 9) pe_int (fun _ _ => rfl)))) rfl) (pw_or1 (PW.pt (pw_and (pt_cmpR op_eq (pv 6) pe_str (nomark _)) (pw_and1 (pt_cmpR xo_isN (pv 8) pe_non (nomark _)))))))))
          (pss_one ps_never)
          pss_nil) 
        (pss_one (ps_expr (xe_bm (K := K) PySem.F.plainAttrs_list PySem.F.slot_list_append PySem.F.type_list_append mt_append (pv 3) (pa_cons (pe_tup (pa_cons (pv 5) (pa_cons (pv 8) pa_nil))) pa_nil)))))))) 
      (pss_one (ps_ret (pe_callTy (xc_tuple (K := K)) (by rfl) B.tuple boot_tuple (pa_cons (pv 3) pa_nil))))))), read_P h ?_⟩
  rintro ds d ⟨r, nodes, line, ok, hr5, hnod, rfl, rfl⟩
  have hsz : sizeLine = 16777216 := by decide
  have hpos := List.length_pos_iff.mpr ok.ne
  have hwl : (sD (readW r)).length = r.length + 1 := by rw [List.length_map]; unfold readW; rw [List.length_cons, List.length_map]
  refine run_mid (fun ρ' μ' => ∃ q, ρ' = [some (encWs (readW r)), some line, some (.tupF (sD nodes)), some (.loc q), none, none, none, none, none, none] ∧ μ' = [(q, .lst [])]) ?_ ?_
  · exact run_asgG (ev_lstC (eva_of ea_nil ⟨Nat.zero_le _, fun q hqM hqμ => ⟨q, rfl, rfl⟩⟩))
  rintro _ _ ⟨q, rfl, rfl⟩
  have hmax : EvD K (tCB (rMax K) (tCons (tLst (tCons (tC (.int 2)) (tCons (tCB (rLenA K) (tCons (tVar 0) tNil)) tNil))) tNil)) [some (encWs (readW r)), some line, some (.tupF (sD nodes)), some (.loc q), none, none, none, none, none, none] (.int ((r.length + 1 : Nat) : Int)) := by
    refine ed_cb (ea_cons (ed_lst (ea_cons (ed_int 2) (ea_cons (ed_cb (ea_cons (ed_var rfl) ea_nil) rc_lenL) ea_nil)) (show 2 ≤ 100000 by decide)) ea_nil) (rc_max (ns := [2, ((sD (readW r)).length : Int)]) (show 0 < 2 by decide) ?_)
    intro k hk hle
    have h1 := hle _ (List.mem_cons_self ..)
    have h2 := hle _ (List.mem_cons_of_mem _ (List.mem_singleton.mpr rfl))
    rw [hwl] at hk h2
    simp only [List.mem_cons, List.not_mem_nil, or_false] at hk
    omega
  refine run_seq (run_for (it_rng2 (a := 1) (b := ((r.length + 1 : Nat) : Int)) (ea_cons (ed_int 1) (ea_cons hmax ea_nil)) (by omega))
    (fun i ρ μ => ∃ a b e f g h, ρ = [some (encWs (readW r)), some line, some (.tupF (sD nodes)), some (.loc q), a, b, e, f, g, h] ∧ μ = [(q, .lst ((r.take i).map encI))]) ⟨_, _, _, _, _, _, rfl, rfl⟩ (fun i d ρ1 μ1 hi hI => ?_) fun ρ1 μ1 hI => ?_)
  · obtain ⟨a, b, e, f, g, h, rfl, rfl⟩ := hI
    rw [List.getElem?_map] at hi
    cases hri : (List.range (((r.length + 1 : Nat) : Int) - 1).toNat)[i]? with
    | none => rw [hri] at hi; cases hi
    | some i' =>
      rw [hri] at hi
      obtain ⟨hil, hie⟩ := List.getElem?_eq_some_iff.mp hri
      rw [List.getElem_range] at hie
      subst hie
      rw [List.length_range] at hil
      have hi : D.int (1 + (i : Int)) = d := Option.some.inj hi
      subst hi
      have hlt : i < r.length := by omega
      obtain ⟨⟨n, lim⟩, hp⟩ : ∃ p, r[i]? = some p := ⟨_, List.getElem?_eq_getElem hlt⟩
      have hmem := List.mem_of_getElem? hp
      have hnin : n ∈ nodes := ok.sub _ hmem
      obtain ⟨hcol, hns⟩ := hnod n hnin
      have hw : (readW r)[1 + i]? = some (limW (n, lim)) := by
        unfold readW
        rw [Nat.add_comm, List.getElem?_cons_succ, List.getElem?_map, hp]
        rfl
      have hix : (D.int (1 + (i : Int))) = .int ((1 + i : Nat) : Int) := by rw [show (1 + (i : Int)) = ((1 + i : Nat) : Int) by omega]
      have etk : r.take (i + 1) = r.take i ++ [(n, lim)] := by rw [List.take_add_one, hp]; rfl
      have hnew : n ∉ (r.take i).map (·.1) := fun hm => by
        have hnd := ok.nd
        rw [← List.take_append_drop i r, List.map_append, List.nodup_append] at hnd
        refine hnd.2.2 n hm n ?_ rfl
        rw [List.drop_eq_getElem_cons hlt]
        have : r[i] = (n, lim) := by
          have h2 := List.getElem?_eq_getElem hlt
          rw [hp] at h2
          exact (Option.some.inj h2).symm
        rw [this]
        simp
      rw [hix]
      refine ⟨_, _, tg_name, ?_⟩
      cases lim with
      | none =>
        refine run_seq (run_asgT (d := .tup [.str n, .str Str.empty, .str Str.empty]) (EvD.is (ed_part (ed_call (d := .str n) (ea_cons (ed_var rfl) (ea_cons (ed_var rfl) (ea_cons (ed_var rfl) ea_nil))) ⟨_, _, _, _, hw, rfl, rfl⟩) (ed_str ":") (by decide +kernel) (by omega)) (by rw [part_plain hcol])) tg_three ?_)
        refine run_seq (run_asg (d := .non) (ed_if (EdT.is (et_test (ed_op (ed_var rfl) (ed_str ":") (rv_eq rfl rfl rfl))) (show decide (V.str Str.empty = V.str ":") = false by decide +kernel)) (fun hb => (by cases hb)) fun _ => ed_non) ?_)
        refine run_seq (run_noP (evt_peek (j := 3) (i := 0) rfl rfl (EdT.is (et_or (et_test (ed_op (ed_var rfl) (ed_var rfl) rv_notInF)) fun _ => et_or (et_test (ed_op (ed_var rfl) (ed_lcS0 encI (fun p => p.1) (it_list (ed_var rfl)) (by rw [List.length_take]; omega) fun p hp => ⟨_, _, tg_name, by simp, ed_op (ed_var rfl) (ed_int 0) (rv_ixT rfl)⟩) rv_inL)) fun _ => et_and (et_test (ed_op (ed_var rfl) (ed_str ":") (rv_eq rfl rfl rfl))) fun _ => et_test (ed_op (ed_var rfl) ed_non rv_isN)) (by
          rw [decide_eq_true hnin, decide_eq_false hnew, show decide (V.str Str.empty = V.str ":") = false by decide +kernel]
          rfl)) ⟨rfl, rfl⟩) (run_next ?_))
        refine run_app (i := 0) rfl rfl (ed_tup (ea_cons (ed_var rfl) (ea_cons (ed_var rfl) ea_nil)) (show 2 ≤ 100000 by decide)) (by rw [List.length_map, List.length_take]; omega) ⟨_, _, _, _, _, _, rfl, ?_⟩
        rw [etk, List.map_append]
        rfl
      | some x =>
        have hx := ok.am _ hmem x rfl
        have hil := lim_short (p := (n, some x)) hns (fun y hy => by cases hy; omega)
        refine run_seq (run_asgT (d := .tup [.str n, .str ":", .str (numT x)]) (EvD.is (ed_part (ed_call (d := .str (limW (n, some x))) (ea_cons (ed_var rfl) (ea_cons (ed_var rfl) (ea_cons (ed_var rfl) ea_nil))) ⟨_, _, _, _, hw, rfl, rfl⟩) (ed_str ":") (by decide +kernel) (by omega)) (by rw [show limW (n, some x) = itemW (n, x) from rfl, part_item hcol])) tg_three ?_)
        refine run_seq (run_asg (d := .int x) (ed_if (EdT.is (et_test (ed_op (ed_var rfl) (ed_str ":") (rv_eq rfl rfl rfl))) (show decide (V.str ":" = V.str ":") = true by decide +kernel)) (fun _ => ed_call (ea_cons (ed_var rfl) (ea_cons (ed_int 0) (ea_cons (ed_int 40) ea_nil))) ⟨x, 0, 40, hx.1, by omega, hx.1, by omega, rfl, rfl⟩) fun hb => (by cases hb)) ?_)
        refine run_seq (run_noP (evt_peek (j := 3) (i := 0) rfl rfl (EdT.is (et_or (et_test (ed_op (ed_var rfl) (ed_var rfl) rv_notInF)) fun _ => et_or (et_test (ed_op (ed_var rfl) (ed_lcS0 encI (fun p => p.1) (it_list (ed_var rfl)) (by rw [List.length_take]; omega) fun p hp => ⟨_, _, tg_name, by simp, ed_op (ed_var rfl) (ed_int 0) (rv_ixT rfl)⟩) rv_inL)) fun _ => et_and (et_test (ed_op (ed_var rfl) (ed_str ":") (rv_eq rfl rfl rfl))) fun _ => et_test (ed_op (ed_var rfl) ed_non rv_isN)) (by
          rw [decide_eq_true hnin, decide_eq_false hnew, show decide (V.str ":" = V.str ":") = true by decide +kernel]
          rfl)) ⟨rfl, rfl⟩) (run_next ?_))
        refine run_app (i := 0) rfl rfl (ed_tup (ea_cons (ed_var rfl) (ea_cons (ed_var rfl) ea_nil)) (show 2 ≤ 100000 by decide)) (by rw [List.length_map, List.length_take]; omega) ⟨_, _, _, _, _, _, rfl, ?_⟩
        rw [etk, List.map_append]
        rfl
  · obtain ⟨a, b, e, f, g, h, rfl, rfl⟩ := hI
    refine run_freeze (i := 3) (by simp) rfl (run_ret (ed_cb (ea_cons (ed_var rfl) ea_nil) rc_tuple) ?_)
    rw [List.length_map, List.length_range, show (((r.length + 1 : Nat) : Int) - 1).toNat = r.length by omega, List.take_length]
    rfl
theorem len_Mend___init__ {c : Cls4} : ∀ ds μ Φ, R_Minit c ds μ Φ → ds.length = 7 := fun _ _ _ ⟨_, _, _, _, _, _, _, h, _⟩ => by rw [h]; rfl
abbrev s_Mend___init__ : Stmt := inClass (topS 41) 0
theorem sc_Mend___init__ : FnScope ["self", "label", "kind", "nodes", "helpers", "amounts", "swap"] ["self", "label", "kind", "nodes", "helpers", "amounts", "swap"] (defScope s_Mend___init__) := ⟨rfl, rfl, rfl, by decide +kernel, rfl, by decide +kernel, by decide +kernel⟩
set_option maxHeartbeats 16000000 in
theorem ok_Mend___init__ {P : Program} {w : World} {K : PySem.W.Frag} {mg : Str → Option Value} {base : Heap} {c : Cls4} {f : Addr} {fd : FuncData} (B : Blt mg) (hc : ClsOk K c mg) (F : FD K "__init__" "Mend.__init__" s_Mend___init__ f fd) : FnOk P w K mg base CX0 1 f fd ["self", "label", "kind", "nodes", "helpers", "amounts", "swap"] (spM K (R_Minit c)) := by
  have sc := sc_Mend___init__
  refine F.ok sc (fun vs H Q E h => len_M (n := 7) len_Mend___init__ h) (fun cdv A outer s H vs Q E hr h => ?_)
  have hu := hu_of hr
  refine ⟨_, PSs.nox ((pss_cons (xs_fld (K := K) (pv 0) (pv 1) rfl) 
      (pss_cons (xs_fld (K := K) (pv 0) (pv 2) rfl) 
      (pss_cons (xs_fld (K := K) (pv 0) (pv 3) rfl) 
      (pss_cons (xs_fld (K := K) (pv 0) (pv 4) rfl) 
      (pss_cons (xs_fld (K := K) (pv 0) (pv 5) rfl) 
      (pss_one (xs_fld (K := K) (pv 0) (pv 6) rfl)))))))), read_M h ?_⟩
  rintro ds μ Φ ⟨p, a, b, e, f, g, h, rfl, rfl, rfl⟩ nd
  refine run_seq (run_fld (i := 0) rfl rfl hc.clM hc.M_label (ed_var rfl) (show 0 < 1000 by decide) ?_)
  refine run_seq (run_fld (i := 0) rfl rfl hc.clM hc.M_kind (ed_var rfl) (show 1 < 1000 by decide) ?_)
  refine run_seq (run_fld (i := 0) rfl rfl hc.clM hc.M_nodes (ed_var rfl) (show 2 < 1000 by decide) ?_)
  refine run_seq (run_fld (i := 0) rfl rfl hc.clM hc.M_helpers (ed_var rfl) (show 3 < 1000 by decide) ?_)
  refine run_seq (run_fld (i := 0) rfl rfl hc.clM hc.M_amounts (ed_var rfl) (show 4 < 1000 by decide) ?_)
  refine run_fld (i := 0) rfl rfl hc.clM hc.M_swap (ed_var rfl) (show 5 < 1000 by decide) ?_
  exact ⟨_, List.Sublist.refl _, rfl, rfl, rfl⟩
end Am
namespace Am
open PySem PySem.Spec PyProof.Rows L2
theorem ItemsOk.links {nodes names known hs : List Str} {as : List Int} (hn : ∀ n ∈ nodes, 58 ∉ TL.tl n ∧ n.length ≤ 2) (i : ItemsOk (nodes.filter fun n => !decide (n ∈ names)) 4 hs as) (hk : ∀ n ∈ nodes, n ∉ names → n ∈ known) : LinksOk known hs as := by
  have hin : ∀ h ∈ hs, h ∈ nodes ∧ h ∉ names := fun h hh => by
    have := List.mem_filter.mp (i.sub h hh)
    exact ⟨this.1, by simpa using this.2⟩
  exact ⟨i.ne, i.nd, fun h hh => hk h (hin h hh).1 (hin h hh).2, i.len, i.am, fun h hh => (hn h (hin h hh).1).1, fun h hh => (hn h (hin h hh).1).2⟩
theorem len_read_mend {c : Cls4} : ∀ ds d, R_rmend c ds d → ds.length = 4 := fun _ _ ⟨_, _, _, _, _, _, _, _, _, h, _⟩ => by rw [h]; rfl
abbrev s_read_mend : Stmt := topS 44
theorem sc_read_mend : FnScope ["words", "line", "labels", "nodes", "label", "node", "helpers", "amounts", "end", "other", "swap", "free", "more", "others", "name"] ["words", "line", "labels", "nodes"] (defScope s_read_mend) := ⟨rfl, rfl, rfl, by decide +kernel, rfl, by decide +kernel, by decide +kernel⟩
set_option maxHeartbeats 16000000 in
theorem ok_read_mend {P : Program} {w : World} {K : PySem.W.Frag} {mg : Str → Option Value} {base : Heap} {c : Cls4} {f : Addr} {fd : FuncData} (B : Blt mg) (hc : ClsOk K c mg)
    (h_new_name_at : Fn P w K mg base "new_name_at" 2 ["words", "at", "line", "known"] (spP K R_newName))
    (h_one_of_at : Fn P w K mg base "one_of_at" 2 ["words", "at", "line", "known"] (spP K R_oneOf))
    (h_links_at : Fn P w K mg base "links_at" 2 ["words", "start", "line", "known", "end"] (spP K R_links))
    (h_Mend : Mr P w K mg base "Mend" c.M 1 ["self", "label", "kind", "nodes", "helpers", "amounts", "swap"] (spM K (R_Minit c)))
    (h_number_at : Fn P w K mg base "number_at" 2 ["words", "at", "line", "low", "high"] (spP K R_numberAt)) (F : FD K "read_mend" "read_mend" s_read_mend f fd) : FnOk P w K mg base CX0 3 f fd ["words", "line", "labels", "nodes"] (spP K (R_rmend c)) := by
  have sc := sc_read_mend
  refine F.ok sc (fun vs H Q E h => len_P (n := 4) len_read_mend h) (fun cdv A outer s H vs Q E hr h => ?_)
  have hu := hu_of hr
  refine ⟨_, PSs.nox ((pss_cons (ps_set (i := 4) sc.nd rfl (Or.inl rfl) (pe_fn h_new_name_at (hr.mono (by decide)) (by rfl) (pa_cons (pv 0) (pa_cons pe_int (pa_cons (pv 1) (pa_cons (pv 2) pa_nil)))))) 
      (pss_cons (ps_set (i := 5) sc.nd rfl (Or.inr rfl) (pe_fn h_one_of_at (hr.mono (by decide)) (by rfl) (pa_cons (pv 0) (pa_cons pe_int (pa_cons (pv 1) (pa_cons (pv 3) pa_nil)))))) 
      (pss_cons (ps_if (pt_cmpR op_eq (pe_ix (xx_list (K := K)) (pv 0) pe_int (fun _ _ => rfl)) pe_str (nomark _))
        (pss_cons (ps_expr (pe_fn h_one_of_at (hr.mono (by decide)) (by rfl) (pa_cons (pv 0) (pa_cons pe_int (pa_cons (pv 1) (pa_cons (pe_tup (pa_cons pe_str pa_nil)) pa_nil)))))) 
        (pss_cons (ps_asg (pe_fn h_links_at (hr.mono (by decide)) (by rfl) (pa_cons (pv 0) (pa_cons pe_int (pa_cons (pv 1) (pa_cons (pe_lc (own := [("name", 14)]) rfl sc.nd (xi_tup (K := K) (pv 3)) (blkOk_by (own := [("name", 14)]) (N := ["words", "line", "labels", "nodes", "label", "node", "helpers", "amounts", "end", "other", "swap", "free", "more", "others", "name"]) (sc := defScope s_read_mend) (by decide +kernel)) (fun _ _ _ _ _ => (pg_name (i := 14) sc.nd rfl (Or.inl rfl))) (fun _ _ _ _ _ => (pts_one (pt_cmpR op_ne (pv 14) (pv 5) (nomark _)))) (fun _ _ _ _ _ => (pv 14))) (pa_cons pe_non pa_nil)))))) (xg_tup (K := K) (n := 3) rfl (pgs_cons (pg_name (i := 6) sc.nd rfl (Or.inl rfl)) (pgs_cons (pg_name (i := 7) sc.nd rfl (Or.inl rfl)) (pgs_cons (pg_name (i := 8) sc.nd rfl (Or.inl rfl)) pgs_nil))))) 
        (pss_one (ps_ret (pe_mkr h_Mend (hr.mono (by decide)) (by rfl) (pa_cons (pv 4) (pa_cons pe_str (pa_cons (pe_tup (pa_cons (pv 5) pa_nil)) (pa_cons (pv 6) (pa_cons (pv 7) (pa_cons pe_non pa_nil)))))))))))
        pss_nil) 
      (pss_cons (ps_set (i := 9) sc.nd rfl (Or.inr rfl) (pe_fn h_one_of_at (hr.mono (by decide)) (by rfl) (pa_cons (pv 0) (pa_cons pe_int (pa_cons (pv 1) (pa_cons (pe_lc (own := [("name", 14)]) rfl sc.nd (xi_tup (K := K) (pv 3)) (blkOk_by (own := [("name", 14)]) (N := ["words", "line", "labels", "nodes", "label", "node", "helpers", "amounts", "end", "other", "swap", "free", "more", "others", "name"]) (sc := defScope s_read_mend) (by decide +kernel)) (fun _ _ _ _ _ => (pg_name (i := 14) sc.nd rfl (Or.inl rfl))) (fun _ _ _ _ _ => (pts_one (pt_cmpR op_ne (pv 14) (pv 5) (nomark _)))) (fun _ _ _ _ _ => (pv 14))) pa_nil)))))) 
      (pss_cons (ps_expr (pe_fn h_one_of_at (hr.mono (by decide)) (by rfl) (pa_cons (pv 0) (pa_cons pe_int (pa_cons (pv 1) (pa_cons (pe_tup (pa_cons pe_str pa_nil)) pa_nil)))))) 
      (pss_cons (ps_set (i := 10) sc.nd rfl (Or.inl rfl) (pe_fn h_number_at (hr.mono (by decide)) (by rfl) (pa_cons (pv 0) (pa_cons pe_int (pa_cons (pv 1) (pa_cons pe_int (pa_cons (pe_gi (by rfl) B.c_MOST) pa_nil))))))) 
      (pss_cons (ps_expr (pe_fn h_one_of_at (hr.mono (by decide)) (by rfl) (pa_cons (pv 0) (pa_cons pe_int (pa_cons (pv 1) (pa_cons (pe_tup (pa_cons pe_str pa_nil)) pa_nil)))))) 
      (pss_cons (ps_setLc (i := 11) (own := [("name", 14)]) rfl sc.nd rfl rfl (sw_true rfl rfl rfl (by decide +kernel)) (xi_tup (K := K) (pv 3)) (blkOk_by (own := [("name", 14)]) (N := ["words", "line", "labels", "nodes", "label", "node", "helpers", "amounts", "end", "other", "swap", "free", "more", "others", "name"]) (sc := defScope s_read_mend) (by decide +kernel)) (fun _ _ _ _ _ => (pg_name (i := 14) sc.nd rfl (Or.inl rfl))) (fun _ _ _ _ _ => (pts_one (pt_cmpR (xo_notIn (K := K)) (pv 14) (xe_tupF (pa_cons (pv 5) (pa_cons (pv 9) pa_nil))) rfl))) (fun _ _ _ _ _ => (pv 14))) 
      (pss_cons (ps_asg (pe_fn h_links_at (hr.mono (by decide)) (by rfl) (pa_cons (pv 0) (pa_cons pe_int (pa_cons (pv 1) (pa_cons (pv 11) (pa_cons pe_str pa_nil)))))) (xg_tup (K := K) (n := 3) rfl (pgs_cons (pg_name (i := 6) sc.nd rfl (Or.inl rfl)) (pgs_cons (pg_name (i := 7) sc.nd rfl (Or.inl rfl)) (pgs_cons (pg_name (i := 8) sc.nd rfl (Or.inl rfl)) pgs_nil))))) 
      (pss_cons (ps_expr (pe_fn h_one_of_at (hr.mono (by decide)) (by rfl) (pa_cons (pv 0) (pa_cons (pv 8) (pa_cons (pv 1) (pa_cons (pe_tup (pa_cons pe_str pa_nil)) pa_nil)))))) 
      (pss_cons (ps_asg (pe_fn h_links_at (hr.mono (by decide)) (by rfl) (pa_cons (pv 0) (pa_cons (pe_op op_add (pv 8) pe_int) (pa_cons (pv 1) (pa_cons (pv 11) (pa_cons pe_non pa_nil)))))) (xg_tup (K := K) (n := 3) rfl (pgs_cons (pg_name (i := 12) sc.nd rfl (Or.inl rfl)) (pgs_cons (pg_name (i := 13) sc.nd rfl (Or.inl rfl)) (pgs_cons (pg_name (i := 8) sc.nd rfl (Or.inl rfl)) pgs_nil))))) 
      (pss_one (ps_ret (pe_mkr h_Mend (hr.mono (by decide)) (by rfl) (pa_cons (pv 4) (pa_cons pe_str (pa_cons (xe_tupF (pa_cons (pv 5) (pa_cons (pv 9) pa_nil))) (pa_cons (pe_tup (pa_cons (pv 6) (pa_cons (pv 12) pa_nil))) (pa_cons (pe_tup (pa_cons (pv 7) (pa_cons (pv 13) pa_nil))) (pa_cons (pv 10) pa_nil))))))))))))))))))))), read_P h ?_⟩
  rintro ds d ⟨md, nodes, labels, line, ok, hn5, hnod, hlab, hlabn, rfl, rfl⟩
  cases md with
  | one lb nv hs as =>
    obtain ⟨hv, iI⟩ := ok.one lb nv hs as rfl
    have hf := itemsW_few hn5 iI
    have hone : (itemsW hs as).length = hs.length := by unfold itemsW; rw [List.length_map, List.length_zip, ← iI.len]; omega
    refine run_seq (run_asg (d := .str lb) (ed_call (ea_cons (ed_var rfl) (ea_cons (ed_int 1) (ea_cons (ed_var rfl) (ea_cons (ed_var rfl) ea_nil)))) ⟨mendW (.one lb nv hs as), 1, line, labels, lb, rfl, hlab, hlabn, .inl rfl, rfl⟩) ?_)
    refine run_seq (run_asg (d := .str nv) (ed_call (ea_cons (ed_var rfl) (ea_cons (ed_int 2) (ea_cons (ed_var rfl) (ea_cons (ed_var rfl) ea_nil)))) ⟨mendW (.one lb nv hs as), 2, line, nodes, nv, rfl, hv, .inr (.inl rfl), rfl⟩) ?_)
    refine run_seq (run_yes (EdT.is (et_test (ed_op (ed_op (ed_var rfl) (ed_int 0) (rv_ixL (z := .str "mend") (atI_nat (j := 0) rfl))) (ed_str "mend") (rv_eq rfl rfl rfl))) (show decide (V.str "mend" = V.str "mend") = true by decide +kernel)) ?_)
    refine run_seq (run_dropG (ev_of (ed_call (d := .str "from") (ea_cons (ed_var rfl) (ea_cons (ed_int 3) (ea_cons (ed_var rfl) (ea_cons (ed_tup (ea_cons (ed_str "from") ea_nil) (show 1 ≤ 100000 by decide)) ea_nil)))) ⟨mendW (.one lb nv hs as), 3, line, ["from"], "from", rfl, by simp, .inr (.inr rfl), rfl⟩) ?_))
    have hwords : mendW (.one lb nv hs as) = [("mend" : Str), lb, nv, "from"] ++ (itemsW hs as ++ []) := by rw [List.append_nil]; rfl
    refine run_seq (run_asgT (d := .tup [.tup (sD hs), .tup (iD as), .int ((4 + hs.length : Nat) : Int)]) (ed_call (ea_cons (ed_var rfl) (ea_cons (ed_int 4) (ea_cons (ed_var rfl) (ea_cons (ed_lcS D.str (fun n => !decide (V.str n = V.str nv)) (fun n => n) (it_tupF (ed_var rfl)) (by omega) fun n hn => ⟨_, _, tg_name, by simp, et_test (ed_op (ed_var rfl) (ed_var rfl) (rv_ne rfl rfl rfl)), fun _ => ed_var rfl⟩) (ea_cons ed_non ea_nil))))) ⟨[("mend" : Str), lb, nv, "from"], [], _, hs, as, line, .non, ItemsOk.links hnod iI (fun n hn hnn => ?_), ?_, .inl ⟨rfl, rfl⟩, by rw [← hwords]; rfl, rfl⟩) tg_three ?_)
    · rw [List.map_id']
      refine List.mem_filter.mpr ⟨hn, ?_⟩
      have : ¬ V.str n = V.str nv := fun h => hnn (by rw [V.str.inj h]; simp)
      rw [decide_eq_false this]
      rfl
    · rw [← hwords]
      show ([("mend" : Str), lb, nv, "from"] ++ itemsW hs as).length ≤ 100
      rw [List.length_append]
      simp only [List.length_cons, List.length_nil]
      omega
    exact run_ret (ed_make (fds := [("label", .str lb), ("kind", .str "one"), ("nodes", .tup [.str nv]), ("helpers", .tup (sD hs)), ("amounts", .tup (iD as)), ("swap", .non)]) (ea_cons (ed_var rfl) (ea_cons (ed_str "one") (ea_cons (ed_tup (ea_cons (ed_var rfl) ea_nil) (show 1 ≤ 100000 by decide)) (ea_cons (ed_var rfl) (ea_cons (ed_var rfl) (ea_cons ed_non ea_nil)))))) fun p => ⟨_, ⟨p, _, _, _, _, _, _, rfl, rfl, rfl⟩, fun d μ' h => h⟩) rfl
  | two lb nu nv h1 h2 a1 a2 sw =>
    obtain ⟨hu, hv, huv, iI, iJ, s0, s4⟩ := ok.two lb nu nv h1 h2 a1 a2 sw rfl
    have hf := itemsW_few hn5 iI
    have hf2 := itemsW_few hn5 iJ
    have hone : (itemsW h1 a1).length = h1.length := by unfold itemsW; rw [List.length_map, List.length_zip, ← iI.len]; omega
    have htwo : (itemsW h2 a2).length = h2.length := by unfold itemsW; rw [List.length_map, List.length_zip, ← iJ.len]; omega
    let pre1 : List Str := [("pair" : Str), lb, nu, nv, "swap", numT sw, "from"]
    let fr : List Str := nodes.filter fun n => !decide (n ∈ [nu, nv])
    have hw1 : mendW (.two lb nu nv h1 h2 a1 a2 sw) = pre1 ++ (itemsW h1 a1 ++ (("and" : Str) :: itemsW h2 a2)) := rfl
    have hw2 : mendW (.two lb nu nv h1 h2 a1 a2 sw) = (pre1 ++ itemsW h1 a1 ++ [("and" : Str)]) ++ (itemsW h2 a2 ++ []) := by rw [hw1]; simp
    have hlen : (mendW (.two lb nu nv h1 h2 a1 a2 sw)).length ≤ 100 := by
      rw [hw1, List.length_append, List.length_append, List.length_cons]
      show 7 + ((itemsW h1 a1).length + ((itemsW h2 a2).length + 1)) ≤ 100
      omega
    have hpl : (pre1 ++ itemsW h1 a1 ++ [("and" : Str)]).length = 7 + h1.length + 1 := by
      rw [List.length_append, List.length_append, hone]
      rfl
    have hand : (mendW (.two lb nu nv h1 h2 a1 a2 sw))[7 + h1.length]? = some ("and" : Str) := by
      rw [hw1, List.getElem?_append_right (show 7 ≤ 7 + h1.length by omega), show 7 + h1.length - pre1.length = h1.length from Nat.add_sub_cancel_left 7 h1.length, List.getElem?_append_right (by omega), hone, Nat.sub_self]
      rfl
    have hfr : ∀ n ∈ nodes, n ∉ [nu, nv] → n ∈ fr := fun n hn hnn => List.mem_filter.mpr ⟨hn, by rw [decide_eq_false hnn]; rfl⟩
    refine run_seq (run_asg (d := .str lb) (ed_call (ea_cons (ed_var rfl) (ea_cons (ed_int 1) (ea_cons (ed_var rfl) (ea_cons (ed_var rfl) ea_nil)))) ⟨mendW (.two lb nu nv h1 h2 a1 a2 sw), 1, line, labels, lb, rfl, hlab, hlabn, .inl rfl, rfl⟩) ?_)
    refine run_seq (run_asg (d := .str nu) (ed_call (ea_cons (ed_var rfl) (ea_cons (ed_int 2) (ea_cons (ed_var rfl) (ea_cons (ed_var rfl) ea_nil)))) ⟨mendW (.two lb nu nv h1 h2 a1 a2 sw), 2, line, nodes, nu, rfl, hu, .inr (.inl rfl), rfl⟩) ?_)
    refine run_seq (run_no (EdT.is (et_test (ed_op (ed_op (ed_var rfl) (ed_int 0) (rv_ixL (z := .str "pair") (atI_nat (j := 0) rfl))) (ed_str "mend") (rv_eq rfl rfl rfl))) (show decide (V.str "pair" = V.str "mend") = false by decide +kernel)) (run_next ?_))
    refine run_seq (run_asg (d := .str nv) (ed_call (ea_cons (ed_var rfl) (ea_cons (ed_int 3) (ea_cons (ed_var rfl) (ea_cons (ed_lcS D.str (fun n => !decide (V.str n = V.str nu)) (fun n => n) (it_tupF (ed_var rfl)) (by omega) fun n hn => ⟨_, _, tg_name, by simp, et_test (ed_op (ed_var rfl) (ed_var rfl) (rv_ne rfl rfl rfl)), fun _ => ed_var rfl⟩) ea_nil)))) ⟨mendW (.two lb nu nv h1 h2 a1 a2 sw), 3, line, _, nv, rfl, ?_, .inl rfl, rfl⟩) ?_)
    · rw [List.map_id']
      refine List.mem_filter.mpr ⟨hv, ?_⟩
      have : ¬ V.str nv = V.str nu := fun h => huv (V.str.inj h).symm
      rw [decide_eq_false this]
      rfl
    refine run_seq (run_dropG (ev_of (ed_call (d := .str "swap") (ea_cons (ed_var rfl) (ea_cons (ed_int 4) (ea_cons (ed_var rfl) (ea_cons (ed_tup (ea_cons (ed_str "swap") ea_nil) (show 1 ≤ 100000 by decide)) ea_nil)))) ⟨mendW (.two lb nu nv h1 h2 a1 a2 sw), 4, line, ["swap"], "swap", rfl, by simp, .inr (.inr rfl), rfl⟩) ?_))
    refine run_seq (run_asg (d := .int sw) (ed_call (ea_cons (ed_var rfl) (ea_cons (ed_int 5) (ea_cons (ed_var rfl) (ea_cons (ed_int 0) (ea_cons (ed_int 40) ea_nil))))) ⟨mendW (.two lb nu nv h1 h2 a1 a2 sw), 5, line, sw, 0, 40, rfl, s0, by omega, s0, by omega, rfl, rfl⟩) ?_)
    refine run_seq (run_dropG (ev_of (ed_call (d := .str "from") (ea_cons (ed_var rfl) (ea_cons (ed_int 6) (ea_cons (ed_var rfl) (ea_cons (ed_tup (ea_cons (ed_str "from") ea_nil) (show 1 ≤ 100000 by decide)) ea_nil)))) ⟨mendW (.two lb nu nv h1 h2 a1 a2 sw), 6, line, ["from"], "from", rfl, by simp, .inr (.inr rfl), rfl⟩) ?_))
    refine run_seq (run_asg (d := .lst (sD fr)) (EvD.is (ed_lcS D.str (fun n => !decide (n ∈ [nu, nv])) (fun n => n) (it_tupF (ed_var rfl)) (by omega) fun n hn => ⟨_, _, tg_name, by simp, et_test (ed_op (ed_var rfl) (ed_tupF (ea_cons (ed_var rfl) (ea_cons (ed_var rfl) ea_nil)) (show 2 ≤ 100000 by decide)) (rv_notInF (ss := [nu, nv]))), fun _ => ed_var rfl⟩) (by rw [List.map_id'])) ?_)
    refine run_seq (run_asgT (d := .tup [.tup (sD h1), .tup (iD a1), .int ((7 + h1.length : Nat) : Int)]) (ed_call (ea_cons (ed_var rfl) (ea_cons (ed_int 7) (ea_cons (ed_var rfl) (ea_cons (ed_var rfl) (ea_cons (ed_str "and") ea_nil))))) ⟨pre1, ("and" : Str) :: itemsW h2 a2, fr, h1, a1, line, .str "and", ItemsOk.links hnod iI hfr, hlen, .inr ⟨_, rfl, rfl⟩, rfl, rfl⟩) tg_three ?_)
    refine run_seq (run_dropG (ev_of (ed_call (d := .str "and") (ea_cons (ed_var rfl) (ea_cons (ed_var rfl) (ea_cons (ed_var rfl) (ea_cons (ed_tup (ea_cons (ed_str "and") ea_nil) (show 1 ≤ 100000 by decide)) ea_nil)))) ⟨mendW (.two lb nu nv h1 h2 a1 a2 sw), 7 + h1.length, line, ["and"], "and", hand, by simp, .inr (.inr rfl), rfl⟩) ?_))
    refine run_seq (run_asgT (d := .tup [.tup (sD h2), .tup (iD a2), .int ((7 + h1.length + 1 + h2.length : Nat) : Int)]) (ed_call (ea_cons (ed_var rfl) (ea_cons (ed_op (ed_var rfl) (ed_int 1) rv_int) (ea_cons (ed_var rfl) (ea_cons (ed_var rfl) (ea_cons ed_non ea_nil))))) ⟨pre1 ++ itemsW h1 a1 ++ [("and" : Str)], [], fr, h2, a2, line, .non, ItemsOk.links hnod iJ hfr, by rw [← hw2]; exact hlen, .inl ⟨rfl, rfl⟩, by rw [← hw2, hpl]; rfl, by rw [hpl]⟩) tg_three ?_)
    exact run_ret (ed_make (fds := [("label", .str lb), ("kind", .str "pair"), ("nodes", .tupF [.str nu, .str nv]), ("helpers", .tup [.tup (sD h1), .tup (sD h2)]), ("amounts", .tup [.tup (iD a1), .tup (iD a2)]), ("swap", .int sw)]) (ea_cons (ed_var rfl) (ea_cons (ed_str "pair") (ea_cons (ed_tupF (ea_cons (ed_var rfl) (ea_cons (ed_var rfl) ea_nil)) (show 2 ≤ 100000 by decide)) (ea_cons (ed_tup (ea_cons (ed_var rfl) (ea_cons (ed_var rfl) ea_nil)) (show 2 ≤ 100000 by decide)) (ea_cons (ed_tup (ea_cons (ed_var rfl) (ea_cons (ed_var rfl) ea_nil)) (show 2 ≤ 100000 by decide)) (ea_cons (ed_var rfl) ea_nil)))))) fun p => ⟨_, ⟨p, _, _, _, _, _, _, rfl, rfl, rfl⟩, fun d μ' h => h⟩) rfl
end Am
/-! What the class Store promises: row after row. -/
namespace Am
open PySem PySem.Spec PyProof.Rows L2
section
variable {K : PySem.W.Frag} {M : List Addr} {ρ : Ro} {μ : Mem}
theorem evt_peekI {tt : TT} {p C : Addr} {i j : Nat} {fds : List (Str × D)} {b : Bool} {PT : Bool → Mem → Prop} (hj : ρ[j]? = some (some (.loc p))) (hi : μ[i]? = some (p, .ins C fds)) (h : EdT K tt (ρ.set j (some (.ins C fds))) b) (q : PT b μ) : EvT K M tt ρ μ PT := fun G0 H0 G1 H1 σ s1 Q k => by
  obtain ⟨⟨dx, fs, hx, k1, rr⟩, gp⟩ := s1.ce.at_ _ (List.mem_of_getElem? hi)
  have sg : Same G1 (upd G1 p (.ins C dx fs)) := same_new gp
  have sH : Same (upd G1 p (.ins C dx fs)) H1 := fun b o z => by
    by_cases e : b = p
    · subst e; rw [upd_same] at z; rw [hx]; exact z
    · rw [upd_ne e] at z; exact s1.sub b o z
  obtain ⟨v, h1, h2⟩ := s1.sl.get hj
  cases h2
  have r2 : Rep K (upd G1 p (.ins C dx fs)) (.ref p) (.ins C fds) := .ins upd_same k1 (rr.mono sg)
  have s2 := (s1.sl.mono sg).set r2 j
  have eσ : σ.set j (some (.ref p)) = σ := by
    apply List.ext_getElem?
    intro n
    by_cases e : j = n
    · subst e
      rw [List.getElem?_set_self (by
        rcases Nat.lt_or_ge j σ.length with z | z
        · exact z
        · rw [List.getElem?_eq_none z] at h1; cases h1), h1]
    · rw [List.getElem?_set_ne e]
  rw [eσ] at s2
  refine h _ H1 σ sH s2 _ fun G' H' g2 => ?_
  have g3 : Go [] G1 H1 (without G' p) H' := by
    refine ⟨fun b o z => ?_, fun b o z => ?_, g2.keep, g2.dom, g2.cel, fun b o z no n => ?_⟩
    · have e : b ≠ p := ne_of_none z gp
      rw [without_ne e]
      exact g2.g _ _ (by rw [upd_ne e]; exact z)
    · by_cases e : b = p
      · subst e
        have : without G' b b = none := if_pos rfl
        rw [this] at z; cases z
      · rw [without_ne e] at z
        exact g2.sub _ _ z
    · by_cases e : b = p
      · subst e
        exact if_pos rfl
      · rw [without_ne e]
        exact g2.new b o z no (by rw [upd_ne e]; exact n)
  exact k b _ H' μ g3.g (s1.step g3) q
theorem ev_peekI {te : TE} {p C : Addr} {i j : Nat} {fds : List (Str × D)} {b : Bool} {P : D → Mem → Prop} (hj : ρ[j]? = some (some (.loc p))) (hi : μ[i]? = some (p, .ins C fds)) (h : EvD K te (ρ.set j (some (.ins C fds))) (.bl b)) (q : P (.bl b) μ) : Ev K M te ρ μ P := fun G0 H0 G1 H1 σ s1 Q k => by
  obtain ⟨⟨dx, fs, hx, k1, rr⟩, gp⟩ := s1.ce.at_ _ (List.mem_of_getElem? hi)
  have sg : Same G1 (upd G1 p (.ins C dx fs)) := same_new gp
  have sH : Same (upd G1 p (.ins C dx fs)) H1 := fun b o z => by
    by_cases e : b = p
    · subst e; rw [upd_same] at z; rw [hx]; exact z
    · rw [upd_ne e] at z; exact s1.sub b o z
  obtain ⟨v, h1, h2⟩ := s1.sl.get hj
  cases h2
  have r2 : Rep K (upd G1 p (.ins C dx fs)) (.ref p) (.ins C fds) := .ins upd_same k1 (rr.mono sg)
  have s2 := (s1.sl.mono sg).set r2 j
  have eσ : σ.set j (some (.ref p)) = σ := by
    apply List.ext_getElem?
    intro n
    by_cases e : j = n
    · subst e
      rw [List.getElem?_set_self (by
        rcases Nat.lt_or_ge j σ.length with z | z
        · exact z
        · rw [List.getElem?_eq_none z] at h1; cases h1), h1]
    · rw [List.getElem?_set_ne e]
  rw [eσ] at s2
  refine h _ H1 σ sH s2 _ fun w G' H' g2 rw => ?_
  cases rw
  have g3 : Go [] G1 H1 (without G' p) H' := by
    refine ⟨fun b o z => ?_, fun b o z => ?_, g2.keep, g2.dom, g2.cel, fun b o z no n => ?_⟩
    · have e : b ≠ p := ne_of_none z gp
      rw [without_ne e]
      exact g2.g _ _ (by rw [upd_ne e]; exact z)
    · by_cases e : b = p
      · subst e
        have : without G' b b = none := if_pos rfl
        rw [this] at z; cases z
      · rw [without_ne e] at z
        exact g2.sub _ _ z
    · by_cases e : b = p
      · subst e
        exact if_pos rfl
      · rw [without_ne e]
        exact g2.new b o z no (by rw [upd_ne e]; exact n)
  exact k _ (.bl b) _ H' μ g3.g (s1.step g3) (.bl b) q
theorem rv_emp : RvD K (rEqP K) (.tup []) (.tup []) (.bl true) := rv_eqP (a := .tuple []) (b := .tuple []) rfl rfl rfl rfl (by decide)
theorem iv_tup {te : TE} {P : List D → Mem → Prop} (h : Ev K M te ρ μ fun d μ1 => ∃ ds, d = .tup ds ∧ P ds μ1) : ItV K M (iTup K te) ρ μ P := fun G0 H0 G H σ s R q => h G0 H0 G H σ s _ fun v d G1 H1 μ1 e1 s1 r1 ⟨ds, ed, p⟩ => by
  subst ed
  cases r1 with
  | tup h1 r1 =>
    rename_i a xs
    refine ⟨a, rfl, ⟨xs, .inl (.inl (s1.sub _ _ h1))⟩, q _ ds G1 H1 μ1 e1 s1 (fun G2 H2 e1 e2 => ?_) p⟩
    have hq : SqT K H2 a xs := .inl (.inl (e2 _ _ (e1 _ _ h1)))
    refine ⟨fun i hi => ⟨xs, xs[i]'(by rw [r1.length]; exact hi), hq, by simp [r1.length, hi]⟩, ⟨xs, hq, by rw [r1.length]; exact Nat.le_refl _⟩, fun i x H3 hi y => ?_⟩
    obtain ⟨rfl, y⟩ := y
    have y := y xs hq
    obtain ⟨d, h3, h4⟩ := r1.get' y
    exact ⟨G2, d, h3, Go.refl e2, h4.mono e1⟩
theorem ev_callP {R : List D → D → Prop} {ta : TA} {E : XK} {P : D → Mem → Prop} (ha : EvA K M ta ρ μ fun ds μ1 => ∃ d, R ds d ∧ P d μ1) : Ev K M (tCall (spP K R) [] E ta) ρ μ P := fun G0 H0 G H σ s Q q => ha G0 H0 G H σ s _ fun vs ds G1 H1 μ1 e1 s1 r1 ⟨d, hR, p⟩ => by
  show spP K R (vs ++ []) H1 Q E
  rw [List.append_nil]
  exact ⟨G1, ds, d, s1.sub, r1, hR, fun v G' H' g r => q v d G' H' μ1 (e1.trans g.g) (s1.step g) r p⟩
end
def fldS (c : Cls4) (s : Sto) : List (Str × D) := [("text", .str s.text), ("file", .int s.file), ("nodes", .tupF (sD s.nodes)), ("rooms", .tup (iD s.rooms)), ("fresh", .tupF (sD s.fresh)), ("mends", .tup (s.mends.map (encM c))), ("readers", .tup (s.readers.map encR))]
def addN (t : Sto) (nw : Bool) (n : Str) (a : Int) : Sto := { t with nodes := t.nodes ++ [n], rooms := t.rooms ++ [a], fresh := if nw = true then t.fresh ++ [n] else t.fresh }
def addM (t : Sto) (md : Mnd) : Sto := { t with mends := t.mends ++ [md] }
def addR (t : Sto) (r : List (Str × Option Int)) : Sto := { t with readers := t.readers ++ [r] }
def rowN (nw : Bool) (n : Str) (a : Int) : List Str := [if nw = true then "new" else "node", n, numT a]
structure Small (t : Sto) : Prop where
  nodes : t.nodes.length ≤ 5
  rooms : t.rooms.length ≤ 5
  fresh : t.fresh.length ≤ 5
  mends : t.mends.length ≤ 20
  readers : t.readers.length ≤ 20
  names : ∀ n ∈ t.nodes, 58 ∉ TL.tl n ∧ n.length ≤ 2
inductive RowStep : Sto → List Str → Sto → Prop where
  | node (t : Sto) (nw : Bool) (n : Str) (a : Int) (sm : Small t) (h1 : NameOk n) (h2 : n ∉ t.nodes) (h3 : 0 ≤ a ∧ a ≤ 4) (h4 : t.mends = []) (h5 : t.readers = []) : RowStep t (rowN nw n a) (addN t nw n a)
  | mend (t : Sto) (md : Mnd) (sm : Small t) (h1 : MdOk t.nodes 4 md) (h2 : NameOk md.label) (h3 : md.label ∉ t.mends.map Mnd.label) (h4 : t.fresh.length < t.nodes.length) (h5 : t.readers = []) : RowStep t (mendW md) (addM t md)
  | reader (t : Sto) (r : List (Str × Option Int)) (sm : Small t) (h1 : RdOk t.nodes 4 r) (h4 : t.fresh.length < t.nodes.length) : RowStep t (readW r) (addR t r)
def R_rnode (c : Cls4) : List D → Mem → (D → Mem → Prop) → Prop := fun ds μ Φ => ∃ p t nw n a line, Small t ∧ NameOk n ∧ n ∉ t.nodes ∧ 0 ≤ a ∧ a ≤ 4 ∧ ds = [.loc p, line, encWs (rowN nw n a)] ∧ μ = [(p, .ins c.S (fldS c t))] ∧ Φ = fun d μ' => d = .non ∧ μ' = [(p, .ins c.S (fldS c (addN t nw n a)))]
def R_rline (c : Cls4) : List D → Mem → (D → Mem → Prop) → Prop := fun ds μ Φ => ∃ p t t' ws line, RowStep t ws t' ∧ ds = [.loc p, line, encWs ws] ∧ μ = [(p, .ins c.S (fldS c t))] ∧ Φ = fun d μ' => d = .non ∧ μ' = [(p, .ins c.S (fldS c t'))]
def R_Sinit (c : Cls4) : List D → Mem → (D → Mem → Prop) → Prop := fun ds μ Φ => ∃ p s, Good s ∧ ds = [.loc p, .str (textOf s)] ∧ μ = [(p, .ins c.S [])] ∧ Φ = fun d μ' => d = .non ∧ μ' = [(p, .ins c.S (fldS c { s with text := textOf s }))]
end Am
namespace Am
open PySem PySem.Spec PyProof.Rows L2
theorem len_Store_read_node {c : Cls4} : ∀ ds μ Φ, R_rnode c ds μ Φ → ds.length = 3 := fun _ _ _ ⟨_, _, _, _, _, _, _, _, _, _, _, h, _⟩ => by rw [h]; rfl
abbrev s_Store_read_node : Stmt := inClass (topS 45) 2
theorem sc_Store_read_node : FnScope ["self", "line", "words", "name", "room"] ["self", "line", "words"] (defScope s_Store_read_node) := ⟨rfl, rfl, rfl, by decide +kernel, rfl, by decide +kernel, by decide +kernel⟩
set_option maxHeartbeats 16000000 in
theorem ok_Store_read_node {P : Program} {w : World} {K : PySem.W.Frag} {mg : Str → Option Value} {base : Heap} {c : Cls4} {f : Addr} {fd : FuncData} (B : Blt mg) (hc : ClsOk K c mg)
    (h_new_name_at : Fn P w K mg base "new_name_at" 2 ["words", "at", "line", "known"] (spP K R_newName))
    (h_number_at : Fn P w K mg base "number_at" 2 ["words", "at", "line", "low", "high"] (spP K R_numberAt))
    (h_no_more : Fn P w K mg base "no_more" 1 ["words", "many", "line"] (spP K R_noMore)) (F : FD K "read_node" "Store.read_node" s_Store_read_node f fd) : FnOk P w K mg base CX0 3 f fd ["self", "line", "words"] (spM K (R_rnode c)) := by
  have sc := sc_Store_read_node
  refine F.ok sc (fun vs H Q E h => len_M (n := 3) len_Store_read_node h) (fun cdv A outer s H vs Q E hr h => ?_)
  have hu := hu_of hr
  refine ⟨_, PSs.nox ((pss_cons (ps_set (i := 3) sc.nd rfl (Or.inl rfl) (pe_fn h_new_name_at (hr.mono (by decide)) (by rfl) (pa_cons (pv 2) (pa_cons pe_int (pa_cons (pv 1) (pa_cons (xe_fld (K := K) (pv 0) rfl) pa_nil)))))) 
      (pss_cons (ps_set (i := 4) sc.nd rfl (Or.inl rfl) (pe_fn h_number_at (hr.mono (by decide)) (by rfl) (pa_cons (pv 2) (pa_cons pe_int (pa_cons (pv 1) (pa_cons pe_int (pa_cons (pe_gi (by rfl) B.c_MOST) pa_nil))))))) 
      (pss_cons (ps_expr (pe_fn h_no_more (hr.mono (by decide)) (by rfl) (pa_cons (pv 2) (pa_cons pe_int (pa_cons (pv 1) pa_nil))))) 
      (pss_cons (xs_fld (K := K) (pv 0) (pe_op (xo_catF (K := K)) (xe_fld (K := K) (pv 0) rfl) (xe_tupF (pa_cons (pv 3) pa_nil))) rfl) 
      (pss_cons (xs_fld (K := K) (pv 0) (pe_op (xo_catA (K := K)) (xe_fld (K := K) (pv 0) rfl) (pe_tup (pa_cons (pv 4) pa_nil))) rfl) 
      (pss_one (ps_if (pt_cmpR op_eq (pe_ix (xx_list (K := K)) (pv 2) pe_int (fun _ _ => rfl)) pe_str (nomark _))
        (pss_one (xs_fld (K := K) (pv 0) (pe_op (xo_catF (K := K)) (xe_fld (K := K) (pv 0) rfl) (xe_tupF (pa_cons (pv 3) pa_nil))) rfl))
        pss_nil)))))))), read_M h ?_⟩
  rintro ds μ Φ ⟨p, t, nw, n, a, line, sm, hn, hnn, h0, h4, rfl, rfl, rfl⟩ nd
  have e1 := sm.nodes
  have e2 := sm.rooms
  have e3 := sm.fresh
  have hlit : (rowN nw n a)[0]? = some (if nw = true then ("new" : Str) else "node") := rfl
  refine run_seq (run_asgG (ev_callP (eva_cons (P1 := fun d μ1 => d = encWs (rowN nw n a) ∧ μ1 = [(p, .ins c.S (fldS c t))]) (ev_of (ed_var rfl) ⟨rfl, rfl⟩) ?_)))
  rintro _ _ ⟨rfl, rfl⟩
  refine eva_cons (P1 := fun d μ1 => d = .int 1 ∧ μ1 = [(p, .ins c.S (fldS c t))]) (ev_of (ed_int 1) ⟨rfl, rfl⟩) ?_
  rintro _ _ ⟨rfl, rfl⟩
  refine eva_cons (P1 := fun d μ1 => d = line ∧ μ1 = [(p, .ins c.S (fldS c t))]) (ev_of (ed_var rfl) ⟨rfl, rfl⟩) ?_
  rintro _ _ ⟨rfl, rfl⟩
  refine eva_cons (P1 := fun d μ1 => d = .tupF (sD t.nodes) ∧ μ1 = [(p, .ins c.S (fldS c t))]) (ev_fldC (i := 0) (ed_var rfl) rfl hc.clS hc.S_nodes rfl ⟨rfl, rfl⟩) ?_
  rintro _ _ ⟨rfl, rfl⟩
  refine eva_nil ⟨.str n, ⟨rowN nw n a, 1, _, t.nodes, n, rfl, hn, hnn, .inr rfl, rfl⟩, ?_⟩
  refine run_seq (run_asg (d := .int a) (ed_call (ea_cons (ed_var rfl) (ea_cons (ed_int 2) (ea_cons (ed_var rfl) (ea_cons (ed_int 0) (ea_cons (ed_int 40) ea_nil))))) ⟨rowN nw n a, 2, _, a, 0, 40, rfl, h0, by omega, h0, by omega, rfl, rfl⟩) ?_)
  refine run_seq (run_dropG (ev_of (ed_call (d := .non) (ea_cons (ed_var rfl) (ea_cons (ed_int 3) (ea_cons (ed_var rfl) ea_nil))) ⟨rowN nw n a, 3, _, Nat.le_refl 3, rfl, rfl⟩) ?_))
  refine run_seq (run_fldG (p := p) (C := c.S) (ev_op (P1 := fun d μ1 => d = .tupF (sD t.nodes) ∧ μ1 = [(p, .ins c.S (fldS c t))]) (ev_fldC (i := 0) (ed_var rfl) rfl hc.clS hc.S_nodes rfl ⟨rfl, rfl⟩) ?_) hc.clS hc.S_nodes)
  rintro _ _ ⟨rfl, rfl⟩
  refine ev_of (ed_tupF (ea_cons (ed_var rfl) ea_nil) (show 1 ≤ 100000 by decide)) ⟨_, rv_catF (by rw [List.length_map]; show _ + 1 ≤ _; omega), ed_var rfl, 0, _, rfl, (show 7 < 1000 by decide), ?_⟩
  refine run_seq (run_fldG (p := p) (C := c.S) (ev_op (P1 := fun d μ1 => d = .tup (iD t.rooms) ∧ μ1 = [(p, .ins c.S (putD "nodes" (.tupF (sD t.nodes ++ [.str n])) (fldS c t)))]) (ev_fldC (i := 0) (ed_var rfl) rfl hc.clS hc.S_rooms rfl ⟨rfl, rfl⟩) ?_) hc.clS hc.S_rooms)
  rintro _ _ ⟨rfl, rfl⟩
  refine ev_of (ed_tup (ea_cons (ed_var rfl) ea_nil) (show 1 ≤ 100000 by decide)) ⟨_, rv_catA (by rw [List.length_map]; show _ + 1 ≤ _; omega), ed_var rfl, 0, _, rfl, (show 7 < 1000 by decide), ?_⟩
  cases nw with
  | true =>
    refine run_yes (EdT.is (et_test (ed_op (ed_op (ed_var rfl) (ed_int 0) (rv_ixL (z := .str "new") (atI_nat (j := 0) rfl))) (ed_str "new") (rv_eq rfl rfl rfl))) (show decide (V.str "new" = V.str "new") = true by decide +kernel)) ?_
    refine run_fldG (p := p) (C := c.S) (ev_op (P1 := fun d μ1 => d = .tupF (sD t.fresh) ∧ μ1 = [(p, .ins c.S (putD "rooms" (.tup (iD t.rooms ++ [.int a])) (putD "nodes" (.tupF (sD t.nodes ++ [.str n])) (fldS c t))))]) (ev_fldC (i := 0) (ed_var rfl) rfl hc.clS hc.S_fresh rfl ⟨rfl, rfl⟩) ?_) hc.clS hc.S_fresh
    rintro _ _ ⟨rfl, rfl⟩
    refine ev_of (ed_tupF (ea_cons (ed_var rfl) ea_nil) (show 1 ≤ 100000 by decide)) ⟨_, rv_catF (by rw [List.length_map]; show _ + 1 ≤ _; omega), ed_var rfl, 0, _, rfl, (show 7 < 1000 by decide), ?_⟩
    refine ⟨_, List.Sublist.refl _, rfl, rfl, ?_⟩
    unfold addN fldS
    simp only [List.map_append, if_pos]
    rfl
  | false =>
    refine run_no (EdT.is (et_test (ed_op (ed_op (ed_var rfl) (ed_int 0) (rv_ixL (z := .str "node") (atI_nat (j := 0) rfl))) (ed_str "new") (rv_eq rfl rfl rfl))) (show decide (V.str "node" = V.str "new") = false by decide +kernel)) (run_next ?_)
    refine ⟨_, List.Sublist.refl _, rfl, rfl, ?_⟩
    unfold addN fldS
    simp only [List.map_append]
    rfl
theorem et_and0 {K : PySem.W.Frag} {ρ : Ro} {t u : TT} (h : EdT K t ρ false) : EdT K (tAnd t u) ρ false := et_and (a := false) (b := true) h fun z => nomatch z
theorem run_else {K : PySem.W.Frag} {M : List Addr} {ρ : Ro} {μ : Mem} {Φ : Post} {tc : TT} {ts tu : TS} (h : EvT K M tc ρ μ fun b μ1 => b = false ∧ μ1 = μ) (h2 : Run K M tu ρ μ Φ) : Run K M (tIfS tc ts tu) ρ μ Φ := run_noP h h2
theorem run_then1 {K : PySem.W.Frag} {M : List Addr} {ρ : Ro} {μ : Mem} {Φ : Post} {tc : TT} {ts tu : TS} (h : EvT K M tc ρ μ fun b μ1 => b = true ∧ μ1 = μ) (h2 : Run K M ts ρ μ Φ) : Run K M (tIfS tc ts tu) ρ μ Φ := run_ifG (h.imp fun b μ1 hb => by
  obtain ⟨rfl, rfl⟩ := hb
  rw [if_pos rfl]
  exact h2)
theorem len_Store_read_line {c : Cls4} : ∀ ds μ Φ, R_rline c ds μ Φ → ds.length = 3 := fun _ _ _ ⟨_, _, _, _, _, _, h, _⟩ => by rw [h]; rfl
abbrev s_Store_read_line : Stmt := inClass (topS 45) 1
theorem sc_Store_read_line : FnScope ["self", "line", "words", "is_begun", "labels", "mend"] ["self", "line", "words"] (defScope s_Store_read_line) := ⟨rfl, rfl, rfl, by decide +kernel, rfl, by decide +kernel, by decide +kernel⟩
set_option maxHeartbeats 16000000 in
theorem ok_Store_read_line {P : Program} {w : World} {K : PySem.W.Frag} {mg : Str → Option Value} {base : Heap} {c : Cls4} {f : Addr} {fd : FuncData} (B : Blt mg) (hc : ClsOk K c mg)
    (h_Store_read_node : Mt P w K mg base c.S "read_node" 3 ["self", "line", "words"] (spM K (R_rnode c)))
    (h_read_mend : Fn P w K mg base "read_mend" 3 ["words", "line", "labels", "nodes"] (spP K (R_rmend c)))
    (h_reader_items : Fn P w K mg base "reader_items" 2 ["words", "line", "nodes"] (spP K R_ritems)) (F : FD K "read_line" "Store.read_line" s_Store_read_line f fd) : FnOk P w K mg base CX0 4 f fd ["self", "line", "words"] (spM K (R_rline c)) := by
  have sc := sc_Store_read_line
  refine F.ok sc (fun vs H Q E h => len_M (n := 3) len_Store_read_line h) (fun cdv A outer s H vs Q E hr h => ?_)
  have hu := hu_of hr
  refine ⟨_, PSs.nox ((pss_cons (ps_set (i := 3) sc.nd rfl (Or.inl rfl) (pe_cmpR op_gt (pe_callB (xc_len (K := K)) (by rfl) B.len boot_len (pa_cons (xe_fld (K := K) (pv 0) rfl) pa_nil)) (pe_callB (xc_len (K := K)) (by rfl) B.len boot_len (pa_cons (xe_fld (K := K) (pv 0) rfl) pa_nil)) (nomark _))) 
      (pss_one (ps_if (PW.pt (pw_and (pt_cmpR (xo_in (K := K)) (pe_ix (xx_list (K := K)) (pv 2) pe_int (fun _ _ => rfl)) (pe_tup (pa_cons pe_str (pa_cons pe_str pa_nil))) rfl) (pw_and (pt_cmpR (xo_eqP (K := K) hr.units) (xe_fld (K := K) (pv 0) rfl) (pe_tup pa_nil) (nomark _)) (pw_and (pt_cmpR (xo_eqP (K := K) hr.units) (xe_fld (K := K) (pv 0) rfl) (pe_tup pa_nil) (nomark _)) (pw_and1 (pt_cmpR op_lt (pe_callB (xc_len (K := K)) (by rfl) B.len boot_len (pa_cons (xe_fld (K := K) (pv 0) rfl) pa_nil)) (pe_gi (by rfl) B.c_MOST_NODES) (nomark _)))))))
        (pss_one (ps_expr (pe_mt h_Store_read_node (pv 0) (hr.mono (by decide)) (pa_cons (pv 1) (pa_cons (pv 2) pa_nil)))))
        (pss_one (ps_if (PW.pt (pw_and (pt_cmpR (xo_in (K := K)) (pe_ix (xx_list (K := K)) (pv 2) pe_int (fun _ _ => rfl)) (pe_tup (pa_cons pe_str (pa_cons pe_str pa_nil))) rfl) (pw_and (pt_val (pv 3)) (pw_and1 (pt_cmpR (xo_eqP (K := K) hr.units) (xe_fld (K := K) (pv 0) rfl) (pe_tup pa_nil) (nomark _))))))
          (pss_cons (ps_setLc (i := 4) (own := [("mend", 5)]) rfl sc.nd rfl rfl (sw_true rfl rfl rfl (by decide +kernel)) (xi_tup (K := K) (xe_fld (K := K) (pv 0) rfl)) (blkOk_by (own := [("mend", 5)]) (N := ["self", "line", "words", "is_begun", "labels", "mend"]) (sc := defScope s_Store_read_line) (by decide +kernel)) (fun _ _ _ _ _ => (pg_name (i := 5) sc.nd rfl (Or.inl rfl))) (fun _ _ _ _ _ => pts_nil) (fun _ _ _ _ _ => (xe_fld (K := K) (pv 5) rfl))) 
          (pss_one (xs_fld (K := K) (pv 0) (pe_op (xo_catA (K := K)) (xe_fld (K := K) (pv 0) rfl) (pe_tup (pa_cons (pe_fn h_read_mend (hr.mono (by decide)) (by rfl) (pa_cons (pv 2) (pa_cons (pv 1) (pa_cons (pv 4) (pa_cons (xe_fld (K := K) (pv 0) rfl) pa_nil))))) pa_nil))) rfl)))
          (pss_one (ps_if (PW.pt (pw_and (pt_cmpR op_eq (pe_ix (xx_list (K := K)) (pv 2) pe_int (fun _ _ => rfl)) pe_str (nomark _)) (pw_and1 (pt_val (pv 3)))))
            (pss_one (xs_fld (K := K) (pv 0) (pe_op (xo_catA (K := K)) (xe_fld (K := K) (pv 0) rfl) (pe_tup (pa_cons (pe_fn h_reader_items (hr.mono (by decide)) (by rfl) (pa_cons (pv 2) (pa_cons (pv 1) (pa_cons (xe_fld (K := K) (pv 0) rfl) pa_nil)))) pa_nil))) rfl))
            (pss_one ps_never))))))))), read_M h ?_⟩
  rintro ds μ Φ ⟨p, t, t', ws, line, step, rfl, rfl, rfl⟩ nd
  refine run_seq (run_asgG (ev_peekI (p := p) (C := c.S) (j := 0) (i := 0) (b := decide (((sD t.nodes).length : Int) > ((sD t.fresh).length : Int))) rfl rfl (ed_op (ed_cb (ea_cons (ed_fld (ed_var rfl) hc.clS hc.S_nodes rfl) ea_nil) rc_lenF) (ed_cb (ea_cons (ed_fld (ed_var rfl) hc.clS hc.S_fresh rfl) ea_nil) rc_lenF) rv_bl) ?_))
  cases step with
  | node nw n a sm h1 h2 h3 h4 h5 =>
    have hw0 : (sD (rowN nw n a))[0]? = some (.str (if nw = true then ("new" : Str) else "node")) := rfl
    have hmn : decide ((if nw = true then ("new" : Str) else "node") ∈ [("node" : Str), "new"]) = true := by cases nw <;> decide +kernel
    refine run_then1 (evt_peekI (p := p) (C := c.S) (j := 0) (i := 0) (b := true) rfl rfl (EdT.is (et_and (et_test (ed_op (ed_op (ed_var rfl) (ed_int 0) (rv_ixL (atI_nat (j := 0) hw0))) (ed_tup (ea_cons (ed_str "node") (ea_cons (ed_str "new") ea_nil)) (show 2 ≤ 100000 by decide)) (rv_inT (ss := ["node", "new"])))) fun _ =>
      et_and (et_test (ed_op (EvD.is (ed_fld (ed_var rfl) hc.clS hc.S_mends rfl) (show D.tup (t.mends.map (encM c)) = .tup [] by rw [h4]; rfl)) (ed_tup ea_nil (Nat.zero_le _)) rv_emp)) fun _ =>
      et_and (et_test (ed_op (EvD.is (ed_fld (ed_var rfl) hc.clS hc.S_readers rfl) (show D.tup (t.readers.map encR) = .tup [] by rw [h5]; rfl)) (ed_tup ea_nil (Nat.zero_le _)) rv_emp)) fun _ =>
      et_test (ed_op (ed_cb (ea_cons (ed_fld (ed_var rfl) hc.clS hc.S_nodes rfl) ea_nil) rc_lenF) (ed_int 7) rv_bl)) (by
        rw [hmn, decide_eq_true (by rw [List.length_map]; have := sm.nodes; omega)]
        rfl)) ⟨rfl, rfl⟩) ?_
    refine run_dropG (ev_meth (ev_of (ed_var rfl) ⟨p, _, 0, rfl, rfl, rfl, eva_of (ea_cons (ed_var rfl) (ea_cons (ed_var rfl) ea_nil)) ⟨[(p, .ins c.S (fldS c t))], by simp, by simp, _, ⟨p, t, nw, n, a, line, sm, h1, h2, h3.1, h3.2, rfl, rfl, rfl⟩, ?_⟩⟩))
    rintro d μ1' _ ⟨rfl, rfl⟩
    refine ⟨_, List.Sublist.refl _, rfl, rfl, ?_⟩
    simp [putμ, List.lookup]
  | mend md sm h1 h2 h3 h4 h5 =>
    have hb : decide (((sD t.nodes).length : Int) > ((sD t.fresh).length : Int)) = true := decide_eq_true (by rw [List.length_map, List.length_map]; omega)
    rw [hb]
    obtain ⟨w0, hw0, hm1, hm2⟩ : ∃ w0 : Str, (sD (mendW md))[0]? = some (.str w0) ∧ decide (w0 ∈ [("node" : Str), "new"]) = false ∧ decide (w0 ∈ [("mend" : Str), "pair"]) = true := by
      cases md with
      | one => exact ⟨"mend", rfl, by decide +kernel, by decide +kernel⟩
      | two => exact ⟨"pair", rfl, by decide +kernel, by decide +kernel⟩
    refine run_no (et_and0 (EdT.is (et_test (ed_op (ed_op (ed_var rfl) (ed_int 0) (rv_ixL (atI_nat (j := 0) hw0))) (ed_tup (ea_cons (ed_str "node") (ea_cons (ed_str "new") ea_nil)) (show 2 ≤ 100000 by decide)) (rv_inT (ss := ["node", "new"])))) hm1)) ?_
    refine run_then1 (evt_peekI (p := p) (C := c.S) (j := 0) (i := 0) (b := true) rfl rfl (EdT.is (et_and (et_test (ed_op (ed_op (ed_var rfl) (ed_int 0) (rv_ixL (atI_nat (j := 0) hw0))) (ed_tup (ea_cons (ed_str "mend") (ea_cons (ed_str "pair") ea_nil)) (show 2 ≤ 100000 by decide)) (rv_inT (ss := ["mend", "pair"])))) fun _ =>
      et_and (et_B (ed_var rfl)) fun _ => et_test (ed_op (EvD.is (ed_fld (ed_var rfl) hc.clS hc.S_readers rfl) (show D.tup (t.readers.map encR) = .tup [] by rw [h5]; rfl)) (ed_tup ea_nil (Nat.zero_le _)) rv_emp)) (by rw [hm2]; rfl)) ⟨rfl, rfl⟩) ?_
    refine run_seq (run_asgG (ev_lcV (items := t.mends.map (encM c)) (by rw [List.length_map]; have := sm.mends; omega) (fun i acc μ1 => acc = sD ((t.mends.take i).map Mnd.label) ∧ μ1 = [(p, .ins c.S (fldS c t))]) (iv_tup (ev_fldC (i := 0) (ed_var rfl) rfl hc.clS hc.S_mends rfl ⟨_, rfl, rfl, rfl, rfl⟩)) (fun C i d acc μ1 hC1 hC2 hi hJ hacc => ?_) fun acc μ1 hJ => ?_))
    · obtain ⟨rfl, rfl⟩ := hJ
      rw [List.getElem?_map] at hi
      cases hmd : t.mends[i]? with
      | none => rw [hmd] at hi; cases hi
      | some m0 =>
        rw [hmd] at hi
        have hi : encM c m0 = d := Option.some.inj hi
        subst hi
        refine ⟨_, _, tg_name, by simp, evt_yes ⟨_, rfl, ?_⟩⟩
        rw [if_pos rfl]
        refine ev_of (ed_M_label hc (ed_var rfl)) ⟨_, rfl, ?_, rfl⟩
        rw [show t.mends.take (i + 1) = t.mends.take i ++ [m0] by rw [List.take_add_one, hmd]; rfl, List.map_append, show sD (List.map Mnd.label (t.mends.take i) ++ List.map Mnd.label [m0]) = sD (List.map Mnd.label (t.mends.take i)) ++ [D.str m0.label] from List.map_append]
    obtain ⟨rfl, rfl⟩ := hJ
    rw [List.length_map, List.take_length]
    refine run_fldG (p := p) (C := c.S) (ev_op (P1 := fun d μ1 => d = .tup (t.mends.map (encM c)) ∧ μ1 = [(p, .ins c.S (fldS c t))]) (ev_fldC (i := 0) (ed_var rfl) rfl hc.clS hc.S_mends rfl ⟨rfl, rfl⟩) ?_) hc.clS hc.S_mends
    rintro _ _ ⟨rfl, rfl⟩
    refine ev_tup (eva_cons (P1 := fun d μ1 => d = encM c md ∧ μ1 = [(p, .ins c.S (fldS c t))]) (ev_callP (eva_cons (P1 := fun d μ1 => d = encWs (mendW md) ∧ μ1 = [(p, .ins c.S (fldS c t))]) (ev_of (ed_var rfl) ⟨rfl, rfl⟩) ?_)) ?_)
    · rintro _ _ ⟨rfl, rfl⟩
      refine eva_cons (P1 := fun d μ1 => d = line ∧ μ1 = [(p, .ins c.S (fldS c t))]) (ev_of (ed_var rfl) ⟨rfl, rfl⟩) ?_
      rintro _ _ ⟨rfl, rfl⟩
      refine eva_cons (P1 := fun d μ1 => d = .lst (sD (t.mends.map Mnd.label)) ∧ μ1 = [(p, .ins c.S (fldS c t))]) (ev_of (ed_var rfl) ⟨rfl, rfl⟩) ?_
      rintro _ _ ⟨rfl, rfl⟩
      refine eva_cons (P1 := fun d μ1 => d = .tupF (sD t.nodes) ∧ μ1 = [(p, .ins c.S (fldS c t))]) (ev_fldC (i := 0) (ed_var rfl) rfl hc.clS hc.S_nodes rfl ⟨rfl, rfl⟩) ?_
      rintro _ _ ⟨rfl, rfl⟩
      exact eva_nil ⟨encM c md, ⟨md, t.nodes, t.mends.map Mnd.label, _, h1, sm.nodes, sm.names, h2, h3, rfl, rfl⟩, rfl, rfl⟩
    rintro _ _ ⟨rfl, rfl⟩
    refine eva_nil ⟨(show 1 ≤ 100000 by decide), _, rv_catA (by rw [List.length_map]; have := sm.mends; show _ + 1 ≤ _; omega), ed_var rfl, 0, _, rfl, (show 7 < 1000 by decide), ?_⟩
    refine ⟨_, List.Sublist.refl _, rfl, rfl, ?_⟩
    unfold addM fldS
    simp only [List.map_append]
    rfl
  | reader r sm h1 h4 =>
    have hb : decide (((sD t.nodes).length : Int) > ((sD t.fresh).length : Int)) = true := decide_eq_true (by rw [List.length_map, List.length_map]; omega)
    rw [hb]
    have hix : ∀ {ρ : Ro}, ρ[2]? = some (some (encWs (readW r))) → EvD K (tOp (rIxL K) (tVar 2) (tC (.int 0))) ρ (.str "reader") := fun h => ed_op (ed_var h) (ed_int 0) (rv_ixL (atI_nat (j := 0) rfl))
    refine run_no (et_and0 (EdT.is (et_test (ed_op (hix rfl) (ed_tup (ea_cons (ed_str "node") (ea_cons (ed_str "new") ea_nil)) (show 2 ≤ 100000 by decide)) (rv_inT (ss := ["node", "new"])))) (by decide +kernel))) ?_
    refine run_no (et_and0 (EdT.is (et_test (ed_op (hix rfl) (ed_tup (ea_cons (ed_str "mend") (ea_cons (ed_str "pair") ea_nil)) (show 2 ≤ 100000 by decide)) (rv_inT (ss := ["mend", "pair"])))) (by decide +kernel))) ?_
    refine run_yes (EdT.is (et_and (et_test (ed_op (hix rfl) (ed_str "reader") (rv_eq rfl rfl rfl))) fun _ => et_B (ed_var rfl)) (show (decide (V.str "reader" = V.str "reader") && true) = true by decide +kernel)) ?_
    refine run_fldG (p := p) (C := c.S) (ev_op (P1 := fun d μ1 => d = .tup (t.readers.map encR) ∧ μ1 = [(p, .ins c.S (fldS c t))]) (ev_fldC (i := 0) (ed_var rfl) rfl hc.clS hc.S_readers rfl ⟨rfl, rfl⟩) ?_) hc.clS hc.S_readers
    rintro _ _ ⟨rfl, rfl⟩
    refine ev_tup (eva_cons (P1 := fun d μ1 => d = encR r ∧ μ1 = [(p, .ins c.S (fldS c t))]) (ev_callP (eva_cons (P1 := fun d μ1 => d = encWs (readW r) ∧ μ1 = [(p, .ins c.S (fldS c t))]) (ev_of (ed_var rfl) ⟨rfl, rfl⟩) ?_)) ?_)
    · rintro _ _ ⟨rfl, rfl⟩
      refine eva_cons (P1 := fun d μ1 => d = line ∧ μ1 = [(p, .ins c.S (fldS c t))]) (ev_of (ed_var rfl) ⟨rfl, rfl⟩) ?_
      rintro _ _ ⟨rfl, rfl⟩
      refine eva_cons (P1 := fun d μ1 => d = .tupF (sD t.nodes) ∧ μ1 = [(p, .ins c.S (fldS c t))]) (ev_fldC (i := 0) (ed_var rfl) rfl hc.clS hc.S_nodes rfl ⟨rfl, rfl⟩) ?_
      rintro _ _ ⟨rfl, rfl⟩
      exact eva_nil ⟨encR r, ⟨r, t.nodes, _, h1, h1.few sm.nodes, sm.names, rfl, rfl⟩, rfl, rfl⟩
    rintro _ _ ⟨rfl, rfl⟩
    refine eva_nil ⟨(show 1 ≤ 100000 by decide), _, rv_catA (by rw [List.length_map]; have := sm.readers; show _ + 1 ≤ _; omega), ed_var rfl, 0, _, rfl, (show 7 < 1000 by decide), ?_⟩
    refine ⟨_, List.Sublist.refl _, rfl, rfl, ?_⟩
    unfold addR fldS
    simp only [List.map_append]
    rfl
end Am
/-! The rows of a good store are read one after another. -/
namespace Am
open PySem PySem.Spec PyProof.Rows L2
theorem textOf_rows (s : Sto) : textOf s = txtOf (rowsW s) := rfl
theorem pool_chars : ∀ P ∈ pools, ∀ n ∈ P, 58 ∉ TL.tl n ∧ 32 ∉ TL.tl n ∧ 10 ∉ TL.tl n := by decide +kernel
theorem lab_chars : ∀ P ∈ pools, ∀ k : Fin 21, ∀ a ∈ labsAt P k.val, 32 ∉ TL.tl a ∧ 10 ∉ TL.tl a := by decide +kernel
def nameB (w : Str) : Bool := decide (1 ≤ w.length) && decide (w.length ≤ 12) && (match (TL.tl w)[0]? with | some c => decide (c ∈ TL.tl SMALLs) | none => false) && (TL.tl w).all fun c => decide (c ∈ TL.tl SMALLs) || decide (c ∈ TL.tl DIGITSs)
theorem nameB_ok {w : Str} (h : nameB w = true) : NameOk w := by
  unfold nameB at h
  simp only [Bool.and_eq_true, decide_eq_true_eq, List.all_eq_true, Bool.or_eq_true] at h
  obtain ⟨⟨⟨h1, h2⟩, h3⟩, h4⟩ := h
  refine ⟨⟨h1, h2⟩, ?_, h4⟩
  cases hc : (TL.tl w)[0]? with
  | none => rw [hc] at h3; cases h3
  | some c => rw [hc] at h3; exact ⟨c, rfl, of_decide_eq_true h3⟩
theorem pool_name : ∀ P ∈ pools, ∀ n ∈ P, nameB n = true := by decide +kernel
theorem lab_name : ∀ P ∈ pools, ∀ k : Fin 21, ∀ a ∈ labsAt P k.val, nameB a = true := by decide +kernel
/-- the store after k rows -/
def stAt (s : Sto) (k : Nat) : Sto := { s with text := textOf s, nodes := s.nodes.take k, rooms := s.rooms.take k, fresh := (s.nodes.take k).filter fun n => decide (n ∈ s.fresh), mends := s.mends.take (k - s.nodes.length), readers := s.readers.take (k - s.nodes.length - s.mends.length) }
theorem sub_filter {l f : List Str} (nd : l.Nodup) (h : List.Sublist f l) : (l.filter fun n => decide (n ∈ f)) = f := by
  induction h with
  | slnil => rfl
  | @cons l1 l2 a h ih =>
    rw [List.nodup_cons] at nd
    have ha : a ∉ l1 := fun z => nd.1 (h.subset z)
    rw [List.filter_cons, if_neg (by simpa using ha), ih nd.2]
  | @cons_cons l1 l2 a h ih =>
    rw [List.nodup_cons] at nd
    rw [List.filter_cons, if_pos (by simp)]
    congr 1
    refine Eq.trans ?_ (ih nd.2)
    refine List.filter_congr fun n hn => ?_
    have : n ≠ a := fun z => nd.1 (z ▸ hn)
    simp [this]
theorem Good.pool_in {s : Sto} (g : Good s) : ∃ P ∈ pools, (∀ n ∈ s.nodes, n ∈ P) ∧ LabInv P 21 s.mends := by
  obtain ⟨P, hP, j, _, _, e, hl⟩ := g.pool
  exact ⟨P, hP, fun n hn => by rw [e] at hn; exact List.mem_of_mem_take hn, hl⟩
theorem Good.chars {s : Sto} (g : Good s) : ∀ n ∈ s.nodes, 58 ∉ TL.tl n ∧ 32 ∉ TL.tl n ∧ 10 ∉ TL.tl n := fun n hn => by
  obtain ⟨P, hP, h1, _⟩ := g.pool_in
  exact pool_chars P hP n (h1 n hn)
theorem Good.small {s : Sto} (g : Good s) (k : Nat) : Small (stAt s k) := by
  have h1 := g.few
  have h2 := g.rl
  have h3 := g.mfew
  have h4 := g.rfew
  refine ⟨?_, ?_, ?_, ?_, ?_, fun n hn => ?_⟩
  · show (s.nodes.take k).length ≤ 5
    rw [List.length_take]; omega
  · show (s.rooms.take k).length ≤ 5
    rw [List.length_take]; omega
  · refine Nat.le_trans (List.length_filter_le _ _) ?_
    rw [List.length_take]; omega
  · show (s.mends.take _).length ≤ 20
    rw [List.length_take]; omega
  · show (s.readers.take _).length ≤ 20
    rw [List.length_take]; omega
  · have hn : n ∈ s.nodes := List.mem_of_mem_take hn
    exact ⟨(g.chars n hn).1, g.short n hn⟩
theorem step_node {s : Sto} (g : Good s) {k : Nat} {q : Str × Int} (h : (s.nodes.zip s.rooms)[k]? = some q) : RowStep (stAt s k) (nodeW s q) (stAt s (k + 1)) := by
  obtain ⟨n, a⟩ := q
  obtain ⟨h1, h2⟩ := List.getElem?_zip_eq_some.mp h
  have hk := (List.getElem?_eq_some_iff.mp h1).1
  have hn := List.mem_of_getElem? h1
  obtain ⟨P, hP, hin, _⟩ := g.pool_in
  have hnew : n ∉ s.nodes.take k := fun hm => by
    have hnd := g.nd
    rw [← List.take_append_drop k s.nodes, List.nodup_append] at hnd
    refine hnd.2.2 n hm n ?_ rfl
    rw [List.drop_eq_getElem_cons hk]
    have h3 := List.getElem?_eq_getElem hk
    rw [h1] at h3
    rw [← Option.some.inj h3]
    simp
  have e : stAt s (k + 1) = addN (stAt s k) (decide (n ∈ s.fresh)) n a := by
    unfold stAt addN
    have e1 : s.nodes.take (k + 1) = s.nodes.take k ++ [n] := by rw [List.take_add_one, h1]; rfl
    have e2 : s.rooms.take (k + 1) = s.rooms.take k ++ [a] := by rw [List.take_add_one, h2]; rfl
    have e3 : k + 1 - s.nodes.length = 0 := by omega
    have e4 : k - s.nodes.length = 0 := by omega
    rw [e1, e2, e3, e4, List.filter_append]
    by_cases z : n ∈ s.fresh
    · simp [z]
    · simp [z]
  have ew : nodeW s (n, a) = rowN (decide (n ∈ s.fresh)) n a := by
    unfold nodeW rowN
    by_cases z : n ∈ s.fresh <;> simp [z]
  rw [e, ew]
  refine .node _ _ n a (g.small k) (nameB_ok (pool_name P hP n (hin n hn))) hnew (g.r0 a (List.mem_of_getElem? h2)) ?_ ?_
  · show s.mends.take _ = []
    rw [show k - s.nodes.length = 0 by omega, List.take_zero]
  · show s.readers.take _ = []
    rw [show k - s.nodes.length - s.mends.length = 0 by omega, List.take_zero]
theorem Good.fresh_lt {s : Sto} (g : Good s) {k : Nat} (hk : s.nodes.length ≤ k) : (stAt s k).fresh.length < (stAt s k).nodes.length := by
  obtain ⟨P, hP, j, h2, h5, e, _⟩ := g.pool
  have hne : 0 < s.nodes.length := by
    rw [e, List.length_take]
    have : P.length = 6 := by simp [pools] at hP; rcases hP with rfl | rfl <;> rfl
    omega
  show ((s.nodes.take k).filter fun n => decide (n ∈ s.fresh)).length < (s.nodes.take k).length
  rw [List.take_of_length_le hk, sub_filter g.nd (g.fresh.trans (List.drop_sublist _ _))]
  have := g.fresh.length_le
  rw [List.length_drop] at this
  omega
theorem step_mend {s : Sto} (g : Good s) {k : Nat} {md : Mnd} (h : s.mends[k]? = some md) : RowStep (stAt s (s.nodes.length + k)) (mendW md) (stAt s (s.nodes.length + k + 1)) := by
  have hk := (List.getElem?_eq_some_iff.mp h).1
  have hm := List.mem_of_getElem? h
  obtain ⟨P, hP, _, hl⟩ := g.pool_in
  have en : s.nodes.take (s.nodes.length + k) = s.nodes := List.take_of_length_le (by omega)
  have en' : s.nodes.take (s.nodes.length + k + 1) = s.nodes := List.take_of_length_le (by omega)
  have er : s.rooms.take (s.nodes.length + k) = s.rooms := List.take_of_length_le (by rw [g.rl]; omega)
  have er' : s.rooms.take (s.nodes.length + k + 1) = s.rooms := List.take_of_length_le (by rw [g.rl]; omega)
  have e : stAt s (s.nodes.length + k + 1) = addM (stAt s (s.nodes.length + k)) md := by
    unfold stAt addM
    have e1 : s.mends.take (k + 1) = s.mends.take k ++ [md] := by rw [List.take_add_one, h]; rfl
    rw [en, en', er, er', show s.nodes.length + k + 1 - s.nodes.length = k + 1 by omega, show s.nodes.length + k - s.nodes.length = k by omega, e1, show k + 1 - s.mends.length = 0 by omega, show k - s.mends.length = 0 by omega]
  rw [e]
  obtain ⟨kk, hkk, hlab⟩ := hl.at_ md hm
  refine .mend _ md (g.small _) (by show MdOk (s.nodes.take _) 4 md; rw [en]; exact g.mends md hm) (nameB_ok (lab_name P hP ⟨kk, hkk⟩ _ hlab)) ?_ (g.fresh_lt (by omega)) ?_
  · show md.label ∉ (s.mends.take _).map Mnd.label
    rw [show s.nodes.length + k - s.nodes.length = k by omega]
    intro hmem
    have hnd := hl.nd
    rw [← List.take_append_drop k s.mends, List.map_append, List.nodup_append] at hnd
    refine hnd.2.2 _ hmem md.label ?_ rfl
    rw [List.drop_eq_getElem_cons hk]
    have h3 := List.getElem?_eq_getElem hk
    rw [h] at h3
    rw [← Option.some.inj h3]
    simp
  · show s.readers.take _ = []
    rw [show s.nodes.length + k - s.nodes.length - s.mends.length = 0 by omega, List.take_zero]
theorem step_reader {s : Sto} (g : Good s) {k : Nat} {r : List (Str × Option Int)} (h : s.readers[k]? = some r) : RowStep (stAt s (s.nodes.length + s.mends.length + k)) (readW r) (stAt s (s.nodes.length + s.mends.length + k + 1)) := by
  have hk := (List.getElem?_eq_some_iff.mp h).1
  have hm := List.mem_of_getElem? h
  have en : s.nodes.take (s.nodes.length + s.mends.length + k) = s.nodes := List.take_of_length_le (by omega)
  have en' : s.nodes.take (s.nodes.length + s.mends.length + k + 1) = s.nodes := List.take_of_length_le (by omega)
  have er : s.rooms.take (s.nodes.length + s.mends.length + k) = s.rooms := List.take_of_length_le (by rw [g.rl]; omega)
  have er' : s.rooms.take (s.nodes.length + s.mends.length + k + 1) = s.rooms := List.take_of_length_le (by rw [g.rl]; omega)
  have e : stAt s (s.nodes.length + s.mends.length + k + 1) = addR (stAt s (s.nodes.length + s.mends.length + k)) r := by
    unfold stAt addR
    have e1 : s.readers.take (k + 1) = s.readers.take k ++ [r] := by rw [List.take_add_one, h]; rfl
    have em : s.mends.take (s.nodes.length + s.mends.length + k - s.nodes.length) = s.mends := List.take_of_length_le (by omega)
    have em' : s.mends.take (s.nodes.length + s.mends.length + k + 1 - s.nodes.length) = s.mends := List.take_of_length_le (by omega)
    rw [en, en', er, er', em, em', show s.nodes.length + s.mends.length + k + 1 - s.nodes.length - s.mends.length = k + 1 by omega, show s.nodes.length + s.mends.length + k - s.nodes.length - s.mends.length = k by omega, e1]
  rw [e]
  exact .reader _ r (g.small _) (by show RdOk (s.nodes.take _) 4 r; rw [en]; exact g.readers r hm) (g.fresh_lt (by omega))
def clean (w : Str) : Prop := w.length ≤ 20 ∧ 32 ∉ TL.tl w ∧ 10 ∉ TL.tl w
theorem clean_num {n : Int} (h0 : 0 ≤ n) (h1 : n ≤ 100) : clean (numT n) := ⟨by have := num_len h0 h1; omega, num_free 32 (by decide) n, num_free 10 (by decide) n⟩
theorem clean_lit : ∀ w ∈ [("file" : Str), "new", "node", "mend", "pair", "from", "swap", "and", "reader"], clean w := by unfold clean; decide +kernel
theorem Good.cleanN {s : Sto} (g : Good s) {n : Str} (h : n ∈ s.nodes) : clean n := ⟨by have := g.short n h; omega, (g.chars n h).2⟩
theorem clean_item {n : Str} {a : Int} (hn : clean n) (h2 : n.length ≤ 2) (h0 : 0 ≤ a) (h1 : a ≤ 100) : clean (itemW (n, a)) := by
  have hc := clean_num h0 h1
  refine ⟨item_short (p := (n, a)) h2 h0 h1, ?_, ?_⟩
  · unfold itemW
    rw [TL.tl_append, TL.tl_append]
    intro hm
    rcases List.mem_append.mp hm with hm | hm
    · rcases List.mem_append.mp hm with hm | hm
      · exact hn.2.1 hm
      · exact absurd hm (by decide +kernel)
    · exact hc.2.1 hm
  · unfold itemW
    rw [TL.tl_append, TL.tl_append]
    intro hm
    rcases List.mem_append.mp hm with hm | hm
    · rcases List.mem_append.mp hm with hm | hm
      · exact hn.2.2 hm
      · exact absurd hm (by decide +kernel)
    · exact hc.2.2 hm
theorem Good.rowsOk {s : Sto} (g : Good s) : RowsOk (rowsW s) := by
  have hfew := g.few
  have hl1 := g.mfew
  have hl2 := g.rfew
  have hitems : ∀ {names hs : List Str} {as : List Int}, ItemsOk (s.nodes.filter fun n => !decide (n ∈ names)) 4 hs as → ∀ w ∈ itemsW hs as, clean w := fun i w hw => by
    obtain ⟨q, hq, rfl⟩ := List.mem_map.mp hw
    obtain ⟨h1, h2, h3⟩ := items_len g.short i q hq
    have hin := (List.mem_filter.mp (i.sub _ (List.of_mem_zip hq).1)).1
    exact clean_item (g.cleanN hin) h1 h2 (by omega)
  refine ⟨by unfold rowsW; simp, ?_, fun ws hws => ?_⟩
  · unfold rowsW
    rw [List.length_cons, List.length_append, List.length_append, List.length_map, List.length_map, List.length_map, List.length_zip]
    omega
  suffices h : ws ≠ [] ∧ ws.length ≤ 100 ∧ ∀ w ∈ ws, clean w from h
  unfold rowsW at hws
  rcases List.mem_cons.mp hws with rfl | hws
  · have hf := g.file
    refine ⟨by simp, by simp, fun w hw => ?_⟩
    simp only [List.mem_cons, List.not_mem_nil, or_false] at hw
    rcases hw with rfl | rfl
    · exact clean_lit _ (by simp)
    · exact clean_num (by omega) (by omega)
  rcases List.mem_append.mp hws with hws | hws
  · obtain ⟨q, hq, rfl⟩ := List.mem_map.mp hws
    obtain ⟨h1, h2, h3⟩ := mem_rowsT g hq
    unfold nodeW
    refine ⟨by simp, by simp, fun w hw => ?_⟩
    simp only [List.mem_cons, List.not_mem_nil, or_false] at hw
    rcases hw with rfl | rfl | rfl
    · by_cases z : q.1 ∈ s.fresh
      · rw [if_pos z]; exact clean_lit _ (by simp)
      · rw [if_neg z]; exact clean_lit _ (by simp)
    · exact g.cleanN (List.of_mem_zip hq).1
    · exact clean_num h2 (by omega)
  rcases List.mem_append.mp hws with hws | hws
  · obtain ⟨md, hmd, rfl⟩ := List.mem_map.mp hws
    have hok := g.mends md hmd
    have hcl : clean md.label := by
      obtain ⟨P, hP, _, hl⟩ := g.pool_in
      obtain ⟨kk, hkk, hlab⟩ := hl.at_ md hmd
      exact ⟨by have := g.labShort md hmd; omega, lab_chars P hP ⟨kk, hkk⟩ _ hlab⟩
    cases md with
    | one lb nv hs as =>
      obtain ⟨hv, iI⟩ := hok.one lb nv hs as rfl
      have hf := itemsW_few hfew iI
      refine ⟨fun h => (by cases h), ?_, fun w hw => ?_⟩
      · show ([("mend" : Str), lb, nv, "from"] ++ itemsW hs as).length ≤ 100
        rw [List.length_append]
        simp only [List.length_cons, List.length_nil]
        omega
      have hw : w ∈ [("mend" : Str), lb, nv, "from"] ++ itemsW hs as := hw
      rcases List.mem_append.mp hw with hw | hw
      · simp only [List.mem_cons, List.not_mem_nil, or_false] at hw
        rcases hw with rfl | rfl | rfl | rfl
        · exact clean_lit _ (by simp)
        · exact hcl
        · exact g.cleanN hv
        · exact clean_lit _ (by simp)
      · exact hitems iI w hw
    | two lb nu nv h1 h2 a1 a2 sw =>
      obtain ⟨hu, hv, huv, iI, iJ, s0, s4⟩ := hok.two lb nu nv h1 h2 a1 a2 sw rfl
      have hf := itemsW_few hfew iI
      have hf2 := itemsW_few hfew iJ
      refine ⟨fun h => (by cases h), ?_, fun w hw => ?_⟩
      · show ([("pair" : Str), lb, nu, nv, "swap", numT sw, "from"] ++ (itemsW h1 a1 ++ (("and" : Str) :: itemsW h2 a2))).length ≤ 100
        rw [List.length_append, List.length_append]
        simp only [List.length_cons, List.length_nil]
        omega
      have hw : w ∈ [("pair" : Str), lb, nu, nv, "swap", numT sw, "from"] ++ (itemsW h1 a1 ++ (("and" : Str) :: itemsW h2 a2)) := hw
      rcases List.mem_append.mp hw with hw | hw
      · simp only [List.mem_cons, List.not_mem_nil, or_false] at hw
        rcases hw with rfl | rfl | rfl | rfl | rfl | rfl | rfl
        · exact clean_lit _ (by simp)
        · exact hcl
        · exact g.cleanN hu
        · exact g.cleanN hv
        · exact clean_lit _ (by simp)
        · exact clean_num s0 (by omega)
        · exact clean_lit _ (by simp)
      rcases List.mem_append.mp hw with hw | hw
      · exact hitems iI w hw
      rcases List.mem_cons.mp hw with rfl | hw
      · exact clean_lit _ (by simp)
      · exact hitems iJ w hw
  · obtain ⟨rd, hrd, rfl⟩ := List.mem_map.mp hws
    have hok := g.readers rd hrd
    have hl := hok.few hfew
    refine ⟨by unfold readW; simp, by unfold readW; rw [List.length_cons, List.length_map]; omega, fun w hw => ?_⟩
    rcases List.mem_cons.mp hw with rfl | hw
    · exact clean_lit _ (by simp)
    · obtain ⟨⟨n, o⟩, hq, rfl⟩ := List.mem_map.mp hw
      have hn := hok.sub _ hq
      cases o with
      | none => exact g.cleanN hn
      | some x =>
        have := hok.am _ hq x rfl
        exact clean_item (g.cleanN hn) (g.short n hn) this.1 (by omega)
end Am
/-! Each row of a good store is a step; the first and the last store. -/
namespace Am
open PySem PySem.Spec PyProof.Rows L2
theorem rows_step {s : Sto} (g : Good s) {i : Nat} {ws : List Str} (h : (rowsW s)[i + 1]? = some ws) : RowStep (stAt s i) ws (stAt s (i + 1)) := by
  have h : ((s.nodes.zip s.rooms).map (nodeW s) ++ (s.mends.map mendW ++ s.readers.map readW))[i]? = some ws := h
  have hz : (s.nodes.zip s.rooms).length = s.nodes.length := by rw [List.length_zip, g.rl, Nat.min_self]
  rcases Nat.lt_or_ge i s.nodes.length with h1 | h1
  · rw [List.getElem?_append_left (by rw [List.length_map, hz]; exact h1), List.getElem?_map] at h
    cases hq : (s.nodes.zip s.rooms)[i]? with
    | none => rw [hq] at h; cases h
    | some q =>
      rw [hq] at h
      have h : nodeW s q = ws := Option.some.inj h
      subst h
      exact step_node g hq
  rw [List.getElem?_append_right (by rw [List.length_map, hz]; exact h1), List.length_map, hz] at h
  obtain ⟨k, rfl⟩ := Nat.exists_eq_add_of_le h1
  rw [Nat.add_sub_cancel_left] at h
  rcases Nat.lt_or_ge k s.mends.length with h2 | h2
  · rw [List.getElem?_append_left (by rw [List.length_map]; exact h2), List.getElem?_map] at h
    cases hq : s.mends[k]? with
    | none => rw [hq] at h; cases h
    | some q =>
      rw [hq] at h
      have h : mendW q = ws := Option.some.inj h
      subst h
      exact step_mend g hq
  rw [List.getElem?_append_right (by rw [List.length_map]; exact h2), List.length_map] at h
  obtain ⟨l, rfl⟩ := Nat.exists_eq_add_of_le h2
  rw [Nat.add_sub_cancel_left, List.getElem?_map] at h
  rw [← Nat.add_assoc]
  cases hq : s.readers[l]? with
  | none => rw [hq] at h; cases h
  | some q =>
    rw [hq] at h
    have h : readW q = ws := Option.some.inj h
    subst h
    exact step_reader g hq
theorem rows_len {s : Sto} (g : Good s) : (rowsW s).length = s.nodes.length + s.mends.length + s.readers.length + 1 := by
  unfold rowsW
  rw [List.length_cons, List.length_append, List.length_append, List.length_map, List.length_map, List.length_map, List.length_zip, g.rl, Nat.min_self]
  omega
theorem st_end {s : Sto} (g : Good s) : stAt s (s.nodes.length + s.mends.length + s.readers.length) = { s with text := textOf s } := by
  unfold stAt
  rw [List.take_of_length_le (l := s.nodes) (by omega), List.take_of_length_le (l := s.rooms) (by rw [g.rl]; omega), List.take_of_length_le (l := s.mends) (by omega), List.take_of_length_le (l := s.readers) (by omega), sub_filter g.nd (g.fresh.trans (List.drop_sublist _ _))]
theorem st_zero (c : Cls4) (s : Sto) : fldS c (stAt s 0) = ([("text", .str (textOf s)), ("file", .int s.file), ("nodes", .tupF []), ("rooms", .tup []), ("fresh", .tupF []), ("mends", .tup []), ("readers", .tup [])] : List (Str × D)) := by
  unfold fldS stAt
  simp
theorem rows_of (rows : List (List Str)) : D.lst (rows.map encWs) = ofP (PySem.W.Datum.toD rows) := by
  show _ = D.lst (ofPs _)
  rw [ofPs_map]
  refine congrArg D.lst (List.map_congr_left fun l _ => ?_)
  exact lstS_of l
def encIP (p : Str × Option Int) : PyData := PySem.W.Datum.toD p
theorem encI_eq (p : Str × Option Int) : encI p = ofP (PySem.W.Datum.toD p) := by
  obtain ⟨a, o⟩ := p
  cases o <;> rfl
abbrev RdT := PySem.W.Tup (Str × Option Int)
theorem readers_of (rs : List (List (Str × Option Int))) : D.tup (rs.map encR) = ofP (PySem.W.Datum.toD (PySem.W.Tup.mk (rs.map PySem.W.Tup.mk))) := by
  show _ = D.tup (ofPs _)
  rw [ofPs_map, List.map_map]
  refine congrArg D.tup (List.map_congr_left fun l _ => ?_)
  show D.tup _ = D.tup (ofPs _)
  rw [ofPs_map]
  exact congrArg D.tup (List.map_congr_left fun p _ => encI_eq p)
theorem pairI_at {ds : List D} {i : Nat} {d : D} (h : (pairI 0 ds)[i]? = some d) : ∃ x, ds[i]? = some x ∧ d = .tup [.int (i : Nat), x] := by
  have hl := (List.getElem?_eq_some_iff.mp h).1
  rw [pairI_len] at hl
  have h2 := pairI_get ds 0 i ds[i] (List.getElem?_eq_getElem hl)
  rw [h] at h2
  rw [Nat.zero_add] at h2
  exact ⟨ds[i], List.getElem?_eq_getElem hl, Option.some.inj h2⟩
end Am
namespace Am
open PySem PySem.Spec PyProof.Rows L2
theorem len_Store___init__ {c : Cls4} : ∀ ds μ Φ, R_Sinit c ds μ Φ → ds.length = 2 := fun _ _ _ ⟨_, _, _, h, _⟩ => by rw [h]; rfl
abbrev s_Store___init__ : Stmt := inClass (topS 45) 0
theorem sc_Store___init__ : FnScope ["self", "text", "rows", "at", "words"] ["self", "text"] (defScope s_Store___init__) := ⟨rfl, rfl, rfl, by decide +kernel, rfl, by decide +kernel, by decide +kernel⟩
set_option maxHeartbeats 16000000 in
theorem ok_Store___init__ {P : Program} {w : World} {K : PySem.W.Frag} {mg : Str → Option Value} {base : Heap} {c : Cls4} {f : Addr} {fd : FuncData} (B : Blt mg) (hc : ClsOk K c mg)
    (h_need_text : Fn P w K mg base "need_text" 1 ["value"] (spP K R_needText))
    (h_text_rows : Fn P w K mg base "text_rows" 2 ["text"] (spP K R_textRows))
    (h_number_at : Fn P w K mg base "number_at" 2 ["words", "at", "line", "low", "high"] (spP K R_numberAt))
    (h_no_more : Fn P w K mg base "no_more" 1 ["words", "many", "line"] (spP K R_noMore))
    (h_Store_read_line : Mt P w K mg base c.S "read_line" 4 ["self", "line", "words"] (spM K (R_rline c))) (F : FD K "__init__" "Store.__init__" s_Store___init__ f fd) : FnOk P w K mg base CX0 5 f fd ["self", "text"] (spM K (R_Sinit c)) := by
  have sc := sc_Store___init__
  refine F.ok sc (fun vs H Q E h => len_M (n := 2) len_Store___init__ h) (fun cdv A outer s H vs Q E hr h => ?_)
  have hu := hu_of hr
  refine ⟨_, PSs.nox ((pss_cons (ps_expr (pe_fn h_need_text (hr.mono (by decide)) (by rfl) (pa_cons (pv 1) pa_nil))) 
      (pss_cons (ps_set (i := 2) sc.nd rfl (Or.inl rfl) (pe_fn h_text_rows (hr.mono (by decide)) (by rfl) (pa_cons (pv 1) pa_nil))) 
      (pss_cons (ps_if (PW.pt (pw_or (pt_cmpR (xo_eqP (K := K) hr.units) (pv 2) (pe_lst pa_nil) (nomark _)) (pw_or1 (pt_cmpR op_ne (pe_ix (xx_list (K := K)) (pe_ix (xx_list (K := K)) (pv 2) pe_int (fun _ _ => rfl)) pe_int (fun _ _ => rfl)) pe_str (nomark _)))))
        (pss_one ps_never)
        pss_nil) 
      (pss_cons (xs_fld (K := K) (pv 0) (pv 1) rfl) 
      (pss_cons (xs_fld (K := K) (pv 0) (pe_fn h_number_at (hr.mono (by decide)) (by rfl) (pa_cons (pe_ix (xx_list (K := K)) (pv 2) pe_int (fun _ _ => rfl)) (pa_cons pe_int (pa_cons pe_int (pa_cons pe_int (pa_cons (pe_gi (by rfl) B.c_MOST) pa_nil)))))) rfl) 
      (pss_cons (ps_expr (pe_fn h_no_more (hr.mono (by decide)) (by rfl) (pa_cons (pe_ix (xx_list (K := K)) (pv 2) pe_int (fun _ _ => rfl)) (pa_cons pe_int (pa_cons pe_int pa_nil))))) 
      (pss_cons (ps_asg (pe_tup (pa_cons (xe_tupF pa_nil) (pa_cons (pe_tup pa_nil) (pa_cons (xe_tupF pa_nil) (pa_cons (pe_tup pa_nil) (pa_cons (pe_tup pa_nil) pa_nil)))))) (xg_tup (K := K) (n := 5) rfl (pgs_cons (xg_fld (K := K) (pv 0)) (pgs_cons (xg_fld (K := K) (pv 0)) (pgs_cons (xg_fld (K := K) (pv 0)) (pgs_cons (xg_fld (K := K) (pv 0)) (pgs_cons (xg_fld (K := K) (pv 0)) pgs_nil))))))) 
      (pss_cons (ps_for PassesOwn.never rfl (xi_enum (K := K) (by rfl) B.enumerate (pa_cons (pe_slice (xx_sl (K := K)) (pv 2) (po_some pe_int) po_none) pa_nil)) (xg_tup (K := K) (n := 2) rfl (pgs_cons (pg_name (i := 3) sc.nd rfl (Or.inl rfl)) (pgs_cons (pg_name (i := 4) sc.nd rfl (Or.inl rfl)) pgs_nil)))
        (pss_one (ps_expr (pe_mt h_Store_read_line (pv 0) (hr.mono (by decide)) (pa_cons (pe_op op_add (pv 3) pe_int) (pa_cons (pv 4) pa_nil)))))) 
      (pss_one (ps_if (pt_cmpR (xo_eqP (K := K) hr.units) (xe_fld (K := K) (pv 0) rfl) (pe_tup pa_nil) (nomark _))
        (pss_one ps_never)
        pss_nil))))))))))), read_M h ?_⟩
  rintro ds μ Φ ⟨p, s, g, rfl, rfl, rfl⟩ nd
  have hfl := g.file
  have hix : ∀ {ρ : Ro}, ρ[2]? = some (some (.lst ((rowsW s).map encWs))) → EvD K (tOp (rIxL K) (tVar 2) (tC (.int 0))) ρ (encWs ["file", numT s.file]) := fun h => ed_op (ed_var h) (ed_int 0) (rv_ixL (atI_nat (j := 0) rfl))
  refine run_seq (run_dropG (ev_of (ed_call (d := .non) (ea_cons (ed_var rfl) ea_nil) ⟨textOf s, rfl, rfl⟩) ?_))
  refine run_seq (run_asg (d := .lst ((rowsW s).map encWs)) (ed_call (ea_cons (ed_var rfl) ea_nil) ⟨rowsW s, g.rowsOk, rfl, rfl⟩) ?_)
  refine run_seq (run_no (EdT.is (et_or (et_test (ed_op (ed_var rfl) (ed_lst ea_nil (Nat.zero_le _)) (rv_eqT (a := rowsW s) (b := []) (rows_of _) rfl (by decide)))) fun _ => et_test (ed_op (ed_op (hix rfl) (ed_int 0) (rv_ixL (z := .str "file") (atI_nat (j := 0) rfl))) (ed_str "file") (rv_ne rfl rfl rfl))) ?_) (run_next ?_))
  · show (decide (rowsW s = []) || !decide (V.str "file" = V.str "file")) = false
    rw [decide_eq_false (by unfold rowsW; simp)]
    decide +kernel
  refine run_seq (run_fld (p := p) (C := c.S) (j := 0) (i := 0) rfl rfl hc.clS hc.S_text (ed_var rfl) (show 0 < 1000 by decide) ?_)
  refine run_seq (run_fld (p := p) (C := c.S) (j := 0) (i := 0) rfl rfl hc.clS hc.S_file (ed_call (d := .int s.file) (ea_cons (hix rfl) (ea_cons (ed_int 1) (ea_cons (ed_int 1) (ea_cons (ed_int 1) (ea_cons (ed_int 40) ea_nil))))) ⟨["file", numT s.file], 1, _, s.file, 1, 40, rfl, by omega, by omega, by omega, by omega, rfl, rfl⟩) (show 1 < 1000 by decide) ?_)
  refine run_seq (run_dropG (ev_of (ed_call (d := .non) (ea_cons (hix rfl) (ea_cons (ed_int 2) (ea_cons (ed_int 1) ea_nil))) ⟨["file", numT s.file], 2, _, Nat.le_refl 2, rfl, rfl⟩) ?_))
  refine run_seq (run_asgM (ev_of (ed_tup (ea_cons (ed_tupF ea_nil (Nat.zero_le _)) (ea_cons (ed_tup ea_nil (Nat.zero_le _)) (ea_cons (ed_tupF ea_nil (Nat.zero_le _)) (ea_cons (ed_tup ea_nil (Nat.zero_le _)) (ea_cons (ed_tup ea_nil (Nat.zero_le _)) ea_nil))))) (show 5 ≤ 100000 by decide))
    (tgm_tup rfl (tgs_cons (tgm_fld (p := p) (C := c.S) (i := 0) (ed_var rfl) rfl hc.clS hc.S_nodes (show 2 < 1000 by decide) (tgs_cons (tgm_fld (p := p) (C := c.S) (i := 0) (ed_var rfl) rfl hc.clS hc.S_rooms (show 3 < 1000 by decide) (tgs_cons (tgm_fld (p := p) (C := c.S) (i := 0) (ed_var rfl) rfl hc.clS hc.S_fresh (show 4 < 1000 by decide)
      (tgs_cons (tgm_fld (p := p) (C := c.S) (i := 0) (ed_var rfl) rfl hc.clS hc.S_mends (show 5 < 1000 by decide) (tgs_cons (tgm_fld (p := p) (C := c.S) (i := 0) (ed_var rfl) rfl hc.clS hc.S_readers (show 6 < 1000 by decide) (tgs_nil ?_))))))))))))))
  refine run_seq (run_for (it_enumL (ea_cons (EvD.is (ed_sl (ed_var rfl) (eo_some (ed_int 1)) eo_none) (congrArg D.lst (drop1 _))) ea_nil)) (fun i ρ1 μ1 => ∃ x3 x4, ρ1 = [some (.loc p), some (.str (textOf s)), some (.lst ((rowsW s).map encWs)), x3, x4] ∧ μ1 = [(p, .ins c.S (fldS c (stAt s i)))]) ⟨none, none, rfl, ?_⟩ (fun i d ρ1 μ1 hi hI => ?_) fun ρ1 μ1 hI => ?_)
  · rw [st_zero]
    rfl
  · obtain ⟨x3, x4, rfl, rfl⟩ := hI
    obtain ⟨x, hx, rfl⟩ := pairI_at hi
    rw [List.getElem?_drop, List.getElem?_map, Nat.add_comm] at hx
    cases hw : (rowsW s)[i + 1]? with
    | none => rw [hw] at hx; cases hx
    | some ws =>
      rw [hw] at hx
      have hx : encWs ws = x := Option.some.inj hx
      subst hx
      refine ⟨_, _, tg_two, run_dropG (ev_meth (ev_of (ed_var rfl) ⟨p, _, 0, rfl, rfl, rfl, eva_of (ea_cons (ed_op (ed_var rfl) (ed_int 2) rv_int) (ea_cons (ed_var rfl) ea_nil)) ⟨[(p, .ins c.S (fldS c (stAt s i)))], by simp, by simp, _, ⟨p, stAt s i, stAt s (i + 1), ws, _, rows_step g hw, rfl, rfl, rfl⟩, ?_⟩⟩))⟩
      rintro d μ1' _ ⟨rfl, rfl⟩
      refine ⟨_, _, rfl, ?_⟩
      simp [putμ, List.lookup]
  obtain ⟨x3, x4, rfl, rfl⟩ := hI
  have hlen : (pairI 0 (((rowsW s).map encWs).drop 1)).length = s.nodes.length + s.mends.length + s.readers.length := by
    rw [pairI_len, List.length_drop, List.length_map, rows_len g]
    omega
  rw [hlen, st_end g]
  refine run_else (evt_peekI (p := p) (C := c.S) (j := 0) (i := 0) (b := false) rfl rfl (EdT.is (et_test (ed_op (ed_fld (ed_var rfl) hc.clS hc.S_readers rfl) (ed_tup ea_nil (Nat.zero_le _)) (rv_eqT (a := PySem.W.Tup.mk (s.readers.map PySem.W.Tup.mk)) (b := PySem.W.Tup.mk []) (readers_of s.readers) rfl (by decide)))) (decide_eq_false fun z => ?_)) ⟨rfl, rfl⟩) (run_next ⟨_, List.Sublist.refl _, rfl, rfl, rfl⟩)
  have z := congrArg PySem.W.Tup.items z
  exact g.rne (by simpa using z)
end Am
/-! The law itself. -/
namespace Am
open PySem PySem.Spec PyProof.Rows L2
def R_law : List D → D → Prop := fun ds d => ∃ cs : List Int, ds = [.lstF (iD cs)] ∧ d = .bl true
theorem steps_of (ss : List Sp2) : D.tup (ss.map encSp) = ofP (PySem.W.Datum.toD (PySem.W.Tup.mk (ss.map fun p => (p.1, PySem.W.Tup.mk p.2)))) := by
  show _ = D.tup (ofPs _)
  rw [ofPs_map, List.map_map]
  refine congrArg D.tup (List.map_congr_left fun p _ => ?_)
  show D.tup [.str p.1, .tup (sD p.2)] = D.tup [.str p.1, _]
  rw [tupS_of]
  rfl
section
variable {K : PySem.W.Frag}
theorem rv_neO {a : Option Int} : RvD K rNe (optI a) (optI a) (.bl false) := by
  cases a with
  | none => exact RvD.is (rv_ne (a := .non) (b := .non) rfl rfl rfl) (by simp)
  | some i => exact RvD.is (rv_ne (a := .int i) (b := .int i) rfl rfl rfl) (by simp)
theorem ed_isiO {ρ : Ro} {te : TE} {o : Option Int} (h : EvD K te ρ (optI o)) : EvD K (tCB (rIsi K) (tCons te (tCons (tC (.ty "bool")) tNil))) ρ (.bl false) := by
  cases o with
  | none => exact ed_isi h rfl (kit_ty (by decide +kernel))
  | some i => exact ed_isi h rfl kit_ib
end
def menu : List (Option Nat) := [none, none, some 0, some 1, some 2, some 3, some 6, some (10 ^ 12)]
def withT (s : Sto) : Sto := { s with text := textOf s }
theorem Good.withT {s : Sto} (g : Good s) : Good (withT s) := ⟨g.pool, g.rl, g.r0, g.fresh, g.mends, g.mfew, g.rne, g.rfew, g.readers, g.file⟩
theorem len_law : ∀ ds d, R_law ds d → ds.length = 1 := fun _ _ ⟨_, h, _⟩ => by rw [h]; rfl
abbrev s_law : Stmt := topS 69
theorem sc_law : FnScope ["_law_script", "_law_pen_here", "_law_store_here", "_law_made", "_law_reader", "_law_rows", "_law_lots", "_law_lot", "_law_mends", "_law_told", "_law_due", "_law_lap"] ["_law_script"] (defScope s_law) := ⟨rfl, rfl, rfl, by decide +kernel, rfl, by decide +kernel, by decide +kernel⟩
set_option maxHeartbeats 16000000 in
theorem ok_law {P : Program} {w : World} {K : PySem.W.Frag} {mg : Str → Option Value} {base : Heap} {c : Cls4} {f : Addr} {fd : FuncData} (B : Blt mg) (hc : ClsOk K c mg)
    (h__law_pen : Fn P w K mg base "_law_pen" 1 ["_law_script"] (spN K R_pen))
    (h__law_store : Fn P w K mg base "_law_store" 5 ["_law_pen_here", "_law_most", "_law_pairs"] (spM K R_lstore))
    (h__law_draw : Fn P w K mg base "_law_draw" 1 ["_law_pen_here", "_law_many"] (spM K R_draw))
    (h_Store : Mr P w K mg base "Store" c.S 5 ["self", "text"] (spM K (R_Sinit c)))
    (h__law_store_text : Fn P w K mg base "_law_store_text" 1 ["_law_store_here"] (spP K R_text))
    (h__law_layers : Fn P w K mg base "_law_layers" 3 ["_law_store_here", "_law_reader"] (spP K R_layers))
    (h__law_all_lots : Fn P w K mg base "_law_all_lots" 1 ["_law_store_here"] (spP K R_allLots))
    (h__law_pick : Fn P w K mg base "_law_pick" 2 ["_law_pen_here", "_law_some"] (spM K R_pick))
    (h__law_within : Fn P w K mg base "_law_within" 1 ["_law_rows", "_law_mends"] (spP K R_lwithin))
    (h_way : Fn P w K mg base "way" 6 ["store", "lot", "reader", "mends"] (spP K (R_way c)))
    (h__law_steps_right : Fn P w K mg base "_law_steps_right" 3 ["_law_store_here", "_law_lot", "_law_reader", "_law_mends", "_law_told"] (spP K (R_right c)))
    (h_Way : Mr P w K mg base "Way" c.W 1 ["self", "total", "steps"] (spM K (R_Winit c))) (F : FD K "law" "law" s_law f fd) : FnOk P w K mg base CX0 7 f fd ["_law_script"] (spP K R_law) := by
  have sc := sc_law
  refine F.ok sc (fun vs H Q E h => len_P (n := 1) len_law h) (fun cdv A outer s H vs Q E hr h => ?_)
  have hu := hu_of hr
  refine ⟨_, PSs.nox ((pss_cons (ps_set (i := 1) sc.nd rfl (Or.inr rfl) (pe_fn h__law_pen (hr.mono (by decide)) (by rfl) (pa_cons (pv 0) pa_nil))) 
      (pss_cons (ps_set (i := 2) sc.nd rfl (Or.inl rfl) (pe_fn h__law_store (hr.mono (by decide)) (by rfl) (pa_cons (pv 1) (pa_cons pe_int (pa_cons (pe_cmpR op_eq (pe_fn h__law_draw (hr.mono (by decide)) (by rfl) (pa_cons (pv 1) (pa_cons pe_int pa_nil))) pe_int (nomark _)) pa_nil))))) 
      (pss_cons (ps_set (i := 3) sc.nd rfl (Or.inl rfl) (pe_mkr h_Store (hr.mono (by decide)) (by rfl) (pa_cons (pe_fn h__law_store_text (hr.mono (by decide)) (by rfl) (pa_cons (pv 2) pa_nil)) pa_nil))) 
      (pss_cons (ps_for PassesOwn.never rfl (pi_range1 (by rfl) B.range (pa_cons (pe_callB (xc_len (K := K)) (by rfl) B.len boot_len (pa_cons (pe_dget hu (pv 2) pe_str (fun _ _ => rfl)) pa_nil)) pa_nil)) (pg_name (i := 4) sc.nd rfl (Or.inl rfl))
        (pss_cons (ps_set (i := 5) sc.nd rfl (Or.inl rfl) (pe_fn h__law_layers (hr.mono (by decide)) (by rfl) (pa_cons (pv 2) (pa_cons (pv 4) pa_nil)))) 
        (pss_cons (ps_set (i := 6) sc.nd rfl (Or.inr rfl) (pe_fn h__law_all_lots (hr.mono (by decide)) (by rfl) (pa_cons (pv 2) pa_nil))) 
        (pss_cons (ps_if (pt_cmpR op_gt (pe_callB (xc_len (K := K)) (by rfl) B.len boot_len (pa_cons (pv 6) pa_nil)) pe_int (nomark _))
          (pss_one (ps_set (i := 6) sc.nd rfl (Or.inr rfl) (pe_op op_cat (pe_lc (own := [("_law_lap", 11)]) rfl sc.nd (pi_range1 (by rfl) B.range (pa_cons pe_int pa_nil)) (blkOk_by (own := [("_law_lap", 11)]) (N := ["_law_script", "_law_pen_here", "_law_store_here", "_law_made", "_law_reader", "_law_rows", "_law_lots", "_law_lot", "_law_mends", "_law_told", "_law_due", "_law_lap"]) (sc := defScope s_law) (by decide +kernel)) (fun _ _ _ _ _ => (pg_name (i := 11) sc.nd rfl (Or.inl rfl))) (fun _ _ _ _ _ => pts_nil) (fun _ _ _ _ _ => (pe_fn h__law_pick (hr.mono (by decide)) (by rfl) (pa_cons (pv 1) (pa_cons (pv 6) pa_nil))))) (pe_lst (pa_cons (pe_tup pa_nil) pa_nil)))))
          pss_nil) 
        (pss_one (ps_for PassesOwn.never rfl (xi_list (K := K) (pv 6)) (pg_name (i := 7) sc.nd rfl (Or.inl rfl))
          (pss_cons (ps_set (i := 8) sc.nd rfl (Or.inl rfl) (pe_fn h__law_pick (hr.mono (by decide)) (by rfl) (pa_cons (pv 1) (pa_cons (pe_lst (pa_cons pe_non (pa_cons pe_non (pa_cons pe_int (pa_cons pe_int (pa_cons pe_int (pa_cons pe_int (pa_cons pe_int (pa_cons (pe_op op_pow pe_int pe_int) pa_nil))))))))) pa_nil)))) 
          (pss_cons (ps_par (i := 9) (j := 10) (by rfl) sc.nd rfl rfl (by decide) rfl rfl (pa_cons (pe_fn h_way (hr.mono (by decide)) (by rfl) (pa_cons (pv 3) (pa_cons (pv 7) (pa_cons (pv 4) (pa_cons (pv 8) pa_nil))))) (pa_cons (pe_dget hu (pe_fn h__law_within (hr.mono (by decide)) (by rfl) (pa_cons (pv 5) (pa_cons (pv 8) pa_nil))) (pv 7) (fun _ _ => rfl)) pa_nil)) (by rfl)) 
          (pss_cons (ps_if (PW.pt (pw_or (pt_cmpR op_ne (xe_fld (K := K) (pv 9) rfl) (pv 10) (nomark _)) (pw_or1 (pt_val (pe_callB (xc_isi (K := K)) (by rfl) B.isinstance boot_isinstance (pa_cons (xe_fld (K := K) (pv 9) rfl) (pa_cons (pe_bltn (v := .ty "bool") (by rfl) B.bool boot_bool rfl) pa_nil)))))))
            (pss_one (ps_ret pe_bl))
            pss_nil) 
          (pss_cons (ps_if (PW.pt (pw_and (pt_cmpR (xo_eqP (K := K) hr.units) (pv 7) (pe_tup pa_nil) (nomark _)) (pw_and1 (pt_cmpR (xo_neP (K := K) hr.units) (xe_fld (K := K) (pv 9) rfl) (xe_fld (K := K) (pe_fn h_way (hr.mono (by decide)) (by rfl) (pa_cons (pv 3) (pa_cons (pv 7) (pa_cons (pv 4) (pa_cons (pv 8) pa_nil))))) rfl) (nomark _)))))
            (pss_one (ps_ret pe_bl))
            pss_nil) 
          (pss_cons (ps_if (PW.pt (pw_and (pt_cmpR xo_isN (pv 10) pe_non (nomark _)) (pw_and1 (pt_cmpR (xo_neP (K := K) hr.units) (xe_fld (K := K) (pv 9) rfl) (pe_tup pa_nil) (nomark _)))))
            (pss_one (ps_ret pe_bl))
            pss_nil) 
          (pss_one (ps_if (PW.pt (pw_and (pt_cmpR xo_notN (pv 10) pe_non (nomark _)) (pw_and1 (pt_not (pt_val (pe_fn h__law_steps_right (hr.mono (by decide)) (by rfl) (pa_cons (pv 2) (pa_cons (pv 7) (pa_cons (pv 4) (pa_cons (pv 8) (pa_cons (pv 9) pa_nil)))))))))))
            (pss_one (ps_ret pe_bl))
            pss_nil))))))))))))) 
      (pss_cons (ps_set (i := 3) sc.nd rfl (Or.inl rfl) (pe_mkr h_Way (hr.mono (by decide)) (by rfl) (pa_cons pe_int (pa_cons (pe_tup (pa_cons (pe_tup (pa_cons pe_str (pa_cons (pe_tup (pa_cons pe_str pa_nil)) pa_nil))) pa_nil)) pa_nil)))) 
      (pss_one (ps_ret (pe_cmpR (xo_eqP (K := K) hr.units) (pe_tup (pa_cons (xe_fld (K := K) (pv 3) rfl) (pa_cons (xe_fld (K := K) (pv 3) rfl) pa_nil))) (pe_tup (pa_cons pe_int (pa_cons (pe_tup (pa_cons (pe_tup (pa_cons pe_str (pa_cons (pe_tup (pa_cons pe_str pa_nil)) pa_nil))) pa_nil)) pa_nil))) (nomark _)))))))))), read_P h ?_⟩
  rintro ds d ⟨cs, rfl, rfl⟩
  refine run_seq (run_asgG (ev_callN (eva_of (ea_cons (ed_var rfl) ea_nil) ⟨_, ⟨cs, rfl, rfl⟩, fun p u0 hpM hpμ hu0 => ?_⟩)))
  -- the store
  refine run_seq (run_asgG (ev_call (eva_cons (P1 := fun d μ1 => d = .loc p ∧ μ1 = [(p, u0)]) (ev_of (ed_var rfl) ⟨rfl, rfl⟩) ?_)))
  rintro _ _ ⟨rfl, rfl⟩
  refine eva_cons (P1 := fun d μ1 => d = .int 5 ∧ μ1 = [(p, u0)]) (ev_of (ed_int 5) ⟨rfl, rfl⟩) ?_
  rintro _ _ ⟨rfl, rfl⟩
  refine eva_cons (P1 := fun d μ1 => ∃ pairs u1, d = .bl pairs ∧ PenAt 1 u1 ∧ μ1 = [(p, u1)]) (ev_op (P1 := fun d μ1 => ∃ k u1, d = .int k ∧ PenAt 1 u1 ∧ μ1 = [(p, u1)]) (ev_draw (i := 0) (ea_cons (ed_var rfl) (ea_cons (ed_int 2) ea_nil)) rfl (by simp) (by decide) (by decide) (show (0 : Int) < big by decide) hu0 fun u1 k h1 _ _ => ⟨k, u1, rfl, h1, rfl⟩) ?_) ?_
  · rintro _ _ ⟨k, u1, rfl, h1, rfl⟩
    exact ev_of (ed_int 0) ⟨_, rv_eq rfl rfl rfl, _, u1, rfl, h1, rfl⟩
  rintro _ _ ⟨pairs, u1, rfl, h1, rfl⟩
  refine eva_nil ⟨[(p, u1)], by simp, by simp, _, ⟨p, u1, pairs, 1, by decide, h1, rfl, rfl, rfl⟩, ?_⟩
  rintro d μ1' _ ⟨u2, rfl, h2, s0, g0, rfl⟩
  have eμ : putμ [(p, u1)] [(p, u2)] = [(p, u2)] := by simp [putμ, List.lookup]
  rw [eμ]
  have g := g0.withT
  -- the program's store
  refine run_seq (run_asg (d := encS c (withT s0)) (ed_make (ea_cons (ed_call (d := .str (textOf s0)) (ea_cons (ed_var rfl) ea_nil) ⟨s0, g0, rfl, rfl⟩) ea_nil) fun q => ⟨_, ⟨q, s0, g0, rfl, rfl, rfl⟩, fun d μ' h => h⟩) ?_)
  have hT : encT s0 = encT (withT s0) := rfl
  rw [hT]
  generalize withT s0 = s at g
  have ok := g.okay
  have hpow : (2 ^ s.nodes.length : Nat) ≤ 32 := Nat.le_trans (Nat.pow_le_pow_right (by decide) g.few) (by decide)
  have hpos : 0 < (2 ^ s.nodes.length : Nat) := Nat.two_pow_pos _
  let ρ0 : Option D → Option D → Option D → Option D → Option D → Option D → Option D → Option D → Ro := fun x4 x5 x6 x7 x8 x9 x10 x11 => [some (.lstF (iD cs)), some (.loc p), some (encT s), some (encS c s), x4, x5, x6, x7, x8, x9, x10, x11]
  refine run_seq (run_for (it_rng1 (n := (s.readers.length : Int)) (ea_cons (EvD.is (ed_cb (ea_cons (ed_T_readers (ed_var rfl)) ea_nil) rc_lenL) (by rw [List.length_map])) ea_nil) (by omega) (by have := g.rfew; omega)) (fun i ρ μ => i ≤ s.readers.length ∧ ∃ x4 x5 x6 x7 x8 x9 x10 x11 u, ρ = ρ0 x4 x5 x6 x7 x8 x9 x10 x11 ∧ μ = [(p, u)] ∧ PenAt (1001 + 100 * i) u) ⟨Nat.zero_le _, none, none, none, none, none, none, none, none, u2, rfl, rfl, h2.up (by omega)⟩ (fun r d ρ1 μ1 hi hI => ?_) fun ρ1 μ1 hI => ?_)
  · obtain ⟨hir, x4, x5, x6, x7, x8, x9, x10, x11, u, rfl, rfl, hu⟩ := hI
    rw [List.getElem?_map] at hi
    have hrl : r < s.readers.length := by
      rcases Nat.lt_or_ge r s.readers.length with h | h
      · exact h
      · rw [List.getElem?_eq_none (by simp; exact h)] at hi
        cases hi
    rw [List.getElem?_range (by simpa using hrl)] at hi
    have hi : D.int (r : Int) = d := Option.some.inj hi
    subst hi
    obtain ⟨rd, hrd⟩ : ∃ rd, s.readers[r]? = some rd := ⟨_, List.getElem?_eq_getElem hrl⟩
    have fx : Fix s rd := fix_of ok
    have h3 := g.rfew
    refine ⟨_, _, tg_name, ?_⟩
    refine run_seq (run_asg (d := layD s rd) (ed_call (ea_cons (ed_var rfl) (ea_cons (ed_var rfl) ea_nil)) ⟨s, rd, r, ok, hrd, fx, rfl, rfl⟩) ?_)
    refine run_seq (run_asg (d := .lst ((List.range (2 ^ s.nodes.length)).map (lotD s))) (ed_call (ea_cons (ed_var rfl) ea_nil) ⟨s, ok, rfl, rfl⟩) ?_)
    -- the lots that are asked
    refine run_mid (fun ρ μ => ∃ (ms : List Nat) (y11 : Option D) (v : Own), (∀ m ∈ ms, m < 2 ^ s.nodes.length) ∧ ms.length ≤ 16 ∧ ρ = ρ0 (some (.int (r : Int))) (some (layD s rd)) (some (.lst (ms.map (lotD s)))) x7 x8 x9 x10 y11 ∧ μ = [(p, v)] ∧ PenAt (1001 + 100 * r + 20) v) ?_ ?_
    · refine run_if (b := decide (2 ^ s.nodes.length > 16)) (EdT.is (et_test (ed_op (ed_cb (ea_cons (ed_var rfl) ea_nil) rc_lenL) (ed_int 16) rv_bl)) ?_) (fun hb => ?_) fun hb => ?_
      · rw [List.length_map, List.length_range, Bool.eq_iff_iff, decide_eq_true_eq, decide_eq_true_eq]
        omega
      · refine run_asgG (ev_op (P1 := fun d μ1 => ∃ (ms : List Nat) (v : Own), (∀ m ∈ ms, m < 2 ^ s.nodes.length) ∧ ms.length ≤ 10 ∧ d = .lst (ms.map (lotD s)) ∧ μ1 = [(p, v)] ∧ PenAt (1001 + 100 * r + 20) v) (ev_lcV (items := (List.range 10).map fun i : Nat => .int (i : Int)) (by decide) (fun i acc μ1 => i ≤ 10 ∧ ∃ (ms : List Nat) (v : Own), (∀ m ∈ ms, m < 2 ^ s.nodes.length) ∧ ms.length ≤ i ∧ acc = ms.map (lotD s) ∧ μ1 = [(p, v)] ∧ PenAt (1001 + 100 * r + i) v) (iv_of (it_rng1 (n := 10) (ea_cons (ed_int 10) ea_nil) (by decide) (by decide)) ⟨rfl, by omega, [], u, by simp, by simp, rfl, rfl, by simpa using hu⟩) (fun C i d acc μ1 hC1 hC2 hi hJ hacc => ?_) fun acc μ1 hJ => ?_) ?_)
        · obtain ⟨hi10, ms, v, hms, hml, rfl, rfl, hv⟩ := hJ
          have hil := (List.getElem?_eq_some_iff.mp hi).1
          rw [List.length_map, List.length_range] at hil
          have hCp : C ≠ p := fun z => hC2 (by rw [z]; simp)
          refine ⟨_, _, tg_name, by simp, evt_yes ⟨_, rfl, ?_⟩⟩
          rw [if_pos rfl]
          refine ev_pick (i := 1) (ea_cons (ed_var rfl) (ea_cons (ed_var rfl) ea_nil)) rfl (by simp [hCp]) (by simp) (by rw [List.length_map, List.length_range]; omega) (by show _ < (1000000000 : Int); omega) hv fun u' d hu' hd => ?_
          obtain ⟨m, hm, rfl⟩ := List.mem_map.mp hd
          refine ⟨_, rfl, by omega, ms ++ [m], u', fun x hx => ?_, by rw [List.length_append]; simp; omega, by rw [List.map_append]; rfl, rfl, hu'.up (by omega)⟩
          rcases List.mem_append.mp hx with hx | hx
          · exact hms x hx
          · rw [List.mem_singleton.mp hx]
            exact List.mem_range.mp hm
        · obtain ⟨_, ms, v, hms, hml, rfl, rfl, hv⟩ := hJ
          rw [List.length_map, List.length_range] at hml
          refine ⟨ms, v, hms, hml, rfl, rfl, PenAt.up hv ?_⟩
          rw [List.length_map, List.length_range]
          omega
        rintro _ _ ⟨ms, v, hms, hml, rfl, rfl, hv⟩
        refine ev_of (ed_lst (ea_cons (ed_tup ea_nil (Nat.zero_le _)) ea_nil) (show 1 ≤ 100000 by decide)) ⟨_, rv_cat (by rw [List.length_map]; show _ + 1 ≤ _; omega), ms ++ [0], x11, v, fun m hm => ?_, by rw [List.length_append]; simp; omega, ?_, rfl, hv⟩
        · rcases List.mem_append.mp hm with hm | hm
          · exact hms m hm
          · rw [List.mem_singleton.mp hm]
            exact hpos
        · rw [List.map_append]
          have e0 : lotOf s.nodes 0 = [] := by simp [lotOf]
          show _ = ρ0 _ _ (some (.lst (ms.map (lotD s) ++ [.tup (sD (lotOf s.nodes 0))]))) _ _ _ _ _
          rw [e0]
          rfl
      · have hb := of_decide_eq_false hb
        exact run_next ⟨List.range (2 ^ s.nodes.length), x11, u, fun m hm => List.mem_range.mp hm, by rw [List.length_range]; omega, rfl, rfl, hu.up (by omega)⟩
    rintro _ _ ⟨ms, y11, v, hms, hml, rfl, rfl, hv⟩
    refine run_for (items := ms.map (lotD s)) (it_list (ed_var rfl)) (fun i ρ μ => i ≤ ms.length ∧ ∃ x7 x8 x9 x10 u, ρ = ρ0 (some (.int (r : Int))) (some (layD s rd)) (some (.lst (ms.map (lotD s)))) x7 x8 x9 x10 y11 ∧ μ = [(p, u)] ∧ PenAt (1001 + 100 * r + 20 + i) u) ⟨Nat.zero_le _, x7, x8, x9, x10, v, rfl, rfl, by simpa using hv⟩ (fun i d ρ1 μ1 hi hI => ?_) fun ρ1 μ1 hI => ?_
    · obtain ⟨hil, x7, x8, x9, x10, u, rfl, rfl, hu⟩ := hI
      rw [List.getElem?_map] at hi
      cases hm : ms[i]? with
      | none => rw [hm] at hi; cases hi
      | some m =>
        rw [hm] at hi
        have hi : lotD s m = d := Option.some.inj hi
        subst hi
        have hil2 := (List.getElem?_eq_some_iff.mp hm).1
        have hmlt := hms m (List.mem_of_getElem? hm)
        refine ⟨_, _, tg_name, ?_⟩
        refine run_seq (run_asgG (ev_pick (i := 0) (l := menu.map optN) (ea_cons (ed_var rfl) (ea_cons (ed_lst (ea_cons ed_non (ea_cons ed_non (ea_cons (ed_int 0) (ea_cons (ed_int 1) (ea_cons (ed_int 2) (ea_cons (ed_int 3) (ea_cons (ed_int 6) (ea_cons (EvD.is (ed_op (ed_int 10) (ed_int 12) (rv_intC ⟨by decide, by decide, by decide⟩)) (show D.int (10 ^ (12 : Int).toNat) = optN (some (10 ^ 12)) from congrArg D.int (by decide +kernel))) ea_nil)))))))) (show 8 ≤ 100000 by decide)) ea_nil)) rfl (by simp) (by decide) (by decide) (by show _ < (1000000000 : Int); omega) hu fun u' d hu' hd => ?_))
        obtain ⟨j, _, rfl⟩ := List.mem_map.mp hd
        have hway : ∀ {ρ : Ro}, ρ[3]? = some (some (encS c s)) → ρ[7]? = some (some (lotD s m)) → ρ[4]? = some (some (.int (r : Int))) → ρ[8]? = some (some (optN j)) → EvD K (tCall (spP K (R_way c)) [] E0 (tCons (tVar 3) (tCons (tVar 7) (tCons (tVar 4) (tCons (tVar 8) tNil))))) ρ (encWay c (wayT s rd j m) (wayS s rd j m)) := fun h3 h7 h4 h8 => ed_call (ea_cons (ed_var h3) (ea_cons (ed_var h7) (ea_cons (ed_var h4) (ea_cons (ed_var h8) ea_nil)))) ⟨s, rd, r, m, j, ok, hrd, fx, hmlt, rfl, rfl⟩
        refine run_seq (run_parG (eva_of (ea_cons (hway rfl rfl rfl rfl) (ea_cons (ed_dgetT (ed_call (ea_cons (ed_var rfl) (ea_cons (ed_var rfl) ea_nil)) ⟨s, rd, j, fx, rfl, rfl⟩) (ed_var rfl) (row_getD ok (rowK_len s rd _) hmlt)) ea_nil)) ⟨_, _, rfl, ?_⟩))
        have hss : ∀ {ρ : Ro} {te : TE}, EvD K te ρ (encWay c (wayT s rd j m) (wayS s rd j m)) → EvD K (tFld K te "steps") ρ (.tup ((wayS s rd j m).map encSp)) := fun h => ed_W_steps hc h
        have htt : ∀ {ρ : Ro} {te : TE}, EvD K te ρ (encWay c (wayT s rd j m) (wayS s rd j m)) → EvD K (tFld K te "total") ρ (optI (wayT s rd j m)) := fun h => ed_W_total hc h
        refine run_seq (run_no (EdT.is (et_or (et_test (ed_op (htt (ed_var rfl)) (ed_var rfl) rv_neO)) fun _ => et_B (ed_isiO (htt (ed_var rfl)))) rfl) (run_next ?_))
        refine run_seq (run_no (EdT.is (et_and (et_test (ed_op (ed_var rfl) (ed_tup ea_nil (Nat.zero_le _)) (rv_eqT (a := PySem.W.Tup.mk (lotOf s.nodes m)) (b := PySem.W.Tup.mk []) (tupS_of _) rfl (by decide)))) fun _ => et_test (ed_op (hss (ed_var rfl)) (hss (hway rfl rfl rfl rfl)) (rv_neT (steps_of _) (steps_of _) (by decide)))) (by rw [decide_eq_true rfl]; simp)) (run_next ?_))
        refine run_seq (run_no (EdT.is (et_and (et_test (ed_op (ed_var rfl) ed_non rv_isN)) fun hn => et_test (ed_op (hss (ed_var rfl)) (ed_tup ea_nil (Nat.zero_le _)) (rv_neT (b := PySem.W.Tup.mk []) (steps_of _) rfl (by decide)))) ?_) (run_next ?_))
        · cases ht : wayT s rd j m with
          | none =>
            have : wayS s rd j m = [] := by unfold wayS; rw [if_pos ht]
            rw [this]
            have hh : (rowK s rd (idxJ s rd j)).getD m none = none := ht
            rw [hh]
            decide
          | some t =>
            have hh : (rowK s rd (idxJ s rd j)).getD m none = some t := ht
            rw [hh]
            rfl
        cases ht : wayT s rd j m with
        | none =>
          have hh : (rowK s rd (idxJ s rd j)).getD m none = none := ht
          refine run_no (EdT.is (et_and0 (et_test (EvD.is (ed_op (ed_var rfl) ed_non rv_notN) (by rw [hh]; rfl)))) rfl) (run_next ?_)
          exact ⟨by omega, _, _, _, _, u', rfl, rfl, hu'.up (by omega)⟩
        | some t =>
          have hh : (rowK s rd (idxJ s rd j)).getD m none = some t := ht
          refine run_no (EdT.is (et_and (et_test (ed_op (ed_var rfl) ed_non rv_notN)) fun _ => et_not (et_B (ed_call (d := .bl true) (ea_cons (ed_var rfl) (ea_cons (ed_var rfl) (ea_cons (ed_var rfl) (ea_cons (ed_var rfl) (ea_cons (ed_var rfl) ea_nil))))) ⟨s, rd, r, m, j, ok, hrd, fx, hmlt, by rw [ht]; simp, by rw [ht], rfl⟩))) (by simp)) (run_next ?_)
          exact ⟨by omega, _, _, _, _, u', rfl, rfl, hu'.up (by omega)⟩
    · obtain ⟨_, x7, x8, x9, x10, u, rfl, rfl, hu⟩ := hI
      rw [List.length_map] at hu
      exact ⟨hrl, _, _, _, _, _, _, _, _, u, rfl, rfl, hu.up (by omega)⟩
  obtain ⟨_, x4, x5, x6, x7, x8, x9, x10, x11, u, rfl, rfl, hu⟩ := hI
  refine run_seq (run_asg (d := encWay c (some 3) [("m", ["a"])]) (ed_make (ea_cons (ed_int 3) (ea_cons (ed_tup (ea_cons (ed_tup (ea_cons (ed_str "m") (ea_cons (ed_tup (ea_cons (ed_str "a") ea_nil) (show 1 ≤ 100000 by decide)) ea_nil)) (show 2 ≤ 100000 by decide)) ea_nil) (show 1 ≤ 100000 by decide)) ea_nil)) fun q => ⟨_, ⟨q, _, _, rfl, rfl, rfl⟩, fun d μ' h => h⟩) ?_)
  refine run_ret (EvD.is (ed_op (ed_tup (ea_cons (ed_W_total hc (ed_var rfl)) (ea_cons (ed_W_steps hc (ed_var rfl)) ea_nil)) (show 2 ≤ 100000 by decide)) (ed_tup (ea_cons (ed_int 3) (ea_cons (ed_tup (ea_cons (ed_tup (ea_cons (ed_str "m") (ea_cons (ed_tup (ea_cons (ed_str "a") ea_nil) (show 1 ≤ 100000 by decide)) ea_nil)) (show 2 ≤ 100000 by decide)) ea_nil) (show 1 ≤ 100000 by decide)) ea_nil)) (show 2 ≤ 100000 by decide)) (rv_eqT (a := ((3 : Int), PySem.W.Tup.mk [(("m" : Str), PySem.W.Tup.mk [("a" : Str)])])) (b := ((3 : Int), PySem.W.Tup.mk [(("m" : Str), PySem.W.Tup.mk [("a" : Str)])])) rfl rfl (by decide))) (congrArg D.bl (decide_eq_true rfl))) rfl
end Am
set_option maxHeartbeats 0
/-! The head: the top's run, with facts by names. -/
namespace Am
open PySem PySem.Spec PyProof.Rows L2
abbrev RW : PySem.W.OpenRow := PySem.W.OpenLaw.row PySem.Challenge.rw_anymend_k08_whole_ways
def names0 : List PySem.Str := ["_wall", "MendError", "BadText", "BadNumber", "BadLot", "is_whole", "bit_of", "has_bit", "mask_of", "lot_of", "told_lot", "told_mends", "told_reader", "outside", "least", "pair_price", "steps_from", "end_price", "Layers", "Way", "way", "SMALL", "DIGITS", "is_name", "need_text", "text_lines", "text_rows", "word_at", "no_more", "number_of"]
def names1 : List PySem.Str := ["number_at", "new_name_at", "one_of_at", "MOST_NODES", "MOST", "Mend", "links_at", "reader_items", "read_mend", "Store", "_law_pen", "_law_draw", "_law_pick", "_law_items", "_law_mend_of", "_law_two_of", "_law_reader_of", "_law_store", "_law_store_text", "_law_all_lots", "_law_lot_of", "_law_load", "_law_price", "_law_takes", "_law_next_lot", "_law_end", "_law_start", "_law_layers", "_law_within", "_law_file"]
def names2 : List PySem.Str := ["_law_all_layers", "_law_steps_right"]
def namesT : List PySem.Str := names0 ++ names1 ++ names2
def d_bit_of : He.DefD := ⟨("bit_of", none), "bit_of", "bit_of", defArgs (topS 9), defBody (topS 9), defScope (topS 9), [], []⟩
def d_has_bit : He.DefD := ⟨("has_bit", none), "has_bit", "has_bit", defArgs (topS 10), defBody (topS 10), defScope (topS 10), [], []⟩
def d_mask_of : He.DefD := ⟨("mask_of", none), "mask_of", "mask_of", defArgs (topS 11), defBody (topS 11), defScope (topS 11), [], []⟩
def d_lot_of : He.DefD := ⟨("lot_of", none), "lot_of", "lot_of", defArgs (topS 12), defBody (topS 12), defScope (topS 12), [], []⟩
def d_told_lot : He.DefD := ⟨("told_lot", none), "told_lot", "told_lot", defArgs (topS 13), defBody (topS 13), defScope (topS 13), [], []⟩
def d_told_mends : He.DefD := ⟨("told_mends", none), "told_mends", "told_mends", defArgs (topS 14), defBody (topS 14), defScope (topS 14), [], []⟩
def d_told_reader : He.DefD := ⟨("told_reader", none), "told_reader", "told_reader", defArgs (topS 15), defBody (topS 15), defScope (topS 15), [], []⟩
def d_outside : He.DefD := ⟨("outside", none), "outside", "outside", defArgs (topS 16), defBody (topS 16), defScope (topS 16), [], []⟩
def d_least : He.DefD := ⟨("least", none), "least", "least", defArgs (topS 17), defBody (topS 17), defScope (topS 17), [], []⟩
def d_pair_price : He.DefD := ⟨("pair_price", none), "pair_price", "pair_price", defArgs (topS 18), defBody (topS 18), defScope (topS 18), [], []⟩
def d_steps_from : He.DefD := ⟨("steps_from", none), "steps_from", "steps_from", defArgs (topS 19), defBody (topS 19), defScope (topS 19), [], []⟩
def d_end_price : He.DefD := ⟨("end_price", none), "end_price", "end_price", defArgs (topS 20), defBody (topS 20), defScope (topS 20), [], []⟩
def d_is_whole : He.DefD := ⟨("is_whole", none), "is_whole", "is_whole", defArgs (topS 7), defBody (topS 7), defScope (topS 7), [], []⟩
def d_Layers_longer : He.DefD := ⟨("Layers", some "longer"), "longer", "Layers.longer", defArgs (inClass (topS 21) 1), defBody (inClass (topS 21) 1), defScope (inClass (topS 21) 1), [], []⟩
def d_Layers___init__ : He.DefD := ⟨("Layers", some "__init__"), "__init__", "Layers.__init__", defArgs (inClass (topS 21) 0), defBody (inClass (topS 21) 0), defScope (inClass (topS 21) 0), [], []⟩
def d_Layers_within : He.DefD := ⟨("Layers", some "within"), "within", "Layers.within", defArgs (inClass (topS 21) 2), defBody (inClass (topS 21) 2), defScope (inClass (topS 21) 2), [], []⟩
def d_Layers_best_step : He.DefD := ⟨("Layers", some "best_step"), "best_step", "Layers.best_step", defArgs (inClass (topS 21) 4), defBody (inClass (topS 21) 4), defScope (inClass (topS 21) 4), [], []⟩
def d_Layers_steps_of : He.DefD := ⟨("Layers", some "steps_of"), "steps_of", "Layers.steps_of", defArgs (inClass (topS 21) 3), defBody (inClass (topS 21) 3), defScope (inClass (topS 21) 3), [], []⟩
def d_Way___init__ : He.DefD := ⟨("Way", some "__init__"), "__init__", "Way.__init__", defArgs (inClass (topS 23) 0), defBody (inClass (topS 23) 0), defScope (inClass (topS 23) 0), [], []⟩
def d_way : He.DefD := ⟨("way", none), "way", "way", defArgs (topS 24), defBody (topS 24), defScope (topS 24), [.non], []⟩
def d__law_all_lots : He.DefD := ⟨("_law_all_lots", none), "_law_all_lots", "_law_all_lots", defArgs (topS 56), defBody (topS 56), defScope (topS 56), [], []⟩
def d__law_lot_of : He.DefD := ⟨("_law_lot_of", none), "_law_lot_of", "_law_lot_of", defArgs (topS 57), defBody (topS 57), defScope (topS 57), [], []⟩
def d__law_load : He.DefD := ⟨("_law_load", none), "_law_load", "_law_load", defArgs (topS 58), defBody (topS 58), defScope (topS 58), [], []⟩
def d__law_price : He.DefD := ⟨("_law_price", none), "_law_price", "_law_price", defArgs (topS 59), defBody (topS 59), defScope (topS 59), [], []⟩
def d__law_takes : He.DefD := ⟨("_law_takes", none), "_law_takes", "_law_takes", defArgs (topS 60), defBody (topS 60), defScope (topS 60), [], []⟩
def d__law_next_lot : He.DefD := ⟨("_law_next_lot", none), "_law_next_lot", "_law_next_lot", defArgs (topS 61), defBody (topS 61), defScope (topS 61), [], []⟩
def d__law_end : He.DefD := ⟨("_law_end", none), "_law_end", "_law_end", defArgs (topS 62), defBody (topS 62), defScope (topS 62), [], []⟩
def d__law_start : He.DefD := ⟨("_law_start", none), "_law_start", "_law_start", defArgs (topS 63), defBody (topS 63), defScope (topS 63), [], []⟩
def d__law_within : He.DefD := ⟨("_law_within", none), "_law_within", "_law_within", defArgs (topS 65), defBody (topS 65), defScope (topS 65), [], []⟩
def d__law_layers : He.DefD := ⟨("_law_layers", none), "_law_layers", "_law_layers", defArgs (topS 64), defBody (topS 64), defScope (topS 64), [], []⟩
def d__law_all_layers : He.DefD := ⟨("_law_all_layers", none), "_law_all_layers", "_law_all_layers", defArgs (topS 67), defBody (topS 67), defScope (topS 67), [], []⟩
def d__law_file : He.DefD := ⟨("_law_file", none), "_law_file", "_law_file", defArgs (topS 66), defBody (topS 66), defScope (topS 66), [], []⟩
def d__law_steps_right : He.DefD := ⟨("_law_steps_right", none), "_law_steps_right", "_law_steps_right", defArgs (topS 68), defBody (topS 68), defScope (topS 68), [], []⟩
def d__law_pen : He.DefD := ⟨("_law_pen", none), "_law_pen", "_law_pen", defArgs (topS 47), defBody (topS 47), defScope (topS 47), [], []⟩
def d__law_draw : He.DefD := ⟨("_law_draw", none), "_law_draw", "_law_draw", defArgs (topS 48), defBody (topS 48), defScope (topS 48), [], []⟩
def d__law_pick : He.DefD := ⟨("_law_pick", none), "_law_pick", "_law_pick", defArgs (topS 49), defBody (topS 49), defScope (topS 49), [], []⟩
def d__law_items : He.DefD := ⟨("_law_items", none), "_law_items", "_law_items", defArgs (topS 50), defBody (topS 50), defScope (topS 50), [], []⟩
def d__law_two_of : He.DefD := ⟨("_law_two_of", none), "_law_two_of", "_law_two_of", defArgs (topS 52), defBody (topS 52), defScope (topS 52), [], []⟩
def d__law_reader_of : He.DefD := ⟨("_law_reader_of", none), "_law_reader_of", "_law_reader_of", defArgs (topS 53), defBody (topS 53), defScope (topS 53), [], []⟩
def d__law_mend_of : He.DefD := ⟨("_law_mend_of", none), "_law_mend_of", "_law_mend_of", defArgs (topS 51), defBody (topS 51), defScope (topS 51), [], []⟩
def d__law_store : He.DefD := ⟨("_law_store", none), "_law_store", "_law_store", defArgs (topS 54), defBody (topS 54), defScope (topS 54), [], []⟩
def d__law_store_text : He.DefD := ⟨("_law_store_text", none), "_law_store_text", "_law_store_text", defArgs (topS 55), defBody (topS 55), defScope (topS 55), [], []⟩
def d_is_name : He.DefD := ⟨("is_name", none), "is_name", "is_name", defArgs (topS 28), defBody (topS 28), defScope (topS 28), [], []⟩
def d_need_text : He.DefD := ⟨("need_text", none), "need_text", "need_text", defArgs (topS 29), defBody (topS 29), defScope (topS 29), [], []⟩
def d_text_lines : He.DefD := ⟨("text_lines", none), "text_lines", "text_lines", defArgs (topS 30), defBody (topS 30), defScope (topS 30), [], []⟩
def d_text_rows : He.DefD := ⟨("text_rows", none), "text_rows", "text_rows", defArgs (topS 31), defBody (topS 31), defScope (topS 31), [], []⟩
def d_word_at : He.DefD := ⟨("word_at", none), "word_at", "word_at", defArgs (topS 32), defBody (topS 32), defScope (topS 32), [], []⟩
def d_no_more : He.DefD := ⟨("no_more", none), "no_more", "no_more", defArgs (topS 33), defBody (topS 33), defScope (topS 33), [], []⟩
def d_number_of : He.DefD := ⟨("number_of", none), "number_of", "number_of", defArgs (topS 34), defBody (topS 34), defScope (topS 34), [], []⟩
def d_number_at : He.DefD := ⟨("number_at", none), "number_at", "number_at", defArgs (topS 35), defBody (topS 35), defScope (topS 35), [], []⟩
def d_new_name_at : He.DefD := ⟨("new_name_at", none), "new_name_at", "new_name_at", defArgs (topS 36), defBody (topS 36), defScope (topS 36), [], []⟩
def d_one_of_at : He.DefD := ⟨("one_of_at", none), "one_of_at", "one_of_at", defArgs (topS 37), defBody (topS 37), defScope (topS 37), [], []⟩
def d_links_at : He.DefD := ⟨("links_at", none), "links_at", "links_at", defArgs (topS 42), defBody (topS 42), defScope (topS 42), [], []⟩
def d_reader_items : He.DefD := ⟨("reader_items", none), "reader_items", "reader_items", defArgs (topS 43), defBody (topS 43), defScope (topS 43), [], []⟩
def d_Mend___init__ : He.DefD := ⟨("Mend", some "__init__"), "__init__", "Mend.__init__", defArgs (inClass (topS 41) 0), defBody (inClass (topS 41) 0), defScope (inClass (topS 41) 0), [], []⟩
def d_read_mend : He.DefD := ⟨("read_mend", none), "read_mend", "read_mend", defArgs (topS 44), defBody (topS 44), defScope (topS 44), [], []⟩
def d_Store_read_node : He.DefD := ⟨("Store", some "read_node"), "read_node", "Store.read_node", defArgs (inClass (topS 45) 2), defBody (inClass (topS 45) 2), defScope (inClass (topS 45) 2), [], []⟩
def d_Store_read_line : He.DefD := ⟨("Store", some "read_line"), "read_line", "Store.read_line", defArgs (inClass (topS 45) 1), defBody (inClass (topS 45) 1), defScope (inClass (topS 45) 1), [], []⟩
def d_Store___init__ : He.DefD := ⟨("Store", some "__init__"), "__init__", "Store.__init__", defArgs (inClass (topS 45) 0), defBody (inClass (topS 45) 0), defScope (inClass (topS 45) 0), [], []⟩
def d_law : He.DefD := ⟨("law", none), "law", "law", defArgs (topS 69), defBody (topS 69), defScope (topS 69), [], []⟩
def fnsT : List He.DefD := [d_bit_of, d_has_bit, d_mask_of, d_lot_of, d_told_lot, d_told_mends, d_told_reader, d_outside, d_least, d_pair_price, d_steps_from, d_end_price, d_is_whole, d_Layers_longer, d_Layers___init__, d_Layers_within, d_Layers_best_step, d_Layers_steps_of, d_Way___init__, d_way, d__law_all_lots, d__law_lot_of, d__law_load, d__law_price, d__law_takes, d__law_next_lot, d__law_end, d__law_start, d__law_within, d__law_layers, d__law_all_layers, d__law_file, d__law_steps_right, d__law_pen, d__law_draw, d__law_pick, d__law_items, d__law_two_of, d__law_reader_of, d__law_mend_of, d__law_store, d__law_store_text, d_is_name, d_need_text, d_text_lines, d_text_rows, d_word_at, d_no_more, d_number_of, d_number_at, d_new_name_at, d_one_of_at, d_links_at, d_reader_items, d_Mend___init__, d_read_mend, d_Store_read_node, d_Store_read_line, d_Store___init__, d_law]
def fa0 : List He.Fa := [.glo "bit_of", .glo "has_bit", .glo "mask_of", .glo "lot_of", .glo "told_lot", .glo "told_mends", .glo "told_reader", .glo "outside", .glo "least", .glo "pair_price", .glo "steps_from", .glo "end_price", .glo "is_whole", .glo "way", .glo "_law_all_lots", .glo "_law_lot_of", .glo "_law_load", .glo "_law_price", .glo "_law_takes", .glo "_law_next_lot", .glo "_law_end", .glo "_law_start", .glo "_law_within", .glo "_law_layers", .glo "_law_all_layers", .glo "_law_file", .glo "_law_steps_right", .glo "_law_pen", .glo "_law_draw", .glo "_law_pick"]
def fa1 : List He.Fa := [.glo "_law_items", .glo "_law_two_of", .glo "_law_reader_of", .glo "_law_mend_of", .glo "_law_store", .glo "_law_store_text", .glo "is_name", .glo "need_text", .glo "text_lines", .glo "text_rows", .glo "word_at", .glo "no_more", .glo "number_of", .glo "number_at", .glo "new_name_at", .glo "one_of_at", .glo "links_at", .glo "reader_items", .glo "read_mend", .glo "law", .glo "Store", .glo "Mend", .glo "Layers", .glo "Way", .free "len", .free "sum", .free "min", .free "max", .free "all", .free "isinstance"]
def fa2 : List He.Fa := [.free "enumerate", .free "zip", .free "range", .free "tuple", .free "list", .free "dict", .free "int", .free "str", .free "bool", .int "MOST" 40, .int "MOST_NODES" 7, .str "SMALL" "abcdefghijklmnopqrstuvwxyz", .str "DIGITS" "0123456789", .cls "Store", .mkr "Store", .cls "Mend", .mkr "Mend", .cls "Layers", .mkr "Layers", .cls "Way", .mkr "Way", .noat "Store" "text", .noat "Store" "file", .noat "Store" "nodes", .noat "Store" "rooms", .noat "Store" "fresh", .noat "Store" "mends", .noat "Store" "readers", .noat "Mend" "label", .noat "Mend" "kind"]
def fa3 : List He.Fa := [.noat "Mend" "nodes", .noat "Mend" "helpers", .noat "Mend" "amounts", .noat "Mend" "swap", .noat "Layers" "store", .noat "Layers" "moves", .noat "Layers" "rows", .noat "Way" "total", .noat "Way" "steps", .meth "Layers" "longer", .meth "Layers" "within", .meth "Layers" "best_step", .meth "Layers" "steps_of", .meth "Store" "read_node", .meth "Store" "read_line"]
def faT : List He.Fa := fa0 ++ fa1 ++ fa2 ++ fa3
def extra (K : PySem.W.Frag) : Bool := He.eqO (PySem.W.findIn K (.ref (He.ga K "Way")) "__class__") (some (some (.builtin "object.__class__"))) && (He.eqO (PySem.W.specialIn K (.builtin "object.__class__") "__get__") (some (some (.builtin "getset_descriptor.__get__"))) && (decide (PySem.W.takesIn K (.builtin "object.__class__") = some true) && decide (PySem.W.mroIn K (He.ga K "Way") (.type "object") = some true)))
def obsX (n : Nat) (g : Addr → Option Obj) : Bool × He.AlD := (fun K => (extra K, He.obsD faT fnsT K)) (He.frG g (He.asD g n))
def hookX (n : Nat) : PySem.W.Hook where
  α := Bool × He.AlD
  obs := fun s => obsX n s.heap.get?
  val := fun _ => (true, He.valD fnsT)
  says := fun _ h => ∃ K : PySem.W.Frag, K.In h ∧ (extra K = true ∧ He.SaysD faT fnsT K)
  of := fun _ _ e => ⟨_, He.frG_in, congrArg Prod.fst e, congrArg Prod.snd e⟩
  keeps := fun _ _ _ ⟨K, hK, c⟩ k => ⟨K, PySem.W.Frag.In.keeps hK k, c⟩
def obX (s : PySem.W.SharedT) : Bool × He.AlD := obsX 5 (HandSHeadRun.getT s)
theorem obX_eq (s : PySem.W.SharedT) : obX s = (hookX 5).obs s.abs := by
  have e : HandSHeadRun.getT s = s.abs.heap.get? := funext (HandSHeadRun.getT_eq s)
  show obsX 5 (HandSHeadRun.getT s) = obsX 5 s.abs.heap.get?
  rw [e]
theorem runX (w : World) : HandSHeadRun.RunEq RW (PySem.W.view RW.prog [69]) (hookX 5) obX 6000 namesT w := by
  intro os
  kernel_rfl
end Am
set_option maxHeartbeats 4000000
/-! The end: each def as a caller takes it; the law. -/
namespace Am
open PySem PySem.Spec PyProof.Rows L2
def cK (K : PySem.W.Frag) : Cls4 := ⟨He.ga K "Store", He.ga K "Mend", He.ga K "Layers", He.ga K "Way"⟩
structure Env (K : PySem.W.Frag) (h : Heap) (mg : Str → Option Value) : Prop where
  X : K.In h
  G : h.Ns mainGlobals mg
  says : He.SaysD faT fnsT K
  ext : extra K = true
section
variable {P : Program} {w : World} {K : PySem.W.Frag} {mg : Str → Option Value} {base h : Heap}
theorem Env.B (E : Env K h mg) : Blt mg := ⟨He.free_ok E.X E.G (E.says.fact 54 (f := .free "len") rfl), He.free_ok E.X E.G (E.says.fact 55 (f := .free "sum") rfl), He.free_ok E.X E.G (E.says.fact 56 (f := .free "min") rfl), He.free_ok E.X E.G (E.says.fact 57 (f := .free "max") rfl), He.free_ok E.X E.G (E.says.fact 58 (f := .free "all") rfl), He.free_ok E.X E.G (E.says.fact 59 (f := .free "isinstance") rfl), He.free_ok E.X E.G (E.says.fact 60 (f := .free "enumerate") rfl), He.free_ok E.X E.G (E.says.fact 61 (f := .free "zip") rfl), He.free_ok E.X E.G (E.says.fact 62 (f := .free "range") rfl), He.free_ok E.X E.G (E.says.fact 63 (f := .free "tuple") rfl), He.free_ok E.X E.G (E.says.fact 64 (f := .free "list") rfl), He.free_ok E.X E.G (E.says.fact 65 (f := .free "dict") rfl), He.free_ok E.X E.G (E.says.fact 66 (f := .free "int") rfl), He.free_ok E.X E.G (E.says.fact 67 (f := .free "str") rfl), He.free_ok E.X E.G (E.says.fact 68 (f := .free "bool") rfl), He.int_ok E.X E.G (E.says.fact 69 (f := .int "MOST" 40) rfl), He.int_ok E.X E.G (E.says.fact 70 (f := .int "MOST_NODES" 7) rfl), He.str_ok E.X E.G (E.says.fact 71 (f := .str "SMALL" "abcdefghijklmnopqrstuvwxyz") rfl), He.str_ok E.X E.G (E.says.fact 72 (f := .str "DIGITS" "0123456789") rfl)⟩
theorem Env.hc (E : Env K h mg) : ClsOk K (cK K) mg := by
  obtain ⟨e1, e⟩ := He.ba E.ext
  obtain ⟨e2, e⟩ := He.ba e
  obtain ⟨e3, e4⟩ := He.ba e
  exact ⟨He.cls_ok (E.says.fact 73 (f := .cls "Store") rfl), He.cls_ok (E.says.fact 75 (f := .cls "Mend") rfl), He.cls_ok (E.says.fact 77 (f := .cls "Layers") rfl), He.cls_ok (E.says.fact 79 (f := .cls "Way") rfl), He.noat_ok (E.says.fact 81 (f := .noat "Store" "text") rfl), He.noat_ok (E.says.fact 82 (f := .noat "Store" "file") rfl), He.noat_ok (E.says.fact 83 (f := .noat "Store" "nodes") rfl), He.noat_ok (E.says.fact 84 (f := .noat "Store" "rooms") rfl), He.noat_ok (E.says.fact 85 (f := .noat "Store" "fresh") rfl), He.noat_ok (E.says.fact 86 (f := .noat "Store" "mends") rfl), He.noat_ok (E.says.fact 87 (f := .noat "Store" "readers") rfl), He.noat_ok (E.says.fact 88 (f := .noat "Mend" "label") rfl), He.noat_ok (E.says.fact 89 (f := .noat "Mend" "kind") rfl), He.noat_ok (E.says.fact 90 (f := .noat "Mend" "nodes") rfl), He.noat_ok (E.says.fact 91 (f := .noat "Mend" "helpers") rfl), He.noat_ok (E.says.fact 92 (f := .noat "Mend" "amounts") rfl), He.noat_ok (E.says.fact 93 (f := .noat "Mend" "swap") rfl), He.noat_ok (E.says.fact 94 (f := .noat "Layers" "store") rfl), He.noat_ok (E.says.fact 95 (f := .noat "Layers" "moves") rfl), He.noat_ok (E.says.fact 96 (f := .noat "Layers" "rows") rfl), He.noat_ok (E.says.fact 97 (f := .noat "Way" "total") rfl), He.noat_ok (E.says.fact 98 (f := .noat "Way" "steps") rfl), He.glo_ok E.X E.G (E.says.fact 53 (f := .glo "Way") rfl), He.eqO_ok e1, He.eqO_ok e2, of_decide_eq_true e3, of_decide_eq_true e4, if_pos (beq_self_eq_true _)⟩
theorem en_bit_of (E : Env K h mg) : Fn P w K mg base "bit_of" 1 ["k"] (spP K R_bit_of) := by
  obtain ⟨fd, F⟩ := E.says.def_ 0 (d := d_bit_of) rfl
  exact ⟨_, fd, He.glo_ok E.X E.G (E.says.fact 0 (f := .glo "bit_of") rfl), F.kp, (FunD.bindsN F fun _ _ _ _ _ _ us hl => match us, hl with | [_], _ => rfl), ok_bit_of E.B E.hc  F⟩
theorem en_has_bit (E : Env K h mg) : Fn P w K mg base "has_bit" 1 ["mask", "k"] (spP K R_has_bit) := by
  obtain ⟨fd, F⟩ := E.says.def_ 1 (d := d_has_bit) rfl
  exact ⟨_, fd, He.glo_ok E.X E.G (E.says.fact 1 (f := .glo "has_bit") rfl), F.kp, (FunD.bindsN F fun _ _ _ _ _ _ us hl => match us, hl with | [_, _], _ => rfl), ok_has_bit E.B E.hc  F⟩
theorem en_least (E : Env K h mg) : Fn P w K mg base "least" 1 ["one", "two"] (spP K R_least) := by
  obtain ⟨fd, F⟩ := E.says.def_ 8 (d := d_least) rfl
  exact ⟨_, fd, He.glo_ok E.X E.G (E.says.fact 8 (f := .glo "least") rfl), F.kp, (FunD.bindsN F fun _ _ _ _ _ _ us hl => match us, hl with | [_, _], _ => rfl), ok_least E.B E.hc  F⟩
theorem en_is_whole (E : Env K h mg) : Fn P w K mg base "is_whole" 1 ["value"] (spP K R_is_whole) := by
  obtain ⟨fd, F⟩ := E.says.def_ 12 (d := d_is_whole) rfl
  exact ⟨_, fd, He.glo_ok E.X E.G (E.says.fact 12 (f := .glo "is_whole") rfl), F.kp, (FunD.bindsN F fun _ _ _ _ _ _ us hl => match us, hl with | [_], _ => rfl), ok_is_whole E.B E.hc  F⟩
theorem en_Layers_within (E : Env K h mg) : Mt P w K mg base (cK K).L "within" 1 ["self", "mends"] (spP K (R_within (cK K))) := by
  obtain ⟨fd, F⟩ := E.says.def_ 15 (d := d_Layers_within) rfl
  exact ⟨E.hc.clL, _, fd, He.meth_ok (E.says.fact 100 (f := .meth "Layers" "within") rfl), (FunD.bindsN F fun _ _ _ _ _ _ us hl => match us, hl with | [_, _], _ => rfl), ok_Layers_within E.B E.hc  F⟩
theorem en_Layers_best_step (E : Env K h mg) : Mt P w K mg base (cK K).L "best_step" 1 ["self", "mask", "left"] (spP K (R_best (cK K))) := by
  obtain ⟨fd, F⟩ := E.says.def_ 16 (d := d_Layers_best_step) rfl
  exact ⟨E.hc.clL, _, fd, He.meth_ok (E.says.fact 101 (f := .meth "Layers" "best_step") rfl), (FunD.bindsN F fun _ _ _ _ _ _ us hl => match us, hl with | [_, _, _], _ => rfl), ok_Layers_best_step E.B E.hc  F⟩
theorem en_Way___init__ (E : Env K h mg) : Mr P w K mg base "Way" (cK K).W 1 ["self", "total", "steps"] (spM K (R_Winit (cK K))) := by
  obtain ⟨fd, F⟩ := E.says.def_ 18 (d := d_Way___init__) rfl
  exact ⟨He.glo_ok E.X E.G (E.says.fact 53 (f := .glo "Way") rfl), _, fd, He.mkr_ok (E.says.fact 80 (f := .mkr "Way") rfl), (FunD.bindsN F fun _ _ _ _ _ _ us hl => match us, hl with | [_, _, _], _ => rfl), ok_Way___init__ E.B E.hc  F⟩
theorem en__law_all_lots (E : Env K h mg) : Fn P w K mg base "_law_all_lots" 1 ["_law_store_here"] (spP K R_allLots) := by
  obtain ⟨fd, F⟩ := E.says.def_ 20 (d := d__law_all_lots) rfl
  exact ⟨_, fd, He.glo_ok E.X E.G (E.says.fact 14 (f := .glo "_law_all_lots") rfl), F.kp, (FunD.bindsN F fun _ _ _ _ _ _ us hl => match us, hl with | [_], _ => rfl), ok__law_all_lots E.B E.hc  F⟩
theorem en__law_lot_of (E : Env K h mg) : Fn P w K mg base "_law_lot_of" 1 ["_law_store_here", "_law_names"] (spP K R_lawLot) := by
  obtain ⟨fd, F⟩ := E.says.def_ 21 (d := d__law_lot_of) rfl
  exact ⟨_, fd, He.glo_ok E.X E.G (E.says.fact 15 (f := .glo "_law_lot_of") rfl), F.kp, (FunD.bindsN F fun _ _ _ _ _ _ us hl => match us, hl with | [_, _], _ => rfl), ok__law_lot_of E.B E.hc  F⟩
theorem en__law_load (E : Env K h mg) : Fn P w K mg base "_law_load" 1 ["_law_lot", "_law_helpers", "_law_amounts"] (spP K R_load) := by
  obtain ⟨fd, F⟩ := E.says.def_ 22 (d := d__law_load) rfl
  exact ⟨_, fd, He.glo_ok E.X E.G (E.says.fact 16 (f := .glo "_law_load") rfl), F.kp, (FunD.bindsN F fun _ _ _ _ _ _ us hl => match us, hl with | [_, _, _], _ => rfl), ok__law_load E.B E.hc  F⟩
theorem en__law_end (E : Env K h mg) : Fn P w K mg base "_law_end" 1 ["_law_store_here", "_law_lot", "_law_reader"] (spP K R_lend) := by
  obtain ⟨fd, F⟩ := E.says.def_ 26 (d := d__law_end) rfl
  exact ⟨_, fd, He.glo_ok E.X E.G (E.says.fact 20 (f := .glo "_law_end") rfl), F.kp, (FunD.bindsN F fun _ _ _ _ _ _ us hl => match us, hl with | [_, _, _], _ => rfl), ok__law_end E.B E.hc  F⟩
theorem en__law_start (E : Env K h mg) : Fn P w K mg base "_law_start" 1 ["_law_store_here", "_law_lot"] (spP K R_start) := by
  obtain ⟨fd, F⟩ := E.says.def_ 27 (d := d__law_start) rfl
  exact ⟨_, fd, He.glo_ok E.X E.G (E.says.fact 21 (f := .glo "_law_start") rfl), F.kp, (FunD.bindsN F fun _ _ _ _ _ _ us hl => match us, hl with | [_, _], _ => rfl), ok__law_start E.B E.hc  F⟩
theorem en__law_within (E : Env K h mg) : Fn P w K mg base "_law_within" 1 ["_law_rows", "_law_mends"] (spP K R_lwithin) := by
  obtain ⟨fd, F⟩ := E.says.def_ 28 (d := d__law_within) rfl
  exact ⟨_, fd, He.glo_ok E.X E.G (E.says.fact 22 (f := .glo "_law_within") rfl), F.kp, (FunD.bindsN F fun _ _ _ _ _ _ us hl => match us, hl with | [_, _], _ => rfl), ok__law_within E.B E.hc  F⟩
theorem en__law_pen (E : Env K h mg) : Fn P w K mg base "_law_pen" 1 ["_law_script"] (spN K R_pen) := by
  obtain ⟨fd, F⟩ := E.says.def_ 33 (d := d__law_pen) rfl
  exact ⟨_, fd, He.glo_ok E.X E.G (E.says.fact 27 (f := .glo "_law_pen") rfl), F.kp, (FunD.bindsN F fun _ _ _ _ _ _ us hl => match us, hl with | [_], _ => rfl), ok__law_pen E.B E.hc  F⟩
theorem en__law_draw (E : Env K h mg) : Fn P w K mg base "_law_draw" 1 ["_law_pen_here", "_law_many"] (spM K R_draw) := by
  obtain ⟨fd, F⟩ := E.says.def_ 34 (d := d__law_draw) rfl
  exact ⟨_, fd, He.glo_ok E.X E.G (E.says.fact 28 (f := .glo "_law_draw") rfl), F.kp, (FunD.bindsN F fun _ _ _ _ _ _ us hl => match us, hl with | [_, _], _ => rfl), ok__law_draw E.B E.hc  F⟩
theorem en__law_store_text (E : Env K h mg) : Fn P w K mg base "_law_store_text" 1 ["_law_store_here"] (spP K R_text) := by
  obtain ⟨fd, F⟩ := E.says.def_ 41 (d := d__law_store_text) rfl
  exact ⟨_, fd, He.glo_ok E.X E.G (E.says.fact 35 (f := .glo "_law_store_text") rfl), F.kp, (FunD.bindsN F fun _ _ _ _ _ _ us hl => match us, hl with | [_], _ => rfl), ok__law_store_text E.B E.hc  F⟩
theorem en_is_name (E : Env K h mg) : Fn P w K mg base "is_name" 1 ["value"] (spP K R_isName) := by
  obtain ⟨fd, F⟩ := E.says.def_ 42 (d := d_is_name) rfl
  exact ⟨_, fd, He.glo_ok E.X E.G (E.says.fact 36 (f := .glo "is_name") rfl), F.kp, (FunD.bindsN F fun _ _ _ _ _ _ us hl => match us, hl with | [_], _ => rfl), ok_is_name E.B E.hc  F⟩
theorem en_need_text (E : Env K h mg) : Fn P w K mg base "need_text" 1 ["value"] (spP K R_needText) := by
  obtain ⟨fd, F⟩ := E.says.def_ 43 (d := d_need_text) rfl
  exact ⟨_, fd, He.glo_ok E.X E.G (E.says.fact 37 (f := .glo "need_text") rfl), F.kp, (FunD.bindsN F fun _ _ _ _ _ _ us hl => match us, hl with | [_], _ => rfl), ok_need_text E.B E.hc  F⟩
theorem en_text_lines (E : Env K h mg) : Fn P w K mg base "text_lines" 1 ["text"] (spP K R_textLines) := by
  obtain ⟨fd, F⟩ := E.says.def_ 44 (d := d_text_lines) rfl
  exact ⟨_, fd, He.glo_ok E.X E.G (E.says.fact 38 (f := .glo "text_lines") rfl), F.kp, (FunD.bindsN F fun _ _ _ _ _ _ us hl => match us, hl with | [_], _ => rfl), ok_text_lines E.B E.hc  F⟩
theorem en_word_at (E : Env K h mg) : Fn P w K mg base "word_at" 1 ["words", "at", "line"] (spP K R_wordAt) := by
  obtain ⟨fd, F⟩ := E.says.def_ 46 (d := d_word_at) rfl
  exact ⟨_, fd, He.glo_ok E.X E.G (E.says.fact 40 (f := .glo "word_at") rfl), F.kp, (FunD.bindsN F fun _ _ _ _ _ _ us hl => match us, hl with | [_, _, _], _ => rfl), ok_word_at E.B E.hc  F⟩
theorem en_no_more (E : Env K h mg) : Fn P w K mg base "no_more" 1 ["words", "many", "line"] (spP K R_noMore) := by
  obtain ⟨fd, F⟩ := E.says.def_ 47 (d := d_no_more) rfl
  exact ⟨_, fd, He.glo_ok E.X E.G (E.says.fact 41 (f := .glo "no_more") rfl), F.kp, (FunD.bindsN F fun _ _ _ _ _ _ us hl => match us, hl with | [_, _, _], _ => rfl), ok_no_more E.B E.hc  F⟩
theorem en_number_of (E : Env K h mg) : Fn P w K mg base "number_of" 1 ["word", "low", "high"] (spP K R_numberOf) := by
  obtain ⟨fd, F⟩ := E.says.def_ 48 (d := d_number_of) rfl
  exact ⟨_, fd, He.glo_ok E.X E.G (E.says.fact 42 (f := .glo "number_of") rfl), F.kp, (FunD.bindsN F fun _ _ _ _ _ _ us hl => match us, hl with | [_, _, _], _ => rfl), ok_number_of E.B E.hc  F⟩
theorem en_Mend___init__ (E : Env K h mg) : Mr P w K mg base "Mend" (cK K).M 1 ["self", "label", "kind", "nodes", "helpers", "amounts", "swap"] (spM K (R_Minit (cK K))) := by
  obtain ⟨fd, F⟩ := E.says.def_ 54 (d := d_Mend___init__) rfl
  exact ⟨He.glo_ok E.X E.G (E.says.fact 51 (f := .glo "Mend") rfl), _, fd, He.mkr_ok (E.says.fact 76 (f := .mkr "Mend") rfl), (FunD.bindsN F fun _ _ _ _ _ _ us hl => match us, hl with | [_, _, _, _, _, _, _], _ => rfl), ok_Mend___init__ E.B E.hc  F⟩
theorem en_mask_of (E : Env K h mg) : Fn P w K mg base "mask_of" 2 ["store", "names"] (spP K (R_mask_of (cK K))) := by
  obtain ⟨fd, F⟩ := E.says.def_ 2 (d := d_mask_of) rfl
  exact ⟨_, fd, He.glo_ok E.X E.G (E.says.fact 2 (f := .glo "mask_of") rfl), F.kp, (FunD.bindsN F fun _ _ _ _ _ _ us hl => match us, hl with | [_, _], _ => rfl), ok_mask_of E.B E.hc (en_bit_of E) F⟩
theorem en_lot_of (E : Env K h mg) : Fn P w K mg base "lot_of" 2 ["store", "mask"] (spP K (R_lot_of (cK K))) := by
  obtain ⟨fd, F⟩ := E.says.def_ 3 (d := d_lot_of) rfl
  exact ⟨_, fd, He.glo_ok E.X E.G (E.says.fact 3 (f := .glo "lot_of") rfl), F.kp, (FunD.bindsN F fun _ _ _ _ _ _ us hl => match us, hl with | [_, _], _ => rfl), ok_lot_of E.B E.hc (en_has_bit E) F⟩
theorem en_told_mends (E : Env K h mg) : Fn P w K mg base "told_mends" 2 ["mends"] (spP K R_told_mends) := by
  obtain ⟨fd, F⟩ := E.says.def_ 5 (d := d_told_mends) rfl
  exact ⟨_, fd, He.glo_ok E.X E.G (E.says.fact 5 (f := .glo "told_mends") rfl), F.kp, (FunD.bindsN F fun _ _ _ _ _ _ us hl => match us, hl with | [_], _ => rfl), ok_told_mends E.B E.hc (en_is_whole E) F⟩
theorem en_told_reader (E : Env K h mg) : Fn P w K mg base "told_reader" 2 ["store", "reader"] (spP K (R_told_reader (cK K))) := by
  obtain ⟨fd, F⟩ := E.says.def_ 6 (d := d_told_reader) rfl
  exact ⟨_, fd, He.glo_ok E.X E.G (E.says.fact 6 (f := .glo "told_reader") rfl), F.kp, (FunD.bindsN F fun _ _ _ _ _ _ us hl => match us, hl with | [_, _], _ => rfl), ok_told_reader E.B E.hc (en_is_whole E) F⟩
theorem en_outside (E : Env K h mg) : Fn P w K mg base "outside" 2 ["store", "mask", "helpers", "amounts"] (spP K (R_outside (cK K))) := by
  obtain ⟨fd, F⟩ := E.says.def_ 7 (d := d_outside) rfl
  exact ⟨_, fd, He.glo_ok E.X E.G (E.says.fact 7 (f := .glo "outside") rfl), F.kp, (FunD.bindsN F fun _ _ _ _ _ _ us hl => match us, hl with | [_, _, _, _], _ => rfl), ok_outside E.B E.hc (en_has_bit E) F⟩
theorem en_pair_price (E : Env K h mg) : Fn P w K mg base "pair_price" 2 ["rooms", "loads", "swap", "taken"] (spP K R_pair_price) := by
  obtain ⟨fd, F⟩ := E.says.def_ 9 (d := d_pair_price) rfl
  exact ⟨_, fd, He.glo_ok E.X E.G (E.says.fact 9 (f := .glo "pair_price") rfl), F.kp, (FunD.bindsN F fun _ _ _ _ _ _ us hl => match us, hl with | [_, _, _, _], _ => rfl), ok_pair_price E.B E.hc (en_least E) F⟩
theorem en_end_price (E : Env K h mg) : Fn P w K mg base "end_price" 2 ["store", "mask", "reader"] (spP K (R_end_price (cK K))) := by
  obtain ⟨fd, F⟩ := E.says.def_ 11 (d := d_end_price) rfl
  exact ⟨_, fd, He.glo_ok E.X E.G (E.says.fact 11 (f := .glo "end_price") rfl), F.kp, (FunD.bindsN F fun _ _ _ _ _ _ us hl => match us, hl with | [_, _, _], _ => rfl), ok_end_price E.B E.hc (en_has_bit E) F⟩
theorem en_Layers_longer (E : Env K h mg) : Mt P w K mg base (cK K).L "longer" 2 ["self"] (spM K (R_longer (cK K))) := by
  obtain ⟨fd, F⟩ := E.says.def_ 13 (d := d_Layers_longer) rfl
  exact ⟨E.hc.clL, _, fd, He.meth_ok (E.says.fact 99 (f := .meth "Layers" "longer") rfl), (FunD.bindsN F fun _ _ _ _ _ _ us hl => match us, hl with | [_], _ => rfl), ok_Layers_longer E.B E.hc (en_least E) F⟩
theorem en_Layers_steps_of (E : Env K h mg) : Mt P w K mg base (cK K).L "steps_of" 2 ["self", "mask", "mends"] (spP K (R_stepsOf (cK K))) := by
  obtain ⟨fd, F⟩ := E.says.def_ 17 (d := d_Layers_steps_of) rfl
  exact ⟨E.hc.clL, _, fd, He.meth_ok (E.says.fact 102 (f := .meth "Layers" "steps_of") rfl), (FunD.bindsN F fun _ _ _ _ _ _ us hl => match us, hl with | [_, _, _], _ => rfl), ok_Layers_steps_of E.B E.hc (en_Layers_within E) (en_Layers_best_step E) F⟩
theorem en__law_price (E : Env K h mg) : Fn P w K mg base "_law_price" 2 ["_law_store_here", "_law_lot", "_law_mend", "_law_taken"] (spP K R_lprice) := by
  obtain ⟨fd, F⟩ := E.says.def_ 23 (d := d__law_price) rfl
  exact ⟨_, fd, He.glo_ok E.X E.G (E.says.fact 17 (f := .glo "_law_price") rfl), F.kp, (FunD.bindsN F fun _ _ _ _ _ _ us hl => match us, hl with | [_, _, _, _], _ => rfl), ok__law_price E.B E.hc (en__law_load E) F⟩
theorem en__law_takes (E : Env K h mg) : Fn P w K mg base "_law_takes" 2 ["_law_store_here", "_law_mend"] (spP K R_takes) := by
  obtain ⟨fd, F⟩ := E.says.def_ 24 (d := d__law_takes) rfl
  exact ⟨_, fd, He.glo_ok E.X E.G (E.says.fact 18 (f := .glo "_law_takes") rfl), F.kp, (FunD.bindsN F fun _ _ _ _ _ _ us hl => match us, hl with | [_, _], _ => rfl), ok__law_takes E.B E.hc (en__law_lot_of E) F⟩
theorem en__law_next_lot (E : Env K h mg) : Fn P w K mg base "_law_next_lot" 2 ["_law_store_here", "_law_lot", "_law_mend", "_law_taken"] (spP K R_next) := by
  obtain ⟨fd, F⟩ := E.says.def_ 25 (d := d__law_next_lot) rfl
  exact ⟨_, fd, He.glo_ok E.X E.G (E.says.fact 19 (f := .glo "_law_next_lot") rfl), F.kp, (FunD.bindsN F fun _ _ _ _ _ _ us hl => match us, hl with | [_, _, _, _], _ => rfl), ok__law_next_lot E.B E.hc (en__law_lot_of E) F⟩
theorem en__law_file (E : Env K h mg) : Fn P w K mg base "_law_file" 2 ["_law_store_here", "_law_layers_here", "_law_mends"] (spP K R_file) := by
  obtain ⟨fd, F⟩ := E.says.def_ 31 (d := d__law_file) rfl
  exact ⟨_, fd, He.glo_ok E.X E.G (E.says.fact 25 (f := .glo "_law_file") rfl), F.kp, (FunD.bindsN F fun _ _ _ _ _ _ us hl => match us, hl with | [_, _, _], _ => rfl), ok__law_file E.B E.hc (en__law_within E) (en__law_start E) F⟩
theorem en__law_pick (E : Env K h mg) : Fn P w K mg base "_law_pick" 2 ["_law_pen_here", "_law_some"] (spM K R_pick) := by
  obtain ⟨fd, F⟩ := E.says.def_ 35 (d := d__law_pick) rfl
  exact ⟨_, fd, He.glo_ok E.X E.G (E.says.fact 29 (f := .glo "_law_pick") rfl), F.kp, (FunD.bindsN F fun _ _ _ _ _ _ us hl => match us, hl with | [_, _], _ => rfl), ok__law_pick E.B E.hc (en__law_draw E) F⟩
theorem en_text_rows (E : Env K h mg) : Fn P w K mg base "text_rows" 2 ["text"] (spP K R_textRows) := by
  obtain ⟨fd, F⟩ := E.says.def_ 45 (d := d_text_rows) rfl
  exact ⟨_, fd, He.glo_ok E.X E.G (E.says.fact 39 (f := .glo "text_rows") rfl), F.kp, (FunD.bindsN F fun _ _ _ _ _ _ us hl => match us, hl with | [_], _ => rfl), ok_text_rows E.B E.hc (en_text_lines E) F⟩
theorem en_number_at (E : Env K h mg) : Fn P w K mg base "number_at" 2 ["words", "at", "line", "low", "high"] (spP K R_numberAt) := by
  obtain ⟨fd, F⟩ := E.says.def_ 49 (d := d_number_at) rfl
  exact ⟨_, fd, He.glo_ok E.X E.G (E.says.fact 43 (f := .glo "number_at") rfl), F.kp, (FunD.bindsN F fun _ _ _ _ _ _ us hl => match us, hl with | [_, _, _, _, _], _ => rfl), ok_number_at E.B E.hc (en_number_of E) (en_word_at E) F⟩
theorem en_new_name_at (E : Env K h mg) : Fn P w K mg base "new_name_at" 2 ["words", "at", "line", "known"] (spP K R_newName) := by
  obtain ⟨fd, F⟩ := E.says.def_ 50 (d := d_new_name_at) rfl
  exact ⟨_, fd, He.glo_ok E.X E.G (E.says.fact 44 (f := .glo "new_name_at") rfl), F.kp, (FunD.bindsN F fun _ _ _ _ _ _ us hl => match us, hl with | [_, _, _, _], _ => rfl), ok_new_name_at E.B E.hc (en_word_at E) (en_is_name E) F⟩
theorem en_one_of_at (E : Env K h mg) : Fn P w K mg base "one_of_at" 2 ["words", "at", "line", "known"] (spP K R_oneOf) := by
  obtain ⟨fd, F⟩ := E.says.def_ 51 (d := d_one_of_at) rfl
  exact ⟨_, fd, He.glo_ok E.X E.G (E.says.fact 45 (f := .glo "one_of_at") rfl), F.kp, (FunD.bindsN F fun _ _ _ _ _ _ us hl => match us, hl with | [_, _, _, _], _ => rfl), ok_one_of_at E.B E.hc (en_word_at E) F⟩
theorem en_links_at (E : Env K h mg) : Fn P w K mg base "links_at" 2 ["words", "start", "line", "known", "end"] (spP K R_links) := by
  obtain ⟨fd, F⟩ := E.says.def_ 52 (d := d_links_at) rfl
  exact ⟨_, fd, He.glo_ok E.X E.G (E.says.fact 46 (f := .glo "links_at") rfl), F.kp, (FunD.bindsN F fun _ _ _ _ _ _ us hl => match us, hl with | [_, _, _, _, _], _ => rfl), ok_links_at E.B E.hc (en_word_at E) (en_number_of E) F⟩
theorem en_reader_items (E : Env K h mg) : Fn P w K mg base "reader_items" 2 ["words", "line", "nodes"] (spP K R_ritems) := by
  obtain ⟨fd, F⟩ := E.says.def_ 53 (d := d_reader_items) rfl
  exact ⟨_, fd, He.glo_ok E.X E.G (E.says.fact 47 (f := .glo "reader_items") rfl), F.kp, (FunD.bindsN F fun _ _ _ _ _ _ us hl => match us, hl with | [_, _, _], _ => rfl), ok_reader_items E.B E.hc (en_word_at E) (en_number_of E) F⟩
theorem en_told_lot (E : Env K h mg) : Fn P w K mg base "told_lot" 3 ["store", "lot"] (spP K (R_told_lot (cK K))) := by
  obtain ⟨fd, F⟩ := E.says.def_ 4 (d := d_told_lot) rfl
  exact ⟨_, fd, He.glo_ok E.X E.G (E.says.fact 4 (f := .glo "told_lot") rfl), F.kp, (FunD.bindsN F fun _ _ _ _ _ _ us hl => match us, hl with | [_, _], _ => rfl), ok_told_lot E.B E.hc (en_bit_of E) (en_lot_of E) F⟩
theorem en_steps_from (E : Env K h mg) : Fn P w K mg base "steps_from" 3 ["store", "mask", "mend"] (spP K (R_steps_from (cK K))) := by
  obtain ⟨fd, F⟩ := E.says.def_ 10 (d := d_steps_from) rfl
  exact ⟨_, fd, He.glo_ok E.X E.G (E.says.fact 10 (f := .glo "steps_from") rfl), F.kp, (FunD.bindsN F fun _ _ _ _ _ _ us hl => match us, hl with | [_, _, _], _ => rfl), ok_steps_from E.B E.hc (en_mask_of E) (en_outside E) (en_pair_price E) F⟩
theorem en__law_layers (E : Env K h mg) : Fn P w K mg base "_law_layers" 3 ["_law_store_here", "_law_reader"] (spP K R_layers) := by
  obtain ⟨fd, F⟩ := E.says.def_ 29 (d := d__law_layers) rfl
  exact ⟨_, fd, He.glo_ok E.X E.G (E.says.fact 23 (f := .glo "_law_layers") rfl), F.kp, (FunD.bindsN F fun _ _ _ _ _ _ us hl => match us, hl with | [_, _], _ => rfl), ok__law_layers E.B E.hc (en__law_all_lots E) (en__law_takes E) (en__law_next_lot E) (en__law_price E) (en__law_end E) F⟩
theorem en__law_steps_right (E : Env K h mg) : Fn P w K mg base "_law_steps_right" 3 ["_law_store_here", "_law_lot", "_law_reader", "_law_mends", "_law_told"] (spP K (R_right (cK K))) := by
  obtain ⟨fd, F⟩ := E.says.def_ 32 (d := d__law_steps_right) rfl
  exact ⟨_, fd, He.glo_ok E.X E.G (E.says.fact 26 (f := .glo "_law_steps_right") rfl), F.kp, (FunD.bindsN F fun _ _ _ _ _ _ us hl => match us, hl with | [_, _, _, _, _], _ => rfl), ok__law_steps_right E.B E.hc (en__law_takes E) (en__law_price E) (en__law_next_lot E) (en__law_end E) F⟩
theorem en__law_items (E : Env K h mg) : Fn P w K mg base "_law_items" 3 ["_law_pen_here", "_law_names", "_law_most"] (spM K R_items) := by
  obtain ⟨fd, F⟩ := E.says.def_ 36 (d := d__law_items) rfl
  exact ⟨_, fd, He.glo_ok E.X E.G (E.says.fact 30 (f := .glo "_law_items") rfl), F.kp, (FunD.bindsN F fun _ _ _ _ _ _ us hl => match us, hl with | [_, _, _], _ => rfl), ok__law_items E.B E.hc (en__law_draw E) (en__law_pick E) F⟩
theorem en__law_two_of (E : Env K h mg) : Fn P w K mg base "_law_two_of" 3 ["_law_pen_here", "_law_names"] (spM K R_twoOf) := by
  obtain ⟨fd, F⟩ := E.says.def_ 37 (d := d__law_two_of) rfl
  exact ⟨_, fd, He.glo_ok E.X E.G (E.says.fact 31 (f := .glo "_law_two_of") rfl), F.kp, (FunD.bindsN F fun _ _ _ _ _ _ us hl => match us, hl with | [_, _], _ => rfl), ok__law_two_of E.B E.hc (en__law_pick E) F⟩
theorem en__law_reader_of (E : Env K h mg) : Fn P w K mg base "_law_reader_of" 3 ["_law_pen_here", "_law_names", "_law_most"] (spM K R_readerOf) := by
  obtain ⟨fd, F⟩ := E.says.def_ 38 (d := d__law_reader_of) rfl
  exact ⟨_, fd, He.glo_ok E.X E.G (E.says.fact 32 (f := .glo "_law_reader_of") rfl), F.kp, (FunD.bindsN F fun _ _ _ _ _ _ us hl => match us, hl with | [_, _, _], _ => rfl), ok__law_reader_of E.B E.hc (en__law_draw E) (en__law_pick E) F⟩
theorem en_read_mend (E : Env K h mg) : Fn P w K mg base "read_mend" 3 ["words", "line", "labels", "nodes"] (spP K (R_rmend (cK K))) := by
  obtain ⟨fd, F⟩ := E.says.def_ 55 (d := d_read_mend) rfl
  exact ⟨_, fd, He.glo_ok E.X E.G (E.says.fact 48 (f := .glo "read_mend") rfl), F.kp, (FunD.bindsN F fun _ _ _ _ _ _ us hl => match us, hl with | [_, _, _, _], _ => rfl), ok_read_mend E.B E.hc (en_new_name_at E) (en_one_of_at E) (en_links_at E) (en_Mend___init__ E) (en_number_at E) F⟩
theorem en_Store_read_node (E : Env K h mg) : Mt P w K mg base (cK K).S "read_node" 3 ["self", "line", "words"] (spM K (R_rnode (cK K))) := by
  obtain ⟨fd, F⟩ := E.says.def_ 56 (d := d_Store_read_node) rfl
  exact ⟨E.hc.clS, _, fd, He.meth_ok (E.says.fact 103 (f := .meth "Store" "read_node") rfl), (FunD.bindsN F fun _ _ _ _ _ _ us hl => match us, hl with | [_, _, _], _ => rfl), ok_Store_read_node E.B E.hc (en_new_name_at E) (en_number_at E) (en_no_more E) F⟩
theorem en_Layers___init__ (E : Env K h mg) : Mr P w K mg base "Layers" (cK K).L 4 ["self", "store", "reader"] (spM K (R_Linit (cK K))) := by
  obtain ⟨fd, F⟩ := E.says.def_ 14 (d := d_Layers___init__) rfl
  exact ⟨He.glo_ok E.X E.G (E.says.fact 52 (f := .glo "Layers") rfl), _, fd, He.mkr_ok (E.says.fact 78 (f := .mkr "Layers") rfl), (FunD.bindsN F fun _ _ _ _ _ _ us hl => match us, hl with | [_, _, _], _ => rfl), ok_Layers___init__ E.B E.hc (en_steps_from E) (en_end_price E) (en_Layers_longer E) F⟩
theorem en__law_all_layers (E : Env K h mg) : Fn P w K mg base "_law_all_layers" 4 ["_law_store_here"] (spP K R_allLayers) := by
  obtain ⟨fd, F⟩ := E.says.def_ 30 (d := d__law_all_layers) rfl
  exact ⟨_, fd, He.glo_ok E.X E.G (E.says.fact 24 (f := .glo "_law_all_layers") rfl), F.kp, (FunD.bindsN F fun _ _ _ _ _ _ us hl => match us, hl with | [_], _ => rfl), ok__law_all_layers E.B E.hc (en__law_layers E) F⟩
theorem en__law_mend_of (E : Env K h mg) : Fn P w K mg base "_law_mend_of" 4 ["_law_pen_here", "_law_store_here", "_law_label", "_law_names", "_law_most"] (spM K R_mendOf) := by
  obtain ⟨fd, F⟩ := E.says.def_ 39 (d := d__law_mend_of) rfl
  exact ⟨_, fd, He.glo_ok E.X E.G (E.says.fact 33 (f := .glo "_law_mend_of") rfl), F.kp, (FunD.bindsN F fun _ _ _ _ _ _ us hl => match us, hl with | [_, _, _, _, _], _ => rfl), ok__law_mend_of E.B E.hc (en__law_items E) (en__law_draw E) F⟩
theorem en_Store_read_line (E : Env K h mg) : Mt P w K mg base (cK K).S "read_line" 4 ["self", "line", "words"] (spM K (R_rline (cK K))) := by
  obtain ⟨fd, F⟩ := E.says.def_ 57 (d := d_Store_read_line) rfl
  exact ⟨E.hc.clS, _, fd, He.meth_ok (E.says.fact 104 (f := .meth "Store" "read_line") rfl), (FunD.bindsN F fun _ _ _ _ _ _ us hl => match us, hl with | [_, _, _], _ => rfl), ok_Store_read_line E.B E.hc (en_Store_read_node E) (en_read_mend E) (en_reader_items E) F⟩
theorem en__law_store (E : Env K h mg) : Fn P w K mg base "_law_store" 5 ["_law_pen_here", "_law_most", "_law_pairs"] (spM K R_lstore) := by
  obtain ⟨fd, F⟩ := E.says.def_ 40 (d := d__law_store) rfl
  exact ⟨_, fd, He.glo_ok E.X E.G (E.says.fact 34 (f := .glo "_law_store") rfl), F.kp, (FunD.bindsN F fun _ _ _ _ _ _ us hl => match us, hl with | [_, _, _], _ => rfl), ok__law_store E.B E.hc (en__law_pick E) (en__law_draw E) (en__law_mend_of E) (en__law_two_of E) (en__law_reader_of E) (en__law_all_layers E) (en__law_file E) F⟩
theorem en_Store___init__ (E : Env K h mg) : Mr P w K mg base "Store" (cK K).S 5 ["self", "text"] (spM K (R_Sinit (cK K))) := by
  obtain ⟨fd, F⟩ := E.says.def_ 58 (d := d_Store___init__) rfl
  exact ⟨He.glo_ok E.X E.G (E.says.fact 50 (f := .glo "Store") rfl), _, fd, He.mkr_ok (E.says.fact 74 (f := .mkr "Store") rfl), (FunD.bindsN F fun _ _ _ _ _ _ us hl => match us, hl with | [_, _], _ => rfl), ok_Store___init__ E.B E.hc (en_need_text E) (en_text_rows E) (en_number_at E) (en_no_more E) (en_Store_read_line E) F⟩
theorem way_binds {f : Addr} {fd : FuncData} (F : FunD K "way" "way" (defArgs s_way) (defBody s_way) (defScope s_way) [.non] [] f fd) : Binds K fd ["store", "lot", "reader", "mends"] [] := by
  obtain ⟨ds, hv, hb⟩ := FunD.binds1 (ps := ["store", "lot", "reader", "mends"]) F 4 1 (by simp) rfl fun T kV doc pm an cdv ct us its hl hi => match us, its, hl, hi with
    | [_, _, _, _], [_], _, _ => ⟨_, rfl, rfl⟩
  cases hv
  exact hb
theorem en_way (E : Env K h mg) : Fn P w K mg base "way" 6 ["store", "lot", "reader", "mends"] (spP K (R_way (cK K))) := by
  obtain ⟨fd, F⟩ := E.says.def_ 19 (d := d_way) rfl
  exact ⟨_, fd, He.glo_ok E.X E.G (E.says.fact 13 (f := .glo "way") rfl), F.kp, (way_binds F), ok_way E.B E.hc (en_told_lot E) (en_Layers___init__ E) (en_told_reader E) (en_Layers_within E) (en_told_mends E) (en_Way___init__ E) (en_Layers_steps_of E) F⟩
theorem en_law (E : Env K h mg) {f : Addr} (hfa : mg ("law" : Str) = some (.ref f)) : ∃ fd : FuncData, (∀ (s : Shared) (v : Value), BindsTo s fd ⟨[v], []⟩ [("_law_script", v)]) ∧ ∀ base : Heap, FnOk P w K mg base CX0 7 f fd ["_law_script"] (spP K R_law) := by
  obtain ⟨fd, F⟩ := E.says.def_ 59 (d := d_law) rfl
  have e := hfa.symm.trans (He.glo_ok E.X E.G (E.says.fact 49 (f := .glo "law") rfl))
  cases e
  have b := FunD.bindsA (ps := ["_law_script"]) F fun _ _ _ _ _ _ us hl => match us, hl with | [_], _ => rfl
  exact ⟨fd, fun s v => b s [v] rfl, fun base => ok_law E.B E.hc (en__law_pen E) (en__law_store E) (en__law_draw E) (en_Store___init__ E) (en__law_store_text E) (en__law_layers E) (en__law_all_lots E) (en__law_pick E) (en__law_within E) (en_way E) (en__law_steps_right E) (en_Way___init__ E) F⟩
theorem ints_reps {G : Hp} : ∀ ns : List Int, Reps K G (ns.map V.int) (iD ns)
  | [] => .nil
  | i :: r => .cons (.int i) (ints_reps r)
end
end Am
open PySem PySem.W PySem.Calls PyProof.Rows
set_option maxRecDepth 100000 in
set_option maxHeartbeats 0 in
theorem PySem.Challenge.cw_anymend_k08_whole_ways_holds : PySem.Challenge.rw_anymend_k08_whole_ways.Holds := by
  w_on; o_law
  refine HandSHeadRun.head_any (r := OpenLaw.row PySem.Challenge.rw_anymend_k08_whole_ways) (q := view (OpenLaw.row PySem.Challenge.rw_anymend_k08_whole_ways).prog [69]) (H := Am.hookX 5) (ob := Am.obX) (M := 6000) (loose := Am.namesT) (d := HandSHeadRun.topDef (OpenLaw.row PySem.Challenge.rw_anymend_k08_whole_ways).prog 69) (kwd := []) Am.obX_eq
    (by kernel_rfl) (fun s => by kernel_rfl) Am.runX (by kernel_rfl) (by kernel_rfl) (by kernel_rfl) (by rfl) (by first | assumption | decide +kernel) (by decide +kernel) ⟨rfl, rfl, rfl, rfl, rfl, by decide +kernel⟩ ?hw ?hc
  case hw => w_witness2
  case hc =>
    refine L2.walk_ofE (l := PySem.Challenge.rw_anymend_k08_whole_ways) (n := 63) (k := 7) (x := "_law_script") (CX := L2.CX0) rfl (by decide) (by kernel_rfl) ⟨rfl, by decide, by decide⟩ ?F (fun _ _ _ _ z => z)
    intro w mg fa h Y G hmg0
    obtain ⟨K, KX, e, c⟩ := Y
    have hmg : mg ("law" : PySem.Str) = some (.ref fa) := by
      have e : (HandSHeadRun.topDef (OpenLaw.row PySem.Challenge.rw_anymend_k08_whole_ways).prog 69).name = ("law" : PySem.Str) := by kernel_rfl
      rw [← e]
      exact hmg0
    obtain ⟨fd, hb, hF⟩ := Am.en_law (P := (PySem.Challenge.rw_anymend_k08_whole_ways).prog) (w := w) ⟨KX, G, c, e⟩ hmg
    refine ⟨K, fd, Am.spP K Am.R_law, KX, hb, fun H a ns hl _ hS => ?_, fun base _ _ => hF base⟩
    refine ⟨H, [.lstF (Am.iD ns)], .bl true, L2.Same.refl _, .cons (.lstF hS (Am.ints_reps ns)) .nil, ⟨ns, rfl, rfl⟩, fun v G' H' _ r => ?_⟩
    cases r
    rfl
