import PyProof.Rows.All
import Wide.All
import OpenK.AllK
import Wide.FinOn
import HandS.ForMost
import HandS.ForExc
import HandS.EndBits
import HandS.NestedK
import HandS.TupAny
import HandS.TupLen
import HandS.WideBits
import HandS.Wide
import HandS.SortInts
import HandS.SortRule
import HandS.IsInst
import HandS.Zip
import HandS.Codes
import HandS.HeadHook4
import HandS.HeadWalk
import KE.IntBitsLaws
import HandS.SetFor
import HandS.Strs
import PySem.Challenge.RW_rowjudge_k35_whole_one_form
import HandS.Head0
import HandS.Head1
import HandS.Head2
import HandS.HeadEnd
set_option Elab.async false
set_option linter.all false
set_option maxRecDepth 100000
set_option maxHeartbeats 0
/-! ## PuCell -/
/-! a function's captured cells: known and fixed while another def's code runs, given back to its own body -/
namespace Pu
open PySem PySem.Spec PyProof.Rows L2 LamX NdefX
def InCl (cl : List (Str × Addr)) (b : Addr) : Prop := ∃ y, cl.lookup y = some b
open Classical in
noncomputable def strip (cl : List (Str × Addr)) (H : Hp) : Hp := fun b => if InCl cl b then none else H b
open Classical in
noncomputable def lockH (h : Heap) (cl : List (Str × Addr)) (H : Hp) : Hp := fun b => if InCl cl b then (h.get? b).map (fun o => HO.frz o (.own b)) else H b
open Classical in
noncomputable def over (cl : List (Str × Addr)) (G H : Hp) : Hp := fun b => if InCl cl b then G b else H b
section
variable {cl : List (Str × Addr)} {G H H' : Hp} {b : Addr} {h h' : Heap} {P : Program} {w : World}
theorem strip_in (q : InCl cl b) : strip cl H b = none := by unfold strip; rw [if_pos q]
theorem strip_out (q : ¬ InCl cl b) : strip cl H b = H b := by unfold strip; rw [if_neg q]
theorem lock_in (q : InCl cl b) : lockH h cl H b = (h.get? b).map (fun o => HO.frz o (.own b)) := by unfold lockH; rw [if_pos q]
theorem lock_out (q : ¬ InCl cl b) : lockH h cl H b = H b := by unfold lockH; rw [if_neg q]
theorem over_in (q : InCl cl b) : over cl G H b = G b := by unfold over; rw [if_pos q]
theorem over_out (q : ¬ InCl cl b) : over cl G H b = H b := by unfold over; rw [if_neg q]
/-- the cells are known in H -/
def Lkd (cl : List (Str × Addr)) (H : Hp) : Prop := ∀ b, InCl cl b → ∃ o, H b = some (.frz o (.own b))
theorem Lkd.ne {o : HO} (L : Lkd cl H) (e : H b = some o) (n : ∀ o', o ≠ .frz o' (.own b)) : ¬ InCl cl b := fun q => by
  obtain ⟨o', z⟩ := L b q
  rw [e] at z
  exact n o' (Option.some.inj z)
theorem hok_strip (x : HOk P w H h) (L : Lkd cl H) : HOk P w (strip cl H) h := fun a o e => by
  by_cases q : InCl cl a
  · rw [strip_in q] at e
    cases e
  · rw [strip_out q] at e
    refine (x a o e).stay (fun _ _ _ z => z) (fun c z => ?_) fun c xs z => ?_
    · rw [strip_out (L.ne z fun o' k => by cases k)]; exact z
    · rw [strip_out (L.ne z fun o' k => by cases k)]; exact z
theorem hok_lock (x : HOk P w H h) (n : ∀ b, InCl cl b → H b = none) : HOk P w (lockH h cl H) h := fun a o e => by
  by_cases q : InCl cl a
  · rw [lock_in q] at e
    cases z : h.get? a with
    | none =>
      rw [z] at e
      cases e
    | some u =>
      rw [z] at e
      cases e
      exact ⟨z, u, z⟩
  · rw [lock_out q] at e
    have out : ∀ {c : Addr} {o : HO}, H c = some o → ¬ InCl cl c := fun {c o} z k => by rw [n c k] at z; cases z
    refine (x a o e).stay (fun _ _ _ z => z) (fun c z => ?_) fun c xs z => ?_
    · rw [lock_out (out z)]; exact z
    · rw [lock_out (out z)]; exact z
theorem lkd_lock (t : ∀ b, InCl cl b → ∃ o, h.get? b = some o) : Lkd cl (lockH h cl H) := fun b q => by
  obtain ⟨o, e⟩ := t b q
  exact ⟨o, by rw [lock_in q, e]; rfl⟩
theorem un_lkd {fs : List Addr} (u : Un fs [] H H' h h') (L : Lkd cl H) : Lkd cl H' := fun b q => by
  obtain ⟨o, e⟩ := L b q
  exact ⟨o, u.frzs b o _ e⟩
/-- behind a run with locked cells: they are let go -/
theorem un_unlock {fs : List Addr} (u : Un fs [] (lockH h cl H) H' h h') (x : HOk P w H' h') (n : ∀ b, InCl cl b → H b = none) (t : ∀ b, InCl cl b → ∃ o, h.get? b = some o) : Un fs [] H (strip cl H') h h' := by
  have L0 : Lkd cl (lockH h cl H) := lkd_lock t
  have L := un_lkd u L0
  have kc : ∀ b, InCl cl b → ∀ o, h.get? b = some o → h'.get? b = some o := fun b q o e => by
    have z : lockH h cl H b = some (.frz o (.own b)) := by rw [lock_in q, e]; rfl
    exact (x b _ (u.frzs b o _ z)).1
  have out : ∀ {c : Addr} {o : HO}, H c = some o → ¬ InCl cl c := fun {c o} z k => by rw [n c k] at z; cases z
  refine ⟨fun b o e z hb hx => ?_, fun b o e z hb hx => ?_, fun b o e z hx => ?_, u.there, fun b xs e => ?_, fun b o v e => ?_, fun b ps e => ?_⟩
  · by_cases q : InCl cl b
    · exact kc b q o e
    · exact u.keep b o e (by rw [lock_out q]; exact z) hb hx
  · by_cases q : InCl cl b
    · exact ⟨o.slots, kc b q o e⟩
    · exact u.slot b o e (by rw [lock_out q]; exact z) hb hx
  · by_cases q : InCl cl b
    · exact strip_in q
    · rw [strip_out q]
      exact u.free b o e (by rw [lock_out q]; exact z) hx
  · have q := out e
    rw [strip_out q]
    exact u.tups b xs (by rw [lock_out q]; exact e)
  · have q := out e
    rw [strip_out q]
    exact u.frzs b o v (by rw [lock_out q]; exact e)
  · have q := out e
    obtain ⟨m, z⟩ := u.tbls b ps (by rw [lock_out q]; exact e)
    exact ⟨m, by rw [strip_out q]; exact z⟩
/-- behind a run to which the cells were given back: they are known again -/
theorem un_relock {fs : List Addr} (u : Un fs [] (strip cl H) H' h h') (L : Lkd cl H) (x0 : HOk P w H h) (nf : ∀ b ∈ fs, H b = none) : Un fs [] H (over cl H H') h h' := by
  have nofs : ∀ b, InCl cl b → b ∉ fs := fun b q hb => by
    obtain ⟨o, z⟩ := L b q
    rw [nf b hb] at z
    cases z
  refine ⟨fun b o e z hb hx => ?_, fun b o e z hb hx => ?_, fun b o e z hx => ?_, u.there, fun b xs e => ?_, fun b o v e => ?_, fun b ps e => ?_⟩
  · by_cases q : InCl cl b
    · exact u.keep b o e (strip_in q) hb hx
    · exact u.keep b o e (by rw [strip_out q]; exact z) hb hx
  · by_cases q : InCl cl b
    · exact u.slot b o e (strip_in q) hb hx
    · exact u.slot b o e (by rw [strip_out q]; exact z) hb hx
  · by_cases q : InCl cl b
    · rw [over_in q]; exact z
    · rw [over_out q]
      exact u.free b o e (by rw [strip_out q]; exact z) hx
  · have q := L.ne e fun o' k => by cases k
    rw [over_out q]
    exact u.tups b xs (by rw [strip_out q]; exact e)
  · by_cases q : InCl cl b
    · rw [over_in q]; exact e
    · rw [over_out q]
      exact u.frzs b o v (by rw [strip_out q]; exact e)
  · have q := L.ne e fun o' k => by cases k
    obtain ⟨m, z⟩ := u.tbls b ps (by rw [strip_out q]; exact e)
    exact ⟨m, by rw [over_out q]; exact z⟩
theorem hok_relock {fs : List Addr} (u : Un fs [] (strip cl H) H' h h') (x : HOk P w H' h') (L : Lkd cl H) (x0 : HOk P w H h) (nf : ∀ b ∈ fs, H b = none) : HOk P w (over cl H H') h' := fun a o e => by
  have none' : ∀ b, InCl cl b → H' b = none := fun b q => by
    obtain ⟨o, z⟩ := L b q
    obtain ⟨z1, _⟩ := x0 b _ z
    exact u.free b o z1 (strip_in q) (by simp)
  by_cases q : InCl cl a
  · rw [over_in q] at e
    obtain ⟨o', z⟩ := L a q
    rw [z] at e
    cases e
    obtain ⟨z1, _⟩ := x0 a _ z
    have nf' : a ∉ fs := fun hb => by rw [nf a hb] at z; cases z
    have k := u.keep a o' z1 (strip_in q) nf' (by simp)
    exact ⟨k, o', k⟩
  · rw [over_out q] at e
    have out : ∀ {c : Addr} {o : HO}, H' c = some o → ¬ InCl cl c := fun {c o} z k => by rw [none' c k] at z; cases z
    refine (x a o e).stay (fun _ _ _ z => z) (fun c z => ?_) fun c xs z => ?_
    · rw [over_out (out z)]; exact z
    · rw [over_out (out z)]; exact z
end
section
variable {P : Program} {w : World} {K : PySem.W.Frag} {mg : Str → Option Value} {base : Heap} {A : Around} {outer : List Env} {s s' : Shared} {H : Hp} {cl : List (Str × Addr)} {u : Value} {Q : VK}
theorem env0_lock (e : Env0 P w K mg base A outer s H) (n : ∀ b, InCl cl b → H b = none) (nb : ∀ b o, base.get? b = some o → ¬ InCl cl b) (nf : ∀ b ∈ frs outer, ¬ InCl cl b) : Env0 P w K mg base A outer s (lockH s.heap cl H) :=
  ⟨e.frames, e.mod, fun b o z => ⟨(e.bs b o z).1, by rw [lock_out (nb b o z)]; exact (e.bs b o z).2⟩, e.bsz, e.funs, fun b hb => by rw [lock_out (nf b hb)]; exact e.frf b hb, hok_lock e.hok n, e.bare⟩
theorem env0_strip (e : Env0 P w K mg base A outer s H) (L : Lkd cl H) : Env0 P w K mg base A outer s (strip cl H) := by
  have st : ∀ b, H b = none → strip cl H b = none := fun b z => by
    by_cases q : InCl cl b
    · exact strip_in q
    · rw [strip_out q]; exact z
  exact ⟨e.frames, e.mod, fun b o z => ⟨(e.bs b o z).1, st b (e.bs b o z).2⟩, e.bsz, e.funs, fun b hb => st b (e.frf b hb), hok_strip e.hok L, e.bare⟩
theorem ce_unlock (h : CE outer P w (lockH s.heap cl H) s (fun v H' => Q v (strip cl H')) u s') (n : ∀ b, InCl cl b → H b = none) (t : ∀ b, InCl cl b → ∃ o, s.heap.get? b = some o) : CE outer P w H s Q u s' := by
  obtain ⟨v, H', os, bare, un, hok, r, q⟩ := h
  exact ⟨v, strip cl H', os, bare, un_unlock un hok n t, hok_strip hok (un_lkd un (lkd_lock t)), r, q⟩
theorem ce_relock (e : Env0 P w K mg base A outer s H) (L : Lkd cl H) (h : CE outer P w (strip cl H) s (fun v H' => Q v (over cl H H')) u s') : CE outer P w H s Q u s' := by
  obtain ⟨v, H', os, bare, un, hok, r, q⟩ := h
  exact ⟨v, over cl H H', os, bare, un_relock un L e.hok e.frf, hok_relock un hok L e.hok e.frf, r, q⟩
end
end Pu
/-! ## PuBase -/
/-! Pu: values without addresses over the hand layer. A def's promise is a plain function of plain data; what a def makes for itself is its own until it is handed on. -/
namespace Pu
open PySem PySem.Spec PyProof.Rows L2 LamX NdefX

/-- a def within a def: its statement, its name, its qualified name, its parameters, the names that it captures -/
structure CloD where
  st : Stmt
  name : Str
  qual : Str
  ps : List Str
  fr : List Str
/-- the captured cells, known in F, and what they hold -/
def CellsF (F : Hp) (cl : List (Str × Addr)) (fr : List Str) (vs : List V) : Prop :=
  vs.length = fr.length ∧ (∀ y c, cl.lookup y = some c → ∃ o u, F c = some (.frz o (.own c)) ∧ o.data = .cell u) ∧ (∀ x y c, cl.lookup x = some c → cl.lookup y = some c → x = y) ∧
  ∀ (i : Nat) y v, fr[i]? = some y → vs[i]? = some v → ∃ c o u, cl.lookup y = some c ∧ F c = some (.frz o (.own c)) ∧ o.data = .cell (some u) ∧ RelV v u
/-- plain data; raw: any other value, by itself -/
inductive D where
  | non
  | bl (b : Bool)
  | int (i : Int)
  | str (x : Str)
  | tup (xs : List D)
  | lst (xs : List D)
  | scr (ns : List Int)
  | dic (ks : List (List Key)) (xs : List D)
  | obj (c : Str) (ns : List Str) (xs : List D)
  | raw (v : V)
  /-- a function made in the running frame, its captured cells; one made elsewhere, what its cells hold -/
  | fnv (z : CloD) (cl : List (Str × Addr))
  | clo (z : CloD) (ws : List D)

/-- functions among ws that capture the same cells as cl does -/
def Sib (cl : List (Str × Addr)) (ws : List D) : Prop := ∀ z1 cl1, D.fnv z1 cl1 ∈ ws → (∀ y ∈ z1.fr, cl1.lookup y = cl.lookup y) ∧ ∀ y c, cl1.lookup y = some c → cl.lookup y = some c
/-- what a piece of the program comes to: a value, an exception of a class, or nothing is told -/
inductive Res (α : Type) where
  | ok (a : α)
  | exc (c : Str)
  | bad
def Res.bind {α β : Type} (x : Res α) (f : α → Res β) : Res β := match x with
  | .ok a => f a
  | .exc c => .exc c
  | .bad => .bad
def ofOpt {α : Type} : Option α → Res α
  | some a => .ok a
  | none => .bad

section
variable (K : PySem.W.Frag) (mg : Str → Option Value)
mutual
/-- v stands for d in F -/
def Rep (F : Hp) : D → V → Prop
  | .non, v => v = .non
  | .bl b, v => v = .bl b
  | .int i, v => v = .int i
  | .str x, v => v = .str x
  | .tup ds, v => ∃ a vs, v = .ref a ∧ SqT K F a vs ∧ Reps F ds vs
  | .lst ds, v => ∃ a vs, v = .ref a ∧ F a = some (.lst vs) ∧ Reps F ds vs
  | .scr ns, v => ∃ a, v = .ref a ∧ SqL K F a (ns.map V.int)
  | .dic ks ds, v => ∃ a kvs, v = .ref a ∧ F a = some (.dT kvs) ∧ kvs.map (·.1) = ks ∧ Reps F ds (kvs.map (·.2))
  | .obj c ns ds, v => ∃ a C dx fs, v = .ref a ∧ mg c = some (.ref C) ∧ F a = some (.ins C dx fs) ∧ fs.map (·.1) = ns ∧ Reps F ds (fs.map (·.2))
  | .raw u, v => v = u
  | .fnv z cl, v => ∃ f c, v = .ref f ∧ F f = some (FnO f (NF.of z.st z.name z.qual cl c)) ∧ F c = some (CodeO c z.qual)
  | .clo z ws, v => ∃ f c cl vs, v = .ref f ∧ F f = some (FnO f (NF.of z.st z.name z.qual cl c)) ∧ F c = some (CodeO c z.qual) ∧ CellsF F cl z.fr vs ∧ Sib cl ws ∧ Reps F ws vs
def Reps (F : Hp) : List D → List V → Prop
  | [], vs => vs = []
  | d :: ds, vs => ∃ v r, vs = v :: r ∧ Rep F d v ∧ Reps F ds r
end
end

section
variable {K : PySem.W.Frag} {mg : Str → Option Value}
theorem rd_monoN {F F' : Hp} {a : Addr} {o : HO} (n : ∀ ps, o ≠ .tbl ps) (e : ExtN F F') (h : Rd F a o) : Rd F' a o := by
  rcases h with h | ⟨u, h⟩
  · exact .inl (e _ _ h n)
  · exact .inr ⟨u, e _ _ h (fun ps z => nomatch z)⟩
theorem sqL_monoN {F F' : Hp} {a : Addr} {xs : List V} (e : ExtN F F') (h : SqL K F a xs) : SqL K F' a xs := by
  rcases h with h | h
  · exact .inl (rd_monoN (fun ps z => nomatch z) e h)
  · exact .inr h
theorem sqT_monoN {F F' : Hp} {a : Addr} {xs : List V} (e : ExtN F F') (h : SqT K F a xs) : SqT K F' a xs := by
  rcases h with h | h
  · exact .inl (rd_monoN (fun ps z => nomatch z) e h)
  · exact .inr h
theorem sqL_mono {F F' : Hp} {a : Addr} {xs : List V} (e : Same F F') (h : SqL K F a xs) : SqL K F' a xs := sqL_monoN (ExtN.of e) h
theorem sqT_mono {F F' : Hp} {a : Addr} {xs : List V} (e : Same F F') (h : SqT K F a xs) : SqT K F' a xs := sqT_monoN (ExtN.of e) h
theorem CellsF.monoN {F F' : Hp} {cl : List (Str × Addr)} {fr : List Str} {vs : List V} (e : ExtN F F') (h : CellsF F cl fr vs) : CellsF F' cl fr vs := by
  obtain ⟨h1, h2, h3, h4⟩ := h
  refine ⟨h1, fun y c q => ?_, h3, fun i y v q1 q2 => ?_⟩
  · obtain ⟨o, u, z1, z2⟩ := h2 y c q
    exact ⟨o, u, e _ _ z1 (fun ps z => nomatch z), z2⟩
  · obtain ⟨c, o, u, z1, z2, z3⟩ := h4 i y v q1 q2
    exact ⟨c, o, u, z1, e _ _ z2 (fun ps z => nomatch z), z3⟩
mutual
theorem Rep.monoN {F F' : Hp} (e : ExtN F F') : ∀ {d : D} {v : V}, Rep K mg F d v → Rep K mg F' d v
  | .non, _, h => by simp only [Rep] at h ⊢; exact h
  | .bl _, _, h => by simp only [Rep] at h ⊢; exact h
  | .int _, _, h => by simp only [Rep] at h ⊢; exact h
  | .str _, _, h => by simp only [Rep] at h ⊢; exact h
  | .tup ds, _, h => by
    simp only [Rep] at h ⊢
    obtain ⟨a, vs, h1, h2, h3⟩ := h
    exact ⟨a, vs, h1, sqT_monoN e h2, Reps.monoN e h3⟩
  | .lst ds, _, h => by
    simp only [Rep] at h ⊢
    obtain ⟨a, vs, h1, h2, h3⟩ := h
    exact ⟨a, vs, h1, e _ _ h2 (fun ps z => nomatch z), Reps.monoN e h3⟩
  | .scr ns, _, h => by
    simp only [Rep] at h ⊢
    obtain ⟨a, h1, h2⟩ := h
    exact ⟨a, h1, sqL_monoN e h2⟩
  | .dic ks ds, _, h => by
    simp only [Rep] at h ⊢
    obtain ⟨a, kvs, h1, h2, h3, h4⟩ := h
    exact ⟨a, kvs, h1, e _ _ h2 (fun ps z => nomatch z), h3, Reps.monoN e h4⟩
  | .obj c ns ds, _, h => by
    simp only [Rep] at h ⊢
    obtain ⟨a, C, dx, fs, h1, h2, h3, h4, h5⟩ := h
    exact ⟨a, C, dx, fs, h1, h2, e _ _ h3 (fun ps z => nomatch z), h4, Reps.monoN e h5⟩
  | .raw _, _, h => by simp only [Rep] at h ⊢; exact h
  | .fnv _ _, _, h => by
    simp only [Rep] at h ⊢
    obtain ⟨f, c, h1, h2, h3⟩ := h
    exact ⟨f, c, h1, e _ _ h2 fnO_ne, e _ _ h3 codeO_ne⟩
  | .clo _ ws, _, h => by
    simp only [Rep] at h ⊢
    obtain ⟨f, c, cl, vs, h1, h2, h3, h4, hs, h5⟩ := h
    exact ⟨f, c, cl, vs, h1, e _ _ h2 fnO_ne, e _ _ h3 codeO_ne, h4.monoN e, hs, Reps.monoN e h5⟩
theorem Reps.monoN {F F' : Hp} (e : ExtN F F') : ∀ {ds : List D} {vs : List V}, Reps K mg F ds vs → Reps K mg F' ds vs
  | [], _, h => by simp only [Reps] at h ⊢; exact h
  | d :: ds, _, h => by
    simp only [Reps] at h ⊢
    obtain ⟨v, r, h1, h2, h3⟩ := h
    exact ⟨v, r, h1, Rep.monoN e h2, Reps.monoN e h3⟩
end
theorem Rep.mono {F F' : Hp} {d : D} {v : V} (e : Same F F') (h : Rep K mg F d v) : Rep K mg F' d v := Rep.monoN (ExtN.of e) h
theorem Reps.mono {F F' : Hp} {ds : List D} {vs : List V} (e : Same F F') (h : Reps K mg F ds vs) : Reps K mg F' ds vs := Reps.monoN (ExtN.of e) h
section
variable {F : Hp} {v : V} {ds es : List D} {vs ws : List V} {d : D}
theorem rep_non : Rep K mg F .non v ↔ v = .non := by simp only [Rep]
theorem rep_bl {b : Bool} : Rep K mg F (.bl b) v ↔ v = .bl b := by simp only [Rep]
theorem rep_int {i : Int} : Rep K mg F (.int i) v ↔ v = .int i := by simp only [Rep]
theorem rep_str {x : Str} : Rep K mg F (.str x) v ↔ v = .str x := by simp only [Rep]
theorem rep_raw {u : V} : Rep K mg F (.raw u) v ↔ v = u := by simp only [Rep]
theorem rep_tup : Rep K mg F (.tup ds) v ↔ ∃ a vs, v = .ref a ∧ SqT K F a vs ∧ Reps K mg F ds vs := by simp only [Rep]
theorem rep_lst : Rep K mg F (.lst ds) v ↔ ∃ a vs, v = .ref a ∧ F a = some (.lst vs) ∧ Reps K mg F ds vs := by simp only [Rep]
theorem rep_scr {ns : List Int} : Rep K mg F (.scr ns) v ↔ ∃ a, v = .ref a ∧ SqL K F a (ns.map V.int) := by simp only [Rep]
theorem rep_dic {ks : List (List Key)} : Rep K mg F (.dic ks ds) v ↔ ∃ a kvs, v = .ref a ∧ F a = some (.dT kvs) ∧ kvs.map (·.1) = ks ∧ Reps K mg F ds (kvs.map (·.2)) := by simp only [Rep]
theorem rep_obj {c : Str} {ns : List Str} : Rep K mg F (.obj c ns ds) v ↔ ∃ a C dx fs, v = .ref a ∧ mg c = some (.ref C) ∧ F a = some (.ins C dx fs) ∧ fs.map (·.1) = ns ∧ Reps K mg F ds (fs.map (·.2)) := by simp only [Rep]
theorem rep_fnv {z : CloD} {cl : List (Str × Addr)} : Rep K mg F (.fnv z cl) v ↔ ∃ f c, v = .ref f ∧ F f = some (FnO f (NF.of z.st z.name z.qual cl c)) ∧ F c = some (CodeO c z.qual) := by simp only [Rep]
theorem rep_clo {z : CloD} : Rep K mg F (.clo z ds) v ↔ ∃ f c cl vs, v = .ref f ∧ F f = some (FnO f (NF.of z.st z.name z.qual cl c)) ∧ F c = some (CodeO c z.qual) ∧ CellsF F cl z.fr vs ∧ Sib cl ds ∧ Reps K mg F ds vs := by simp only [Rep]
theorem reps_nil : Reps K mg F [] vs ↔ vs = [] := by simp only [Reps]
theorem reps_cons : Reps K mg F (d :: ds) vs ↔ ∃ v r, vs = v :: r ∧ Rep K mg F d v ∧ Reps K mg F ds r := by simp only [Reps]
theorem reps_one (h : Rep K mg F d v) : Reps K mg F [d] [v] := reps_cons.mpr ⟨v, [], rfl, h, reps_nil.mpr rfl⟩
theorem Reps.length : ∀ {ds : List D} {vs : List V}, Reps K mg F ds vs → ds.length = vs.length
  | [], _, h => by
    rw [reps_nil.mp h]
    rfl
  | d :: ds, _, h => by
    obtain ⟨v, r, rfl, _, h3⟩ := reps_cons.mp h
    rw [List.length_cons, List.length_cons, Reps.length h3]
theorem Reps.append : ∀ {ds : List D} {vs : List V}, Reps K mg F ds vs → Reps K mg F es ws → Reps K mg F (ds ++ es) (vs ++ ws)
  | [], _, h, q => by
    rw [reps_nil.mp h]
    exact q
  | d :: ds, _, h, q => by
    obtain ⟨v, r, rfl, h2, h3⟩ := reps_cons.mp h
    exact reps_cons.mpr ⟨v, r ++ ws, rfl, h2, Reps.append h3 q⟩
theorem Reps.get : ∀ {ds : List D} {vs : List V} {i : Nat} {d : D}, Reps K mg F ds vs → ds[i]? = some d → ∃ v, vs[i]? = some v ∧ Rep K mg F d v
  | [], _, _, _, _, q => by simp at q
  | d :: ds, _, 0, _, h, q => by
    obtain ⟨v, r, rfl, h2, h3⟩ := reps_cons.mp h
    simp at q
    subst q
    exact ⟨v, rfl, h2⟩
  | d :: ds, _, i + 1, _, h, q => by
    obtain ⟨v, r, rfl, h2, h3⟩ := reps_cons.mp h
    obtain ⟨u, e1, e2⟩ := Reps.get (i := i) h3 (by simpa using q)
    exact ⟨u, by simpa using e1, e2⟩
theorem Reps.get' : ∀ {ds : List D} {vs : List V} {i : Nat} {v : V}, Reps K mg F ds vs → vs[i]? = some v → ∃ d, ds[i]? = some d ∧ Rep K mg F d v
  | [], _, _, _, h, q => by
    rw [reps_nil.mp h] at q
    simp at q
  | d :: ds, _, 0, _, h, q => by
    obtain ⟨v, r, rfl, h2, h3⟩ := reps_cons.mp h
    simp at q
    subst q
    exact ⟨d, rfl, h2⟩
  | d :: ds, _, i + 1, _, h, q => by
    obtain ⟨v, r, rfl, h2, h3⟩ := reps_cons.mp h
    obtain ⟨u, e1, e2⟩ := Reps.get' (i := i) h3 (by simpa using q)
    exact ⟨u, by simpa using e1, e2⟩
theorem Reps.take : ∀ {ds : List D} {vs : List V} (n : Nat), Reps K mg F ds vs → Reps K mg F (ds.take n) (vs.take n)
  | [], _, n, h => by
    rw [reps_nil.mp h, List.take_nil, List.take_nil]
    exact reps_nil.mpr rfl
  | d :: ds, _, 0, h => reps_nil.mpr rfl
  | d :: ds, _, n + 1, h => by
    obtain ⟨v, r, rfl, h2, h3⟩ := reps_cons.mp h
    exact reps_cons.mpr ⟨v, r.take n, rfl, h2, Reps.take n h3⟩
theorem Reps.drop : ∀ {ds : List D} {vs : List V} (n : Nat), Reps K mg F ds vs → Reps K mg F (ds.drop n) (vs.drop n)
  | [], _, n, h => by
    rw [reps_nil.mp h, List.drop_nil, List.drop_nil]
    exact reps_nil.mpr rfl
  | d :: ds, _, 0, h => h
  | d :: ds, _, n + 1, h => by
    obtain ⟨v, r, rfl, h2, h3⟩ := reps_cons.mp h
    exact Reps.drop n h3
theorem Reps.set : ∀ {ds : List D} {vs : List V} (n : Nat), Rep K mg F d v → Reps K mg F ds vs → Reps K mg F (ds.set n d) (vs.set n v)
  | [], _, n, q, h => by
    rw [reps_nil.mp h]
    exact reps_nil.mpr rfl
  | e :: ds, _, 0, q, h => by
    obtain ⟨u, r, rfl, h2, h3⟩ := reps_cons.mp h
    exact reps_cons.mpr ⟨v, r, rfl, q, h3⟩
  | e :: ds, _, n + 1, q, h => by
    obtain ⟨u, r, rfl, h2, h3⟩ := reps_cons.mp h
    exact reps_cons.mpr ⟨u, r.set n v, rfl, h2, Reps.set n q h3⟩
theorem Reps.dropLast (h : Reps K mg F ds vs) : Reps K mg F ds.dropLast vs.dropLast := by
  rw [List.dropLast_eq_take, List.dropLast_eq_take, h.length]
  exact h.take _
theorem Reps.reverse : ∀ {ds : List D} {vs : List V}, Reps K mg F ds vs → Reps K mg F ds.reverse vs.reverse
  | [], _, h => by
    rw [reps_nil.mp h]
    exact reps_nil.mpr rfl
  | d :: ds, _, h => by
    obtain ⟨v, r, rfl, h2, h3⟩ := reps_cons.mp h
    rw [List.reverse_cons, List.reverse_cons]
    exact (Reps.reverse h3).append (reps_one h2)
end

/-! ### the world grows: F what is settled, H all that is tracked -/
structure Wd (F H F' H' : Hp) : Prop where
  ff : Same F F'
  hh : Same H H'
  new : ∀ a o, F' a = some o → F a = none → H a = none
  sub : Same F' H'
theorem Wd.refl {F H : Hp} (s : Same F H) : Wd F H F H := ⟨Same.refl F, Same.refl H, fun a o h n => (by rw [n] at h; cases h), s⟩
theorem Wd.trans {F H F1 H1 F2 H2 : Hp} (a : Wd F H F1 H1) (b : Wd F1 H1 F2 H2) : Wd F H F2 H2 := by
  refine ⟨a.ff.trans b.ff, a.hh.trans b.hh, fun x o h n => ?_, b.sub⟩
  cases e : F1 x with
  | some u => exact a.new x u e n
  | none => exact a.hh.free (b.new x o h e)
theorem same_new {H : Hp} {p : Addr} {o : HO} (n : H p = none) : Same H (upd H p o) := fun b u e => by
  rw [upd_ne (ne_of_none e n)]
  exact e
theorem noneOf {F H : Hp} (s : Same F H) {p : Addr} (n : H p = none) : F p = none := Same.free s n
/-- a new object is laid and settled -/
theorem Wd.lay {F H : Hp} (s : Same F H) {p : Addr} {o : HO} (n : H p = Option.none) : Wd F H (upd F p o) (upd H p o) := by
  refine ⟨same_new (noneOf s n), same_new n, fun a u h na => ?_, fun a u h => ?_⟩
  · by_cases e : a = p
    · rw [e]; exact n
    · rw [upd_ne e, na] at h; cases h
  · by_cases e : a = p
    · subst e; rw [upd_same] at h ⊢; exact h
    · rw [upd_ne e] at h ⊢; exact s a u h
/-- .. laid, not settled -/
theorem Wd.lay' {F H : Hp} (s : Same F H) {p : Addr} {o : HO} (n : H p = Option.none) : Wd F H F (upd H p o) :=
  ⟨Same.refl F, same_new n, fun a u h na => by (rw [na] at h; cases h), s.trans (same_new n)⟩

/-! ### names -/
/-- a name's state: unknown, a settled value, a list of one's own -/
inductive S where
  | emp
  | val (d : D)
  | own (ds : List D)
abbrev En := List S
abbrev Sg := L2.St
def SlotR (K : PySem.W.Frag) (mg : Str → Option Value) (F H : Hp) (σ : Sg) (i : Nat) : S → Prop
  | .emp => True
  | .val d => ∃ v, σ[i]? = some (some v) ∧ Rep K mg F d v
  | .own ds => ∃ o vs, σ[i]? = some (some (.ref o)) ∧ F o = none ∧ H o = some (.lst vs) ∧ Reps K mg F ds vs
structure Rl (K : PySem.W.Frag) (mg : Str → Option Value) (F : Hp) (σ : Sg) (H : Hp) (ρ : En) : Prop where
  sub : Same F H
  len : ρ.length = σ.length
  slot : ∀ (i : Nat) (s : S), ρ[i]? = some s → SlotR K mg F H σ i s
  uniq : ∀ (i j : Nat) (ds es : List D) (o : Addr), ρ[i]? = some (.own ds) → ρ[j]? = some (.own es) → σ[i]? = some (some (.ref o)) → σ[j]? = some (some (.ref o)) → i = j
theorem SlotR.mono {F H F' H' : Hp} {σ : Sg} {i : Nat} {s : S} (w : Wd F H F' H') (h : SlotR K mg F H σ i s) : SlotR K mg F' H' σ i s := by
  cases s with
  | emp => exact trivial
  | val d =>
    obtain ⟨v, h1, h2⟩ := h
    exact ⟨v, h1, h2.mono w.ff⟩
  | own ds =>
    obtain ⟨o, vs, h1, h2, h3, h4⟩ := h
    refine ⟨o, vs, h1, ?_, w.hh _ _ h3, h4.mono w.ff⟩
    cases e : F' o with
    | none => rfl
    | some u =>
      have z := w.new o u e h2
      rw [h3] at z
      cases z
theorem Rl.mono {F H F' H' : Hp} {σ : Sg} {ρ : En} (r : Rl K mg F σ H ρ) (w : Wd F H F' H') : Rl K mg F' σ H' ρ :=
  ⟨w.sub, r.len, fun i s e => (r.slot i s e).mono w, r.uniq⟩
theorem Rl.val {F H : Hp} {σ : Sg} {ρ : En} {i : Nat} {d : D} (r : Rl K mg F σ H ρ) (h : ρ[i]? = some (.val d)) : ∃ v, σ[i]? = some (some v) ∧ Rep K mg F d v := r.slot i _ h
theorem Rl.own {F H : Hp} {σ : Sg} {ρ : En} {i : Nat} {ds : List D} (r : Rl K mg F σ H ρ) (h : ρ[i]? = some (.own ds)) :
    ∃ o vs, σ[i]? = some (some (.ref o)) ∧ F o = none ∧ H o = some (.lst vs) ∧ Reps K mg F ds vs := r.slot i _ h
theorem get_set_self {α : Type} {l : List α} {i : Nat} {x y : α} (h : l[i]? = some y) : (l.set i x)[i]? = some x := by
  obtain ⟨hi, _⟩ := List.getElem?_eq_some_iff.mp h
  exact List.getElem?_set_self hi
/-- a name is set to a settled value -/
theorem Rl.set {F H : Hp} {σ : Sg} {ρ : En} {i : Nat} {d : D} {v : V} (r : Rl K mg F σ H ρ) (h : Rep K mg F d v) : Rl K mg F (σ.set i (some v)) H (ρ.set i (.val d)) := by
  refine ⟨r.sub, by rw [List.length_set, List.length_set, r.len], fun j s e => ?_, fun j k ds es o e1 e2 e3 e4 => ?_⟩
  · by_cases hj : i = j
    · subst hj
      by_cases hl : i < ρ.length
      · rw [List.getElem?_set_self hl] at e
        cases e
        exact ⟨v, by rw [List.getElem?_set_self (by rw [← r.len]; exact hl)], h⟩
      · rw [List.getElem?_eq_none (by rw [List.length_set]; omega)] at e
        cases e
    · rw [List.getElem?_set_ne hj] at e
      have q := r.slot j s e
      cases s with
      | emp => exact trivial
      | val d' =>
        obtain ⟨u, h1, h2⟩ := q
        exact ⟨u, by rw [List.getElem?_set_ne hj]; exact h1, h2⟩
      | own ds =>
        obtain ⟨o, vs, h1, h2⟩ := q
        exact ⟨o, vs, by rw [List.getElem?_set_ne hj]; exact h1, h2⟩
  · have ne : ∀ {k : Nat} {ds : List D}, (ρ.set i (.val d))[k]? = some (.own ds) → i ≠ k ∧ ρ[k]? = some (.own ds) := fun {k ds} e => by
      by_cases hk : i = k
      · subst hk
        by_cases hl : i < ρ.length
        · rw [List.getElem?_set_self hl] at e
          cases e
        · rw [List.getElem?_eq_none (by rw [List.length_set]; omega)] at e
          cases e
      · rw [List.getElem?_set_ne hk] at e
        exact ⟨hk, e⟩
    obtain ⟨n1, f1⟩ := ne e1
    obtain ⟨n2, f2⟩ := ne e2
    rw [List.getElem?_set_ne n1] at e3
    rw [List.getElem?_set_ne n2] at e4
    exact r.uniq j k ds es o f1 f2 e3 e4
/-- a name is set to a list of one's own, new -/
theorem Rl.setOwn {F H : Hp} {σ : Sg} {ρ : En} {i : Nat} {ds : List D} {p : Addr} {vs : List V} (r : Rl K mg F σ H ρ) (n : H p = Option.none) (h : Reps K mg F ds vs) :
    Rl K mg F (σ.set i (some (.ref p))) (upd H p (.lst vs)) (ρ.set i (.own ds)) := by
  have w := Wd.lay' (o := .lst vs) r.sub n
  have r' := r.mono w
  have notp : ∀ {k : Nat} {es : List D}, ρ[k]? = some (.own es) → σ[k]? ≠ some (some (.ref p)) := fun {k es} e q => by
    obtain ⟨o, vs', h1, _, h3, _⟩ := r.own e
    rw [q] at h1
    cases h1
    rw [n] at h3
    cases h3
  refine ⟨w.sub, by rw [List.length_set, List.length_set, r.len], fun j s e => ?_, fun j k ds' es o e1 e2 e3 e4 => ?_⟩
  · by_cases hj : i = j
    · subst hj
      by_cases hl : i < ρ.length
      · rw [List.getElem?_set_self hl] at e
        cases e
        exact ⟨p, vs, by rw [List.getElem?_set_self (by rw [← r.len]; exact hl)], noneOf r.sub n, upd_same, h⟩
      · rw [List.getElem?_eq_none (by rw [List.length_set]; omega)] at e
        cases e
    · rw [List.getElem?_set_ne hj] at e
      have q := r'.slot j s e
      cases s with
      | emp => exact trivial
      | val d' =>
        obtain ⟨u, h1, h2⟩ := q
        exact ⟨u, by rw [List.getElem?_set_ne hj]; exact h1, h2⟩
      | own ds =>
        obtain ⟨o, vs, h1, h2⟩ := q
        exact ⟨o, vs, by rw [List.getElem?_set_ne hj]; exact h1, h2⟩
  · have hl : ∀ {k : Nat} {s : S}, (ρ.set i (.own ds))[k]? = some s → k < ρ.length := fun {k s} e => by
      have := (List.getElem?_eq_some_iff.mp e).1
      rwa [List.length_set] at this
    by_cases h1 : i = j
    · by_cases h2 : i = k
      · rw [← h1, ← h2]
      · rw [List.getElem?_set_ne h2] at e2 e4
        rw [h1, List.getElem?_set_self (by rw [← r.len]; exact hl e1)] at e3
        cases e3
        exact absurd e4 (notp e2)
    · rw [List.getElem?_set_ne h1] at e1 e3
      by_cases h2 : i = k
      · rw [h2, List.getElem?_set_self (by rw [← r.len]; exact hl e2)] at e4
        cases e4
        exact absurd e3 (notp e1)
      · rw [List.getElem?_set_ne h2] at e2 e4
        exact r.uniq j k ds' es o e1 e2 e3 e4
/-- a list of one's own is changed -/
theorem Rl.write {F H : Hp} {σ : Sg} {ρ : En} {i : Nat} {ds es : List D} {o : Addr} {ws : List V} (r : Rl K mg F σ H ρ) (h : ρ[i]? = some (.own ds)) (hs : σ[i]? = some (some (.ref o))) (q : Reps K mg F es ws) :
    Rl K mg F σ (upd H o (.lst ws)) (ρ.set i (.own es)) := by
  obtain ⟨o', vs, h1, h2, h3, h4⟩ := r.own h
  rw [hs] at h1
  cases h1
  have hi : i < ρ.length := (List.getElem?_eq_some_iff.mp h).1
  refine ⟨fun a u e => ?_, by rw [List.length_set, r.len], fun j s e => ?_, fun j k ds' es' p e1 e2 e3 e4 => ?_⟩
  · have ne : a ≠ o := fun z => by rw [z, h2] at e; cases e
    rw [upd_ne ne]
    exact r.sub a u e
  · by_cases hj : i = j
    · subst hj
      rw [List.getElem?_set_self hi] at e
      cases e
      exact ⟨o, ws, hs, h2, upd_same, q⟩
    · rw [List.getElem?_set_ne hj] at e
      have q := r.slot j s e
      cases s with
      | emp => exact trivial
      | val d' => exact q
      | own ds' =>
        obtain ⟨p, vs', g1, g2, g3, g4⟩ := q
        have ne : p ≠ o := fun z => by
          subst z
          exact hj (r.uniq i j ds ds' p h e hs g1)
        exact ⟨p, vs', g1, g2, by rw [upd_ne ne]; exact g3, g4⟩
  · have back : ∀ {k : Nat} {ds'' : List D}, (ρ.set i (.own es))[k]? = some (.own ds'') → ∃ ds3, ρ[k]? = some (.own ds3) := fun {k ds''} e => by
      by_cases hk : i = k
      · subst hk
        exact ⟨ds, h⟩
      · rw [List.getElem?_set_ne hk] at e
        exact ⟨_, e⟩
    obtain ⟨d1, f1⟩ := back e1
    obtain ⟨d2, f2⟩ := back e2
    exact r.uniq j k d1 d2 p f1 f2 e3 e4
/-- a list of one's own is settled -/
theorem Rl.freeze {F H : Hp} {σ : Sg} {ρ : En} {i : Nat} {ds : List D} (r : Rl K mg F σ H ρ) (h : ρ[i]? = some (.own ds)) :
    ∃ o vs, H o = some (.lst vs) ∧ F o = none ∧ σ[i]? = some (some (.ref o)) ∧ Rep K mg (upd F o (.lst vs)) (.lst ds) (.ref o) ∧ Rl K mg (upd F o (.lst vs)) σ H (ρ.set i (.val (.lst ds))) := by
  obtain ⟨o, vs, h1, h2, h3, h4⟩ := r.own h
  have hi : i < ρ.length := (List.getElem?_eq_some_iff.mp h).1
  have ff : Same F (upd F o (.lst vs)) := same_new h2
  have rp : Rep K mg (upd F o (.lst vs)) (.lst ds) (.ref o) := rep_lst.mpr ⟨o, vs, rfl, upd_same, h4.mono ff⟩
  refine ⟨o, vs, h3, h2, h1, rp, fun a u e => ?_, by rw [List.length_set, r.len], fun j s e => ?_, fun j k ds' es' p e1 e2 e3 e4 => ?_⟩
  · by_cases ha : a = o
    · subst ha
      rw [upd_same] at e
      cases e
      exact h3
    · rw [upd_ne ha] at e
      exact r.sub a u e
  · by_cases hj : i = j
    · subst hj
      rw [List.getElem?_set_self hi] at e
      cases e
      exact ⟨.ref o, h1, rp⟩
    · rw [List.getElem?_set_ne hj] at e
      have q := r.slot j s e
      cases s with
      | emp => exact trivial
      | val d' =>
        obtain ⟨v, g1, g2⟩ := q
        exact ⟨v, g1, g2.mono ff⟩
      | own ds' =>
        obtain ⟨p, vs', g1, g2, g3, g4⟩ := q
        have ne : p ≠ o := fun z => by
          subst z
          exact hj (r.uniq i j ds ds' p h e h1 g1)
        exact ⟨p, vs', g1, by rw [upd_ne ne]; exact g2, g3, g4.mono ff⟩
  · have back : ∀ {k : Nat} {ds'' : List D}, (ρ.set i (.val (.lst ds)))[k]? = some (.own ds'') → ρ[k]? = some (.own ds'') := fun {k ds''} e => by
      by_cases hk : i = k
      · subst hk
        rw [List.getElem?_set_self hi] at e
        cases e
      · rwa [List.getElem?_set_ne hk] at e
    exact r.uniq j k _ _ p (back e1) (back e2) e3 e4
end
end Pu
/-! ## PuJudge -/
namespace Pu
open PySem PySem.Spec PyProof.Rows L2
/-! ### judgements: what a reading comes to, as a plain function of the names' states -/
section
variable (K : PySem.W.Frag) (mg : Str → Option Value)
def Out (W : WX) (F H : Hp) (σ : Sg) (Q : VK) : Res D → Prop
  | .ok d => ∀ v F' H', Wd F H F' H' → Rep K mg F' d v → Q v H'
  | .exc c => ∀ C F' H', mg c = some (.ref C) → Wd F H F' H' → W (.ref C) none σ H'
  | .bad => False
def OutT (W : WX) (F H : Hp) (σ : Sg) (Q : Bool → Hp → Prop) : Res Bool → Prop
  | .ok b => ∀ F' H', Wd F H F' H' → Q b H'
  | .exc c => ∀ C F' H', mg c = some (.ref C) → Wd F H F' H' → W (.ref C) none σ H'
  | .bad => False
def OutA (W : WX) (F H : Hp) (σ : Sg) (Q : List V → Hp → Prop) : Res (List D) → Prop
  | .ok ds => ∀ vs F' H', Wd F H F' H' → Reps K mg F' ds vs → Q vs H'
  | .exc c => ∀ C F' H', mg c = some (.ref C) → Wd F H F' H' → W (.ref C) none σ H'
  | .bad => False
/-- an expression -/
def DE (W : WX) (te : TE) (f : En → Res D) : Prop := ∀ (F : Hp) (σ : Sg) (H : Hp) (ρ : En) (Q : VK), Rl K mg F σ H ρ → Out K mg W F H σ Q (f ρ) → te σ H Q
/-- a test -/
def DT (W : WX) (tt : TT) (f : En → Res Bool) : Prop := ∀ (F : Hp) (σ : Sg) (H : Hp) (ρ : En) (Q : Bool → Hp → Prop), Rl K mg F σ H ρ → OutT mg W F H σ Q (f ρ) → tt σ H Q
/-- an argument list -/
def DA (W : WX) (ta : TA) (f : En → Res (List D)) : Prop := ∀ (F : Hp) (σ : Sg) (H : Hp) (ρ : En) (Q : List V → Hp → Prop), Rl K mg F σ H ρ → OutA K mg W F H σ Q (f ρ) → ta σ H Q
/-- an operation on two values, on one, on a list of arguments, a method's -/
def OD (r : R2) (op : D → D → Option D) : Prop := ∀ (F H : Hp) (x y : V) (a b d : D) (Q : VK), Same F H → Rep K mg F a x → Rep K mg F b y → op a b = some d → (∀ v F' H', Wd F H F' H' → Rep K mg F' d v → Q v H') → r x y H Q
def UD (r : V → Hp → VK → Prop) (op : D → Option D) : Prop := ∀ (F H : Hp) (x : V) (a d : D) (Q : VK), Same F H → Rep K mg F a x → op a = some d → (∀ v F' H', Wd F H F' H' → Rep K mg F' d v → Q v H') → r x H Q
def CD (r : List V → Hp → VK → Prop) (op : List D → Option D) : Prop := ∀ (F H : Hp) (xs : List V) (as : List D) (d : D) (Q : VK), Same F H → Reps K mg F as xs → op as = some d → (∀ v F' H', Wd F H F' H' → Rep K mg F' d v → Q v H') → r xs H Q
def MD (r : V → List V → Hp → VK → Prop) (op : D → List D → Option D) : Prop := ∀ (F H : Hp) (x : V) (xs : List V) (a : D) (as : List D) (d : D) (Q : VK), Same F H → Rep K mg F a x → Reps K mg F as xs → op a as = some d → (∀ v F' H', Wd F H F' H' → Rep K mg F' d v → Q v H') → r x xs H Q
end

section
variable {K : PySem.W.Frag} {mg : Str → Option Value} {W : WX} {F H : Hp} {σ : Sg} {ρ : En}
theorem Out.bindE {W : WX} {F H : Hp} {σ : Sg} {Q : VK} {x : Res D} {g : D → Res D} {P : VK} (o : Out K mg W F H σ Q (x.bind g)) (k : ∀ d v F1 H1, x = .ok d → Wd F H F1 H1 → Rep K mg F1 d v → Out K mg W F1 H1 σ Q (g d) → P v H1) : Out K mg W F H σ P x := by
  cases x with
  | ok d =>
    intro v F1 H1 w r
    refine k d v F1 H1 rfl w r ?_
    have o' : Out K mg W F H σ Q (g d) := o
    cases e : g d with
    | ok d2 =>
      rw [e] at o'
      exact fun v2 F2 H2 w2 r2 => o' v2 F2 H2 (w.trans w2) r2
    | exc c =>
      rw [e] at o'
      exact fun C F2 H2 hc w2 => o' C F2 H2 hc (w.trans w2)
    | bad =>
      rw [e] at o'
      exact o'.elim
  | exc c => exact o
  | bad => exact o.elim
theorem Out.grow {Q : VK} {x : Res D} {F1 H1 : Hp} (o : Out K mg W F H σ Q x) (w : Wd F H F1 H1) : Out K mg W F1 H1 σ Q x := by
  cases x with
  | ok d2 => exact fun v2 F2 H2 w2 r2 => o v2 F2 H2 (w.trans w2) r2
  | exc c => exact fun C F2 H2 hc w2 => o C F2 H2 hc (w.trans w2)
  | bad => exact o.elim
theorem OutT.grow {Q : Bool → Hp → Prop} {x : Res Bool} {F1 H1 : Hp} (o : OutT mg W F H σ Q x) (w : Wd F H F1 H1) : OutT mg W F1 H1 σ Q x := by
  cases x with
  | ok d2 => exact fun F2 H2 w2 => o F2 H2 (w.trans w2)
  | exc c => exact fun C F2 H2 hc w2 => o C F2 H2 hc (w.trans w2)
  | bad => exact o.elim
theorem OutA.grow {Q : List V → Hp → Prop} {x : Res (List D)} {F1 H1 : Hp} (o : OutA K mg W F H σ Q x) (w : Wd F H F1 H1) : OutA K mg W F1 H1 σ Q x := by
  cases x with
  | ok d2 => exact fun v2 F2 H2 w2 r2 => o v2 F2 H2 (w.trans w2) r2
  | exc c => exact fun C F2 H2 hc w2 => o C F2 H2 hc (w.trans w2)
  | bad => exact o.elim
theorem Out.ofOpt {Q : VK} {x : Option D} (o : Out K mg W F H σ Q (ofOpt x)) : ∃ d, x = some d ∧ ∀ v F' H', Wd F H F' H' → Rep K mg F' d v → Q v H' := by
  cases x with
  | some d => exact ⟨d, rfl, o⟩
  | none => exact o.elim
/-- an expression, then what is made of its value -/
theorem DE.then {te : TE} {f : En → Res D} {g : D → Res D} {Q : VK} {P : VK} (h : DE K mg W te f) (R : Rl K mg F σ H ρ) (o : Out K mg W F H σ Q ((f ρ).bind g))
    (k : ∀ d v F1 H1, Wd F H F1 H1 → Rep K mg F1 d v → Out K mg W F1 H1 σ Q (g d) → P v H1) : te σ H P :=
  h F σ H ρ P R (o.bindE fun d v F1 H1 _ w r o' => k d v F1 H1 w r o')
theorem DE.thenT {te : TE} {f : En → Res D} {g : D → Res Bool} {Q : Bool → Hp → Prop} {P : VK} (h : DE K mg W te f) (R : Rl K mg F σ H ρ) (o : OutT mg W F H σ Q ((f ρ).bind g))
    (k : ∀ d v F1 H1, Wd F H F1 H1 → Rep K mg F1 d v → OutT mg W F1 H1 σ Q (g d) → P v H1) : te σ H P := by
  refine h F σ H ρ P R ?_
  cases e : f ρ with
  | ok d =>
    rw [e] at o
    exact fun v F1 H1 w r => k d v F1 H1 w r (OutT.grow o w)
  | exc c =>
    rw [e] at o
    exact o
  | bad =>
    rw [e] at o
    exact o.elim
theorem DE.thenA {te : TE} {f : En → Res D} {g : D → Res (List D)} {Q : List V → Hp → Prop} {P : VK} (h : DE K mg W te f) (R : Rl K mg F σ H ρ) (o : OutA K mg W F H σ Q ((f ρ).bind g))
    (k : ∀ d v F1 H1, Wd F H F1 H1 → Rep K mg F1 d v → OutA K mg W F1 H1 σ Q (g d) → P v H1) : te σ H P := by
  refine h F σ H ρ P R ?_
  cases e : f ρ with
  | ok d =>
    rw [e] at o
    exact fun v F1 H1 w r => k d v F1 H1 w r (OutA.grow o w)
  | exc c =>
    rw [e] at o
    exact o
  | bad =>
    rw [e] at o
    exact o.elim
theorem DT.then {tt : TT} {f : En → Res Bool} {g : Bool → Res D} {Q : VK} {P : Bool → Hp → Prop} (h : DT K mg W tt f) (R : Rl K mg F σ H ρ) (o : Out K mg W F H σ Q ((f ρ).bind g))
    (k : ∀ b F1 H1, Wd F H F1 H1 → Out K mg W F1 H1 σ Q (g b) → P b H1) : tt σ H P := by
  refine h F σ H ρ P R ?_
  cases e : f ρ with
  | ok d =>
    rw [e] at o
    exact fun F1 H1 w => k d F1 H1 w (Out.grow o w)
  | exc c =>
    rw [e] at o
    exact o
  | bad =>
    rw [e] at o
    exact o.elim
theorem DT.thenT {tt : TT} {f : En → Res Bool} {g : Bool → Res Bool} {Q : Bool → Hp → Prop} {P : Bool → Hp → Prop} (h : DT K mg W tt f) (R : Rl K mg F σ H ρ) (o : OutT mg W F H σ Q ((f ρ).bind g))
    (k : ∀ b F1 H1, Wd F H F1 H1 → OutT mg W F1 H1 σ Q (g b) → P b H1) : tt σ H P := by
  refine h F σ H ρ P R ?_
  cases e : f ρ with
  | ok d =>
    rw [e] at o
    exact fun F1 H1 w => k d F1 H1 w (OutT.grow o w)
  | exc c =>
    rw [e] at o
    exact o
  | bad =>
    rw [e] at o
    exact o.elim
theorem DA.then {ta : TA} {f : En → Res (List D)} {g : List D → Res D} {Q : VK} {P : List V → Hp → Prop} (h : DA K mg W ta f) (R : Rl K mg F σ H ρ) (o : Out K mg W F H σ Q ((f ρ).bind g))
    (k : ∀ ds vs F1 H1, Wd F H F1 H1 → Reps K mg F1 ds vs → Out K mg W F1 H1 σ Q (g ds) → P vs H1) : ta σ H P := by
  refine h F σ H ρ P R ?_
  cases e : f ρ with
  | ok d =>
    rw [e] at o
    exact fun v F1 H1 w r => k d v F1 H1 w r (Out.grow o w)
  | exc c =>
    rw [e] at o
    exact o
  | bad =>
    rw [e] at o
    exact o.elim
theorem DA.thenA {ta : TA} {f : En → Res (List D)} {g : List D → Res (List D)} {Q : List V → Hp → Prop} {P : List V → Hp → Prop} (h : DA K mg W ta f) (R : Rl K mg F σ H ρ) (o : OutA K mg W F H σ Q ((f ρ).bind g))
    (k : ∀ ds vs F1 H1, Wd F H F1 H1 → Reps K mg F1 ds vs → OutA K mg W F1 H1 σ Q (g ds) → P vs H1) : ta σ H P := by
  refine h F σ H ρ P R ?_
  cases e : f ρ with
  | ok d =>
    rw [e] at o
    exact fun v F1 H1 w r => k d v F1 H1 w r (OutA.grow o w)
  | exc c =>
    rw [e] at o
    exact o
  | bad =>
    rw [e] at o
    exact o.elim

/-! ### expressions -/
def dVar (i : Nat) : En → Res D := fun ρ => match ρ[i]? with
  | some (.val d) => .ok d
  | _ => .bad
/-- a name's value, a list of one's own too: for what is only looked at -/
def dLook (i : Nat) : En → Res D := fun ρ => match ρ[i]? with
  | some (.val d) => .ok d
  | some (.own ds) => .ok (.lst ds)
  | _ => .bad
def dC (d : D) : En → Res D := fun _ => .ok d
def dOp (op : D → D → Option D) (fa fb : En → Res D) : En → Res D := fun ρ => (fa ρ).bind fun a => (fb ρ).bind fun b => ofOpt (op a b)
def dUn (op : D → Option D) (fa : En → Res D) : En → Res D := fun ρ => (fa ρ).bind fun a => ofOpt (op a)
def dNil : En → Res (List D) := fun _ => .ok []
def dCons (fa : En → Res D) (fr : En → Res (List D)) : En → Res (List D) := fun ρ => (fa ρ).bind fun a => (fr ρ).bind fun r => .ok (a :: r)
def dCall (op : List D → Res D) (fr : En → Res (List D)) : En → Res D := fun ρ => (fr ρ).bind op
def dCB (op : List D → Option D) (fr : En → Res (List D)) : En → Res D := fun ρ => (fr ρ).bind fun r => ofOpt (op r)
def dBM (op : D → List D → Option D) (fo : En → Res D) (fr : En → Res (List D)) : En → Res D := fun ρ => (fo ρ).bind fun o => (fr ρ).bind fun r => ofOpt (op o r)
def dTup (fr : En → Res (List D)) : En → Res D := fun ρ => (fr ρ).bind fun r => if r.length ≤ 1000000 then .ok (.tup r) else .bad
def dLst (fr : En → Res (List D)) : En → Res D := fun ρ => (fr ρ).bind fun r => if r.length ≤ 1000000 then .ok (.lst r) else .bad
/-- a test -/
def toB : D → Res Bool
  | .bl b => .ok b
  | _ => .bad
def dTest (f : En → Res D) : En → Res Bool := fun ρ => (f ρ).bind toB
def dAnd (f g : En → Res Bool) : En → Res Bool := fun ρ => (f ρ).bind fun a => if a = true then g ρ else .ok false
def dOr (f g : En → Res Bool) : En → Res Bool := fun ρ => (f ρ).bind fun a => if a = true then .ok true else g ρ
def dNot (f : En → Res Bool) : En → Res Bool := fun ρ => (f ρ).bind fun a => .ok (!a)
def dIf (t : En → Res Bool) (f g : En → Res D) : En → Res D := fun ρ => (t ρ).bind fun a => if a = true then f ρ else g ρ
def dAndV (f g : En → Res D) : En → Res D := fun ρ => (f ρ).bind fun a => (toB a).bind fun b => if b = true then g ρ else .ok (.bl false)
def dOrV (f g : En → Res D) : En → Res D := fun ρ => (f ρ).bind fun a => (toB a).bind fun b => if b = true then .ok (.bl true) else g ρ
def dNotV (f : En → Res D) : En → Res D := fun ρ => (f ρ).bind fun a => (toB a).bind fun b => .ok (.bl (!b))

theorem cap_le {n : Nat} (h : n ≤ 1000000) : n ≤ sizeLine := Nat.le_trans h (by decide)
theorem cap_lt {n : Nat} (h : n < 1000000) : n < sizeLine := Nat.lt_of_lt_of_le h (by decide)

theorem de_var {i : Nat} : DE K mg W (tVar i) (dVar i) := by
  intro F σ H ρ Q R o
  unfold dVar at o
  split at o
  · rename_i d e
    obtain ⟨v, h1, h2⟩ := R.val e
    exact ⟨v, h1, o v F H (Wd.refl R.sub) h2⟩
  · exact o.elim
theorem de_c {v : V} {d : D} (h : ∀ F, Rep K mg F d v) : DE K mg W (tC v) (dC d) := fun F σ H ρ Q R o => o v F H (Wd.refl R.sub) (h F)
theorem de_int {i : Int} : DE K mg W (tC (.int i)) (dC (.int i)) := de_c fun _ => rep_int.mpr rfl
theorem de_bl {i : Bool} : DE K mg W (tC (.bl i)) (dC (.bl i)) := de_c fun _ => rep_bl.mpr rfl
theorem de_str {i : Str} : DE K mg W (tC (.str i)) (dC (.str i)) := de_c fun _ => rep_str.mpr rfl
theorem de_non : DE K mg W (tC .non) (dC .non) := de_c fun _ => rep_non.mpr rfl
theorem de_raw {v : V} : DE K mg W (tC v) (dC (.raw v)) := de_c fun _ => rep_raw.mpr rfl
theorem de_op {r : R2} {op : D → D → Option D} {ta tb : TE} {fa fb : En → Res D} (ho : OD K mg r op) (ha : DE K mg W ta fa) (hb : DE K mg W tb fb) : DE K mg W (tOp r ta tb) (dOp op fa fb) := by
  intro F σ H ρ Q R o
  refine ha.then R o fun a x F1 H1 w1 r1 o1 => hb.then (R.mono w1) o1 fun b y F2 H2 w2 r2 o2 => ?_
  obtain ⟨d, e, q⟩ := o2.ofOpt
  exact ho F2 H2 x y a b d Q w2.sub (r1.mono w2.ff) r2 e q
theorem de_un {r : V → Hp → VK → Prop} {op : D → Option D} {ta : TE} {fa : En → Res D} (ho : UD K mg r op) (ha : DE K mg W ta fa) : DE K mg W (tUn r ta) (dUn op fa) := by
  intro F σ H ρ Q R o
  refine ha.then R o fun a x F1 H1 w1 r1 o1 => ?_
  obtain ⟨d, e, q⟩ := o1.ofOpt
  exact ho F1 H1 x a d Q w1.sub r1 e q
theorem da_nil : DA K mg W tNil dNil := fun F σ H ρ Q R o => o [] F H (Wd.refl R.sub) (reps_nil.mpr rfl)
theorem da_cons {ta : TE} {tr : TA} {fa : En → Res D} {fr : En → Res (List D)} (ha : DE K mg W ta fa) (hr : DA K mg W tr fr) : DA K mg W (tCons ta tr) (dCons fa fr) := by
  intro F σ H ρ Q R o
  refine ha.thenA R o fun a x F1 H1 w1 r1 o1 => hr.thenA (R.mono w1) o1 fun ds vs F2 H2 w2 r2 o2 => ?_
  exact o2 (x :: vs) F2 H2 (Wd.refl w2.sub) (reps_cons.mpr ⟨x, vs, rfl, r1.mono w2.ff, r2⟩)
theorem de_callB {r : List V → Hp → VK → Prop} {op : List D → Option D} {ta : TA} {fa : En → Res (List D)} (ho : CD K mg r op) (ha : DA K mg W ta fa) : DE K mg W (tCB r ta) (dCB op fa) := by
  intro F σ H ρ Q R o
  refine ha.then R o fun a x F1 H1 w1 r1 o1 => ?_
  obtain ⟨d, e, q⟩ := o1.ofOpt
  exact ho F1 H1 x a d Q w1.sub r1 e q
theorem de_tup {ta : TA} {fa : En → Res (List D)} (ha : DA K mg W ta fa) : DE K mg W (tTup ta) (dTup fa) := by
  intro F σ H ρ Q R o
  refine ha.then R o fun ds vs F1 H1 w1 r1 o1 => ?_
  split at o1
  · rename_i hl
    refine ⟨cap_le (by rw [← r1.length]; exact hl), fun p hp => ?_⟩
    have w := Wd.lay (o := .tup vs) w1.sub hp
    exact o1 (.ref p) _ _ w (rep_tup.mpr ⟨p, vs, rfl, SqT.of upd_same, r1.mono w.ff⟩)
  · exact o1.elim
theorem de_lst {ta : TA} {fa : En → Res (List D)} (ha : DA K mg W ta fa) : DE K mg W (tLst ta) (dLst fa) := by
  intro F σ H ρ Q R o
  refine ha.then R o fun ds vs F1 H1 w1 r1 o1 => ?_
  split at o1
  · rename_i hl
    refine ⟨cap_le (by rw [← r1.length]; exact hl), fun p hp => ?_⟩
    have w := Wd.lay (o := .lst vs) w1.sub hp
    exact o1 (.ref p) _ _ w (rep_lst.mpr ⟨p, vs, rfl, upd_same, r1.mono w.ff⟩)
  · exact o1.elim
theorem toB_ok {d : D} {b : Bool} (h : toB d = .ok b) : d = .bl b := by
  cases d <;> simp_all [toB]
theorem dt_test {te : TE} {f : En → Res D} (h : DE K mg W te f) : DT K mg W (tTest te) (dTest f) := by
  intro F σ H ρ Q R o
  refine h.thenT R o fun d v F1 H1 w1 r1 o1 => ?_
  cases d with
  | bl b => exact ⟨b, rep_bl.mp r1, o1 F1 H1 (Wd.refl w1.sub)⟩
  | _ => exact o1.elim
theorem dt_B {te : TE} {f : En → Res D} (h : DE K mg W te f) : DT K mg W (tB te) (dTest f) := dt_test h
theorem dt_and {t u : TT} {f g : En → Res Bool} (h : DT K mg W t f) (h' : DT K mg W u g) : DT K mg W (tAnd t u) (dAnd f g) := by
  intro F σ H ρ Q R o
  refine h.thenT R o fun b F1 H1 w1 o1 => ?_
  cases b with
  | true => exact iteT (h' F1 σ H1 ρ Q (R.mono w1) o1)
  | false => exact iteF (o1 F1 H1 (Wd.refl w1.sub))
theorem dt_or {t u : TT} {f g : En → Res Bool} (h : DT K mg W t f) (h' : DT K mg W u g) : DT K mg W (tOr t u) (dOr f g) := by
  intro F σ H ρ Q R o
  refine h.thenT R o fun b F1 H1 w1 o1 => ?_
  cases b with
  | true => exact iteT (o1 F1 H1 (Wd.refl w1.sub))
  | false => exact iteF (h' F1 σ H1 ρ Q (R.mono w1) o1)
theorem dt_not {t : TT} {f : En → Res Bool} (h : DT K mg W t f) : DT K mg W (tNot t) (dNot f) := by
  intro F σ H ρ Q R o
  exact h.thenT R o fun b F1 H1 w1 o1 => o1 F1 H1 (Wd.refl w1.sub)
theorem de_if {t : TT} {ta tb : TE} {c : En → Res Bool} {f g : En → Res D} (h : DT K mg W t c) (ha : DE K mg W ta f) (hb : DE K mg W tb g) : DE K mg W (tIf t ta tb) (dIf c f g) := by
  intro F σ H ρ Q R o
  refine h.then R o fun b F1 H1 w1 o1 => ?_
  cases b with
  | true => exact iteT (ha F1 σ H1 ρ Q (R.mono w1) o1)
  | false => exact iteF (hb F1 σ H1 ρ Q (R.mono w1) o1)
theorem de_andV {ta tb : TE} {f g : En → Res D} (ha : DE K mg W ta f) (hb : DE K mg W tb g) : DE K mg W (tAndV ta tb) (dAndV f g) := by
  intro F σ H ρ Q R o
  refine ha.then R o fun d v F1 H1 w1 r1 o1 => ?_
  cases d with
  | bl b =>
    refine ⟨b, rep_bl.mp r1, ?_⟩
    cases b with
    | true => exact iteT (hb F1 σ H1 ρ Q (R.mono w1) o1)
    | false => exact iteF (o1 _ F1 H1 (Wd.refl w1.sub) (rep_bl.mpr rfl))
  | _ => exact o1.elim
theorem de_orV {ta tb : TE} {f g : En → Res D} (ha : DE K mg W ta f) (hb : DE K mg W tb g) : DE K mg W (tOrV ta tb) (dOrV f g) := by
  intro F σ H ρ Q R o
  refine ha.then R o fun d v F1 H1 w1 r1 o1 => ?_
  cases d with
  | bl b =>
    refine ⟨b, rep_bl.mp r1, ?_⟩
    cases b with
    | true => exact iteT (o1 _ F1 H1 (Wd.refl w1.sub) (rep_bl.mpr rfl))
    | false => exact iteF (hb F1 σ H1 ρ Q (R.mono w1) o1)
  | _ => exact o1.elim
theorem de_notV {ta : TE} {f : En → Res D} (ha : DE K mg W ta f) : DE K mg W (tNotV ta) (dNotV f) := by
  intro F σ H ρ Q R o
  refine ha.then R o fun d v F1 H1 w1 r1 o1 => ?_
  cases d with
  | bl b => exact ⟨b, rep_bl.mp r1, o1 _ F1 H1 (Wd.refl w1.sub) (rep_bl.mpr rfl)⟩
  | _ => exact o1.elim
end
end Pu
/-! ## PuOps -/
namespace Pu
open PySem PySem.Spec PyProof.Rows L2
/-! ### operations on plain data -/
def fitI (i : Int) : Bool := decide (Builtin.Int.intBits i ≤ 60000000)
def addD : D → D → Option D
  | .int a, .int b => some (.int (a + b))
  | .str a, .str b => if a.length + b.length ≤ 1000000 then some (.str (a ++ b)) else none
  | .lst a, .lst b => if a.length + b.length ≤ 1000000 then some (.lst (a ++ b)) else none
  | .tup a, .tup b => if a.length + b.length ≤ 1000000 then some (.tup (a ++ b)) else none
  | _, _ => none
def subD : D → D → Option D
  | .int a, .int b => some (.int (a - b))
  | _, _ => none
def mulD : D → D → Option D
  | .int a, .int b => if fitI a && fitI b then some (.int (a * b)) else none
  | _, _ => none
def modD : D → D → Option D
  | .int a, .int b => if 0 < b then some (.int (a % b)) else none
  | _, _ => none
def fdivD : D → D → Option D
  | .int a, .int b => if 0 < b ∧ b.natAbs.log2 < 9000 then some (.int (a / b)) else none
  | _, _ => none
def powD : D → D → Option D
  | .int a, .int b => if 0 ≤ b ∧ b ≤ 1000000 ∧ a.natAbs < 2 ^ 64 then some (.int (a ^ b.toNat)) else none
  | _, _ => none
def shlD : D → D → Option D
  | .int a, .int b => if 0 ≤ b ∧ b ≤ 1000000 ∧ a.natAbs < 2 ^ 64 then some (.int (a * 2 ^ b.toNat)) else none
  | _, _ => none
def shrD : D → D → Option D
  | .int a, .int b => if 0 ≤ b then some (.int (a / 2 ^ b.toNat)) else none
  | _, _ => none
def andD : D → D → Option D
  | .int a, .int b => some (.int (Builtin.bitAnd a b))
  | _, _ => none
def orD : D → D → Option D
  | .int a, .int b => some (.int (Builtin.bitOr a b))
  | _, _ => none
def cmpD (p : Int → Int → Bool) : D → D → Option D
  | .int a, .int b => some (.bl (p a b))
  | _, _ => none
abbrev ltD : D → D → Option D := cmpD fun i j => decide (i < j)
abbrev leD : D → D → Option D := cmpD fun i j => decide (i ≤ j)
abbrev gtD : D → D → Option D := cmpD fun i j => decide (j < i)
abbrev geD : D → D → Option D := cmpD fun i j => decide (j ≤ i)
def negD : D → Option D
  | .int a => some (.int (-a))
  | _ => none

mutual
/-- data that == tells apart by its shape, at most n deep -/
def shD : D → Nat → Bool
  | .non, _ => true
  | .bl _, _ => true
  | .int _, _ => true
  | .str x, _ => PyData.strOk x
  | .tup ds, n + 1 => shDs ds n
  | .lst ds, n + 1 => shDs ds n
  | _, _ => false
def shDs : List D → Nat → Bool
  | [], _ => true
  | d :: ds, n => shD d n && shDs ds n
end
mutual
def pd : D → PyData
  | .non => .none
  | .bl b => .bool b
  | .int i => .int i
  | .str x => .str x
  | .tup ds => .tuple (pds ds)
  | .lst ds => .list (pds ds)
  | _ => .none
def pds : List D → List PyData
  | [] => []
  | d :: ds => pd d :: pds ds
end
mutual
/-- == of plain data -/
def eqvD : D → D → Bool
  | .non, .non => true
  | .bl a, .bl b => a == b
  | .bl a, .int j => (if a then 1 else 0) == j
  | .int i, .bl b => i == (if b then 1 else 0)
  | .int i, .int j => i == j
  | .str x, .str y => x == y
  | .lst xs, .lst ys => eqvDs xs ys
  | .tup xs, .tup ys => eqvDs xs ys
  | _, _ => false
def eqvDs : List D → List D → Bool
  | [], [] => true
  | x :: xs, y :: ys => eqvD x y && eqvDs xs ys
  | _, _ => false
end
def eqD (a b : D) : Option D := if shD a 60 && shD b 60 then some (.bl (eqvD a b)) else none
def neD (a b : D) : Option D := if shD a 60 && shD b 60 then some (.bl (!eqvD a b)) else none
mutual
theorem eqv_pd : ∀ (a b : D) (n m : Nat), shD a n = true → shD b m = true → PyData.eqv (pd a) (pd b) = eqvD a b
  | .non, b, n, m, ha, hb => by cases b <;> simp_all [shD, pd, eqvD, PyData.eqv]
  | .bl x, b, n, m, ha, hb => by cases b <;> simp_all [shD, pd, eqvD, PyData.eqv]
  | .int x, b, n, m, ha, hb => by cases b <;> simp_all [shD, pd, eqvD, PyData.eqv]
  | .str x, b, n, m, ha, hb => by cases b <;> simp_all [shD, pd, eqvD, PyData.eqv]
  | .tup xs, b, 0, m, ha, hb => by simp [shD] at ha
  | .lst xs, b, 0, m, ha, hb => by simp [shD] at ha
  | .tup xs, b, n + 1, m, ha, hb => by
    have h1 : shDs xs n = true := by simpa [shD] using ha
    cases b with
    | tup ys =>
      cases m with
      | zero => simp [shD] at hb
      | succ m =>
        have h2 : shDs ys m = true := by simpa [shD] using hb
        simp only [pd, eqvD, PyData.eqv]
        exact eqv_pds xs ys n m h1 h2
    | _ => simp_all [shD, pd, eqvD, PyData.eqv]
  | .lst xs, b, n + 1, m, ha, hb => by
    have h1 : shDs xs n = true := by simpa [shD] using ha
    cases b with
    | lst ys =>
      cases m with
      | zero => simp [shD] at hb
      | succ m =>
        have h2 : shDs ys m = true := by simpa [shD] using hb
        simp only [pd, eqvD, PyData.eqv]
        exact eqv_pds xs ys n m h1 h2
    | _ => simp_all [shD, pd, eqvD, PyData.eqv]
  | .scr _, _, _, _, ha, _ => by simp [shD] at ha
  | .dic _ _, _, _, _, ha, _ => by simp [shD] at ha
  | .obj _ _ _, _, _, _, ha, _ => by simp [shD] at ha
  | .raw _, _, _, _, ha, _ => by simp [shD] at ha
theorem eqv_pds : ∀ (a b : List D) (n m : Nat), shDs a n = true → shDs b m = true → PyData.eqvAll (pds a) (pds b) = eqvDs a b
  | [], [], _, _, _, _ => by simp [pds, eqvDs, PyData.eqvAll]
  | [], _ :: _, _, _, _, _ => by simp [pds, eqvDs, PyData.eqvAll]
  | _ :: _, [], _, _, _, _ => by simp [pds, eqvDs, PyData.eqvAll]
  | x :: xs, y :: ys, n, m, ha, hb => by
    simp only [shDs, Bool.and_eq_true] at ha hb
    simp only [pds, eqvDs, PyData.eqvAll]
    rw [eqv_pd x y n m ha.1 hb.1, eqv_pds xs ys n m ha.2 hb.2]
end
mutual
theorem lay_pd : ∀ (a : D) (n : Nat), shD a n = true → (pd a).canLay0 = true ∧ (pd a).depth ≤ n
  | .non, n, _ => by simp [pd, PyData.canLay0, PyData.depth]
  | .bl _, n, _ => by simp [pd, PyData.canLay0, PyData.depth]
  | .int _, n, _ => by simp [pd, PyData.canLay0, PyData.depth]
  | .str x, n, h => by
    have h' : PyData.strOk x = true := by simpa [shD] using h
    simp [pd, PyData.canLay0, PyData.depth, h']
  | .tup xs, 0, h => by simp [shD] at h
  | .lst xs, 0, h => by simp [shD] at h
  | .tup xs, n + 1, h => by
    have h1 : shDs xs n = true := by simpa [shD] using h
    obtain ⟨q1, q2⟩ := lay_pds xs n h1
    simp only [pd, PyData.canLay0, PyData.depth]
    exact ⟨q1, by omega⟩
  | .lst xs, n + 1, h => by
    have h1 : shDs xs n = true := by simpa [shD] using h
    obtain ⟨q1, q2⟩ := lay_pds xs n h1
    simp only [pd, PyData.canLay0, PyData.depth]
    exact ⟨q1, by omega⟩
  | .scr _, _, h => by simp [shD] at h
  | .dic _ _, _, h => by simp [shD] at h
  | .obj _ _ _, _, h => by simp [shD] at h
  | .raw _, _, h => by simp [shD] at h
theorem lay_pds : ∀ (a : List D) (n : Nat), shDs a n = true → PyData.canLayAll0 (pds a) = true ∧ PyData.depthAll (pds a) ≤ n
  | [], n, _ => by simp [pds, PyData.canLayAll0, PyData.depthAll]
  | x :: xs, n, h => by
    simp only [shDs, Bool.and_eq_true] at h
    obtain ⟨q1, q2⟩ := lay_pd x n h.1
    obtain ⟨q3, q4⟩ := lay_pds xs n h.2
    simp only [pds, PyData.canLayAll0, PyData.depthAll]
    exact ⟨by rw [q1, q3]; rfl, Nat.max_le.mpr ⟨q2, q4⟩⟩
end
theorem shaped_pd {a : D} (h : shD a 60 = true) : SeqAt.shaped (pd a) = true := by
  obtain ⟨q1, q2⟩ := lay_pd a 60 h
  unfold SeqAt.shaped
  rw [q1, decide_eq_true (by omega)]
  rfl
section
variable {K : PySem.W.Frag} {mg : Str → Option Value} {F H : Hp}
mutual
theorem dp_of (s : Same F H) : ∀ (d : D) (v : V) (n : Nat), shD d n = true → Rep K mg F d v → Dp K H v (pd d)
  | .non, v, _, _, r => by rw [rep_non.mp r]; exact .non
  | .bl b, v, _, _, r => by rw [rep_bl.mp r]; exact .bl b
  | .int b, v, _, _, r => by rw [rep_int.mp r]; exact .int b
  | .str b, v, _, _, r => by rw [rep_str.mp r]; exact .str b
  | .tup xs, _, 0, h, _ => by simp [shD] at h
  | .lst xs, _, 0, h, _ => by simp [shD] at h
  | .tup xs, v, n + 1, h, r => by
    have h1 : shDs xs n = true := by simpa [shD] using h
    obtain ⟨a, vs, rfl, h2, h3⟩ := rep_tup.mp r
    exact .tup (sqT_mono s h2) (dps_of s xs vs n h1 h3)
  | .lst xs, v, n + 1, h, r => by
    have h1 : shDs xs n = true := by simpa [shD] using h
    obtain ⟨a, vs, rfl, h2, h3⟩ := rep_lst.mp r
    exact .lst (SqL.of (s _ _ h2)) (dps_of s xs vs n h1 h3)
  | .scr _, _, _, h, _ => by simp [shD] at h
  | .dic _ _, _, _, h, _ => by simp [shD] at h
  | .obj _ _ _, _, _, h, _ => by simp [shD] at h
  | .raw _, _, _, h, _ => by simp [shD] at h
theorem dps_of (s : Same F H) : ∀ (ds : List D) (vs : List V) (n : Nat), shDs ds n = true → Reps K mg F ds vs → DpAll K H vs (pds ds)
  | [], vs, _, _, r => by rw [reps_nil.mp r]; exact .nil
  | d :: ds, vs, n, h, r => by
    simp only [shDs, Bool.and_eq_true] at h
    obtain ⟨v, t, rfl, h1, h2⟩ := reps_cons.mp r
    exact .cons (dp_of s d v n h.1 h1) (dps_of s ds t n h.2 h2)
end

/-! ### the rules, whatever the kinds -/
variable {X : Cx}
abbrev rIntV (g : Int → Int → Int) : R2 := rI0 fun i j => .int (g i j)
def rAddS : R2 := fun x y H Q => ∃ i j, x = .str i ∧ y = .str j ∧ i.length + j.length ≤ sizeLine ∧ Q (.str (i ++ j)) H
def rAddU (K : PySem.W.Frag) : R2 := fun x y H Q => (rI0 (fun i j => .int (i + j))) x y H Q ∨ rAddS x y H Q ∨ rCat x y H Q ∨ rCatA K x y H Q
theorem op_addU : OpR X (binaryOp .Add) (rAddU X.K) := op_add.or (OpR.or (r := rAddS) op_add_str (op_cat.or op_catA))
theorem od_add : OD K mg (rAddU K) addD := by
  intro F H x y a b d Q s ra rb e q
  cases a <;> cases b <;> simp only [addD] at e <;> try (cases e; done)
  · rename_i i j
    cases e
    exact .inl ⟨i, j, rep_int.mp ra, rep_int.mp rb, q _ F H (Wd.refl s) (rep_int.mpr rfl)⟩
  · rename_i i j
    split at e
    · rename_i hl
      cases e
      exact .inr (.inl ⟨i, j, rep_str.mp ra, rep_str.mp rb, cap_le hl, q _ F H (Wd.refl s) (rep_str.mpr rfl)⟩)
    · cases e
  · rename_i i j
    split at e
    · rename_i hl
      cases e
      obtain ⟨a1, vs, rfl, h1, h2⟩ := rep_tup.mp ra
      obtain ⟨a2, ws, rfl, h3, h4⟩ := rep_tup.mp rb
      have l1 := h2.length
      have l2 := h4.length
      refine .inr (.inr (.inr ⟨a1, a2, vs, ws, rfl, rfl, sqT_mono s h1, sqT_mono s h3, cap_le (by omega), fun hn => ?_, fun hn hm => ?_, fun hn hm p hp => ?_⟩))
      · subst hn
        have z : i = [] := List.eq_nil_of_length_eq_zero (by simpa using l1)
        subst z
        exact q _ F H (Wd.refl s) rb
      · subst hm
        have z : j = [] := List.eq_nil_of_length_eq_zero (by simpa using l2)
        subst z
        rw [List.append_nil] at q
        exact q _ F H (Wd.refl s) ra
      · have w := Wd.lay (o := .tup (vs ++ ws)) s hp
        exact q _ _ _ w (rep_tup.mpr ⟨p, _, rfl, SqT.of upd_same, (h2.mono w.ff).append (h4.mono w.ff)⟩)
    · cases e
  · rename_i i j
    split at e
    · rename_i hl
      cases e
      obtain ⟨a1, vs, rfl, h1, h2⟩ := rep_lst.mp ra
      obtain ⟨a2, ws, rfl, h3, h4⟩ := rep_lst.mp rb
      have l1 := h2.length
      have l2 := h4.length
      refine .inr (.inr (.inl ⟨a1, a2, vs, ws, rfl, rfl, s _ _ h1, s _ _ h3, cap_le (by omega), fun p hp => ?_⟩))
      have w := Wd.lay (o := .lst (vs ++ ws)) s hp
      exact q _ _ _ w (rep_lst.mpr ⟨p, _, rfl, upd_same, (h2.mono w.ff).append (h4.mono w.ff)⟩)
    · cases e
theorem od_int0 {g : Int → Int → Int} {op : D → D → Option D} (h : ∀ a b d, op a b = some d → ∃ i j, a = .int i ∧ b = .int j ∧ d = .int (g i j)) : OD K mg (rI0 fun i j => .int (g i j)) op := by
  intro F H x y a b d Q s ra rb e q
  obtain ⟨i, j, rfl, rfl, rfl⟩ := h a b d e
  exact ⟨i, j, rep_int.mp ra, rep_int.mp rb, q _ F H (Wd.refl s) (rep_int.mpr rfl)⟩
theorem od_intC {C : Int → Int → Prop} {g : Int → Int → Int} {op : D → D → Option D} (h : ∀ a b d, op a b = some d → ∃ i j, a = .int i ∧ b = .int j ∧ C i j ∧ d = .int (g i j)) : OD K mg (rI C fun i j => .int (g i j)) op := by
  intro F H x y a b d Q s ra rb e q
  obtain ⟨i, j, rfl, rfl, hc, rfl⟩ := h a b d e
  exact ⟨i, j, rep_int.mp ra, rep_int.mp rb, hc, q _ F H (Wd.refl s) (rep_int.mpr rfl)⟩
theorem od_intB {g : Int → Int → Bool} {op : D → D → Option D} (h : ∀ a b d, op a b = some d → ∃ i j, a = .int i ∧ b = .int j ∧ d = .bl (g i j)) : OD K mg (rI0 fun i j => .bl (g i j)) op := by
  intro F H x y a b d Q s ra rb e q
  obtain ⟨i, j, rfl, rfl, rfl⟩ := h a b d e
  exact ⟨i, j, rep_int.mp ra, rep_int.mp rb, q _ F H (Wd.refl s) (rep_bl.mpr rfl)⟩
theorem od_sub : OD K mg (rI0 fun i j => .int (i - j)) subD := od_int0 (g := fun i j => i - j) fun a b d e => by
  cases a <;> cases b <;> simp only [subD] at e <;> cases e
  exact ⟨_, _, rfl, rfl, rfl⟩
theorem od_mul : OD K mg (rI CMulX fun i j => .int (i * j)) mulD := od_intC (g := fun i j => i * j) fun a b d e => by
  cases a <;> cases b <;> simp only [mulD] at e <;> try (cases e; done)
  rename_i i j
  split at e
  · rename_i h
    cases e
    rw [Bool.and_eq_true] at h
    have h1 := of_decide_eq_true h.1
    have h2 := of_decide_eq_true h.2
    exact ⟨_, _, rfl, rfl, by show (Builtin.Int.intBits i : Int) + (Builtin.Int.intBits j : Int) ≤ 134217728; omega, rfl⟩
  · cases e
theorem od_mod : OD K mg (rI (fun _ j => 0 < j) fun i j => .int (i % j)) modD := od_intC (g := fun i j => i % j) fun a b d e => by
  cases a <;> cases b <;> simp only [modD] at e <;> try (cases e; done)
  split at e
  · rename_i h
    cases e
    exact ⟨_, _, rfl, rfl, h, rfl⟩
  · cases e
theorem od_fdiv : OD K mg (rI CDivW fun i j => .int (i / j)) fdivD := od_intC (g := fun i j => i / j) fun a b d e => by
  cases a <;> cases b <;> simp only [fdivD] at e <;> try (cases e; done)
  split at e
  · rename_i h
    cases e
    exact ⟨_, _, rfl, rfl, h, rfl⟩
  · cases e
theorem od_pow : OD K mg (rI CPow fun i j => .int (i ^ j.toNat)) powD := od_intC (g := fun i j => i ^ j.toNat) fun a b d e => by
  cases a <;> cases b <;> simp only [powD] at e <;> try (cases e; done)
  split at e
  · rename_i h
    cases e
    exact ⟨_, _, rfl, rfl, h, rfl⟩
  · cases e
theorem od_shl : OD K mg (rI CPow fun i j => .int (i * 2 ^ j.toNat)) shlD := od_intC (g := fun i j => i * 2 ^ j.toNat) fun a b d e => by
  cases a <;> cases b <;> simp only [shlD] at e <;> try (cases e; done)
  split at e
  · rename_i h
    cases e
    exact ⟨_, _, rfl, rfl, h, rfl⟩
  · cases e
theorem od_shr : OD K mg (rI (fun _ j => 0 ≤ j) fun i j => .int (i / 2 ^ j.toNat)) shrD := od_intC (g := fun i j => i / 2 ^ j.toNat) fun a b d e => by
  cases a <;> cases b <;> simp only [shrD] at e <;> try (cases e; done)
  split at e
  · rename_i h
    cases e
    exact ⟨_, _, rfl, rfl, h, rfl⟩
  · cases e
theorem od_and : OD K mg (rI0 fun i j => .int (Builtin.bitAnd i j)) andD := od_int0 (g := Builtin.bitAnd) fun a b d e => by
  cases a <;> cases b <;> simp only [andD] at e <;> cases e
  exact ⟨_, _, rfl, rfl, rfl⟩
theorem od_or : OD K mg (rI0 fun i j => .int (Builtin.bitOr i j)) orD := od_int0 (g := Builtin.bitOr) fun a b d e => by
  cases a <;> cases b <;> simp only [orD] at e <;> cases e
  exact ⟨_, _, rfl, rfl, rfl⟩
theorem od_cmp {p : Int → Int → Bool} : OD K mg (rI0 fun i j => .bl (p i j)) (cmpD p) := od_intB (g := p) fun a b d e => by
  cases a <;> cases b <;> simp only [cmpD] at e <;> cases e
  exact ⟨_, _, rfl, rfl, rfl⟩
theorem ud_neg : UD K mg (rU fun i => .int (-i)) negD := by
  intro F H x a d Q s ra e q
  cases a <;> simp only [negD] at e <;> cases e
  exact ⟨_, rep_int.mp ra, q _ F H (Wd.refl s) (rep_int.mpr rfl)⟩
theorem od_eq : OD K mg (rEqD K) eqD := by
  intro F H x y a b d Q s ra rb e q
  unfold eqD at e
  split at e
  · rename_i h
    cases e
    rw [Bool.and_eq_true] at h
    refine ⟨pd a, pd b, dp_of s a x 60 h.1 ra, dp_of s b y 60 h.2 rb, shaped_pd h.1, shaped_pd h.2, ?_⟩
    rw [eqv_pd a b 60 60 h.1 h.2]
    exact q _ F H (Wd.refl s) (rep_bl.mpr rfl)
  · cases e
theorem od_ne : OD K mg (rNeD K) neD := by
  intro F H x y a b d Q s ra rb e q
  unfold neD at e
  split at e
  · rename_i h
    cases e
    rw [Bool.and_eq_true] at h
    refine ⟨pd a, pd b, dp_of s a x 60 h.1 ra, dp_of s b y 60 h.2 rb, shaped_pd h.1, shaped_pd h.2, ?_⟩
    rw [eqv_pd a b 60 60 h.1 h.2]
    exact q _ F H (Wd.refl s) (rep_bl.mpr rfl)
  · cases e
/-- is None, is not None -/
def isND (a b : D) : Option D := match b with
  | .non => match a with
    | .raw _ => none
    | .non => some (.bl true)
    | _ => some (.bl false)
  | _ => none
def notND (a b : D) : Option D := match isND a b with
  | some (.bl k) => some (.bl (!k))
  | _ => none
abbrev rIsNV : R2 := fun x y H Q => y = .non ∧ Q (.bl (decide (x = .non))) H
abbrev rNotNV : R2 := fun x y H Q => y = .non ∧ Q (.bl (!decide (x = .non))) H
theorem isND_is {F : Hp} {a b : D} {x y : V} {d : D} (ra : Rep K mg F a x) (rb : Rep K mg F b y) (e : isND a b = some d) : y = .non ∧ d = .bl (decide (x = .non)) := by
  cases b <;> simp only [isND] at e <;> try (cases e; done)
  refine ⟨rep_non.mp rb, ?_⟩
  cases a <;> simp only at e <;> cases e
  · rw [rep_non.mp ra]; rfl
  · rw [rep_bl.mp ra]; rfl
  · rw [rep_int.mp ra]; rfl
  · rw [rep_str.mp ra]; rfl
  · obtain ⟨_, _, rfl, _⟩ := rep_tup.mp ra; rfl
  · obtain ⟨_, _, rfl, _⟩ := rep_lst.mp ra; rfl
  · obtain ⟨_, rfl, _⟩ := rep_scr.mp ra; rfl
  · obtain ⟨_, _, rfl, _⟩ := rep_dic.mp ra; rfl
  · obtain ⟨_, _, _, _, rfl, _⟩ := rep_obj.mp ra; rfl
  · obtain ⟨_, _, rfl, _⟩ := rep_fnv.mp ra; rfl
  · obtain ⟨_, _, _, _, rfl, _⟩ := rep_clo.mp ra; rfl
theorem od_isN : OD K mg rIsNV isND := by
  intro F H x y a b d Q s ra rb e q
  obtain ⟨h1, h2⟩ := isND_is ra rb e
  exact ⟨h1, q _ F H (Wd.refl s) (by rw [h2]; exact rep_bl.mpr rfl)⟩
theorem od_notN : OD K mg rNotNV notND := by
  intro F H x y a b d Q s ra rb e q
  unfold notND at e
  split at e
  · rename_i k ek
    cases e
    obtain ⟨h1, h2⟩ := isND_is ra rb ek
    cases h2
    exact ⟨h1, q _ F H (Wd.refl s) (rep_bl.mpr rfl)⟩
  · cases e

/-! ### items, slices, lengths -/
/-- an item's place, from either end -/
def atD {α : Type} (xs : List α) (i : Int) : Option α := atI xs i
def ixD : D → D → Option D
  | .lst xs, .int i => atI xs i
  | .tup xs, .int i => atI xs i
  | .scr ns, .int i => (atI ns i).map D.int
  | .str z, .int i => if z.length ≤ 1000000 then (atI z.cps.toList i).map fun c => .str ⟨#[c]⟩ else none
  | _, _ => none
theorem ixN_len {n m : Nat} {i : Int} (h : n = m) : ixN n i = ixN m i := by rw [h]
theorem Reps.at {F : Hp} {ds : List D} {vs : List V} {i : Int} {d : D} (h : Reps K mg F ds vs) (e : atI ds i = some d) : ∃ v, atI vs i = some v ∧ Rep K mg F d v := by
  unfold atI at e ⊢
  rw [← h.length]
  cases q : ixN ds.length i with
  | none =>
    rw [q] at e
    cases e
  | some j =>
    rw [q] at e
    exact h.get e
theorem atI_map {α β : Type} (f : α → β) (xs : List α) (i : Int) : atI (xs.map f) i = (atI xs i).map f := by
  unfold atI
  rw [List.length_map]
  cases ixN xs.length i with
  | none => rfl
  | some j => simp
theorem od_ix : OD K mg (rIx K) ixD := by
  intro F H x y a b d Q s ra rb e q
  cases a <;> cases b <;> simp only [ixD] at e <;> try (cases e; done)
  · rename_i z i
    split at e
    · rename_i hl
      cases h : atI z.cps.toList i with
      | none =>
        rw [h] at e
        cases e
      | some c =>
        rw [h] at e
        cases e
        exact .inr (.inr ⟨z, i, c, rep_str.mp ra, rep_int.mp rb, cap_le hl, h, q _ F H (Wd.refl s) (rep_str.mpr rfl)⟩)
    · cases e
  · rename_i ds i
    obtain ⟨p, vs, rfl, h1, h2⟩ := rep_tup.mp ra
    obtain ⟨v, h3, h4⟩ := h2.at e
    exact .inr (.inl ⟨p, vs, i, v, rfl, rep_int.mp rb, sqT_mono s h1, h3, q _ F H (Wd.refl s) h4⟩)
  · rename_i ds i
    obtain ⟨p, vs, rfl, h1, h2⟩ := rep_lst.mp ra
    obtain ⟨v, h3, h4⟩ := h2.at e
    exact .inl ⟨p, vs, i, v, rfl, rep_int.mp rb, SqL.of (s _ _ h1), h3, q _ F H (Wd.refl s) h4⟩
  · rename_i ns i
    obtain ⟨p, rfl, h1⟩ := rep_scr.mp ra
    cases h : atI ns i with
    | none =>
      rw [h] at e
      cases e
    | some c =>
      rw [h] at e
      cases e
      exact .inl ⟨p, ns.map V.int, i, .int c, rfl, rep_int.mp rb, sqL_mono s h1, by rw [atI_map, h]; rfl, q _ F H (Wd.refl s) (rep_int.mpr rfl)⟩
/-- xs[lo:hi] -/
def cutL {α : Type} (xs : List α) (lo hi : Option Int) : List α := (xs.drop (HT.sIx xs.length 0 lo)).take (HT.sIx xs.length xs.length hi - HT.sIx xs.length 0 lo)
def slD : D → Option Int → Option Int → Option D
  | .lst xs, lo, hi => some (.lst (cutL xs lo hi))
  | .tup xs, lo, hi => some (.tup (cutL xs lo hi))
  | .scr ns, lo, hi => some (.lst ((cutL ns lo hi).map D.int))
  | .str z, lo, hi => if z.length ≤ 1000000 then some (.str (cutS z lo hi)) else none
  | _, _, _ => none
def rSlU (K : PySem.W.Frag) : V → Option Int → Option Int → Hp → VK → Prop := fun x lo hi H Q => rSlL K x lo hi H Q ∨ rSlA K x lo hi H Q ∨ rSlS x lo hi H Q
theorem sl_U : SlR X (rSlU X.K) := sl_list.or (sl_tupA.or sl_str)
theorem Reps.cut {F : Hp} {ds : List D} {vs : List V} (h : Reps K mg F ds vs) (lo hi : Option Int) : Reps K mg F (cutL ds lo hi) (cutV vs lo hi) := by
  unfold cutL cutV
  rw [h.length]
  exact (h.drop _).take _
theorem reps_ints {F : Hp} : ∀ ns : List Int, Reps K mg F (ns.map D.int) (ns.map V.int)
  | [] => reps_nil.mpr rfl
  | n :: ns => reps_cons.mpr ⟨.int n, ns.map V.int, rfl, rep_int.mpr rfl, reps_ints ns⟩
theorem cutV_map (ns : List Int) (lo hi : Option Int) : cutV (ns.map V.int) lo hi = (cutL ns lo hi).map V.int := by
  unfold cutV cutL
  rw [List.length_map, List.map_take, List.map_drop]
theorem slD_ok {F H : Hp} {x : V} {a d : D} {lo hi : Option Int} {Q : VK} (s : Same F H) (ra : Rep K mg F a x) (e : slD a lo hi = some d) (q : ∀ v F' H', Wd F H F' H' → Rep K mg F' d v → Q v H') : rSlU K x lo hi H Q := by
  cases a <;> simp only [slD] at e <;> try (cases e; done)
  · split at e
    · rename_i z hl
      cases e
      exact .inr (.inr ⟨z, rep_str.mp ra, cap_le hl, q _ F H (Wd.refl s) (rep_str.mpr rfl)⟩)
    · cases e
  · rename_i ds
    cases e
    obtain ⟨p, vs, rfl, h1, h2⟩ := rep_tup.mp ra
    refine .inr (.inl ⟨p, vs, rfl, sqT_mono s h1, fun hw => ?_, fun hw p' hp => ?_⟩)
    · have z : cutL ds lo hi = ds := by
        unfold cutL
        rw [h2.length, hw.1, hw.2, List.drop_zero, Nat.sub_zero, ← h2.length, List.take_length]
      rw [z] at q
      exact q _ F H (Wd.refl s) ra
    · have w := Wd.lay (o := .tup (cutV vs lo hi)) s hp
      exact q _ _ _ w (rep_tup.mpr ⟨p', _, rfl, SqT.of upd_same, (h2.mono w.ff).cut lo hi⟩)
  · rename_i ds
    cases e
    obtain ⟨p, vs, rfl, h1, h2⟩ := rep_lst.mp ra
    refine .inl ⟨p, vs, rfl, SqL.of (s _ _ h1), fun p' hp => ?_⟩
    have w := Wd.lay (o := .lst (cutV vs lo hi)) s hp
    exact q _ _ _ w (rep_lst.mpr ⟨p', _, rfl, upd_same, (h2.mono w.ff).cut lo hi⟩)
  · rename_i ns
    cases e
    obtain ⟨p, rfl, h1⟩ := rep_scr.mp ra
    refine .inl ⟨p, _, rfl, sqL_mono s h1, fun p' hp => ?_⟩
    have w := Wd.lay (o := .lst (cutV (ns.map V.int) lo hi)) s hp
    refine q _ _ _ w (rep_lst.mpr ⟨p', _, rfl, upd_same, ?_⟩)
    rw [cutV_map]
    exact reps_ints _
/-- a part of a slice -/
def DO (K : PySem.W.Frag) (mg : Str → Option Value) (W : WX) (to : TO) (f : En → Res (Option Int)) : Prop := ∀ (F : Hp) (σ : Sg) (H : Hp) (ρ : En) (Q : Option Int → Hp → Prop), Rl K mg F σ H ρ →
  (match f ρ with
    | .ok o => ∀ F' H', Wd F H F' H' → Q o H'
    | .exc c => ∀ C F' H', mg c = some (.ref C) → Wd F H F' H' → W (.ref C) none σ H'
    | .bad => False) → to σ H Q
def dNoPart : En → Res (Option Int) := fun _ => .ok none
def toI : D → Res (Option Int)
  | .int i => .ok (some i)
  | _ => .bad
def dPart (f : En → Res D) : En → Res (Option Int) := fun ρ => (f ρ).bind toI
def dSl (f : En → Res D) (lo hi : En → Res (Option Int)) : En → Res D := fun ρ => (f ρ).bind fun a => (lo ρ).bind fun l => (hi ρ).bind fun h => ofOpt (slD a l h)
variable {W : WX}
theorem do_none : DO K mg W tNoPart dNoPart := fun F σ H ρ Q R o => o F H (Wd.refl R.sub)
theorem do_some {te : TE} {f : En → Res D} (h : DE K mg W te f) : DO K mg W (tPart te) (dPart f) := by
  intro F σ H ρ Q R o
  refine h F σ H ρ _ R ?_
  unfold dPart at o
  cases e : f ρ with
  | ok d =>
    rw [e] at o
    intro v F1 H1 w r
    cases d with
    | int i => exact ⟨i, rep_int.mp r, o F1 H1 w⟩
    | _ => exact o.elim
  | exc c =>
    rw [e] at o
    exact o
  | bad =>
    rw [e] at o
    exact o.elim
theorem de_slice {te : TE} {tl th : TO} {f : En → Res D} {lo hi : En → Res (Option Int)} (h : DE K mg W te f) (hl : DO K mg W tl lo) (hh : DO K mg W th hi) : DE K mg W (tSl (rSlU K) te tl th) (dSl f lo hi) := by
  intro F σ H ρ Q R o
  refine h.then R o fun a x F1 H1 w1 r1 o1 => hl F1 σ H1 ρ _ (R.mono w1) ?_
  cases el : lo ρ with
  | ok l =>
    rw [el] at o1
    intro F2 H2 w2
    have o2 := Out.grow o1 w2
    refine hh F2 σ H2 ρ _ ((R.mono w1).mono w2) ?_
    cases eh : hi ρ with
    | ok u =>
      rw [eh] at o2
      intro F3 H3 w3
      obtain ⟨d, e, q⟩ := (Out.grow o2 w3).ofOpt
      exact slD_ok w3.sub ((r1.mono w2.ff).mono w3.ff) e q
    | exc c =>
      rw [eh] at o2
      exact o2
    | bad =>
      rw [eh] at o2
      exact o2.elim
  | exc c =>
    rw [el] at o1
    exact o1
  | bad =>
    rw [el] at o1
    exact o1.elim
def lenD : List D → Option D
  | [.lst xs] => some (.int xs.length)
  | [.tup xs] => some (.int xs.length)
  | [.scr xs] => some (.int xs.length)
  | [.dic ks _] => some (.int ks.length)
  | [.str z] => if z.length ≤ 1000000 then some (.int z.length) else none
  | _ => none
abbrev rLenQ (K : PySem.W.Frag) : List V → Hp → VK → Prop := fun xs H Q => ∃ p ys, xs = [.ref p] ∧ (SqL K H p ys ∨ SqT K H p ys) ∧ Q (.int ys.length) H
abbrev rLenS : List V → Hp → VK → Prop := fun xs H Q => ∃ z, xs = [.str z] ∧ z.length ≤ sizeLine ∧ Q (.int z.length) H
def rLenU (K : PySem.W.Frag) : List V → Hp → VK → Prop := fun xs H Q => rLenQ K xs H Q ∨ rLenS xs H Q ∨ rLenT xs H Q
theorem call_lenU : CallR X (.builtin "len") (rLenU X.K) := CallR.or call_len_seq (CallR.or call_len_str call_len_dT)
theorem cd_len : CD K mg (rLenU K) lenD := by
  intro F H xs as d Q s r e q
  match as, e with
  | [.lst ds], e =>
    cases e
    obtain ⟨v, t, rfl, r1, r2⟩ := reps_cons.mp r
    cases reps_nil.mp r2
    obtain ⟨p, vs, rfl, h1, h2⟩ := rep_lst.mp r1
    exact .inl ⟨p, vs, rfl, .inl (SqL.of (s _ _ h1)), by rw [← h2.length]; exact q _ F H (Wd.refl s) (rep_int.mpr rfl)⟩
  | [.tup ds], e =>
    cases e
    obtain ⟨v, t, rfl, r1, r2⟩ := reps_cons.mp r
    cases reps_nil.mp r2
    obtain ⟨p, vs, rfl, h1, h2⟩ := rep_tup.mp r1
    exact .inl ⟨p, vs, rfl, .inr (sqT_mono s h1), by rw [← h2.length]; exact q _ F H (Wd.refl s) (rep_int.mpr rfl)⟩
  | [.scr ds], e =>
    cases e
    obtain ⟨v, t, rfl, r1, r2⟩ := reps_cons.mp r
    cases reps_nil.mp r2
    obtain ⟨p, rfl, h1⟩ := rep_scr.mp r1
    exact .inl ⟨p, _, rfl, .inl (sqL_mono s h1), by rw [List.length_map]; exact q _ F H (Wd.refl s) (rep_int.mpr rfl)⟩
  | [.dic ks ds], e =>
    cases e
    obtain ⟨v, t, rfl, r1, r2⟩ := reps_cons.mp r
    cases reps_nil.mp r2
    obtain ⟨p, kvs, rfl, h1, h2, h3⟩ := rep_dic.mp r1
    exact .inr (.inr ⟨p, kvs, rfl, s _ _ h1, q _ F H (Wd.refl s) (rep_int.mpr (by rw [← h2, List.length_map]))⟩)
  | [.str z], e =>
    simp only [lenD] at e
    split at e
    · rename_i hl
      cases e
      obtain ⟨v, t, rfl, r1, r2⟩ := reps_cons.mp r
      cases reps_nil.mp r2
      exact .inr (.inl ⟨z, by rw [rep_str.mp r1], cap_le hl, q _ F H (Wd.refl s) (rep_int.mpr rfl)⟩)
    · cases e
  | [], e => cases e
  | [.non], e => cases e
  | [.bl _], e => cases e
  | [.int _], e => cases e
  | [.obj _ _ _], e => cases e
  | [.raw _], e => cases e
  | _ :: _ :: _, e => simp [lenD] at e
end
end Pu
/-! ## PuStmt -/
namespace Pu
open PySem PySem.Spec PyProof.Rows L2
/-! ### statements -/
inductive Fl where
  | nx (ρ : En)
  | rt (d : D)
  /-- a list of one's own is returned -/
  | ro (ds : List D)
  | bk (ρ : En)
  | ct (ρ : En)
  | exc (c : Str) (ρ : En)
  | bad
/-- the names' states within a def that began at F0, H0 -/
structure RlS (K : PySem.W.Frag) (mg : Str → Option Value) (F0 H0 F : Hp) (σ : Sg) (H : Hp) (ρ : En) : Prop where
  rl : Rl K mg F σ H ρ
  ff : Same F0 F
  hh : Same H0 H
  new : ∀ (a : Addr) (o : HO), F a = some o → F0 a = none → H0 a = none
  fresh : ∀ (i : Nat) (ds : List D) (o : Addr), ρ[i]? = some (.own ds) → σ[i]? = some (some (.ref o)) → H0 o = none
section
variable (K : PySem.W.Frag) (mg : Str → Option Value)
def OutS (W : WX) (F0 H0 : Hp) (E : Ends) : Fl → Prop
  | .nx ρ => ∀ F σ H, RlS K mg F0 H0 F σ H ρ → E.nx σ H
  | .bk ρ => ∀ F σ H, RlS K mg F0 H0 F σ H ρ → E.bk σ H
  | .ct ρ => ∀ F σ H, RlS K mg F0 H0 F σ H ρ → E.ct σ H
  | .rt d => ∀ v F H, Wd F0 H0 F H → Rep K mg F d v → E.rt v H
  | .ro ds => ∀ p vs F H, Wd F0 H0 F H → H0 p = none → F p = none → H p = some (.lst vs) → Reps K mg F ds vs → E.rt (.ref p) H
  | .exc c ρ => ∀ C F σ H, mg c = some (.ref C) → RlS K mg F0 H0 F σ H ρ → W (.ref C) none σ H
  | .bad => False
/-- a statement, a block -/
def DS (W : WX) (ts : TS) (g : En → Fl) : Prop := ∀ (F0 H0 F : Hp) (σ : Sg) (H : Hp) (ρ : En) (E : Ends), RlS K mg F0 H0 F σ H ρ → OutS K mg W F0 H0 E (g ρ) → ts E σ H
/-- a target -/
def DG (t : TG) (g : D → En → Option En) : Prop := ∀ (F0 H0 F : Hp) (σ : Sg) (H : Hp) (ρ ρ' : En) (v : V) (d : D) (Q : Sg → Hp → Prop), RlS K mg F0 H0 F σ H ρ → Rep K mg F d v → g d ρ = some ρ' → (∀ F' σ' H', RlS K mg F0 H0 F' σ' H' ρ' → Q σ' H') → t v σ H Q
def DGs (t : TGs) (g : List D → En → Option En) : Prop := ∀ (F0 H0 F : Hp) (σ : Sg) (H : Hp) (ρ ρ' : En) (vs : List V) (ds : List D) (Q : Sg → Hp → Prop), RlS K mg F0 H0 F σ H ρ → Reps K mg F ds vs → g ds ρ = some ρ' → (∀ F' σ' H', RlS K mg F0 H0 F' σ' H' ρ' → Q σ' H') → t vs σ H Q
/-- what is walked: the items are xs, whatever has been settled beside -/
structure Walks (J : It) (F : Hp) (xs : List D) : Prop where
  go : ∀ (F' H' : Hp) (i : Nat), Same F F' → Same F' H' → i < xs.length → J.go i H' ∧ ∀ x H2, J.yld i H' x H2 → ∃ F2 d, Wd F' H' F2 H2 ∧ xs[i]? = some d ∧ Rep K mg F2 d x
  stop : ∀ (F' H' : Hp) (i : Nat), Same F F' → Same F' H' → xs.length ≤ i → J.stop i H'
def DI (W : WX) (wi : TI) (f : En → Res (List D)) : Prop := ∀ (F : Hp) (σ : Sg) (H : Hp) (ρ : En) (R : It → Hp → Prop), Rl K mg F σ H ρ →
  (match f ρ with
    | .ok xs => ∀ J F' H', Wd F H F' H' → Walks K mg J F' xs → R J H'
    | .exc c => ∀ C F' H', mg c = some (.ref C) → Wd F H F' H' → W (.ref C) none σ H'
    | .bad => False) → wi σ H R
/-- an expression that makes a new list, not settled yet -/
def OutN (W : WX) (F H : Hp) (σ : Sg) (Q : VK) : Res (List D) → Prop
  | .ok ds => ∀ p vs F' H', Wd F H F' H' → H p = none → F' p = none → H' p = some (.lst vs) → Reps K mg F' ds vs → Q (.ref p) H'
  | .exc c => ∀ C F' H', mg c = some (.ref C) → Wd F H F' H' → W (.ref C) none σ H'
  | .bad => False
def DN (W : WX) (te : TE) (f : En → Res (List D)) : Prop := ∀ (F : Hp) (σ : Sg) (H : Hp) (ρ : En) (Q : VK), Rl K mg F σ H ρ → OutN K mg W F H σ Q (f ρ) → te σ H Q
end
section
variable {K : PySem.W.Frag} {mg : Str → Option Value} {W : WX} {F0 H0 F H : Hp} {σ : Sg} {ρ : En} {E : Ends}
theorem RlS.grow {F1 H1 : Hp} (r : RlS K mg F0 H0 F σ H ρ) (w : Wd F H F1 H1) : RlS K mg F0 H0 F1 σ H1 ρ := by
  refine ⟨r.rl.mono w, r.ff.trans w.ff, r.hh.trans w.hh, fun a o h n => ?_, r.fresh⟩
  cases e : F a with
  | some u => exact r.new a u e n
  | none => exact r.hh.free (w.new a o h e)
theorem RlS.wd (r : RlS K mg F0 H0 F σ H ρ) : Wd F0 H0 F H := ⟨r.ff, r.hh, r.new, r.rl.sub⟩
theorem RlS.start (r : Rl K mg F σ H ρ) (h : ∀ (i : Nat) (ds : List D), ρ[i]? ≠ some (.own ds)) : RlS K mg F H F σ H ρ :=
  ⟨r, Same.refl F, Same.refl H, fun a o e n => (by rw [n] at e; cases e), fun i ds o e => absurd e (h i ds)⟩
/-- the same from a later base -/
theorem RlS.rebase {F1 : Hp} {σ1 : Sg} {H1 : Hp} {ρ1 : En} (r : RlS K mg F0 H0 F1 σ1 H1 ρ1) (q : RlS K mg F1 H0 F σ H ρ) : RlS K mg F0 H0 F σ H ρ := by
  refine ⟨q.rl, r.ff.trans q.ff, q.hh, fun a o h n => ?_, q.fresh⟩
  cases e : F1 a with
  | some u => exact r.new a u e n
  | none => exact q.new a o h e
theorem RlS.here (r : RlS K mg F0 H0 F σ H ρ) : RlS K mg F H0 F σ H ρ := ⟨r.rl, Same.refl F, r.hh, fun a o e n => (by rw [n] at e; cases e), r.fresh⟩
theorem OutS.rebase {F1 : Hp} {σ1 : Sg} {H1 : Hp} {ρ1 : En} {x : Fl} (r : RlS K mg F0 H0 F1 σ1 H1 ρ1) (o : OutS K mg W F0 H0 E x) : OutS K mg W F1 H0 E x := by
  cases x with
  | nx ρ => exact fun F σ H q => o F σ H (r.rebase q)
  | bk ρ => exact fun F σ H q => o F σ H (r.rebase q)
  | ct ρ => exact fun F σ H q => o F σ H (r.rebase q)
  | rt d =>
    refine fun v F H q rp => o v F H ⟨r.ff.trans q.ff, q.hh, fun a u h n => ?_, q.sub⟩ rp
    cases e : F1 a with
    | some u => exact r.new a u e n
    | none => exact q.new a u h e
  | ro ds =>
    refine fun p vs F H q n0 n1 hp rp => o p vs F H ⟨r.ff.trans q.ff, q.hh, fun a u h n => ?_, q.sub⟩ n0 n1 hp rp
    cases e : F1 a with
    | some u => exact r.new a u e n
    | none => exact q.new a u h e
  | exc c ρ => exact fun C F σ H hc q => o C F σ H hc (r.rebase q)
  | bad => exact o.elim
/-- an expression within a statement -/
theorem DE.stmt {te : TE} {f : En → Res D} {P : VK} (h : DE K mg W te f) (R : RlS K mg F0 H0 F σ H ρ) (k : match f ρ with
    | .ok d => ∀ v F1 H1, RlS K mg F0 H0 F1 σ H1 ρ → Rep K mg F1 d v → P v H1
    | .exc c => ∀ C F1 H1, mg c = some (.ref C) → RlS K mg F0 H0 F1 σ H1 ρ → W (.ref C) none σ H1
    | .bad => False) : te σ H P := by
  refine h F σ H ρ P R.rl ?_
  cases e : f ρ with
  | ok d =>
    rw [e] at k
    exact fun v F1 H1 w r => k v F1 H1 (R.grow w) r
  | exc c =>
    rw [e] at k
    exact fun C F1 H1 hc w => k C F1 H1 hc (R.grow w)
  | bad =>
    rw [e] at k
    exact k.elim
theorem DT.stmt {tt : TT} {f : En → Res Bool} {P : Bool → Hp → Prop} (h : DT K mg W tt f) (R : RlS K mg F0 H0 F σ H ρ) (k : match f ρ with
    | .ok b => ∀ F1 H1, RlS K mg F0 H0 F1 σ H1 ρ → P b H1
    | .exc c => ∀ C F1 H1, mg c = some (.ref C) → RlS K mg F0 H0 F1 σ H1 ρ → W (.ref C) none σ H1
    | .bad => False) : tt σ H P := by
  refine h F σ H ρ P R.rl ?_
  cases e : f ρ with
  | ok d =>
    rw [e] at k
    exact fun F1 H1 w => k F1 H1 (R.grow w)
  | exc c =>
    rw [e] at k
    exact fun C F1 H1 hc w => k C F1 H1 hc (R.grow w)
  | bad =>
    rw [e] at k
    exact k.elim
def onOk {α : Type} (x : Res α) (ρ : En) (f : α → Fl) : Fl := match x with
  | .ok a => f a
  | .exc c => .exc c ρ
  | .bad => .bad
theorem DE.on {te : TE} {f : En → Res D} {g : D → Fl} {P : VK} (h : DE K mg W te f) (R : RlS K mg F0 H0 F σ H ρ) (o : OutS K mg W F0 H0 E (onOk (f ρ) ρ g))
    (k : ∀ d v F1 H1, RlS K mg F0 H0 F1 σ H1 ρ → Rep K mg F1 d v → OutS K mg W F0 H0 E (g d) → P v H1) : te σ H P := by
  refine h.stmt R ?_
  cases e : f ρ with
  | ok d =>
    rw [e] at o
    exact fun v F1 H1 r q => k d v F1 H1 r q o
  | exc c =>
    rw [e] at o
    exact fun C F1 H1 hc r => o C F1 σ H1 hc r
  | bad =>
    rw [e] at o
    exact o.elim
theorem DT.on {tt : TT} {f : En → Res Bool} {g : Bool → Fl} {P : Bool → Hp → Prop} (h : DT K mg W tt f) (R : RlS K mg F0 H0 F σ H ρ) (o : OutS K mg W F0 H0 E (onOk (f ρ) ρ g))
    (k : ∀ b F1 H1, RlS K mg F0 H0 F1 σ H1 ρ → OutS K mg W F0 H0 E (g b) → P b H1) : tt σ H P := by
  refine h.stmt R ?_
  cases e : f ρ with
  | ok d =>
    rw [e] at o
    exact fun F1 H1 r => k d F1 H1 r o
  | exc c =>
    rw [e] at o
    exact fun C F1 H1 hc r => o C F1 σ H1 hc r
  | bad =>
    rw [e] at o
    exact o.elim
theorem DN.on {te : TE} {f : En → Res (List D)} {g : List D → Fl} {P : VK} (h : DN K mg W te f) (R : RlS K mg F0 H0 F σ H ρ) (o : OutS K mg W F0 H0 E (onOk (f ρ) ρ g))
    (k : ∀ ds p vs F1 H1, RlS K mg F0 H0 F1 σ H1 ρ → H p = none → F1 p = none → H1 p = some (.lst vs) → Reps K mg F1 ds vs → (∀ (i : Nat) es, ρ[i]? = some (.own es) → σ[i]? ≠ some (some (.ref p))) → OutS K mg W F0 H0 E (g ds) → P (.ref p) H1) : te σ H P := by
  refine h F σ H ρ P R.rl ?_
  cases e : f ρ with
  | ok d =>
    rw [e] at o
    refine fun p vs F1 H1 w n1 n2 h1 r => k d p vs F1 H1 (R.grow w) n1 n2 h1 r (fun i es z1 z2 => ?_) o
    obtain ⟨o', vs', g1, _, g3, _⟩ := R.rl.own z1
    rw [z2] at g1
    cases g1
    rw [n1] at g3
    cases g3
  | exc c =>
    rw [e] at o
    exact fun C F1 H1 hc w => o C F1 σ H1 hc (R.grow w)
  | bad =>
    rw [e] at o
    exact o.elim

/-! ### small statements -/
def sSeq (f g : En → Fl) : En → Fl := fun ρ => match f ρ with
  | .nx ρ' => g ρ'
  | x => x
def sNext : En → Fl := fun ρ => .nx ρ
def sBreak : En → Fl := fun ρ => .bk ρ
def sCont : En → Fl := fun ρ => .ct ρ
def sSet (i : Nat) (f : En → Res D) : En → Fl := fun ρ => onOk (f ρ) ρ fun d => .nx (ρ.set i (.val d))
def sOwn (i : Nat) (f : En → Res (List D)) : En → Fl := fun ρ => onOk (f ρ) ρ fun ds => .nx (ρ.set i (.own ds))
def sDrop (f : En → Res D) : En → Fl := fun ρ => onOk (f ρ) ρ fun _ => .nx ρ
def sRet (f : En → Res D) : En → Fl := fun ρ => onOk (f ρ) ρ fun d => .rt d
def sRetN : En → Fl := fun _ => .rt .non
def sIf (t : En → Res Bool) (f g : En → Fl) : En → Fl := fun ρ => onOk (t ρ) ρ fun b => if b = true then f ρ else g ρ
def sAsgT (g : D → En → Option En) (f : En → Res D) : En → Fl := fun ρ => onOk (f ρ) ρ fun d => match g d ρ with
  | some ρ' => .nx ρ'
  | none => .bad
def sBad : En → Fl := fun _ => .bad
theorem ds_bad {ts : TS} : DS K mg W ts sBad := fun F0 H0 F σ H ρ E R o => o.elim
theorem ds_seq {t u : TS} {f g : En → Fl} (h : DS K mg W t f) (h' : DS K mg W u g) : DS K mg W (tSeq t u) (sSeq f g) := by
  intro F0 H0 F σ H ρ E R o
  refine h F0 H0 F σ H ρ _ R ?_
  unfold sSeq at o
  cases e : f ρ with
  | nx ρ' =>
    rw [e] at o
    exact fun F1 σ1 H1 R1 => h' F0 H0 F1 σ1 H1 ρ' E R1 o
  | rt d =>
    rw [e] at o
    exact o
  | ro d =>
    rw [e] at o
    exact o
  | bk d =>
    rw [e] at o
    exact o
  | ct d =>
    rw [e] at o
    exact o
  | exc c d =>
    rw [e] at o
    exact o
  | bad =>
    rw [e] at o
    exact o.elim
theorem ds_next : DS K mg W tNext sNext := fun F0 H0 F σ H ρ E R o => o F σ H R
theorem ds_break : DS K mg W tBreak sBreak := fun F0 H0 F σ H ρ E R o => o F σ H R
theorem ds_cont : DS K mg W tCont sCont := fun F0 H0 F σ H ρ E R o => o F σ H R
theorem set_ne_own {i j : Nat} {d : D} {ds : List D} (h : (ρ.set i (.val d))[j]? = some (.own ds)) : i ≠ j ∧ ρ[j]? = some (.own ds) := by
  by_cases hj : i = j
  · subst hj
    by_cases hl : i < ρ.length
    · rw [List.getElem?_set_self hl] at h
      cases h
    · rw [List.getElem?_eq_none (by rw [List.length_set]; omega)] at h
      cases h
  · rw [List.getElem?_set_ne hj] at h
    exact ⟨hj, h⟩
theorem RlS.set {i : Nat} {d : D} {v : V} (R : RlS K mg F0 H0 F σ H ρ) (r : Rep K mg F d v) : RlS K mg F0 H0 F (σ.set i (some v)) H (ρ.set i (.val d)) := by
  refine ⟨R.rl.set r, R.ff, R.hh, R.new, fun j ds o e q => ?_⟩
  obtain ⟨hj, e'⟩ := set_ne_own e
  rw [List.getElem?_set_ne hj] at q
  exact R.fresh j ds o e' q
theorem ds_set {i : Nat} {te : TE} {f : En → Res D} (h : DE K mg W te f) : DS K mg W (tAsg te (gName i)) (sSet i f) := by
  intro F0 H0 F σ H ρ E R o
  exact h.on R o fun d v F1 H1 R1 r o1 => o1 F1 _ H1 (R1.set r)
theorem ds_drop {te : TE} {f : En → Res D} (h : DE K mg W te f) : DS K mg W (tDrop te) (sDrop f) := by
  intro F0 H0 F σ H ρ E R o
  exact h.on R o fun d v F1 H1 R1 r o1 => o1 F1 _ H1 R1
theorem ds_ret {te : TE} {f : En → Res D} (h : DE K mg W te f) : DS K mg W (tRet te) (sRet f) := by
  intro F0 H0 F σ H ρ E R o
  exact h.on R o fun d v F1 H1 R1 r o1 => o1 v F1 H1 R1.wd r
theorem ds_retN : DS K mg W tRetN sRetN := by
  intro F0 H0 F σ H ρ E R o
  exact o .non F H R.wd (rep_non.mpr rfl)
theorem ds_if {t : TT} {a b : TS} {c : En → Res Bool} {f g : En → Fl} (h : DT K mg W t c) (ha : DS K mg W a f) (hb : DS K mg W b g) : DS K mg W (tIfS t a b) (sIf c f g) := by
  intro F0 H0 F σ H ρ E R o
  refine h.on R o fun k F1 H1 R1 o1 => ?_
  cases k with
  | true => exact iteT (ha F0 H0 F1 σ H1 ρ E R1 o1)
  | false => exact iteF (hb F0 H0 F1 σ H1 ρ E R1 o1)
/-- targets -/
def gN (i : Nat) : D → En → Option En := fun d ρ => some (ρ.set i (.val d))
def gsNil : List D → En → Option En := fun ds ρ => match ds with
  | [] => some ρ
  | _ => none
def gsCons (g : D → En → Option En) (gs : List D → En → Option En) : List D → En → Option En := fun ds ρ => match ds with
  | d :: r => match g d ρ with
    | some ρ' => gs r ρ'
    | none => none
  | [] => none
def gT (n : Nat) (gs : List D → En → Option En) : D → En → Option En := fun d ρ => match d with
  | .tup ds => if ds.length = n then gs ds ρ else none
  | _ => none
theorem dg_name {i : Nat} : DG K mg (gName i) (gN i) := by
  intro F0 H0 F σ H ρ ρ' v d Q R r e k
  cases e
  exact k F _ H (R.set r)
theorem dgs_nil : DGs K mg gNil gsNil := by
  intro F0 H0 F σ H ρ ρ' vs ds Q R r e k
  cases ds with
  | nil =>
    cases e
    exact ⟨reps_nil.mp r, k F σ H R⟩
  | cons d ds => cases e
theorem dgs_cons {t : TG} {u : TGs} {g : D → En → Option En} {gs : List D → En → Option En} (h : DG K mg t g) (h' : DGs K mg u gs) : DGs K mg (gCons t u) (gsCons g gs) := by
  intro F0 H0 F σ H ρ ρ' vs ds Q R r e k
  cases ds with
  | nil => cases e
  | cons d ds =>
    obtain ⟨v, vr, rfl, r1, r2⟩ := reps_cons.mp r
    simp only [gsCons] at e
    cases e1 : g d ρ with
    | none =>
      rw [e1] at e
      cases e
    | some ρ1 =>
      rw [e1] at e
      refine ⟨v, vr, rfl, h F H0 F σ H ρ ρ1 v d _ R.here r1 e1 fun F1 σ1 H1 R1 => ?_⟩
      refine h' F H0 F1 σ1 H1 ρ1 ρ' vr ds _ R1 (r2.mono R1.ff) e fun F2 σ2 H2 R2 => ?_
      exact k F2 σ2 H2 (R.rebase R2)
theorem dg_tup {n : Nat} {u : TGs} {gs : List D → En → Option En} (h : DGs K mg u gs) : DG K mg (gTup K n u) (gT n gs) := by
  intro F0 H0 F σ H ρ ρ' v d Q R r e k
  cases d with
  | tup ds =>
    simp only [gT] at e
    split at e
    · rename_i hl
      obtain ⟨a, vs, rfl, h1, h2⟩ := rep_tup.mp r
      exact ⟨a, vs, rfl, sqT_mono R.rl.sub h1, by rw [← h2.length]; exact hl, h F0 H0 F σ H ρ ρ' vs ds Q R h2 e k⟩
    · cases e
  | _ => cases e
theorem ds_asgT {te : TE} {t : TG} {f : En → Res D} {g : D → En → Option En} (h : DE K mg W te f) (hg : DG K mg t g) : DS K mg W (tAsg te t) (sAsgT g f) := by
  intro F0 H0 F σ H ρ E R o
  refine h.on R o fun d v F1 H1 R1 r o1 => ?_
  cases e : g d ρ with
  | none =>
    rw [e] at o1
    exact o1.elim
  | some ρ' =>
    rw [e] at o1
    exact hg F0 H0 F1 σ H1 ρ ρ' v d _ R1 r e o1

/-! ### lists of one's own -/
def nLst (fa : En → Res (List D)) : En → Res (List D) := fun ρ => (fa ρ).bind fun r => if r.length ≤ 1000000 then .ok r else .bad
theorem dn_lst {ta : TA} {fa : En → Res (List D)} (ha : DA K mg W ta fa) : DN K mg W (tLst ta) (nLst fa) := by
  intro F σ H ρ Q R o
  unfold nLst at o
  refine ha F σ H ρ _ R ?_
  cases e : fa ρ with
  | ok ds =>
    simp only [e, Res.bind] at o
    intro vs F1 H1 w r
    split at o
    · rename_i hl
      refine ⟨cap_le (by rw [← r.length]; exact hl), fun p hp => ?_⟩
      have w2 := Wd.lay' (o := .lst vs) w.sub hp
      exact o p vs F1 _ (w.trans w2) (w.hh.free hp) (noneOf w.sub hp) upd_same r
    · exact o.elim
  | exc c =>
    rw [e] at o
    exact o
  | bad =>
    rw [e] at o
    exact o.elim
/-- a new list, settled at once -/
def dNew (f : En → Res (List D)) : En → Res D := fun ρ => (f ρ).bind fun ds => .ok (.lst ds)
theorem de_new {te : TE} {f : En → Res (List D)} (h : DN K mg W te f) : DE K mg W te (dNew f) := by
  intro F σ H ρ Q R o
  unfold dNew at o
  refine h F σ H ρ Q R ?_
  cases e : f ρ with
  | ok ds =>
    simp only [e, Res.bind] at o
    intro p vs F1 H1 w n1 n2 h1 r
    have ff : Same F1 (upd F1 p (.lst vs)) := same_new n2
    refine o (.ref p) (upd F1 p (.lst vs)) H1 ⟨w.ff.trans ff, w.hh, fun a u h n => ?_, fun a u h => ?_⟩ (rep_lst.mpr ⟨p, vs, rfl, upd_same, r.mono ff⟩)
    · by_cases ha : a = p
      · rw [ha]; exact n1
      · rw [upd_ne ha] at h
        exact w.new a u h n
    · by_cases ha : a = p
      · subst ha
        rw [upd_same] at h
        cases h
        exact h1
      · rw [upd_ne ha] at h
        exact w.sub a u h
  | exc c =>
    rw [e] at o
    exact o
  | bad =>
    rw [e] at o
    exact o.elim
theorem Rl.putOwn {i : Nat} {ds : List D} {p : Addr} {vs : List V} (r : Rl K mg F σ H ρ) (n2 : F p = none) (h1 : H p = some (.lst vs)) (h : Reps K mg F ds vs) (hno : ∀ (i : Nat) es, ρ[i]? = some (.own es) → σ[i]? ≠ some (some (.ref p))) :
    Rl K mg F (σ.set i (some (.ref p))) H (ρ.set i (.own ds)) := by
  refine ⟨r.sub, by rw [List.length_set, List.length_set, r.len], fun j s e => ?_, fun j k ds' es o e1 e2 e3 e4 => ?_⟩
  · by_cases hj : i = j
    · subst hj
      by_cases hl : i < ρ.length
      · rw [List.getElem?_set_self hl] at e
        cases e
        exact ⟨p, vs, by rw [List.getElem?_set_self (by rw [← r.len]; exact hl)], n2, h1, h⟩
      · rw [List.getElem?_eq_none (by rw [List.length_set]; omega)] at e
        cases e
    · rw [List.getElem?_set_ne hj] at e
      have q := r.slot j s e
      cases s with
      | emp => exact trivial
      | val d' =>
        obtain ⟨u, h1, h2⟩ := q
        exact ⟨u, by rw [List.getElem?_set_ne hj]; exact h1, h2⟩
      | own ds =>
        obtain ⟨o, vs, h1, h2⟩ := q
        exact ⟨o, vs, by rw [List.getElem?_set_ne hj]; exact h1, h2⟩
  · have hl : ∀ {k : Nat} {s : S}, (ρ.set i (.own ds))[k]? = some s → k < ρ.length := fun {k s} e => by
      have := (List.getElem?_eq_some_iff.mp e).1
      rwa [List.length_set] at this
    by_cases h1 : i = j
    · by_cases h2 : i = k
      · rw [← h1, ← h2]
      · rw [List.getElem?_set_ne h2] at e2 e4
        rw [h1, List.getElem?_set_self (by rw [← r.len]; exact hl e1)] at e3
        cases e3
        exact absurd e4 (hno k _ e2)
    · rw [List.getElem?_set_ne h1] at e1 e3
      by_cases h2 : i = k
      · rw [h2, List.getElem?_set_self (by rw [← r.len]; exact hl e2)] at e4
        cases e4
        exact absurd e3 (hno j _ e1)
      · rw [List.getElem?_set_ne h2] at e2 e4
        exact r.uniq j k ds' es o e1 e2 e3 e4
theorem ds_own {i : Nat} {te : TE} {f : En → Res (List D)} (h : DN K mg W te f) : DS K mg W (tAsg te (gName i)) (sOwn i f) := by
  intro F0 H0 F σ H ρ E R o
  refine h.on R o fun ds p vs F1 H1 R1 n1 n2 h1 r hno o1 => o1 F1 _ H1 ⟨R1.rl.putOwn n2 h1 r hno, R1.ff, R1.hh, R1.new, fun j es q e1 e2 => ?_⟩
  by_cases hj : i = j
  · subst hj
    have hl : i < ρ.length := by
      have := (List.getElem?_eq_some_iff.mp e1).1
      rwa [List.length_set] at this
    rw [List.getElem?_set_self (by rw [← R.rl.len]; exact hl)] at e2
    cases e2
    exact R.hh.free n1
  · rw [List.getElem?_set_ne hj] at e1 e2
    exact R.fresh j es q e1 e2
/-- lists of one's own, settled: is -/
def frz1 (i : Nat) (ρ : En) : En := match ρ[i]? with
  | some (.own ds) => ρ.set i (.val (.lst ds))
  | _ => ρ
def frzs : List Nat → En → En
  | [], ρ => ρ
  | i :: is, ρ => frzs is (frz1 i ρ)
theorem RlS.frz1 (i : Nat) (R : RlS K mg F0 H0 F σ H ρ) : ∃ F', Same F F' ∧ RlS K mg F0 H0 F' σ H (frz1 i ρ) := by
  unfold Pu.frz1
  split
  · rename_i ds e
    obtain ⟨o, vs, h1, h2, h3, rp, r'⟩ := R.rl.freeze e
    have ff : Same F (upd F o (.lst vs)) := same_new h2
    refine ⟨_, ff, r', R.ff.trans ff, R.hh, fun a u h n => ?_, fun j es p e1 e2 => ?_⟩
    · by_cases ha : a = o
      · rw [ha]; exact R.fresh i ds o e h3
      · rw [upd_ne ha] at h
        exact R.new a u h n
    · exact R.fresh j es p (set_ne_own e1).2 e2
  · exact ⟨F, Same.refl F, R⟩
theorem RlS.frzs : ∀ (is : List Nat) {F : Hp} {ρ : En}, RlS K mg F0 H0 F σ H ρ → ∃ F', Same F F' ∧ RlS K mg F0 H0 F' σ H (frzs is ρ)
  | [], F, _, R => ⟨F, Same.refl F, R⟩
  | i :: is, F, ρ, R => by
    obtain ⟨F1, s1, R1⟩ := R.frz1 i
    obtain ⟨F2, s2, R2⟩ := RlS.frzs is R1
    exact ⟨F2, s1.trans s2, R2⟩
theorem Rl.frz1 (i : Nat) (R : Rl K mg F σ H ρ) : ∃ F', Same F F' ∧ Rl K mg F' σ H (Pu.frz1 i ρ) := by
  unfold Pu.frz1
  split
  · rename_i ds e
    obtain ⟨o, vs, h1, h2, h3, rp, r'⟩ := R.freeze e
    exact ⟨_, same_new h2, r'⟩
  · exact ⟨F, Same.refl F, R⟩
theorem Rl.frzs : ∀ (is : List Nat) {F : Hp} {ρ : En}, Rl K mg F σ H ρ → ∃ F', Same F F' ∧ Rl K mg F' σ H (Pu.frzs is ρ)
  | [], F, _, R => ⟨F, Same.refl F, R⟩
  | i :: is, F, ρ, R => by
    obtain ⟨F1, s1, R1⟩ := R.frz1 i
    obtain ⟨F2, s2, R2⟩ := Rl.frzs is R1
    exact ⟨F2, s1.trans s2, R2⟩
def sFrz (is : List Nat) (g : En → Fl) : En → Fl := fun ρ => g (frzs is ρ)
theorem ds_frz {is : List Nat} {ts : TS} {g : En → Fl} (h : DS K mg W ts g) : DS K mg W ts (sFrz is g) := by
  intro F0 H0 F σ H ρ E R o
  obtain ⟨F', s, R'⟩ := RlS.frzs is R
  exact h F0 H0 F' σ H _ E R' o
/-- looked at as settled, in a test: what is one's own stays so -/
def vT (is : List Nat) (f : En → Res Bool) : En → Res Bool := fun ρ => f (frzs is ρ)
theorem Wd.under {F F1 H F' H' : Hp} (s : Same F F1) (w : Wd F1 H F' H') : Wd F H F H' :=
  ⟨Same.refl F, w.hh, fun a u h n => (by rw [n] at h; cases h), (s.trans w.ff).trans w.sub⟩
theorem dt_view {is : List Nat} {tt : TT} {f : En → Res Bool} (h : DT K mg W tt f) : DT K mg W tt (vT is f) := by
  intro F σ H ρ Q R o
  obtain ⟨F1, s, R1⟩ := Rl.frzs is R
  refine h F1 σ H _ Q R1 ?_
  unfold vT at o
  cases e : f (frzs is ρ) with
  | ok b =>
    rw [e] at o
    exact fun F' H' w => o F H' (w.under s)
  | exc c =>
    rw [e] at o
    exact fun C F' H' hc w => o C F H' hc (w.under s)
  | bad =>
    rw [e] at o
    exact o.elim
def isFlat : D → Bool
  | .non => true
  | .bl _ => true
  | .int _ => true
  | .str _ => true
  | _ => false
theorem flat_rep {F' : Hp} {d : D} {v : V} (hf : isFlat d = true) (h : Rep K mg F' d v) : Rep K mg F d v := by
  cases d <;> simp only [isFlat] at hf <;> try (cases hf; done)
  · exact rep_non.mpr (rep_non.mp h)
  · exact rep_bl.mpr (rep_bl.mp h)
  · exact rep_int.mpr (rep_int.mp h)
  · exact rep_str.mpr (rep_str.mp h)
/-- .. in an expression whose value is flat -/
def vE (is : List Nat) (f : En → Res D) : En → Res D := fun ρ => (f (frzs is ρ)).bind fun d => if isFlat d = true then .ok d else .bad
theorem de_view {is : List Nat} {te : TE} {f : En → Res D} (h : DE K mg W te f) : DE K mg W te (vE is f) := by
  intro F σ H ρ Q R o
  obtain ⟨F1, s, R1⟩ := Rl.frzs is R
  refine h F1 σ H _ Q R1 ?_
  unfold vE at o
  cases e : f (frzs is ρ) with
  | ok d =>
    simp only [e, Res.bind] at o
    split at o
    · rename_i hf
      exact fun v F' H' w r => o v F H' (w.under s) (flat_rep hf r)
    · exact o.elim
  | exc c =>
    rw [e] at o
    exact fun C F' H' hc w => o C F H' hc (w.under s)
  | bad =>
    rw [e] at o
    exact o.elim
/-- an item of a name's list, its length: one's own or settled -/
def dIxV (i : Nat) (f : En → Res D) : En → Res D := fun ρ => match ρ[i]? with
  | some (.val d) => (f ρ).bind fun k => ofOpt (ixD d k)
  | some (.own ds) => (f ρ).bind fun k => ofOpt (ixD (.lst ds) k)
  | _ => .bad
theorem de_ixV {i : Nat} {tb : TE} {f : En → Res D} (h : DE K mg W tb f) : DE K mg W (tOp (rIx K) (tVar i) tb) (dIxV i f) := by
  intro F σ H ρ Q R o
  unfold dIxV at o
  split at o
  · rename_i d e
    obtain ⟨v, h1, h2⟩ := R.val e
    refine ⟨v, h1, h.then R o fun k y F1 H1 w r o1 => ?_⟩
    obtain ⟨d', e', q⟩ := o1.ofOpt
    exact od_ix F1 H1 v y d k d' Q w.sub (h2.mono w.ff) r e' q
  · rename_i ds e
    obtain ⟨p, vs, h1, h2, h3, h4⟩ := R.own e
    refine ⟨.ref p, h1, h.then R o fun k y F1 H1 w r o1 => ?_⟩
    obtain ⟨d', e', q⟩ := o1.ofOpt
    cases k <;> simp only [ixD] at e' <;> try (cases e'; done)
    obtain ⟨u, g1, g2⟩ := (h4.mono w.ff).at e'
    exact .inl ⟨p, vs, _, u, rfl, rep_int.mp r, SqL.of (w.hh _ _ h3), g1, q _ F1 H1 (Wd.refl w.sub) g2⟩
  · exact o.elim
def dLenV (i : Nat) : En → Res D := fun ρ => match ρ[i]? with
  | some (.val d) => ofOpt (lenD [d])
  | some (.own ds) => .ok (.int ds.length)
  | _ => .bad
theorem de_lenV {i : Nat} : DE K mg W (tCB (rLenU K) (tCons (tVar i) tNil)) (dLenV i) := by
  intro F σ H ρ Q R o
  unfold dLenV at o
  split at o
  · rename_i d e
    obtain ⟨v, h1, h2⟩ := R.val e
    obtain ⟨d', e', q⟩ := o.ofOpt
    exact ⟨v, h1, cd_len F H [v] [d] d' Q R.sub (reps_one h2) e' q⟩
  · rename_i ds e
    obtain ⟨p, vs, h1, h2, h3, h4⟩ := R.own e
    refine ⟨.ref p, h1, .inl ⟨p, vs, rfl, .inl (SqL.of h3), ?_⟩⟩
    rw [← h4.length]
    exact o _ F H (Wd.refl R.sub) (rep_int.mpr rfl)
  · exact o.elim
/-- x.append(e), x.extend(e), x[k] = e, x.clear(), x.reverse() -/
def onOwn (i : Nat) (ρ : En) (g : List D → Fl) : Fl := match ρ[i]? with
  | some (.own ds) => g ds
  | _ => .bad
def sApp (i : Nat) (f : En → Res D) : En → Fl := fun ρ => onOwn i ρ fun ds => onOk (f ρ) ρ fun d => if ds.length < 1000000 then .nx (ρ.set i (.own (ds ++ [d]))) else .bad
theorem RlS.write {i : Nat} {ds es : List D} {o : Addr} {ws : List V} (R : RlS K mg F0 H0 F σ H ρ) (h : ρ[i]? = some (.own ds)) (hs : σ[i]? = some (some (.ref o))) (q : Reps K mg F es ws) : RlS K mg F0 H0 F σ (upd H o (.lst ws)) (ρ.set i (.own es)) := by
  have n0 := R.fresh i ds o h hs
  refine ⟨R.rl.write h hs q, R.ff, fun a u e => ?_, R.new, fun j es' p e1 e2 => ?_⟩
  · rw [upd_ne (ne_of_none e n0)]
    exact R.hh a u e
  · by_cases hj : i = j
    · subst hj
      rw [hs] at e2
      cases e2
      exact n0
    · rw [List.getElem?_set_ne hj] at e1
      exact R.fresh j es' p e1 e2
theorem ds_app {i : Nat} {te : TE} {f : En → Res D} (h : DE K mg W te f) : DS K mg W (tDrop (tBM K "list" rAppend (tVar i) (tCons te tNil))) (sApp i f) := by
  intro F0 H0 F σ H ρ E R o
  unfold sApp onOwn at o
  split at o
  · rename_i ds e
    obtain ⟨p, vs, h1, h2, h3, h4⟩ := R.rl.own e
    refine ⟨.ref p, h1, .inl ⟨rfl, _, SqL.of h3⟩, h.on R o fun d v F1 H1 R1 r o1 => ?_⟩
    obtain ⟨p', vs1, g1, g2, g3, g4⟩ := R1.rl.own e
    rw [h1] at g1
    cases g1
    split at o1
    · rename_i hl
      refine ⟨p, vs1, v, rfl, rfl, g3, cap_lt (by rw [← g4.length]; exact hl), ?_⟩
      exact o1 F1 σ _ (R1.write e h1 (g4.append (reps_one r)))
    · exact o1.elim
  · exact o.elim
def sExt (i : Nat) (f : En → Res D) : En → Fl := fun ρ => onOwn i ρ fun ds => onOk (f ρ) ρ fun d => match d with
  | .lst es => if ds.length + es.length ≤ 1000000 then .nx (ρ.set i (.own (ds ++ es))) else .bad
  | _ => .bad
theorem ds_ext {i : Nat} {te : TE} {f : En → Res D} (h : DE K mg W te f) : DS K mg W (tDrop (tBM K "list" rExtend (tVar i) (tCons te tNil))) (sExt i f) := by
  intro F0 H0 F σ H ρ E R o
  unfold sExt onOwn at o
  split at o
  · rename_i ds e
    obtain ⟨p, vs, h1, h2, h3, h4⟩ := R.rl.own e
    refine ⟨.ref p, h1, .inl ⟨rfl, _, SqL.of h3⟩, h.on R o fun d v F1 H1 R1 r o1 => ?_⟩
    obtain ⟨p', vs1, g1, g2, g3, g4⟩ := R1.rl.own e
    rw [h1] at g1
    cases g1
    cases d with
    | lst es =>
      simp only at o1
      split at o1
      · rename_i hl
        obtain ⟨b, ws, rfl, q1, q2⟩ := rep_lst.mp r
        refine ⟨p, b, vs1, ws, rfl, rfl, g3, R1.rl.sub _ _ q1, cap_le (by rw [← g4.length, ← q2.length]; exact hl), ?_⟩
        exact o1 F1 σ _ (R1.write e h1 (g4.append q2))
      · exact o1.elim
    | _ => exact o1.elim
  · exact o.elim
def sSetIx (i : Nat) (fk f : En → Res D) : En → Fl := fun ρ => onOk (f ρ) ρ fun d => onOwn i ρ fun ds => onOk (fk ρ) ρ fun k => match k with
  | .int z => match ixN ds.length z with
    | some j => .nx (ρ.set i (.own (ds.set j d)))
    | none => .bad
  | _ => .bad
theorem ds_setIx {i : Nat} {te tk : TE} {f fk : En → Res D} (h : DE K mg W te f) (hk : DE K mg W tk fk) : DS K mg W (tAsg te (gSub (tVar i) tk rSetL)) (sSetIx i fk f) := by
  intro F0 H0 F σ H ρ E R o
  unfold sSetIx at o
  refine h.on R o fun d v F1 H1 R1 r o1 => ?_
  unfold onOwn at o1
  split at o1
  · rename_i ds e
    obtain ⟨p, vs, h1, h2, h3, h4⟩ := R1.rl.own e
    refine ⟨.ref p, h1, hk.on R1.here (o1.rebase R1) fun k y F2 H2 R2 r2 o2 => ?_⟩
    obtain ⟨p', vs1, g1, g2, g3, g4⟩ := R2.rl.own e
    rw [h1] at g1
    cases g1
    cases k with
    | int z =>
      simp only at o2
      split at o2
      · rename_i j hj
        refine ⟨p, vs1, z, j, rfl, rep_int.mp r2, g3, by rw [← g4.length]; exact hj, ?_⟩
        exact o2 F2 σ _ (R2.write e h1 (g4.set j (r.mono R2.ff)))
      · exact o2.elim
    | _ => exact o2.elim
  · exact o1.elim
def sRetO (i : Nat) : En → Fl := fun ρ => onOwn i ρ fun ds => .ro ds
theorem ds_retO {i : Nat} : DS K mg W (tRet (tVar i)) (sRetO i) := by
  intro F0 H0 F σ H ρ E R o
  unfold sRetO onOwn at o
  split at o
  · rename_i ds e
    obtain ⟨p, vs, h1, h2, h3, h4⟩ := R.rl.own e
    exact ⟨.ref p, h1, o p vs F H R.wd (R.fresh i ds p e h1) h2 h3 h4⟩
  · exact o.elim
/-- x.clear() -/
def sClr (i : Nat) : En → Fl := fun ρ => onOwn i ρ fun _ => .nx (ρ.set i (.own []))
theorem ds_clr {i : Nat} : DS K mg W (tDrop (tBM0 K "list" rClear (tVar i))) (sClr i) := by
  intro F0 H0 F σ H ρ E R o
  unfold sClr onOwn at o
  split at o
  · rename_i ds e
    obtain ⟨p, vs, h1, h2, h3, h4⟩ := R.rl.own e
    exact ⟨.ref p, h1, .inl ⟨rfl, _, SqL.of h3⟩, p, vs, rfl, rfl, h3, o F σ _ (R.write e h1 (reps_nil.mpr rfl))⟩
  · exact o.elim
end
end Pu
/-! ## PuLoop -/
namespace Pu
open PySem PySem.Spec PyProof.Rows L2
/-- nothing is raised -/
abbrev W0 : WX := fun _ _ _ _ => False
section
variable {K : PySem.W.Frag} {mg : Str → Option Value} {W : WX} {F0 H0 F H : Hp} {σ : Sg} {ρ : En} {E : Ends}
theorem Wd.settle {F H F' H' : Hp} {p : Addr} {o : HO} (w : Wd F H F' H') (n0 : H p = Option.none) (n1 : F' p = Option.none) (hp : H' p = some o) : Wd F H (upd F' p o) H' := by
  refine ⟨w.ff.trans (same_new n1), w.hh, fun a u h n => ?_, fun a u h => ?_⟩
  · by_cases e : a = p
    · rw [e]; exact n0
    · rw [upd_ne e] at h; exact w.new a u h n
  · by_cases e : a = p
    · subst e; rw [upd_same] at h; cases h; exact hp
    · rw [upd_ne e] at h; exact w.sub a u h
/-! ### loops -/
def forD (g : D → En → Option En) (body : En → Fl) : List D → En → Fl
  | [], ρ => .nx ρ
  | x :: xs, ρ => match g x ρ with
    | none => .bad
    | some ρ1 => match body ρ1 with
      | .nx ρ2 => forD g body xs ρ2
      | .ct ρ2 => forD g body xs ρ2
      | .bk ρ2 => .nx ρ2
      | .rt d => .rt d
      | .ro d => .ro d
      | .exc c ρ2 => .exc c ρ2
      | .bad => .bad
def sFor (f : En → Res (List D)) (g : D → En → Option En) (body : En → Fl) : En → Fl := fun ρ => onOk (f ρ) ρ fun xs => forD g body xs ρ
theorem DI.on {wi : TI} {f : En → Res (List D)} {g : List D → Fl} {P : It → Hp → Prop} (h : DI K mg W wi f) (R : RlS K mg F0 H0 F σ H ρ) (o : OutS K mg W F0 H0 E (onOk (f ρ) ρ g))
    (k : ∀ xs J F1 H1, RlS K mg F0 H0 F1 σ H1 ρ → Walks K mg J F1 xs → OutS K mg W F0 H0 E (g xs) → P J H1) : wi σ H P := by
  refine h F σ H ρ P R.rl ?_
  cases e : f ρ with
  | ok xs =>
    rw [e] at o
    exact fun J F1 H1 w wk => k xs J F1 H1 (R.grow w) wk o
  | exc c =>
    rw [e] at o
    exact fun C F1 H1 hc w => o C F1 σ H1 hc (R.grow w)
  | bad =>
    rw [e] at o
    exact o.elim
theorem ds_for {wi : TI} {t : TG} {tb : TS} {f : En → Res (List D)} {g : D → En → Option En} {body : En → Fl} (hi : DI K mg W wi f) (hg : DG K mg t g) (hb : DS K mg W tb body) : DS K mg W (tFor wi t tb) (sFor f g body) := by
  intro F0 H0 F σ H ρ E R o
  refine hi.on R o fun xs J F1 H1 R1 wk o1 => ?_
  have o1' := o1.rebase R1
  refine ⟨fun i m σ H => m = xs.length - i ∧ i ≤ xs.length ∧ ∃ F' ρ', RlS K mg F1 H0 F' σ H ρ' ∧ OutS K mg W F1 H0 E (forD g body (xs.drop i) ρ'), ⟨xs.length, by simp, Nat.zero_le _, F1, ρ, R1.here, by rw [List.drop_zero]; exact o1'⟩, ?_⟩
  rintro i m σ2 H2 ⟨rfl, hi2, F2, ρ2, R2, o2⟩
  by_cases hlt : i < xs.length
  · obtain ⟨hgo, hy⟩ := wk.go F2 H2 i R2.ff R2.rl.sub hlt
    rw [List.drop_eq_getElem_cons hlt] at o2
    simp only [forD] at o2
    refine .inr ⟨hgo, fun σ' H' => ∃ F' ρ', RlS K mg F1 H0 F' σ' H' ρ' ∧ OutS K mg W F1 H0 E (forD g body (xs.drop (i + 1)) ρ'), fun σ' H' hN => ⟨xs.length - (i + 1), by omega, rfl, hlt, hN⟩, fun x H3 y3 => ?_⟩
    obtain ⟨F3, d, w3, hd, r3⟩ := hy x H3 y3
    have ed : xs[i] = d := by
      rw [List.getElem?_eq_getElem hlt] at hd
      exact Option.some.inj hd
    rw [ed] at o2
    have R3 := R2.grow w3
    cases eg : g d ρ2 with
    | none =>
      rw [eg] at o2
      exact o2.elim
    | some ρ3 =>
      rw [eg] at o2
      simp only at o2
      refine hg F1 H0 F3 σ2 H3 ρ2 ρ3 x d _ R3 r3 eg fun F4 σ4 H4 R4 => ?_
      refine hb F1 H0 F4 σ4 H4 ρ3 _ R4 ?_
      cases eb : body ρ3 with
      | nx ρ5 =>
        rw [eb] at o2
        exact fun F5 σ5 H5 R5 => ⟨F5, ρ5, R5, o2⟩
      | ct ρ5 =>
        rw [eb] at o2
        exact fun F5 σ5 H5 R5 => ⟨F5, ρ5, R5, o2⟩
      | bk ρ5 =>
        rw [eb] at o2
        exact o2
      | rt d5 =>
        rw [eb] at o2
        exact o2
      | ro d5 =>
        rw [eb] at o2
        exact o2
      | exc c ρ5 =>
        rw [eb] at o2
        exact o2
      | bad =>
        rw [eb] at o2
        exact o2.elim
  · have e : i = xs.length := by omega
    subst e
    rw [List.drop_length] at o2
    exact .inl ⟨wk.stop F2 H2 xs.length R2.ff R2.rl.sub (Nat.le_refl _), o2 F2 σ2 H2 R2⟩
def whileD (c : En → Res Bool) (body : En → Fl) : Nat → En → Fl
  | 0, _ => .bad
  | n + 1, ρ => onOk (c ρ) ρ fun b => if b = true then (match body ρ with
      | .nx ρ2 => whileD c body n ρ2
      | .ct ρ2 => whileD c body n ρ2
      | .bk ρ2 => .nx ρ2
      | .rt d => .rt d
      | .ro d => .ro d
      | .exc c ρ2 => .exc c ρ2
      | .bad => .bad) else .nx ρ
theorem ds_while {c : TT} {tb : TS} {f : En → Res Bool} {body : En → Fl} (n : Nat) (hc : DT K mg W c f) (hb : DS K mg W tb body) : DS K mg W (tWhile c tb) (whileD f body n) := by
  intro F0 H0 F σ H ρ E R o
  refine ⟨fun m σ H => ∃ F ρ, RlS K mg F0 H0 F σ H ρ ∧ OutS K mg W F0 H0 E (whileD f body m ρ), ⟨n, F, ρ, R, o⟩, ?_⟩
  rintro m σ2 H2 ⟨F2, ρ2, R2, o2⟩
  cases m with
  | zero => exact o2.elim
  | succ m =>
    simp only [whileD] at o2
    refine hc.on R2 o2 fun b F3 H3 R3 o3 => ?_
    cases b with
    | false => exact iteF (o3 F3 σ2 H3 R3)
    | true =>
      refine iteT ⟨fun σ' H' => ∃ F ρ, RlS K mg F0 H0 F σ' H' ρ ∧ OutS K mg W F0 H0 E (whileD f body m ρ), fun σ' H' hN => ⟨m, Nat.lt_succ_self m, hN⟩, hb F0 H0 F3 σ2 H3 ρ2 _ R3 ?_⟩
      simp only [if_true] at o3
      cases eb : body ρ2 with
      | nx ρ5 =>
        rw [eb] at o3
        exact fun F5 σ5 H5 R5 => ⟨F5, ρ5, R5, o3⟩
      | ct ρ5 =>
        rw [eb] at o3
        exact fun F5 σ5 H5 R5 => ⟨F5, ρ5, R5, o3⟩
      | bk ρ5 =>
        rw [eb] at o3
        exact o3
      | rt d5 =>
        rw [eb] at o3
        exact o3
      | ro d5 =>
        rw [eb] at o3
        exact o3
      | exc c ρ5 =>
        rw [eb] at o3
        exact o3
      | bad =>
        rw [eb] at o3
        exact o3.elim

/-! ### what is walked -/
theorem walks_list {F : Hp} {a : Addr} {xs : List D} {vs : List V} (h : ∀ F' H', Same F F' → Same F' H' → SqL K H' a vs) (r : Reps K mg F xs vs) : Walks K mg (Itl K a) F xs := by
  refine ⟨fun F' H' i s1 s2 hi => ⟨⟨vs, vs[i]'(by rw [← r.length]; exact hi), h F' H' s1 s2, by simp⟩, fun x H2 y => ?_⟩, fun F' H' i s1 s2 hi => ⟨vs, h F' H' s1 s2, by rw [← r.length]; exact hi⟩⟩
  obtain ⟨rfl, y⟩ := y
  have hx := y vs (h F' _ s1 s2)
  obtain ⟨d, hd, rd⟩ := (r.mono s1).get' hx
  exact ⟨F', d, Wd.refl s2, hd, rd⟩
theorem walks_tup {F : Hp} {a : Addr} {xs : List D} {vs : List V} (h : ∀ F' H', Same F F' → Same F' H' → SqT K H' a vs) (r : Reps K mg F xs vs) : Walks K mg (Itt K a) F xs := by
  refine ⟨fun F' H' i s1 s2 hi => ⟨⟨vs, vs[i]'(by rw [← r.length]; exact hi), h F' H' s1 s2, by simp⟩, fun x H2 y => ?_⟩, fun F' H' i s1 s2 hi => ⟨vs, h F' H' s1 s2, by rw [← r.length]; exact hi⟩⟩
  obtain ⟨rfl, y⟩ := y
  have hx := y vs (h F' _ s1 s2)
  obtain ⟨d, hd, rd⟩ := (r.mono s1).get' hx
  exact ⟨F', d, Wd.refl s2, hd, rd⟩
theorem walks_range {F : Hp} {lo : Int} {n : Nat} : Walks K mg (Itr lo n) F ((List.range n).map fun (k : Nat) => D.int (lo + k)) := by
  refine ⟨fun F' H' i s1 s2 hi => ⟨by rw [List.length_map, List.length_range] at hi; exact hi, fun x H2 y => ?_⟩, fun F' H' i s1 s2 hi => by rw [List.length_map, List.length_range] at hi; exact hi⟩
  obtain ⟨rfl, rfl⟩ := y
  rw [List.length_map, List.length_range] at hi
  exact ⟨F', .int (lo + i), Wd.refl s2, by rw [List.getElem?_map, List.getElem?_range hi]; rfl, rep_int.mpr rfl⟩
theorem walks_zip {F : Hp} {a b : Addr} {xs ys : List D} {vs ws : List V} (h : ∀ F' H', Same F F' → Same F' H' → SqL K H' a vs) (h' : ∀ F' H', Same F F' → Same F' H' → SqL K H' b ws) (r : Reps K mg F xs vs) (r' : Reps K mg F ys ws) :
    Walks K mg (Itz K a b) F (List.zipWith (fun x y => D.tup [x, y]) xs ys) := by
  have l1 := r.length
  have l2 := r'.length
  refine ⟨fun F' H' i s1 s2 hi => ?_, fun F' H' i s1 s2 hi => ⟨vs, ws, h F' H' s1 s2, h' F' H' s1 s2, by rw [List.length_zipWith] at hi; omega⟩⟩
  rw [List.length_zipWith] at hi
  have i1 : i < vs.length := by omega
  have i2 : i < ws.length := by omega
  refine ⟨⟨vs, ws, vs[i], ws[i], h F' H' s1 s2, h' F' H' s1 s2, by simp, by simp⟩, fun x H2 y => ?_⟩
  obtain ⟨T, x1, y1, rfl, nT, rfl, f1, f2⟩ := y
  have hx := f1 vs (h F' H' s1 s2)
  have hy := f2 ws (h' F' H' s1 s2)
  obtain ⟨d, hd, rd⟩ := (r.mono s1).get' hx
  obtain ⟨d', hd', rd'⟩ := (r'.mono s1).get' hy
  have w := Wd.lay (o := .tup [x1, y1]) s2 nT
  refine ⟨_, .tup [d, d'], w, by rw [List.getElem?_zipWith, hd, hd'], rep_tup.mpr ⟨T, _, rfl, SqT.of upd_same, reps_cons.mpr ⟨x1, [y1], rfl, rd.mono w.ff, reps_one (rd'.mono w.ff)⟩⟩⟩
def seqD : D → Res (List D)
  | .lst xs => .ok xs
  | .tup xs => .ok xs
  | .scr ns => .ok (ns.map D.int)
  | _ => .bad
def iSeq (f : En → Res D) : En → Res (List D) := fun ρ => (f ρ).bind seqD
def iU (K : PySem.W.Frag) (tl : TE) : TI := fun σ H R => iList K tl σ H R ∨ iTup K tl σ H R
theorem pi_U {X : Cx} {tg l : Expr} {tl : TE} (hl : PE X l tl) : PI X tg l (iU X.K tl) := by
  refine ⟨fun pins s σ H R I h => ?_⟩
  rcases h with h | h
  · exact (pi_list hl).run pins s σ H R I h
  · exact (pi_tup hl).run pins s σ H R I h
theorem di_U {tl : TE} {f : En → Res D} (h : DE K mg W tl f) : DI K mg W (iU K tl) (iSeq f) := by
  intro F σ H ρ R r o
  unfold iSeq at o
  cases e : f ρ with
  | ok d =>
    simp only [e, Res.bind] at o
    cases d with
    | lst xs =>
      refine .inl (h F σ H ρ _ r ?_)
      rw [e]
      intro v F1 H1 w rv
      obtain ⟨a, vs, rfl, h1, h2⟩ := rep_lst.mp rv
      exact ⟨a, rfl, ⟨vs, SqL.of (w.sub _ _ h1)⟩, o _ F1 H1 w (walks_list (fun F' H' s1 s2 => SqL.of (s2 _ _ (s1 _ _ h1))) h2)⟩
    | tup xs =>
      refine .inr (h F σ H ρ _ r ?_)
      rw [e]
      intro v F1 H1 w rv
      obtain ⟨a, vs, rfl, h1, h2⟩ := rep_tup.mp rv
      exact ⟨a, rfl, ⟨vs, sqT_mono w.sub h1⟩, o _ F1 H1 w (walks_tup (fun F' H' s1 s2 => sqT_mono s2 (sqT_mono s1 h1)) h2)⟩
    | scr ns =>
      refine .inl (h F σ H ρ _ r ?_)
      rw [e]
      intro v F1 H1 w rv
      obtain ⟨a, rfl, h1⟩ := rep_scr.mp rv
      exact ⟨a, rfl, ⟨_, sqL_mono w.sub h1⟩, o _ F1 H1 w (walks_list (fun F' H' s1 s2 => sqL_mono s2 (sqL_mono s1 h1)) (reps_ints ns))⟩
    | _ => exact o.elim
  | exc c =>
    simp only [e, Res.bind] at o
    refine .inl (h F σ H ρ _ r ?_)
    rw [e]
    exact o
  | bad =>
    simp only [e, Res.bind] at o
def rng1 : List D → Res (List D)
  | [.int j] => if j.natAbs ≤ 1000000000 then .ok ((List.range j.toNat).map fun (k : Nat) => D.int ((0 : Int) + k)) else .bad
  | _ => .bad
def rng2 : List D → Res (List D)
  | [.int i, .int j] => if i.natAbs ≤ 1000000000 ∧ j.natAbs ≤ 1000000000 then .ok ((List.range (j - i).toNat).map fun (k : Nat) => D.int (i + k)) else .bad
  | _ => .bad
def iR1 (fa : En → Res (List D)) : En → Res (List D) := fun ρ => (fa ρ).bind rng1
def iR2 (fa : En → Res (List D)) : En → Res (List D) := fun ρ => (fa ρ).bind rng2
theorem rng1_ok {ds : List D} {xs : List D} (h : rng1 ds = .ok xs) : ∃ j, ds = [.int j] ∧ (-(2 ^ 62) ≤ j ∧ j < 2 ^ 62) ∧ xs = (List.range j.toNat).map fun (k : Nat) => D.int ((0 : Int) + k) := by
  unfold rng1 at h
  split at h
  · split at h
    · rename_i hb
      cases h
      exact ⟨_, rfl, ⟨by omega, by omega⟩, rfl⟩
    · cases h
  · cases h
theorem rng1_exc {ds : List D} {c : Str} (h : rng1 ds = .exc c) : False := by
  unfold rng1 at h
  split at h
  · split at h <;> cases h
  · cases h
theorem di_r1 {ta : TA} {fa : En → Res (List D)} (h : DA K mg W ta fa) : DI K mg W (iRng1 ta) (iR1 fa) := by
  intro F σ H ρ R r o
  refine h F σ H ρ _ r ?_
  unfold iR1 at o
  cases e : fa ρ with
  | ok ds =>
    simp only [e, Res.bind] at o
    intro vs F1 H1 w rv
    cases e2 : rng1 ds with
    | ok xs =>
      rw [e2] at o
      obtain ⟨j, rfl, hb, rfl⟩ := rng1_ok e2
      obtain ⟨v, t, rfl, r1, r2⟩ := reps_cons.mp rv
      cases reps_nil.mp r2
      exact ⟨j, by rw [rep_int.mp r1], hb.1, hb.2, o _ F1 H1 w walks_range⟩
    | exc c => exact (rng1_exc e2).elim
    | bad =>
      rw [e2] at o
      exact o.elim
  | exc c =>
    simp only [e, Res.bind] at o
    exact o
  | bad =>
    simp only [e, Res.bind] at o
theorem rng2_ok {ds : List D} {xs : List D} (h : rng2 ds = .ok xs) : ∃ i j, ds = [.int i, .int j] ∧ (-(2 ^ 62) ≤ i ∧ i < 2 ^ 62 ∧ -(2 ^ 62) ≤ j ∧ j < 2 ^ 62) ∧ xs = (List.range (j - i).toNat).map fun (k : Nat) => D.int (i + k) := by
  unfold rng2 at h
  split at h
  · split at h
    · rename_i hb
      cases h
      exact ⟨_, _, rfl, ⟨by omega, by omega, by omega, by omega⟩, rfl⟩
    · cases h
  · cases h
theorem rng2_exc {ds : List D} {c : Str} (h : rng2 ds = .exc c) : False := by
  unfold rng2 at h
  split at h
  · split at h <;> cases h
  · cases h
theorem di_r2 {ta : TA} {fa : En → Res (List D)} (h : DA K mg W ta fa) : DI K mg W (iRng2 ta) (iR2 fa) := by
  intro F σ H ρ R r o
  refine h F σ H ρ _ r ?_
  unfold iR2 at o
  cases e : fa ρ with
  | ok ds =>
    simp only [e, Res.bind] at o
    intro vs F1 H1 w rv
    cases e2 : rng2 ds with
    | ok xs =>
      rw [e2] at o
      obtain ⟨i, j, rfl, hb, rfl⟩ := rng2_ok e2
      obtain ⟨v, t, rfl, r1, r2⟩ := reps_cons.mp rv
      obtain ⟨v2, t2, rfl, r3, r4⟩ := reps_cons.mp r2
      cases reps_nil.mp r4
      exact ⟨i, j, by rw [rep_int.mp r1, rep_int.mp r3], hb, o _ F1 H1 w walks_range⟩
    | exc c => exact (rng2_exc e2).elim
    | bad =>
      rw [e2] at o
      exact o.elim
  | exc c =>
    simp only [e, Res.bind] at o
    exact o
  | bad =>
    simp only [e, Res.bind] at o
def zipD : List D → Res (List D)
  | [.lst xs, .lst ys] => .ok (List.zipWith (fun x y => D.tup [x, y]) xs ys)
  | _ => .bad
def iZ (fa : En → Res (List D)) : En → Res (List D) := fun ρ => (fa ρ).bind zipD
theorem zipD_ok {ds xs : List D} (h : zipD ds = .ok xs) : ∃ a b, ds = [.lst a, .lst b] ∧ xs = List.zipWith (fun x y => D.tup [x, y]) a b := by
  unfold zipD at h
  split at h
  · cases h
    exact ⟨_, _, rfl, rfl⟩
  · cases h
theorem zipD_exc {ds : List D} {c : Str} (h : zipD ds = .exc c) : False := by
  unfold zipD at h
  split at h <;> cases h
theorem di_zip {ta : TA} {fa : En → Res (List D)} (h : DA K mg W ta fa) : DI K mg W (iZip K ta) (iZ fa) := by
  intro F σ H ρ R r o
  refine h F σ H ρ _ r ?_
  unfold iZ at o
  cases e : fa ρ with
  | ok ds =>
    simp only [e, Res.bind] at o
    intro vs F1 H1 w rv
    cases e2 : zipD ds with
    | ok xs =>
      rw [e2] at o
      obtain ⟨i, j, rfl, rfl⟩ := zipD_ok e2
      obtain ⟨v, t, rfl, r1, r2⟩ := reps_cons.mp rv
      obtain ⟨v2, t2, rfl, r3, r4⟩ := reps_cons.mp r2
      cases reps_nil.mp r4
      obtain ⟨a, vs, rfl, h1, h2⟩ := rep_lst.mp r1
      obtain ⟨b, ws, rfl, h3, h4⟩ := rep_lst.mp r3
      exact ⟨a, b, vs, ws, rfl, SqL.of (w.sub _ _ h1), SqL.of (w.sub _ _ h3), o _ F1 H1 w (walks_zip (fun F' H' s1 s2 => SqL.of (s2 _ _ (s1 _ _ h1))) (fun F' H' s1 s2 => SqL.of (s2 _ _ (s1 _ _ h3))) h2 h4)⟩
    | exc c => exact (zipD_exc e2).elim
    | bad =>
      rw [e2] at o
      exact o.elim
  | exc c =>
    simp only [e, Res.bind] at o
    exact o
  | bad =>
    simp only [e, Res.bind] at o

/-! ### comprehensions -/
theorem Rl.clear {i : Nat} (r : Rl K mg F σ H ρ) : Rl K mg F (σ.set i none) H (ρ.set i .emp) := by
  refine ⟨r.sub, by rw [List.length_set, List.length_set, r.len], fun j s e => ?_, fun j k ds es o e1 e2 e3 e4 => ?_⟩
  · by_cases hj : i = j
    · subst hj
      by_cases hl : i < ρ.length
      · rw [List.getElem?_set_self hl] at e
        cases e
        exact trivial
      · rw [List.getElem?_eq_none (by rw [List.length_set]; omega)] at e
        cases e
    · rw [List.getElem?_set_ne hj] at e
      have q := r.slot j s e
      cases s with
      | emp => exact trivial
      | val d' =>
        obtain ⟨u, h1, h2⟩ := q
        exact ⟨u, by rw [List.getElem?_set_ne hj]; exact h1, h2⟩
      | own ds =>
        obtain ⟨o, vs, h1, h2⟩ := q
        exact ⟨o, vs, by rw [List.getElem?_set_ne hj]; exact h1, h2⟩
  · have ne : ∀ {k : Nat} {ds : List D}, (ρ.set i .emp)[k]? = some (.own ds) → i ≠ k ∧ ρ[k]? = some (.own ds) := fun {k ds} e => by
      by_cases hk : i = k
      · subst hk
        by_cases hl : i < ρ.length
        · rw [List.getElem?_set_self hl] at e
          cases e
        · rw [List.getElem?_eq_none (by rw [List.length_set]; omega)] at e
          cases e
      · rw [List.getElem?_set_ne hk] at e
        exact ⟨hk, e⟩
    obtain ⟨n1, f1⟩ := ne e1
    obtain ⟨n2, f2⟩ := ne e2
    rw [List.getElem?_set_ne n1] at e3
    rw [List.getElem?_set_ne n2] at e4
    exact r.uniq j k ds es o f1 f2 e3 e4
def lcD (i : Nat) (t : En → Res Bool) (e : En → Res D) (ρ : En) : List D → Res (List D)
  | [] => .ok []
  | x :: xs => match t (ρ.set i (.val x)) with
    | .ok true => match e (ρ.set i (.val x)) with
      | .ok y => (lcD i t e ρ xs).bind fun ys => .ok (y :: ys)
      | _ => .bad
    | .ok false => lcD i t e ρ xs
    | _ => .bad
def nLc (i : Nat) (f : En → Res (List D)) (t : En → Res Bool) (e : En → Res D) : En → Res (List D) := fun ρ => (f ρ).bind fun xs => if xs.length < 1000000 then lcD i t e ρ xs else .bad
def tYesD : En → Res Bool := fun _ => .ok true
theorem dt_yes : DT K mg W tYes tYesD := fun F σ H ρ Q R o => o F H (Wd.refl R.sub)
theorem lcD_noexc {i : Nat} {t : En → Res Bool} {e : En → Res D} {c : Str} : ∀ xs : List D, lcD i t e ρ xs ≠ .exc c
  | [] => by simp [lcD]
  | x :: xs => by
    simp only [lcD]
    split
    · split
      · intro h
        cases q : lcD i t e ρ xs with
        | ok a =>
          rw [q] at h
          cases h
        | exc c' => exact lcD_noexc (c := c') xs q
        | bad =>
          rw [q] at h
          cases h
      · intro h; cases h
    · exact lcD_noexc xs
    · intro h; cases h
theorem lcD_len {i : Nat} {t : En → Res Bool} {e : En → Res D} : ∀ (xs : List D) {ys : List D}, lcD i t e ρ xs = .ok ys → ys.length ≤ xs.length
  | [], ys, h => by
    cases h
    exact Nat.le_refl _
  | x :: xs, ys, h => by
    simp only [lcD] at h
    split at h
    · split at h
      · cases q : lcD i t e ρ xs with
        | ok a =>
          rw [q] at h
          cases h
          have := lcD_len xs q
          simp only [List.length_cons]
          omega
        | exc c' =>
          rw [q] at h
          cases h
        | bad =>
          rw [q] at h
          cases h
      · cases h
    · have := lcD_len xs h
      simp only [List.length_cons]
      omega
    · cases h
theorem dn_lc {wi : TI} {tt : TT} {te : TE} {i : Nat} {f : En → Res (List D)} {t : En → Res Bool} {e : En → Res D} (hi : DI K mg W wi f) (ht : DT K mg W0 tt t) (he : DE K mg W0 te e) : DN K mg W (tLc wi (gName i) tt te [i]) (nLc i f t e) := by
  intro F σ H ρ Q R o
  refine hi F σ H ρ _ R ?_
  unfold nLc at o
  cases ef : f ρ with
  | exc c =>
    simp only [ef, Res.bind] at o
    exact o
  | bad =>
    simp only [ef, Res.bind] at o
    exact o.elim
  | ok xs =>
    simp only [ef, Res.bind] at o
    split at o
    · rename_i hcap
      intro J F1 H1 w1 wk Dl hD
      have R1 := R.mono w1
      refine ⟨fun k m H' => m = xs.length - k ∧ k ≤ xs.length ∧ ∃ F' acc vs, Wd F1 H1 F' H' ∧ F' Dl = none ∧ H' Dl = some (.lst vs) ∧ Reps K mg F' acc vs ∧ acc.length ≤ k ∧ (match lcD i t e ρ (xs.drop k) with
          | .ok ys => OutN K mg W F H σ Q (.ok (acc ++ ys))
          | _ => False), ⟨xs.length, by simp, Nat.zero_le _, F1, [], [], Wd.lay' w1.sub hD, noneOf w1.sub hD, upd_same, reps_nil.mpr rfl, Nat.le_refl _, ?_⟩, ?_⟩
      · rw [List.drop_zero]
        cases q : lcD i t e ρ xs with
        | ok ys =>
          rw [q] at o
          exact o
        | exc c => exact absurd q (lcD_noexc xs)
        | bad =>
          rw [q] at o
          exact o.elim
      · rintro k m H2 ⟨rfl, hk, F2, acc, vs, w2, n2, h2, r2, ha, o2⟩
        by_cases hlt : k < xs.length
        · obtain ⟨hgo, hy⟩ := wk.go F2 H2 k w2.ff w2.sub hlt
          rw [List.drop_eq_getElem_cons hlt] at o2
          refine .inr ⟨hgo, fun H' => k + 1 ≤ xs.length ∧ ∃ F' acc vs, Wd F1 H1 F' H' ∧ F' Dl = none ∧ H' Dl = some (.lst vs) ∧ Reps K mg F' acc vs ∧ acc.length ≤ k + 1 ∧ (match lcD i t e ρ (xs.drop (k + 1)) with
              | .ok ys => OutN K mg W F H σ Q (.ok (acc ++ ys))
              | _ => False), fun H' hN => ⟨xs.length - (k + 1), by omega, rfl, hN⟩, fun x H3 y3 => ?_⟩
          obtain ⟨F3, d, w3, hd, r3⟩ := hy x H3 y3
          have ed : xs[k] = d := by
            rw [List.getElem?_eq_getElem hlt] at hd
            exact Option.some.inj hd
          rw [ed] at o2
          simp only [lcD] at o2
          refine ⟨by show ((σ.set i none).set i (some x)).set i none = σ.set i none; rw [List.set_set, List.set_set], ?_⟩
          have w23 := w2.trans w3
          have R3 : Rl K mg F3 ((wipe σ [i]).set i (some x)) H3 (ρ.set i (.val d)) := by
            have q := ((R1.mono w23).clear (i := i)).set (i := i) r3
            show Rl K mg F3 ((σ.set i none).set i (some x)) H3 (ρ.set i (.val d))
            rw [List.set_set] at q ⊢
            rw [List.set_set] at q
            exact q
          have hD3 : H3 Dl = some (.lst vs) := w3.hh _ _ h2
          have nD3 : F3 Dl = none := by
            cases z : F3 Dl with
            | none => rfl
            | some u =>
              have := w3.new Dl u z n2
              rw [h2] at this
              cases this
          refine ht F3 _ H3 _ _ R3 ?_
          cases et : t (ρ.set i (.val d)) with
          | exc c =>
            rw [et] at o2
            exact o2.elim
          | bad =>
            rw [et] at o2
            exact o2.elim
          | ok b =>
            rw [et] at o2
            intro F4 H4 w4
            have hD4 : H4 Dl = some (.lst vs) := w4.hh _ _ hD3
            have nD4 : F4 Dl = none := by
              cases z : F4 Dl with
              | none => rfl
              | some u =>
                have := w4.new Dl u z nD3
                rw [hD3] at this
                cases this
            cases b with
            | false =>
              refine iteF ⟨hlt, F4, acc, vs, w23.trans w4, nD4, hD4, (r2.mono w3.ff).mono w4.ff, by omega, o2⟩
            | true =>
              refine iteT (he F4 _ H4 _ _ (R3.mono w4) ?_)
              simp only at o2
              cases ee : e (ρ.set i (.val d)) with
              | exc c =>
                rw [ee] at o2
                exact o2.elim
              | bad =>
                rw [ee] at o2
                exact o2.elim
              | ok y =>
                simp only [ee] at o2
                intro yv F5 H5 w5 r5
                have hD5 : H5 Dl = some (.lst vs) := w5.hh _ _ hD4
                have nD5 : F5 Dl = none := by
                  cases z : F5 Dl with
                  | none => rfl
                  | some u =>
                    have := w5.new Dl u z nD4
                    rw [hD4] at this
                    cases this
                have w15 := (w23.trans w4).trans w5
                have r5' : Reps K mg F5 (acc ++ [y]) (vs ++ [yv]) := (((r2.mono w3.ff).mono w4.ff).mono w5.ff).append (reps_one r5)
                refine ⟨vs, hD5, cap_lt (by rw [← r2.length]; omega), hlt, F5, acc ++ [y], vs ++ [yv], ⟨w15.ff, fun a u h => ?_, w15.new, fun a u h => ?_⟩, nD5, upd_same, r5', by rw [List.length_append, List.length_singleton]; omega, ?_⟩
                · rw [upd_ne (ne_of_none h hD)]
                  exact w15.hh a u h
                · have ne : a ≠ Dl := fun z => by rw [z, nD5] at h; cases h
                  rw [upd_ne ne]
                  exact w15.sub a u h
                · cases q : lcD i t e ρ (xs.drop (k + 1)) with
                  | ok ys =>
                    simp only [q, Res.bind] at o2
                    show OutN K mg W F H σ Q (.ok ((acc ++ [y]) ++ ys))
                    rw [List.append_assoc]
                    exact o2
                  | exc c =>
                    simp only [q, Res.bind] at o2
                  | bad =>
                    simp only [q, Res.bind] at o2
        · have e0 : k = xs.length := by omega
          subst e0
          rw [List.drop_length] at o2
          simp only [lcD, List.append_nil] at o2
          refine .inl ⟨wk.stop F2 H2 xs.length w2.ff w2.sub (Nat.le_refl _), o2 Dl vs F2 H2 (w1.trans w2) (w1.hh.free hD) n2 h2 r2⟩
    · exact o.elim

/-! ### a def's promise -/
end
/-- with n arguments that stand for plain data: what f tells of them; what stood stands -/
def Pure (K : PySem.W.Frag) (mg : Str → Option Value) (n : Nat) (f : List D → Res D) : Sp := fun vs H Q E => vs.length = n ∧ ∃ F ds, Same F H ∧ Reps K mg F ds vs ∧ (match f ds with
  | .ok d => ∀ v F' H', Wd F H F' H' → Rep K mg F' d v → Q v H'
  | .exc c => ∀ C F' H', mg c = some (.ref C) → Wd F H F' H' → E (.ref C) none H'
  | .bad => False)
/-- a def's body g, with n parameters among N names -/
def runD (n N : Nat) (g : En → Fl) : List D → Res D := fun ds => match g (ds.map S.val ++ List.replicate (N - n) S.emp) with
  | .rt d => .ok d
  | .ro ds => .ok (.lst ds)
  | .nx _ => .ok .non
  | .exc c _ => .exc c
  | _ => .bad
section
variable {K : PySem.W.Frag} {mg : Str → Option Value}
theorem slots_start {F H : Hp} {N : List Str} {ds : List D} {vs : List V} (s : Same F H) (r : Reps K mg F ds vs) (hl : vs.length ≤ N.length) : Rl K mg F (L2.start N vs) H (ds.map S.val ++ List.replicate (N.length - vs.length) S.emp) := by
  have l := r.length
  have noown : ∀ {j : Nat} {es : List D}, (ds.map S.val ++ List.replicate (N.length - vs.length) S.emp)[j]? = some (.own es) → False := fun {j es} e => by
    have m := List.mem_of_getElem? e
    rcases List.mem_append.mp m with m | m
    · obtain ⟨d, _, q⟩ := List.mem_map.mp m
      cases q
    · have q := List.eq_of_mem_replicate m
      cases q
  refine ⟨s, by unfold L2.start; simp [l], fun i st e => ?_, fun i j ds' es o e1 _ _ _ => (noown e1).elim⟩
  by_cases hi : i < ds.length
  · rw [List.getElem?_append_left (by rw [List.length_map]; exact hi), List.getElem?_map, List.getElem?_eq_getElem hi] at e
    cases e
    obtain ⟨v, h1, h2⟩ := r.get (List.getElem?_eq_getElem hi)
    refine ⟨v, ?_, h2⟩
    unfold L2.start
    rw [List.getElem?_append_left (by rw [List.length_map, ← l]; exact hi), List.getElem?_map, h1]
    rfl
  · rw [List.getElem?_append_right (by rw [List.length_map]; omega)] at e
    rw [List.getElem?_replicate] at e
    split at e
    · cases e
      exact trivial
    · cases e
/-- the reading of a body keeps the promise -/
theorem pure_body {ts : TS} {g : En → Fl} {N : List Str} {n : Nat} {vs : List V} {H : Hp} {Q : VK} {E : XK} (h : DS K mg (fun c d _ H => E c d H) ts g) (hn : n ≤ N.length) (p : Pure K mg n (runD n N.length g) vs H Q E) : ts { nx := fun _ H' => Q .non H', rt := Q } (L2.start N vs) H := by
  obtain ⟨rfl, F, ds, s, r, o⟩ := p
  have R := slots_start (N := N) s r hn
  have l := r.length
  refine h F H F _ H _ _ (RlS.start R fun i es e => ?_) ?_
  · have m := List.mem_of_getElem? e
    rcases List.mem_append.mp m with m | m
    · obtain ⟨d, _, q⟩ := List.mem_map.mp m
      cases q
    · have q := List.eq_of_mem_replicate m
      cases q
  · unfold runD at o
    cases e : g (ds.map S.val ++ List.replicate (N.length - vs.length) S.emp) with
    | nx ρ =>
      rw [e] at o
      exact fun F' σ' H' R' => o .non F' H' R'.wd (rep_non.mpr rfl)
    | rt d =>
      rw [e] at o
      exact fun v F' H' w rp => o v F' H' w rp
    | ro es =>
      rw [e] at o
      intro p ws F' H' w n0 n1 hp rp
      have ff : Same F' (upd F' p (.lst ws)) := same_new n1
      exact o (.ref p) _ H' (w.settle n0 n1 hp) (rep_lst.mpr ⟨p, ws, rfl, upd_same, rp.mono ff⟩)
    | bk ρ =>
      rw [e] at o
      exact o.elim
    | ct ρ =>
      rw [e] at o
      exact o.elim
    | exc c ρ =>
      rw [e] at o
      exact fun C F' σ' H' hc R' => o C F' H' hc R'.wd
    | bad =>
      rw [e] at o
      exact o.elim
end
section
variable {K : PySem.W.Frag} {mg : Str → Option Value} {P : Program} {w : World} {base : Heap}
/-- a def of the module that may be called by its name and is f -/
structure CalP (P : Program) (w : World) (K : PySem.W.Frag) (mg : Str → Option Value) (base : Heap) (k : Nat) (x : Str) (n : Nat) (f : List D → Res D) : Prop where
  ex : ∃ (a : Addr) (fd : FuncData) (ps : List Str), FnOk P w K mg base CX0 k a fd ps (Pure K mg n f) ∧ mg x = some (.ref a) ∧ PySem.W.keepIn K (.ref a) = true ∧ Binds K fd ps []
theorem CalP.mono {j k : Nat} {x : Str} {n : Nat} {f : List D → Res D} (c : CalP P w K mg base j x n f) (h : j ≤ k) : CalP P w K mg base k x n f := by
  obtain ⟨a, fd, ps, h1, h2⟩ := c.ex
  exact ⟨a, fd, ps, h1.mono h, h2⟩
/-- a def as it stands in the text -/
structure DefP (K : PySem.W.Frag) (mg : Str → Option Value) (x : Str) (st : Stmt) : Prop where
  ex : ∃ (a : Addr) (fd : FuncData), Fun K x x st a fd ∧ mg x = some (.ref a)
theorem cal_of {x : Str} {st : Stmt} {N ps : List Str} {k : Nat} {g : En → Fl} (T : DefP K mg x st) (S : FnScope N ps (defScope st))
    (hb : ∀ (kV doc pm : Value) (an : Option Addr) (cdv ct : Value) (us : List Value), us.length = ps.length → bindArgs (PySem.W.fnOf x x (defArgs st) (defBody st) (defScope st) .none kV doc pm an cdv ct) ⟨us, []⟩ = pure (ps.zip us))
    (hbody : ∀ (f : Addr) (cdv : Value) (A : Around) (outer : List Env) (s : Shared) (H : Hp) (E : XK), Room k (A.deeper (envOfC x (defScope st) s.heap.objs.size f cdv)) →
      ∃ t, PSs (cxOf CX0 P w K mg base N x (defScope st) f cdv A outer s H E).nox (defBody st) t ∧ ∀ W, DS K mg W t g) : CalP P w K mg base (k + 1) x ps.length (runD ps.length N.length g) := by
  obtain ⟨a, fd, F, hm⟩ := T.ex
  refine ⟨a, fd, ps, F.ok S (fun vs H Q E h => h.1) (fun cdv A outer s H vs Q E hr h => ?_), hm, F.kp, F.binds hb⟩
  obtain ⟨t, h1, h2⟩ := hbody a cdv A outer s H E hr
  have hn : ps.length ≤ N.length := by
    have := congrArg List.length S.pre
    rw [List.length_take] at this
    omega
  exact ⟨t, h1, pure_body (h2 _) hn h⟩
section
variable {X : Cx} {k j n : Nat} {x : Str} {f : List D → Res D} {p pos : Pos} {e : Expr} {es : List Expr} {t : TA} {W : WX}
theorem pe_cal (c : CalP X.prog X.w X.K X.mg X.base k x n f) (hr : Room j X.A) (hk : k ≤ j) (hg : Gl X x) (ha : PA X (e :: es) t)
    (hdb : (x == ("__debug__" : Str)) = false := by decide) (he : starEach (e :: es) X.env = (false, eval e X.env) :: starEach es X.env := by rfl) (hpl : (backTo pos (starEach es X.env)).any (·.1) = false := by rfl) :
    PE X (.Call (.Name x p) (e :: es) [] pos) (tCall (Pure X.K X.mg n f) [] E0 t) := by
  obtain ⟨a, fd, ps, F, hm, kp, b⟩ := c.ex
  exact pe_call F (hr.mono hk) hg hm kp b .nil pass0 ha hdb he hpl
def noExc (x : Res D) : Res D := match x with
  | .ok d => .ok d
  | _ => .bad
def dCal (n : Nat) (f : List D → Res D) (fa : En → Res (List D)) : En → Res D := fun ρ => (fa ρ).bind fun ds => if ds.length = n then noExc (f ds) else .bad
theorem de_cal {ta : TA} {fa : En → Res (List D)} (ha : DA K mg W ta fa) : DE K mg W (tCall (Pure K mg n f) [] E0 ta) (dCal n f fa) := by
  intro F σ H ρ Q R o
  refine ha.then R o fun ds vs F1 H1 w1 r1 o1 => ?_
  split at o1
  · rename_i hn
    rw [List.append_nil]
    refine ⟨by rw [← r1.length]; exact hn, F1, ds, w1.sub, r1, ?_⟩
    unfold noExc at o1
    cases ef : f ds with
    | ok d =>
      rw [ef] at o1
      exact o1
    | exc c =>
      rw [ef] at o1
      exact o1.elim
    | bad =>
      rw [ef] at o1
      exact o1.elim
  · exact o1.elim
end
/-! ### a def whose answer is a new list -/
def PureO (K : PySem.W.Frag) (mg : Str → Option Value) (n : Nat) (f : List D → Res (List D)) : Sp := fun vs H Q E => vs.length = n ∧ ∃ F ds, Same F H ∧ Reps K mg F ds vs ∧ (match f ds with
  | .ok es => ∀ p ws F' H', Wd F H F' H' → H p = none → F' p = none → H' p = some (.lst ws) → Reps K mg F' es ws → Q (.ref p) H'
  | _ => False)
def runO (n N : Nat) (g : En → Fl) : List D → Res (List D) := fun ds => match g (ds.map S.val ++ List.replicate (N - n) S.emp) with
  | .ro ds => .ok ds
  | _ => .bad
theorem pure_bodyO {ts : TS} {g : En → Fl} {N : List Str} {n : Nat} {vs : List V} {H : Hp} {Q : VK} {E : XK} (h : DS K mg (fun c d _ H => E c d H) ts g) (hn : n ≤ N.length) (p : PureO K mg n (runO n N.length g) vs H Q E) : ts { nx := fun _ H' => Q .non H', rt := Q } (L2.start N vs) H := by
  obtain ⟨rfl, F, ds, s, r, o⟩ := p
  have R := slots_start (N := N) s r hn
  have l := r.length
  refine h F H F _ H _ _ (RlS.start R fun i es e => ?_) ?_
  · have m := List.mem_of_getElem? e
    rcases List.mem_append.mp m with m | m
    · obtain ⟨d, _, q⟩ := List.mem_map.mp m
      cases q
    · have q := List.eq_of_mem_replicate m
      cases q
  · unfold runO at o
    cases e : g (ds.map S.val ++ List.replicate (N.length - vs.length) S.emp) with
    | ro es =>
      rw [e] at o
      exact o
    | _ =>
      rw [e] at o
      exact o.elim
structure CalO (P : Program) (w : World) (K : PySem.W.Frag) (mg : Str → Option Value) (base : Heap) (k : Nat) (x : Str) (n : Nat) (f : List D → Res (List D)) : Prop where
  ex : ∃ (a : Addr) (fd : FuncData) (ps : List Str), FnOk P w K mg base CX0 k a fd ps (PureO K mg n f) ∧ mg x = some (.ref a) ∧ PySem.W.keepIn K (.ref a) = true ∧ Binds K fd ps []
theorem cal_ofO {x : Str} {st : Stmt} {N ps : List Str} {k : Nat} {g : En → Fl} (T : DefP K mg x st) (S : FnScope N ps (defScope st))
    (hb : ∀ (kV doc pm : Value) (an : Option Addr) (cdv ct : Value) (us : List Value), us.length = ps.length → bindArgs (PySem.W.fnOf x x (defArgs st) (defBody st) (defScope st) .none kV doc pm an cdv ct) ⟨us, []⟩ = pure (ps.zip us))
    (hbody : ∀ (f : Addr) (cdv : Value) (A : Around) (outer : List Env) (s : Shared) (H : Hp) (E : XK), Room k (A.deeper (envOfC x (defScope st) s.heap.objs.size f cdv)) →
      ∃ t, PSs (cxOf CX0 P w K mg base N x (defScope st) f cdv A outer s H E).nox (defBody st) t ∧ ∀ W, DS K mg W t g) : CalO P w K mg base (k + 1) x ps.length (runO ps.length N.length g) := by
  obtain ⟨a, fd, F, hm⟩ := T.ex
  refine ⟨a, fd, ps, F.ok S (fun vs H Q E h => h.1) (fun cdv A outer s H vs Q E hr h => ?_), hm, F.kp, F.binds hb⟩
  obtain ⟨t, h1, h2⟩ := hbody a cdv A outer s H E hr
  have hn : ps.length ≤ N.length := by
    have := congrArg List.length S.pre
    rw [List.length_take] at this
    omega
  exact ⟨t, h1, pure_bodyO (h2 _) hn h⟩
section
variable {X : Cx} {k j n : Nat} {x : Str} {f : List D → Res (List D)} {p pos : Pos} {e : Expr} {es : List Expr} {t : TA} {W : WX}
theorem pe_calO (c : CalO X.prog X.w X.K X.mg X.base k x n f) (hr : Room j X.A) (hk : k ≤ j) (hg : Gl X x) (ha : PA X (e :: es) t)
    (hdb : (x == ("__debug__" : Str)) = false := by decide) (he : starEach (e :: es) X.env = (false, eval e X.env) :: starEach es X.env := by rfl) (hpl : (backTo pos (starEach es X.env)).any (·.1) = false := by rfl) :
    PE X (.Call (.Name x p) (e :: es) [] pos) (tCall (PureO X.K X.mg n f) [] E0 t) := by
  obtain ⟨a, fd, ps, F, hm, kp, b⟩ := c.ex
  exact pe_call F (hr.mono hk) hg hm kp b .nil pass0 ha hdb he hpl
def nCal (n : Nat) (f : List D → Res (List D)) (fa : En → Res (List D)) : En → Res (List D) := fun ρ => (fa ρ).bind fun ds => if ds.length = n then (match f ds with
  | .ok d => .ok d
  | _ => .bad) else .bad
theorem dn_cal {ta : TA} {fa : En → Res (List D)} (ha : DA K mg W ta fa) : DN K mg W (tCall (PureO K mg n f) [] E0 ta) (nCal n f fa) := by
  intro F σ H ρ Q R o
  unfold nCal at o
  refine ha F σ H ρ _ R ?_
  cases ea : fa ρ with
  | exc c =>
    simp only [ea, Res.bind] at o
    exact o
  | bad =>
    simp only [ea, Res.bind] at o
    exact o.elim
  | ok ds =>
    simp only [ea, Res.bind] at o
    intro vs F1 H1 w1 r1
    split at o
    · rename_i hn
      rw [List.append_nil]
      refine ⟨by rw [← r1.length]; exact hn, F1, ds, w1.sub, r1, ?_⟩
      cases ef : f ds with
      | ok d =>
        rw [ef] at o
        exact fun p ws F2 H2 w2 n0 n1 hp rp => o p ws F2 H2 (w1.trans w2) (w1.hh.free n0) n1 hp rp
      | exc c =>
        rw [ef] at o
        exact o.elim
      | bad =>
        rw [ef] at o
        exact o.elim
    · exact o.elim
end
end
end Pu
/-! ## PuBlt -/
namespace Pu
open PySem PySem.Spec PyProof.Rows L2
/-! ### built-in functions -/
def intOf : D → Option Int
  | .int i => some i
  | _ => none
def intsOf : List D → Option (List Int)
  | [] => some []
  | d :: ds => match d with
    | .int i => (intsOf ds).map (i :: ·)
    | _ => none
theorem intsOf_map (ns : List Int) : intsOf (ns.map D.int) = some ns := by
  induction ns with
  | nil => rfl
  | cons n ns ih => simp [intsOf, ih]
theorem intsOf_eq : ∀ {ds : List D} {ns : List Int}, intsOf ds = some ns → ds = ns.map D.int
  | [], ns, h => by
    cases h
    rfl
  | d :: ds, ns, h => by
    cases d <;> simp only [intsOf] at h <;> try (cases h; done)
    cases e : intsOf ds with
    | none =>
      rw [e] at h
      cases h
    | some ms =>
      rw [e] at h
      cases h
      rw [intsOf_eq e]
      rfl
def blsOf : List D → Option (List Bool)
  | [] => some []
  | d :: ds => match d with
    | .bl i => (blsOf ds).map (i :: ·)
    | _ => none
theorem blsOf_map (ns : List Bool) : blsOf (ns.map D.bl) = some ns := by
  induction ns with
  | nil => rfl
  | cons n ns ih => simp [blsOf, ih]
theorem blsOf_eq : ∀ {ds : List D} {ns : List Bool}, blsOf ds = some ns → ds = ns.map D.bl
  | [], ns, h => by
    cases h
    rfl
  | d :: ds, ns, h => by
    cases d <;> simp only [blsOf] at h <;> try (cases h; done)
    cases e : blsOf ds with
    | none =>
      rw [e] at h
      cases h
    | some ms =>
      rw [e] at h
      cases h
      rw [blsOf_eq e]
      rfl
section
variable {K : PySem.W.Frag} {mg : Str → Option Value} {W : WX} {F H : Hp} {X : Cx}
theorem reps_ints_iff {F : Hp} : ∀ {ns : List Int} {vs : List V}, Reps K mg F (ns.map D.int) vs → vs = ns.map V.int
  | [], vs, h => reps_nil.mp h
  | n :: ns, vs, h => by
    obtain ⟨v, r, rfl, h1, h2⟩ := reps_cons.mp h
    rw [rep_int.mp h1, reps_ints_iff h2]
    rfl
theorem reps_bls_iff {F : Hp} : ∀ {ns : List Bool} {vs : List V}, Reps K mg F (ns.map D.bl) vs → vs = ns.map V.bl
  | [], vs, h => reps_nil.mp h
  | n :: ns, vs, h => by
    obtain ⟨v, r, rfl, h1, h2⟩ := reps_cons.mp h
    rw [rep_bl.mp h1, reps_bls_iff h2]
    rfl
/-- list(x) -/
abbrev rListQ (K : PySem.W.Frag) : List V → Hp → VK → Prop := fun xs H Q => ∃ p ys, xs = [.ref p] ∧ (SqL K H p ys ∨ SqT K H p ys) ∧ ∀ l, H l = none → Q (.ref l) (upd H l (.lst ys))
def seq1 : List D → Res (List D)
  | [d] => seqD d
  | _ => .bad
def nList (fa : En → Res (List D)) : En → Res (List D) := fun ρ => (fa ρ).bind seq1
theorem seq1_ok {ds xs : List D} (h : seq1 ds = .ok xs) : ∃ d, ds = [d] ∧ (d = .lst xs ∨ d = .tup xs ∨ ∃ ns, d = .scr ns ∧ xs = ns.map D.int) := by
  unfold seq1 at h
  split at h
  · rename_i d
    refine ⟨d, rfl, ?_⟩
    cases d <;> simp only [seqD] at h <;> cases h
    · exact .inr (.inl rfl)
    · exact .inl rfl
    · exact .inr (.inr ⟨_, rfl, rfl⟩)
  · cases h
theorem seq1_exc {ds : List D} {c : Str} (h : seq1 ds = .exc c) : False := by
  unfold seq1 at h
  split at h
  · rename_i d
    cases d <;> simp only [seqD] at h <;> cases h
  · cases h
theorem dn_listOf {ta : TA} {fa : En → Res (List D)} (ha : DA K mg W ta fa) : DN K mg W (tCB (rListQ K) ta) (nList fa) := by
  intro F σ H ρ Q R o
  refine ha F σ H ρ _ R ?_
  unfold nList at o
  cases e : fa ρ with
  | ok ds =>
    simp only [e, Res.bind] at o
    intro vs F1 H1 w r
    cases e2 : seq1 ds with
    | ok xs =>
      rw [e2] at o
      obtain ⟨d, rfl, hd⟩ := seq1_ok e2
      obtain ⟨v, t, rfl, r1, r2⟩ := reps_cons.mp r
      cases reps_nil.mp r2
      have fin : ∀ ys : List V, Reps K mg F1 xs ys → ∀ l, H1 l = none → Q (.ref l) (upd H1 l (.lst ys)) := fun ys hy l hl =>
        o l ys F1 _ (w.trans (Wd.lay' w.sub hl)) (w.hh.free hl) (noneOf w.sub hl) upd_same hy
      rcases hd with rfl | rfl | ⟨ns, rfl, rfl⟩
      · obtain ⟨a, ys, rfl, h1, h2⟩ := rep_lst.mp r1
        exact ⟨a, ys, rfl, .inl (SqL.of (w.sub _ _ h1)), fin ys h2⟩
      · obtain ⟨a, ys, rfl, h1, h2⟩ := rep_tup.mp r1
        exact ⟨a, ys, rfl, .inr (sqT_mono w.sub h1), fin ys h2⟩
      · obtain ⟨a, rfl, h1⟩ := rep_scr.mp r1
        exact ⟨a, _, rfl, .inl (sqL_mono w.sub h1), fin _ (reps_ints ns)⟩
    | exc c => exact (seq1_exc e2).elim
    | bad =>
      rw [e2] at o
      exact o.elim
  | exc c =>
    simp only [e, Res.bind] at o
    exact o
  | bad =>
    simp only [e, Res.bind] at o
    exact o.elim
/-- tuple(x) -/
abbrev rTupQ (K : PySem.W.Frag) : List V → Hp → VK → Prop := fun xs H Q => ∃ p ys, xs = [.ref p] ∧ ((SqL K H p ys ∧ ∀ l, H l = none → Q (.ref l) (upd H l (.tup ys))) ∨ (SqT K H p ys ∧ Q (.ref p) H))
def tupD : List D → Option D
  | [.lst xs] => some (.tup xs)
  | [.tup xs] => some (.tup xs)
  | _ => none
theorem cd_tup : CD K mg (rTupQ K) tupD := by
  intro F H xs as d Q s r e q
  unfold tupD at e
  split at e
  · rename_i ds
    cases e
    obtain ⟨v, t, rfl, r1, r2⟩ := reps_cons.mp r
    cases reps_nil.mp r2
    obtain ⟨a, ys, rfl, h1, h2⟩ := rep_lst.mp r1
    refine ⟨a, ys, rfl, .inl ⟨SqL.of (s _ _ h1), fun l hl => ?_⟩⟩
    have w := Wd.lay (o := .tup ys) s hl
    exact q _ _ _ w (rep_tup.mpr ⟨l, ys, rfl, SqT.of upd_same, h2.mono w.ff⟩)
  · rename_i ds
    cases e
    obtain ⟨v, t, rfl, r1, r2⟩ := reps_cons.mp r
    cases reps_nil.mp r2
    obtain ⟨a, ys, rfl, h1, h2⟩ := rep_tup.mp r1
    exact ⟨a, ys, rfl, .inr ⟨sqT_mono s h1, q _ F H (Wd.refl s) (rep_tup.mpr ⟨a, ys, rfl, h1, h2⟩)⟩⟩
  · cases e
/-- max(a, b), min(a, b) -/
abbrev rMax2 : List V → Hp → VK → Prop := fun xs H Q => ∃ i j, xs = [.int i, .int j] ∧ Q (.int (if j > i then j else i)) H
abbrev rMin2 : List V → Hp → VK → Prop := fun xs H Q => ∃ i j, xs = [.int i, .int j] ∧ Q (.int (if j < i then j else i)) H
def max2D : List D → Option D
  | [.int i, .int j] => some (.int (max i j))
  | _ => none
def min2D : List D → Option D
  | [.int i, .int j] => some (.int (min i j))
  | _ => none
theorem cd_int2 {F : Hp} {i j : Int} {xs : List V} (r : Reps K mg F [.int i, .int j] xs) : xs = [.int i, .int j] := by
  obtain ⟨v, t, rfl, r1, r2⟩ := reps_cons.mp r
  obtain ⟨v2, t2, rfl, r3, r4⟩ := reps_cons.mp r2
  cases reps_nil.mp r4
  rw [rep_int.mp r1, rep_int.mp r3]
theorem cd_max2 : CD K mg rMax2 max2D := by
  intro F H xs as d Q s r e q
  unfold max2D at e
  split at e
  · rename_i i j
    cases e
    refine ⟨i, j, cd_int2 r, ?_⟩
    have h : (if j > i then j else i) = max i j := by split <;> omega
    rw [h]
    exact q _ F H (Wd.refl s) (rep_int.mpr rfl)
  · cases e
theorem cd_min2 : CD K mg rMin2 min2D := by
  intro F H xs as d Q s r e q
  unfold min2D at e
  split at e
  · rename_i i j
    cases e
    refine ⟨i, j, cd_int2 r, ?_⟩
    have h : (if j < i then j else i) = min i j := by split <;> omega
    rw [h]
    exact q _ F H (Wd.refl s) (rep_int.mpr rfl)
  · cases e
/-- max(xs), min(xs), sum(xs) -/
def maxI : List Int → Int
  | [] => 0
  | x :: xs => xs.foldl max x
def minI : List Int → Int
  | [] => 0
  | x :: xs => xs.foldl min x
theorem foldl_max (xs : List Int) : ∀ a : Int, (xs.foldl max a ∈ a :: xs) ∧ a ≤ xs.foldl max a ∧ ∀ y ∈ xs, y ≤ xs.foldl max a := by
  induction xs with
  | nil => intro a; simp
  | cons x xs ih =>
    intro a
    obtain ⟨h1, h2, h3⟩ := ih (max a x)
    simp only [List.foldl_cons]
    refine ⟨?_, by omega, fun y hy => ?_⟩
    · rcases List.mem_cons.mp h1 with e | e
      · rw [e]
        by_cases h : a ≤ x
        · rw [Int.max_eq_right h]; simp
        · rw [Int.max_eq_left (by omega)]; simp
      · simp [e]
    · rcases List.mem_cons.mp hy with e | e
      · subst e; omega
      · exact h3 y e
theorem foldl_min (xs : List Int) : ∀ a : Int, (xs.foldl min a ∈ a :: xs) ∧ xs.foldl min a ≤ a ∧ ∀ y ∈ xs, xs.foldl min a ≤ y := by
  induction xs with
  | nil => intro a; simp
  | cons x xs ih =>
    intro a
    obtain ⟨h1, h2, h3⟩ := ih (min a x)
    simp only [List.foldl_cons]
    refine ⟨?_, by omega, fun y hy => ?_⟩
    · rcases List.mem_cons.mp h1 with e | e
      · rw [e]
        by_cases h : a ≤ x
        · rw [Int.min_eq_left h]; simp
        · rw [Int.min_eq_right (by omega)]; simp
      · simp [e]
    · rcases List.mem_cons.mp hy with e | e
      · subst e; omega
      · exact h3 y e
theorem maxI_mem {ns : List Int} (h : 0 < ns.length) : maxI ns ∈ ns ∧ ∀ y ∈ ns, y ≤ maxI ns := by
  cases ns with
  | nil => simp at h
  | cons x xs =>
    obtain ⟨h1, h2, h3⟩ := foldl_max xs x
    refine ⟨h1, fun y hy => ?_⟩
    rcases List.mem_cons.mp hy with e | e
    · subst e; exact h2
    · exact h3 y e
theorem minI_mem {ns : List Int} (h : 0 < ns.length) : minI ns ∈ ns ∧ ∀ y ∈ ns, minI ns ≤ y := by
  cases ns with
  | nil => simp at h
  | cons x xs =>
    obtain ⟨h1, h2, h3⟩ := foldl_min xs x
    refine ⟨h1, fun y hy => ?_⟩
    rcases List.mem_cons.mp hy with e | e
    · subst e; exact h2
    · exact h3 y e
theorem maxI_eq {ns : List Int} {m : Int} (h1 : m ∈ ns) (h2 : ∀ y ∈ ns, y ≤ m) : maxI ns = m := by
  obtain ⟨q1, q2⟩ := maxI_mem (ns := ns) (by cases ns with | nil => simp at h1 | cons _ _ => simp)
  have := q2 m h1
  have := h2 _ q1
  omega
theorem minI_eq {ns : List Int} {m : Int} (h1 : m ∈ ns) (h2 : ∀ y ∈ ns, m ≤ y) : minI ns = m := by
  obtain ⟨q1, q2⟩ := minI_mem (ns := ns) (by cases ns with | nil => simp at h1 | cons _ _ => simp)
  have := q2 m h1
  have := h2 _ q1
  omega
def onInts (f : List Int → Option D) : List D → Option D
  | [.lst ds] => (intsOf ds).bind f
  | _ => none
theorem onInts_ok {f : List Int → Option D} {as : List D} {d : D} (h : onInts f as = some d) : ∃ ns, as = [.lst (ns.map D.int)] ∧ f ns = some d := by
  unfold onInts at h
  split at h
  · rename_i ds
    cases e : intsOf ds with
    | none =>
      rw [e] at h
      cases h
    | some ns =>
      rw [e] at h
      exact ⟨ns, by rw [intsOf_eq e], h⟩
  · cases h
theorem reps_lst_ints {F : Hp} {ns : List Int} {xs : List V} (r : Reps K mg F [.lst (ns.map D.int)] xs) : ∃ a, xs = [.ref a] ∧ F a = some (.lst (ns.map V.int)) := by
  obtain ⟨v, t, rfl, r1, r2⟩ := reps_cons.mp r
  cases reps_nil.mp r2
  obtain ⟨a, ys, rfl, h1, h2⟩ := rep_lst.mp r1
  rw [reps_ints_iff h2] at h1
  exact ⟨a, rfl, h1⟩
def maxD : List D → Option D := onInts fun ns => if 0 < ns.length then some (.int (maxI ns)) else none
def minD : List D → Option D := onInts fun ns => if 0 < ns.length then some (.int (minI ns)) else none
def sumD : List D → Option D := onInts fun ns => some (.int ns.sum)
theorem cd_max : CD K mg (rMax K) maxD := by
  intro F H xs as d Q s r e q
  obtain ⟨ns, rfl, e2⟩ := onInts_ok e
  split at e2
  · rename_i hl
    cases e2
    obtain ⟨a, rfl, h1⟩ := reps_lst_ints r
    refine ⟨a, ns, rfl, SqL.of (s _ _ h1), hl, fun m hm hy => ?_⟩
    rw [← maxI_eq hm hy]
    exact q _ F H (Wd.refl s) (rep_int.mpr rfl)
  · cases e2
theorem cd_min : CD K mg (rMin K) minD := by
  intro F H xs as d Q s r e q
  obtain ⟨ns, rfl, e2⟩ := onInts_ok e
  split at e2
  · rename_i hl
    cases e2
    obtain ⟨a, rfl, h1⟩ := reps_lst_ints r
    refine ⟨a, ns, rfl, SqL.of (s _ _ h1), hl, fun m hm hy => ?_⟩
    rw [← minI_eq hm hy]
    exact q _ F H (Wd.refl s) (rep_int.mpr rfl)
  · cases e2
theorem cd_sum : CD K mg (rSum K) sumD := by
  intro F H xs as d Q s r e q
  obtain ⟨ns, rfl, e2⟩ := onInts_ok e
  cases e2
  obtain ⟨a, rfl, h1⟩ := reps_lst_ints r
  exact ⟨a, ns, rfl, SqL.of (s _ _ h1), q _ F H (Wd.refl s) (rep_int.mpr rfl)⟩
/-- all, any of a list of truths -/
def onBls (f : List Bool → Bool) : List D → Option D
  | [.lst ds] => (blsOf ds).map fun bs => .bl (f bs)
  | _ => none
def allD : List D → Option D := onBls fun bs => bs.all id
def anyD : List D → Option D := onBls fun bs => bs.any id
theorem onBls_ok {f : List Bool → Bool} {as : List D} {d : D} (h : onBls f as = some d) : ∃ ns, as = [.lst (ns.map D.bl)] ∧ d = .bl (f ns) := by
  unfold onBls at h
  split at h
  · rename_i ds
    cases e : blsOf ds with
    | none =>
      rw [e] at h
      cases h
    | some ns =>
      rw [e] at h
      cases h
      exact ⟨ns, by rw [blsOf_eq e], rfl⟩
  · cases h
theorem reps_lst_bls {F : Hp} {ns : List Bool} {xs : List V} (r : Reps K mg F [.lst (ns.map D.bl)] xs) : ∃ a, xs = [.ref a] ∧ F a = some (.lst (ns.map V.bl)) := by
  obtain ⟨v, t, rfl, r1, r2⟩ := reps_cons.mp r
  cases reps_nil.mp r2
  obtain ⟨a, ys, rfl, h1, h2⟩ := rep_lst.mp r1
  rw [reps_bls_iff h2] at h1
  exact ⟨a, rfl, h1⟩
theorem cd_all : CD K mg (rAll K) allD := by
  intro F H xs as d Q s r e q
  obtain ⟨ns, rfl, rfl⟩ := onBls_ok e
  obtain ⟨a, rfl, h1⟩ := reps_lst_bls r
  exact ⟨a, ns, rfl, SqL.of (s _ _ h1), q _ F H (Wd.refl s) (rep_bl.mpr rfl)⟩
theorem cd_any : CD K mg (rAny K) anyD := by
  intro F H xs as d Q s r e q
  obtain ⟨ns, rfl, rfl⟩ := onBls_ok e
  obtain ⟨a, rfl, h1⟩ := reps_lst_bls r
  exact ⟨a, ns, rfl, SqL.of (s _ _ h1), q _ F H (Wd.refl s) (rep_bl.mpr rfl)⟩
/-- sorted(xs), ints -/
def srt (ns : List Int) : List Int := ns.mergeSort (fun a b => decide (a ≤ b))
theorem srt_perm (ns : List Int) : (srt ns).Perm ns := List.mergeSort_perm ns _
theorem srt_sorted (ns : List Int) : (srt ns).Pairwise (· ≤ ·) := by
  have h := List.pairwise_mergeSort (le := fun a b : Int => decide (a ≤ b)) (fun a b c h1 h2 => decide_eq_true (by have := of_decide_eq_true h1; have := of_decide_eq_true h2; omega)) (fun a b => by
    rw [Bool.or_eq_true]
    by_cases h : a ≤ b
    · exact .inl (decide_eq_true h)
    · exact .inr (decide_eq_true (by omega))) ns
  exact h.imp fun {a b} h => of_decide_eq_true h
theorem sorted_unique : ∀ {xs ys : List Int}, xs.Perm ys → xs.Pairwise (· ≤ ·) → ys.Pairwise (· ≤ ·) → xs = ys
  | [], ys, p, _, _ => (List.Perm.nil_eq p)
  | x :: xs, [], p, _, _ => absurd p.length_eq (by simp)
  | x :: xs, y :: ys, p, hx, hy => by
    have h1 := List.pairwise_cons.mp hx
    have h2 := List.pairwise_cons.mp hy
    have mx : x ∈ y :: ys := p.mem_iff.mp List.mem_cons_self
    have my : y ∈ x :: xs := p.mem_iff.mpr List.mem_cons_self
    have e : x = y := by
      rcases List.mem_cons.mp mx with e | mx
      · exact e
      · rcases List.mem_cons.mp my with e | my
        · exact e.symm
        · have := h1.1 y my
          have := h2.1 x mx
          omega
    subst e
    rw [sorted_unique (List.Perm.cons_inv p) h1.2 h2.2]
theorem srt_eq {xs ys : List Int} (p : xs.Perm ys) (h : xs.Pairwise (· ≤ ·)) : srt ys = xs := sorted_unique ((srt_perm ys).trans p.symm) (srt_sorted ys) h
def sortD : List D → Option D := onInts fun ns => some (.lst ((srt ns).map D.int))
theorem cd_sort : CD K mg (rSortedI K) sortD := by
  intro F H xs as d Q s r e q
  obtain ⟨ns, rfl, e2⟩ := onInts_ok e
  cases e2
  obtain ⟨a, rfl, h1⟩ := reps_lst_ints r
  refine ⟨a, ns, rfl, SqL.of (s _ _ h1), fun ns' p hp hs hn => ?_⟩
  have w := Wd.lay (o := .lst (ns'.map V.int)) s hn
  have e : srt ns = ns' := srt_eq hp hs
  rw [← e] at w ⊢
  exact q _ _ _ w (rep_lst.mpr ⟨p, _, rfl, upd_same, reps_ints _⟩)
/-- int(x) of an int, a truth -/
abbrev rInt1 : List V → Hp → VK → Prop := fun xs H Q => (∃ i, xs = [.int i] ∧ Q (.int i) H) ∨ ∃ k, xs = [.bl k] ∧ Q (.int (if k then 1 else 0)) H
def intD : List D → Option D
  | [.int i] => some (.int i)
  | [.bl k] => some (.int (if k then 1 else 0))
  | _ => none
theorem cd_int : CD K mg rInt1 intD := by
  intro F H xs as d Q s r e q
  unfold intD at e
  split at e
  · rename_i i
    cases e
    obtain ⟨v, t, rfl, r1, r2⟩ := reps_cons.mp r
    cases reps_nil.mp r2
    exact .inl ⟨i, by rw [rep_int.mp r1], q _ F H (Wd.refl s) (rep_int.mpr rfl)⟩
  · rename_i i
    cases e
    obtain ⟨v, t, rfl, r1, r2⟩ := reps_cons.mp r
    cases reps_nil.mp r2
    exact .inr ⟨i, by rw [rep_bl.mp r1], q _ F H (Wd.refl s) (rep_int.mpr rfl)⟩
  · cases e
/-- isinstance(x, T), T a built-in type -/
def kindD : D → Option String
  | .non => some "NoneType"
  | .bl _ => some "bool"
  | .int _ => some "int"
  | .str _ => some "str"
  | .tup _ => some "tuple"
  | .lst _ => some "list"
  | .scr _ => some "list"
  | .dic _ _ => some "dict"
  | _ => none
def isiD : List D → Option D
  | [d, .raw (.ty T)] => (kindD d).bind fun k => (kitB k T).map D.bl
  | _ => none
theorem tyX_kind {F : Hp} {d : D} {v : V} {k : String} (s : Same F H) (r : Rep K mg F d v) (h : kindD d = some k) : TyX K H v (.type k) := by
  cases d <;> simp only [kindD] at h <;> cases h
  · rw [rep_non.mp r]; exact .base .non
  · rw [rep_bl.mp r]; exact .base (.bl _)
  · rw [rep_int.mp r]; exact .base (.int _)
  · rw [rep_str.mp r]; exact .base (.str _)
  · obtain ⟨a, vs, rfl, h1, _⟩ := rep_tup.mp r
    rcases h1 with (h1 | ⟨o, h1⟩) | ⟨o, its, n, h1, h2, _⟩
    · exact .base (.tup (s _ _ h1))
    · exact .fTuple (s _ _ h1)
    · exact .kTuple h1 h2
  · obtain ⟨a, vs, rfl, h1, _⟩ := rep_lst.mp r
    exact .base (.lst (s _ _ h1))
  · obtain ⟨a, rfl, h1⟩ := rep_scr.mp r
    rcases h1 with (h1 | ⟨o, h1⟩) | ⟨o, its, n, h1, h2, _⟩
    · exact .base (.lst (s _ _ h1))
    · exact .base (.frz (s _ _ h1))
    · exact .kList h1 h2
  · obtain ⟨a, kvs, rfl, h1, _⟩ := rep_dic.mp r
    exact .base (.dT (s _ _ h1))
theorem isiD_ok {as : List D} {d : D} (h : isiD as = some d) : ∃ x T k b, as = [x, .raw (.ty T)] ∧ kindD x = some k ∧ kitB k T = some b ∧ d = .bl b := by
  unfold isiD at h
  split at h
  · rename_i x T
    cases e : kindD x with
    | none =>
      rw [e] at h
      cases h
    | some k =>
      rw [e] at h
      simp only [Option.bind_some] at h
      cases e2 : kitB k T with
      | none =>
        rw [e2] at h
        cases h
      | some b =>
        rw [e2] at h
        cases h
        exact ⟨x, T, k, b, rfl, e, e2, rfl⟩
  · cases h
theorem cd_isi : CD K mg (rIsi K) isiD := by
  intro F H xs as d Q s r e q
  obtain ⟨x, T, k, b, rfl, hk, hb, rfl⟩ := isiD_ok e
  obtain ⟨v, t, rfl, r1, r2⟩ := reps_cons.mp r
  obtain ⟨v2, t2, rfl, r3, r4⟩ := reps_cons.mp r2
  cases reps_nil.mp r4
  rw [rep_raw.mp r3]
  exact ⟨v, .ty T, .type k, .type T, b, rfl, .ty T, tyX_kind s r1 hk, kit_ty hb, q _ F H (Wd.refl s) (rep_bl.mpr rfl)⟩
/-- x in xs, x not in xs: flat things -/
def flatsD : List D → Bool
  | [] => true
  | d :: ds => isFlat d && flatsD ds
def inL (x : D) (ds : List D) : Bool := ds.any fun y => eqvD y x
def inD (x y : D) : Option D := match y with
  | .lst ds => if isFlat x && flatsD ds then some (.bl (inL x ds)) else none
  | .tup ds => if isFlat x && flatsD ds then some (.bl (inL x ds)) else none
  | _ => none
def notInD (x y : D) : Option D := match y with
  | .lst ds => if isFlat x && flatsD ds then some (.bl (!inL x ds)) else none
  | .tup ds => if isFlat x && flatsD ds then some (.bl (!inL x ds)) else none
  | _ => none
theorem flat_V {F : Hp} {d : D} {v : V} (h : isFlat d = true) (r : Rep K mg F d v) : flatV v = true := by
  cases d <;> simp only [isFlat] at h <;> try (cases h; done)
  · rw [rep_non.mp r]; rfl
  · rw [rep_bl.mp r]; rfl
  · rw [rep_int.mp r]; rfl
  · rw [rep_str.mp r]; rfl
theorem flat_eqV {F : Hp} {a b : D} {x y : V} (ha : isFlat a = true) (hb : isFlat b = true) (ra : Rep K mg F a x) (rb : Rep K mg F b y) : eqV x y = eqvD a b := by
  cases a <;> simp only [isFlat] at ha <;> try (cases ha; done)
  all_goals (cases b <;> simp only [isFlat] at hb <;> try (cases hb; done))
  all_goals (simp only [rep_non, rep_bl, rep_int, rep_str] at ra rb; subst ra rb; simp only [eqV, eqvD])
theorem flats_V {F : Hp} : ∀ {ds : List D} {vs : List V}, flatsD ds = true → Reps K mg F ds vs → vs.all flatV = true
  | [], vs, _, r => by
    rw [reps_nil.mp r]
    rfl
  | d :: ds, vs, h, r => by
    simp only [flatsD, Bool.and_eq_true] at h
    obtain ⟨v, t, rfl, r1, r2⟩ := reps_cons.mp r
    rw [List.all_cons, flat_V h.1 r1, flats_V h.2 r2]
    rfl
theorem flats_in {F : Hp} {a : D} {x : V} (ha : isFlat a = true) (ra : Rep K mg F a x) : ∀ {ds : List D} {vs : List V}, flatsD ds = true → Reps K mg F ds vs → inV x vs = inL a ds
  | [], vs, _, r => by
    rw [reps_nil.mp r]
    rfl
  | d :: ds, vs, h, r => by
    simp only [flatsD, Bool.and_eq_true] at h
    obtain ⟨v, t, rfl, r1, r2⟩ := reps_cons.mp r
    have ih := flats_in ha ra h.2 r2
    unfold inV inL at ih ⊢
    rw [List.any_cons, List.any_cons, flat_eqV h.1 ha r1 ra, ih]
theorem od_in : OD K mg (rIn K false) inD := by
  intro F H x y a b d Q s ra rb e q
  cases b <;> simp only [inD] at e <;> try (cases e; done)
  · rename_i ds
    split at e
    · rename_i h
      cases e
      rw [Bool.and_eq_true] at h
      obtain ⟨p, vs, rfl, h1, h2⟩ := rep_tup.mp rb
      refine ⟨p, vs, rfl, .inr (sqT_mono s h1), flat_V h.1 ra, flats_V h.2 h2, ?_⟩
      rw [flats_in h.1 ra h.2 h2]
      exact q _ F H (Wd.refl s) (rep_bl.mpr rfl)
    · cases e
  · rename_i ds
    split at e
    · rename_i h
      cases e
      rw [Bool.and_eq_true] at h
      obtain ⟨p, vs, rfl, h1, h2⟩ := rep_lst.mp rb
      refine ⟨p, vs, rfl, .inl (SqL.of (s _ _ h1)), flat_V h.1 ra, flats_V h.2 h2, ?_⟩
      rw [flats_in h.1 ra h.2 h2]
      exact q _ F H (Wd.refl s) (rep_bl.mpr rfl)
    · cases e
theorem od_notIn : OD K mg (rIn K true) notInD := by
  intro F H x y a b d Q s ra rb e q
  cases b <;> simp only [notInD] at e <;> try (cases e; done)
  · rename_i ds
    split at e
    · rename_i h
      cases e
      rw [Bool.and_eq_true] at h
      obtain ⟨p, vs, rfl, h1, h2⟩ := rep_tup.mp rb
      refine ⟨p, vs, rfl, .inr (sqT_mono s h1), flat_V h.1 ra, flats_V h.2 h2, ?_⟩
      rw [flats_in h.1 ra h.2 h2]
      exact q _ F H (Wd.refl s) (rep_bl.mpr rfl)
    · cases e
  · rename_i ds
    split at e
    · rename_i h
      cases e
      rw [Bool.and_eq_true] at h
      obtain ⟨p, vs, rfl, h1, h2⟩ := rep_lst.mp rb
      refine ⟨p, vs, rfl, .inl (SqL.of (s _ _ h1)), flat_V h.1 ra, flats_V h.2 h2, ?_⟩
      rw [flats_in h.1 ra h.2 h2]
      exact q _ F H (Wd.refl s) (rep_bl.mpr rfl)
    · cases e
/-- a < b < c -/
def dChain (p q : D → D → Option D) (fa fb fc : En → Res D) : En → Res D := fun ρ => (fa ρ).bind fun a => (fb ρ).bind fun b => (ofOpt (p a b)).bind fun r => (toB r).bind fun k => if k = true then (fc ρ).bind fun c => ofOpt (q b c) else .ok (.bl false)
theorem de_chain {p q : Int → Int → Bool} {ta tb tc : TE} {fa fb fc : En → Res D} (ha : DE K mg W ta fa) (hb : DE K mg W tb fb) (hc : DE K mg W tc fc) : DE K mg W (tChain (rI0 fun i j => .bl (p i j)) (rI0 fun i j => .bl (q i j)) ta tb tc) (dChain (cmpD p) (cmpD q) fa fb fc) := by
  intro F σ H ρ Q R o
  refine ha.then R o fun a x F1 H1 w1 r1 o1 => hb.then (R.mono w1) o1 fun b y F2 H2 w2 r2 o2 => ?_
  cases a <;> cases b <;> simp only [cmpD, ofOpt, Res.bind] at o2 <;> try (exact o2.elim)
  rename_i i j
  simp only [toB] at o2
  refine ⟨i, j, rep_int.mp r1, rep_int.mp r2, p i j, rfl, ?_⟩
  cases hk : p i j with
  | false =>
    rw [hk] at o2
    exact iteF (o2 _ F2 H2 (Wd.refl w2.sub) (rep_bl.mpr rfl))
  | true =>
    rw [hk] at o2
    simp only [if_true] at o2
    refine iteT (hc.then ((R.mono w1).mono w2) o2 fun c z F3 H3 w3 r3 o3 => ?_)
    cases c <;> simp only [ofOpt] at o3 <;> try (exact o3.elim)
    exact ⟨j, _, rep_int.mp r2, rep_int.mp r3, o3 _ F3 H3 (Wd.refl w3.sub) (rep_bl.mpr rfl)⟩
end
end Pu
/-! ## PuMore -/
namespace Pu
open PySem PySem.Spec PyProof.Rows L2
section
variable {X : Cx} {x : Str} {pos : Pos}
theorem pe_gconst {i : Int} (hg : Gl X x) (h : ∃ t, X.mg x = some (.int i t)) (hd : (x == ("__debug__" : Str)) = false := by decide) : PE X (.Name x pos) (tC (.int i)) := by
  obtain ⟨t, h⟩ := h
  exact pe_glob hg h ⟨t, rfl⟩ hd
theorem pe_gtext {i : Str} (hg : Gl X x) (h : ∃ t, X.mg x = some (.str i t)) (hd : (x == ("__debug__" : Str)) = false := by decide) : PE X (.Name x pos) (tC (.str i)) := by
  obtain ⟨t, h⟩ := h
  exact pe_glob hg h ⟨t, rfl⟩ hd
end
section
variable {K : PySem.W.Frag} {mg : Str → Option Value} {W : WX} {F0 H0 F H : Hp} {σ : Sg} {ρ : En} {E : Ends}
/-- x += e, ints -/
def sAug (i : Nat) (f : En → Res D) : En → Fl := fun ρ => match ρ[i]? with
  | some (.val (.int a)) => onOk (f ρ) ρ fun d => match d with
    | .int b => .nx (ρ.set i (.val (.int (a + b))))
    | _ => .bad
  | _ => .bad
theorem ds_aug {i : Nat} {te : TE} {f : En → Res D} (h : DE K mg W te f) : DS K mg W (tAug i te (ipI fun i j => i + j)) (sAug i f) := by
  intro F0 H0 F σ H ρ E R o
  unfold sAug at o
  split at o
  · rename_i a e
    obtain ⟨v, h1, h2⟩ := R.rl.val e
    refine ⟨v, h1, h.on R o fun d y F1 H1 R1 r o1 => ?_⟩
    cases d with
    | int b => exact ⟨a, b, rep_int.mp h2, rep_int.mp r, o1 F1 _ H1 (R1.set (rep_int.mpr rfl))⟩
    | _ => exact o1.elim
  · exact o.elim
end
end Pu
/-! ## PuClo -/
/-! functions made within a def: called there, handed on and called elsewhere -/
namespace Pu
open PySem PySem.Spec PyProof.Rows L2 LamX NdefX
/-! ### what is free of functions stands without the cells too -/
mutual
def noClo : D → Bool
  | .tup ds => noClos ds
  | .lst ds => noClos ds
  | .dic _ ds => noClos ds
  | .obj _ _ ds => noClos ds
  | .clo _ _ => false
  | _ => true
def noClos : List D → Bool
  | [] => true
  | d :: ds => noClo d && noClos ds
end
theorem noClos_cons {d : D} {ds : List D} : noClos (d :: ds) = (noClo d && noClos ds) := by simp only [noClos]
theorem noClos_nil : noClos [] = true := by simp only [noClos]
theorem noClo_int {i : Int} : noClo (.int i) = true := by simp only [noClo]
theorem noClo_bl {i : Bool} : noClo (.bl i) = true := by simp only [noClo]
theorem noClo_tup {ds : List D} : noClo (.tup ds) = noClos ds := by simp only [noClo]
theorem noClo_lst {ds : List D} : noClo (.lst ds) = noClos ds := by simp only [noClo]
theorem noClos_all : ∀ {ds : List D}, noClos ds = true ↔ ∀ d ∈ ds, noClo d = true
  | [] => by simp [noClos_nil]
  | d :: ds => by
    rw [noClos_cons, Bool.and_eq_true, noClos_all]
    simp
theorem noClos_ints (ns : List Int) : noClos (ns.map D.int) = true := noClos_all.mpr fun d hd => by
  obtain ⟨i, _, rfl⟩ := List.mem_map.mp hd
  exact noClo_int
theorem fnO_frz {f : Addr} {N : NF} {o : Obj} {u : HO} : FnO f N ≠ .frz o u := fun z => by
  unfold FnO at z
  cases z
theorem codeO_frz {c : Addr} {q : Str} {o : Obj} {u : HO} : CodeO c q ≠ .frz o u := fun z => by
  unfold CodeO at z
  cases z
section
variable {K : PySem.W.Frag} {mg : Str → Option Value} {F F' H : Hp} {cl : List (Str × Addr)}
/-- all but known cells stay -/
def ExtC (F F' : Hp) : Prop := ∀ b o, F b = some o → (∀ u b', o ≠ .frz u (.own b')) → F' b = some o
theorem extC_strip (L : ∀ b, InCl cl b → F b = none ∨ ∃ o, F b = some (.frz o (.own b))) : ExtC F (strip cl F) := fun b o e n => by
  by_cases q : InCl cl b
  · rcases L b q with z | ⟨u, z⟩
    · rw [z] at e; cases e
    · rw [z] at e
      cases e
      exact (n _ _ rfl).elim
  · rw [strip_out q]; exact e
theorem rd_C {a : Addr} {o : HO} (e : ExtC F F') (n : ∀ u b', o ≠ .frz u (.own b')) (n2 : ∀ b, o ≠ .own b) (h : Rd F a o) : Rd F' a o := by
  rcases h with h | ⟨u, h⟩
  · exact .inl (e _ _ h n)
  · exact .inr ⟨u, e _ _ h fun u' b' z => by cases z; exact n2 _ rfl⟩
mutual
theorem Rep.strip (e : ExtC F F') : ∀ {d : D} {v : V}, noClo d = true → Rep K mg F d v → Rep K mg F' d v
  | .non, _, _, h => rep_non.mpr (rep_non.mp h)
  | .bl _, _, _, h => rep_bl.mpr (rep_bl.mp h)
  | .int _, _, _, h => rep_int.mpr (rep_int.mp h)
  | .str _, _, _, h => rep_str.mpr (rep_str.mp h)
  | .raw _, _, _, h => rep_raw.mpr (rep_raw.mp h)
  | .tup ds, _, n, h => by
    obtain ⟨a, vs, h1, h2, h3⟩ := rep_tup.mp h
    refine rep_tup.mpr ⟨a, vs, h1, ?_, Reps.strip e (by rw [noClo_tup] at n; exact n) h3⟩
    rcases h2 with h2 | h2
    · exact .inl (rd_C e (fun u b' z => nomatch z) (fun b z => nomatch z) h2)
    · exact .inr h2
  | .lst ds, _, n, h => by
    obtain ⟨a, vs, h1, h2, h3⟩ := rep_lst.mp h
    exact rep_lst.mpr ⟨a, vs, h1, e _ _ h2 (fun u b' z => nomatch z), Reps.strip e (by rw [noClo_lst] at n; exact n) h3⟩
  | .scr ns, _, _, h => by
    obtain ⟨a, h1, h2⟩ := rep_scr.mp h
    refine rep_scr.mpr ⟨a, h1, ?_⟩
    rcases h2 with h2 | h2
    · exact .inl (rd_C e (fun u b' z => nomatch z) (fun b z => nomatch z) h2)
    · exact .inr h2
  | .dic ks ds, _, n, h => by
    obtain ⟨a, kvs, h1, h2, h3, h4⟩ := rep_dic.mp h
    exact rep_dic.mpr ⟨a, kvs, h1, e _ _ h2 (fun u b' z => nomatch z), h3, Reps.strip e (by simpa only [noClo] using n) h4⟩
  | .obj c ns ds, _, n, h => by
    obtain ⟨a, C, dx, fs, h1, h2, h3, h4, h5⟩ := rep_obj.mp h
    exact rep_obj.mpr ⟨a, C, dx, fs, h1, h2, e _ _ h3 (fun u b' z => nomatch z), h4, Reps.strip e (by simpa only [noClo] using n) h5⟩
  | .fnv z cl, _, _, h => by
    obtain ⟨f, c, h1, h2, h3⟩ := rep_fnv.mp h
    exact rep_fnv.mpr ⟨f, c, h1, e _ _ h2 (fun u b' => fnO_frz), e _ _ h3 (fun u b' => codeO_frz)⟩
  | .clo _ _, _, n, _ => by simp [noClo] at n
theorem Reps.strip (e : ExtC F F') : ∀ {ds : List D} {vs : List V}, noClos ds = true → Reps K mg F ds vs → Reps K mg F' ds vs
  | [], _, _, h => reps_nil.mpr (reps_nil.mp h)
  | d :: ds, _, n, h => by
    obtain ⟨v, r, h1, h2, h3⟩ := reps_cons.mp h
    rw [noClos_cons, Bool.and_eq_true] at n
    exact reps_cons.mpr ⟨v, r, h1, Rep.strip e n.1 h2, Reps.strip e n.2 h3⟩
end
theorem CellsF.lkd {fr : List Str} {vs : List V} (h : CellsF F cl fr vs) : Lkd cl F := fun b ⟨y, q⟩ => by
  obtain ⟨o, u, z, _⟩ := h.2.1 y b q
  exact ⟨o, z⟩
theorem CellsF.at {P : Program} {w : World} {h : Heap} {fr : List Str} {vs : List V} (x : HOk P w H h) (c : CellsF H cl fr vs) : CellsAt cl fr (vs.map some) h (Pu.strip cl H) := by
  obtain ⟨h1, h2, h3, h4⟩ := c
  refine ⟨by rw [List.length_map]; exact h1, fun y c e => ⟨strip_in ⟨y, e⟩, ?_⟩, h3, fun i y e => ?_⟩
  · obtain ⟨o, u, z1, z2⟩ := h2 y c e
    exact ⟨u, o, (x c _ z1).1, z2⟩
  · have hi : i < vs.length := by rw [h1]; exact (List.getElem?_eq_some_iff.mp e).1
    obtain ⟨c, o, u, z1, z2, z3, z4⟩ := h4 i y vs[i] e (List.getElem?_eq_getElem hi)
    refine ⟨c, z1, fun v ev => ?_⟩
    rw [List.getElem?_map, List.getElem?_eq_getElem hi] at ev
    cases ev
    exact ⟨u, z4, o, (x c _ z2).1, z3⟩
end
abbrev NFz (z : CloD) (cl : List (Str × Addr)) (c : Addr) : NF := NF.of z.st z.name z.qual cl c
def del (p : Addr) (H : Hp) : Hp := fun b => if b = p then none else H b
theorem del_same {p : Addr} {H : Hp} : del p H p = none := by unfold del; rw [if_pos rfl]
theorem del_ne {p b : Addr} {H : Hp} (h : b ≠ p) : del p H b = H b := by unfold del; rw [if_neg h]
theorem same_del {p : Addr} {H : Hp} : Same (del p H) H := fun b u e => by
  by_cases q : b = p
  · rw [q, del_same] at e; cases e
  · rw [del_ne q] at e; exact e
/-- with one argument, a list that is nobody else's: what φ tells of what the cells hold and of the list -/
def Clo1 (K : PySem.W.Frag) (mg : Str → Option Value) (cl : List (Str × Addr)) (φ : List D → List D → Res D) : List (Option V) → Sp := fun ws vs H Q E => vs.length = 1 ∧ ∃ F p xs ds dws wvs, vs = [.ref p] ∧ ws = wvs.map some ∧ Same F H ∧ F p = none ∧ H p = some (.lst xs) ∧ Reps K mg F ds xs ∧ Reps K mg F dws wvs ∧ Sib cl dws ∧ (match φ dws ds with
  | .ok d => ∀ v F' H', Wd F (del p H) F' H' → Rep K mg F' d v → Q v H'
  | _ => False)
structure CloP (P : Program) (w : World) (K : PySem.W.Frag) (mg : Str → Option Value) (base : Heap) (k : Nat) (z : CloD) (φ : List D → List D → Res D) : Prop where
  ok : ∀ (f : Addr) (cl : List (Str × Addr)) (c : Addr), NOk P w K mg base CX0 k f (NFz z cl c) z.ps z.fr (Clo1 K mg cl φ)
theorem CloP.mono {P : Program} {w : World} {K : PySem.W.Frag} {mg : Str → Option Value} {base : Heap} {j k : Nat} {z : CloD} {φ : List D → List D → Res D} (c : CloP P w K mg base j z φ) (h : j ≤ k) : CloP P w K mg base k z φ := ⟨fun f cl a => (c.ok f cl a).mono h⟩
/-- a def's body, its argument its own -/
def runC (N : Nat) (g : En → Fl) : List D → List D → Res D := fun dws ds => match g (S.own ds :: (dws.map S.val ++ List.replicate (N - 1 - dws.length) S.emp)) with
  | .rt d => .ok d
  | .nx _ => .ok .non
  | _ => .bad
theorem clo_of {P : Program} {w : World} {K : PySem.W.Frag} {mg : Str → Option Value} {base : Heap} {z : CloD} {N : List Str} {k : Nat} {g : En → Fl} (S : NScope N z.ps z.fr (C8.fnScope z.st)) (hl : z.ps.length = 1)
    (hb : ∀ (cl : List (Str × Addr)) (c : Addr) (doc pm ctv : Value) (us : List Value), us.length = z.ps.length → bindArgs ((NFz z cl c).fd doc pm ctv) ⟨us, []⟩ = pure (z.ps.zip us))
    (hbody : ∀ (f : Addr) (cl : List (Str × Addr)) (c : Addr) (A : Around) (outer : List Env) (s : Shared) (H : Hp) (E : XK), Room k (A.deeper (envF (NFz z cl c) f s.heap.objs.size)) →
      ∃ t, PSs (ncx CX0 P w K mg base N (NFz z cl c) f A outer s H E) (C8.fnBody z.st) t ∧ DS K mg W0 t g) : CloP P w K mg base (k + 1) z (runC N.length g) := by
  refine ⟨fun f cl c => nok_of S (hb cl c) (fun ws vs H Q E h => by rw [hl]; exact h.1) fun A outer s H vs ws Q E hr hf hc hw hsp => ?_⟩
  obtain ⟨t, h1, h2⟩ := hbody f cl c A outer s H E hr
  refine ⟨t, h1, ?_⟩
  obtain ⟨_, F, p, xs, ds, dws, wvs, rfl, rfl, s0, n1, hp, r, rw', _, o⟩ := hsp
  have lw := rw'.length
  rw [List.length_map] at hw
  have hN : 1 + wvs.length ≤ N.length := by
    have q := congrArg List.length S.pre
    rw [List.length_take, List.length_append] at q
    omega
  have R : Rl K mg F (startF N [.ref p] (wvs.map some)) H (Pu.S.own ds :: (dws.map Pu.S.val ++ List.replicate (N.length - 1 - dws.length) Pu.S.emp)) := by
    have own0 : ∀ {j : Nat} {es : List D}, (Pu.S.own ds :: (dws.map Pu.S.val ++ List.replicate (N.length - 1 - dws.length) Pu.S.emp))[j]? = some (.own es) → j = 0 := fun {j es} e => by
      cases j with
      | zero => rfl
      | succ j =>
        rw [List.getElem?_cons_succ] at e
        have m := List.mem_of_getElem? e
        rcases List.mem_append.mp m with m | m
        · obtain ⟨d, _, q⟩ := List.mem_map.mp m
          cases q
        · have q := List.eq_of_mem_replicate m
          cases q
    refine ⟨s0, ?_, fun i st e => ?_, fun i j d1 d2 a e1 e2 _ _ => by rw [own0 e1, own0 e2]⟩
    · unfold startF
      simp [lw]
    · unfold startF
      cases i with
      | zero =>
        cases e
        exact ⟨p, xs, rfl, n1, hp, r⟩
      | succ i =>
        rw [List.getElem?_cons_succ] at e
        by_cases hi : i < dws.length
        · rw [List.getElem?_append_left (by rw [List.length_map]; exact hi), List.getElem?_map, List.getElem?_eq_getElem hi] at e
          cases e
          obtain ⟨v, g1, g2⟩ := rw'.get (List.getElem?_eq_getElem hi)
          refine ⟨v, ?_, g2⟩
          show ((some (V.ref p)) :: (wvs.map some ++ _))[i + 1]? = _
          rw [List.getElem?_cons_succ, List.getElem?_append_left (by rw [List.length_map]; omega), List.getElem?_map, g1]
          rfl
        · rw [List.getElem?_append_right (by rw [List.length_map]; omega), List.getElem?_replicate] at e
          split at e
          · cases e
            exact trivial
          · cases e
  refine h2 F (del p H) F _ H _ _ ⟨R, Same.refl F, same_del, fun a o e n => (by rw [n] at e; cases e), fun i es o e1 e2 => ?_⟩ ?_
  · cases i with
    | zero =>
      have e2 : some (some (V.ref p)) = some (some (V.ref o)) := e2
      cases e2
      exact del_same
    | succ i =>
      rw [List.getElem?_cons_succ] at e1
      have m := List.mem_of_getElem? e1
      rcases List.mem_append.mp m with m | m
      · obtain ⟨d, _, q⟩ := List.mem_map.mp m
        cases q
      · have q := List.eq_of_mem_replicate m
        cases q
  · unfold runC at o
    cases e : g (Pu.S.own ds :: (dws.map Pu.S.val ++ List.replicate (N.length - 1 - dws.length) Pu.S.emp)) with
    | nx ρ =>
      rw [e] at o
      exact fun F' σ' H' R' => o .non F' H' R'.wd (rep_non.mpr rfl)
    | rt d =>
      rw [e] at o
      exact fun v F' H' w rp => o v F' H' w rp
    | _ =>
      rw [e] at o
      exact o.elim
/-! ### a function handed in is called -/
def tClo (i : Nat) (sp : CloD → List (Str × Addr) → List (Option V) → Sp) (te : TE) : TE := fun σ H Q => ∃ f z cl c, σ[i]? = some (some (.ref f)) ∧ H f = some (FnO f (NFz z cl c)) ∧ te σ H fun v H1 => H1 f = some (FnO f (NFz z cl c)) ∧ H1 c = some (CodeO c z.qual) ∧
  ∃ wvs, CellsF H1 cl z.fr wvs ∧ sp z cl (wvs.map some) [v] (strip cl H1) (fun u H2 => (∀ b, InCl cl b → H2 b = none) → Q u (over cl H1 H2)) L2.E0
section
variable {X : Cx} {sp : CloD → List (Str × Addr) → List (Option V) → Sp} {i j k : Nat} {x : Str} {te : TE} {e : Expr} {p pos : Pos}
theorem pa_one {t : TE} (h : PE X e t) (he : starEach [e] X.env = (false, eval e X.env) :: starEach [] X.env) : PA X [e] (tCons t tNil) := pa_cons h pa_nil (hs := he)
theorem pe_clo (Fn : ∀ z f cl c, NOk X.prog X.w X.K X.mg X.base CX0 k f (NFz z cl c) z.ps z.fr (sp z cl)) (hr : Room j X.A) (hk : k ≤ j) (hN : X.N[i]? = some x) (hv : Vis X.env.scope x) (ha : PE X e te)
    (hd : (x == ("__debug__" : Str)) = false := by decide) (hcd : (x == ("__classdict__" : Str)) = false := by decide)
    (he : starEach [e] X.env = (false, eval e X.env) :: starEach [] X.env := by rfl) (hpl : (backTo pos (starEach [] X.env)).any (·.1) = false := by rfl) :
    PE X (.Call (.Name x p) [e] [] pos) (tClo i sp te) := by
  refine ⟨fun pins s σ H Q I h => ?_⟩
  obtain ⟨f, z, cl, c', hs, hf, ht⟩ := h
  refine wpAny_Call_Name_kw (thn ((pe_var (pos := p) hN hv hd hcd).run pins s σ H (fun v H1 => v = .ref f ∧ H1 = H) I ⟨.ref f, hs, rfl, rfl⟩) fun u s1 ⟨v, H1, I1, r1, q1⟩ => ?_)
  obtain ⟨ev, eH⟩ := q1
  subst ev
  rw [eH] at I1
  obtain rfl : u = Value.ref f := r1
  have hta : (tCons te tNil) σ H fun vs H1 => ∃ v, vs = [v] ∧ H1 f = some (FnO f (NFz z cl c')) ∧ H1 c' = some (CodeO c' z.qual) ∧
      ∃ wvs, CellsF H1 cl z.fr wvs ∧ sp z cl (wvs.map some) [v] (strip cl H1) (fun u H2 => (∀ b, InCl cl b → H2 b = none) → Q u (over cl H1 H2)) L2.E0 := by
    show te σ H fun v H1 => _
    exact (ht : te σ H _) |> fun q => (by
      refine cast ?_ q
      congr 1
      funext v H1
      apply propext
      constructor
      · intro h; exact ⟨v, rfl, h⟩
      · rintro ⟨v', e, h⟩
        cases e
        exact h)
  refine PySem.W.callWith_F (first := []) (fnAt_of I1 hf) (thn ((pa_one ha he).run pos pins s1 σ H _ I1 hta) fun us s2 ⟨vs, H2, I2, r, v, ev, h1, h2, wvs, C, q⟩ => ⟨fnAt_of I2 h1, ?_⟩) he hpl
  subst ev
  show wpAny _ _ (call (.ref f) us) _ _ _
  have L := C.lkd
  have o1 : ¬ InCl cl f := L.ne h1 fun o' => fnO_frz
  have o2 : ¬ InCl cl c' := L.ne h2 fun o' => codeO_frz
  refine wpAny_call (codeAny_mono ((Fn z f cl c').run X.A X.stack s2 (strip cl H2) us [v] (wvs.map some) _ L2.E0 (hr.mono hk) (env0_strip I2.env0 L) (by rw [strip_out o1]; exact h1) (by show strip cl H2 c' = _; rw [strip_out o2]; exact h2) (C.at I2.hok) r q) fun r s' hq => ?_)
  cases r with
  | error e => exact hq.elim
  | ok fl =>
    cases fl with
    | ret u =>
      refine I2.after (ce_relock I2.env0 L ?_)
      obtain ⟨v', H', os, bare, un, hok, rv, q'⟩ := (show CE _ _ _ _ _ _ _ _ from hq)
      refine ⟨v', H', os, bare, un, hok, rv, q' fun b hb => ?_⟩
      obtain ⟨o, zz⟩ := L b hb
      exact un.free b o (I2.hok b _ zz).1 (strip_in hb) (by simp)
    | next => exact False.elim hq
    | brk => exact False.elim hq
    | cont => exact False.elim hq
end
section
variable {K : PySem.W.Frag} {mg : Str → Option Value} {W : WX} {Φ : CloD → List D → List D → Res D}
def dClo (i : Nat) (Φ : CloD → List D → List D → Res D) (f : En → Res (List D)) : En → Res D := fun ρ => match ρ[i]? with
  | some (.val (.clo z ws)) => (f ρ).bind fun ds => if noClos ds = true ∧ noClos ws = true then noExc (Φ z ws ds) else .bad
  | _ => .bad
theorem de_clo {i : Nat} {te : TE} {f : En → Res (List D)} (h : DN K mg W te f) : DE K mg W (tClo i (fun z cl => Clo1 K mg cl (Φ z)) te) (dClo i Φ f) := by
  intro F σ H ρ Q R o
  unfold dClo at o
  split at o
  · rename_i z ws e
    obtain ⟨v0, g1, g2⟩ := R.val e
    obtain ⟨fa, c, cl, wvs, rfl, h1, h2, h3, hsib, h4⟩ := rep_clo.mp g2
    refine ⟨fa, z, cl, c, g1, R.sub _ _ h1, h F σ H ρ _ R ?_⟩
    cases ef : f ρ with
    | exc c =>
      simp only [ef, Res.bind] at o
      exact o
    | bad =>
      simp only [ef, Res.bind] at o
      exact o.elim
    | ok ds =>
      simp only [ef, Res.bind] at o
      split at o
      · rename_i hn
        obtain ⟨d, ed, o⟩ : ∃ d, Φ z ws ds = .ok d ∧ ∀ v F' H', Wd F H F' H' → Rep K mg F' d v → Q v H' := by
          unfold noExc at o
          cases q : Φ z ws ds with
          | ok d => rw [q] at o; exact ⟨d, rfl, o⟩
          | exc c => rw [q] at o; exact o.elim
          | bad => rw [q] at o; exact o.elim
        intro q vs F1 H1 w n0 n1 hq rp
        have C1 : CellsF F1 cl z.fr wvs := h3.monoN (ExtN.of w.ff)
        have CH : CellsF H1 cl z.fr wvs := C1.monoN (ExtN.of w.sub)
        have L1 := C1.lkd
        have X1 : ExtC F1 (strip cl F1) := extC_strip fun b hb => .inr (L1 b hb)
        have oq : ¬ InCl cl q := fun k => by
          obtain ⟨o', z'⟩ := L1 q k
          rw [n1] at z'; cases z'
        refine ⟨w.sub _ _ (w.ff _ _ h1), w.sub _ _ (w.ff _ _ h2), wvs, CH, rfl, strip cl F1, q, vs, ds, ws, wvs, rfl, rfl, fun a u ea => ?_, by rw [strip_out oq]; exact n1, by rw [strip_out oq]; exact hq, Reps.strip X1 hn.1 rp, Reps.strip X1 hn.2 (h4.mono w.ff), hsib, ?_⟩
        · by_cases k : InCl cl a
          · rw [strip_in k] at ea; cases ea
          · rw [strip_out k] at ea ⊢; exact w.sub a u ea
        · rw [ed]
          intro v F' H' w' rv hfree
          have out' : ∀ a u, F' a = some u → ¬ InCl cl a := fun a u ea k => by
            have := w'.sub a u ea
            rw [hfree a k] at this; cases this
          refine o v (over cl F1 F') (over cl H1 H') ⟨fun a u ea => ?_, fun a u ea => ?_, fun a u ea na => ?_, fun a u ea => ?_⟩ (rv.mono fun a u ea => by rw [over_out (out' a u ea)]; exact ea)
          · have e1 := w.ff a u ea
            by_cases k : InCl cl a
            · rw [over_in k]; exact e1
            · rw [over_out k]
              exact w'.ff a u (by rw [strip_out k]; exact e1)
          · have e1 := w.hh a u ea
            by_cases k : InCl cl a
            · rw [over_in k]; exact e1
            · rw [over_out k]
              refine w'.hh a u ?_
              rw [del_ne (fun z' => by rw [z', n0] at ea; cases ea), strip_out k]
              exact e1
          · by_cases k : InCl cl a
            · rw [over_in k] at ea
              exact w.new a u ea na
            · rw [over_out k] at ea
              cases z1 : F1 a with
              | some u' => exact w.new a u' z1 na
              | none =>
                have z2 := w'.new a u ea (by rw [strip_out k]; exact z1)
                by_cases ka : a = q
                · rw [ka]; exact n0
                · rw [del_ne ka, strip_out k] at z2
                  exact w.hh.free z2
          · by_cases k : InCl cl a
            · rw [over_in k] at ea ⊢
              exact w.sub a u ea
            · rw [over_out k] at ea ⊢
              exact w'.sub a u ea
      · exact o.elim
  · exact o.elim
end
end Pu
/-! ## PuClo2 -/
namespace Pu
open PySem PySem.Spec PyProof.Rows L2 LamX NdefX
def valsAt : List Nat → En → Res (List D)
  | [], _ => .ok []
  | j :: js, ρ => match ρ[j]? with
    | some (.val d) => (valsAt js ρ).bind fun r => .ok (d :: r)
    | _ => .bad
section
variable {K : PySem.W.Frag} {mg : Str → Option Value} {W : WX} {F H : Hp} {σ : Sg} {ρ : En}
theorem vals_at (R : Rl K mg F σ H ρ) : ∀ {js : List Nat} {ws : List D}, valsAt js ρ = .ok ws → ∃ wvs, js.map (slotAt σ) = wvs.map some ∧ Reps K mg F ws wvs
  | [], ws, h => by
    cases h
    exact ⟨[], rfl, reps_nil.mpr rfl⟩
  | j :: js, ws, h => by
    simp only [valsAt] at h
    split at h
    · rename_i d e
      cases q : valsAt js ρ with
      | ok r =>
        rw [q] at h
        cases h
        obtain ⟨v, h1, h2⟩ := R.val e
        obtain ⟨wvs, g1, g2⟩ := vals_at R q
        exact ⟨v :: wvs, by rw [List.map_cons, List.map_cons, slotAt_of h1, g1], reps_cons.mpr ⟨v, wvs, rfl, h2, g2⟩⟩
      | exc c =>
        rw [q] at h
        cases h
      | bad =>
        rw [q] at h
        cases h
    · cases h
theorem valsAt_exc {js : List Nat} {c : Str} : valsAt js ρ ≠ .exc c := by
  induction js with
  | nil => intro h; cases h
  | cons j js ih =>
    intro h
    simp only [valsAt] at h
    split at h
    · cases q : valsAt js ρ with
      | ok r => rw [q] at h; cases h
      | exc c' =>
        rw [q] at h
        cases h
        exact ih q
      | bad => rw [q] at h; cases h
    · cases h
theorem Wd.del {F1 H1 F' H' : Hp} {p : Addr} (w : Wd F H F1 H1) (n : H p = Option.none) (w' : Wd F1 (Pu.del p H1) F' H') : Wd F H F' H' := by
  refine ⟨w.ff.trans w'.ff, fun a u e => ?_, fun a u e na => ?_, w'.sub⟩
  · refine w'.hh a u ?_
    rw [del_ne (fun z => by rw [z, n] at e; cases e)]
    exact w.hh a u e
  · cases z1 : F1 a with
    | some u' => exact w.new a u' z1 na
    | none =>
      have z2 := w'.new a u e z1
      by_cases ka : a = p
      · rw [ka]; exact n
      · rw [del_ne ka] at z2
        exact w.hh.free z2
open Classical in
/-- a function made here is called here -/
noncomputable def dFnv (i : Nat) (z : CloD) (cl : List (Str × Addr)) (js : List Nat) (φ : List D → List D → Res D) (f : En → Res (List D)) : En → Res D := fun ρ => if ρ[i]? = some (.val (.fnv z cl)) then (valsAt js ρ).bind fun ws => if Sib cl ws then (f ρ).bind fun ds => noExc (φ ws ds) else .bad else .bad
theorem de_fnv {i : Nat} {z : CloD} {cl : List (Str × Addr)} {js : List Nat} {φ : List D → List D → Res D} {te : TE} {f : En → Res (List D)} (h : DN K mg W te f) :
    DE K mg W (tCallN (NFz z cl) i js (fun _ _ => Clo1 K mg cl φ) L2.E0 (tCons te tNil)) (dFnv i z cl js φ f) := by
  intro F σ H ρ Q R o
  unfold dFnv at o
  split at o
  · rename_i e
    obtain ⟨v0, g1, g2⟩ := R.val e
    obtain ⟨fa, c, rfl, h1, h2⟩ := rep_fnv.mp g2
    cases ew : valsAt js ρ with
    | exc c => exact (valsAt_exc ew).elim
    | bad =>
      simp only [ew, Res.bind] at o
      exact o.elim
    | ok ws =>
      obtain ⟨wvs, k1, k2⟩ := vals_at R ew
      simp only [ew, Res.bind] at o
      have hsib : Sib cl ws := Classical.byContradiction fun hn => by
        rw [if_neg hn] at o
        exact o.elim
      rw [if_pos hsib] at o
      refine ⟨fa, c, g1, R.sub _ _ h1, h F σ H ρ _ R ?_⟩
      cases ef : f ρ with
      | exc c =>
        simp only [ef] at o
        exact o
      | bad =>
        simp only [ef] at o
        exact o.elim
      | ok ds =>
        simp only [ef] at o
        obtain ⟨d, ed, o⟩ : ∃ d, φ ws ds = .ok d ∧ ∀ v F' H', Wd F H F' H' → Rep K mg F' d v → Q v H' := by
          unfold noExc at o
          cases q : φ ws ds with
          | ok d => rw [q] at o; exact ⟨d, rfl, o⟩
          | exc c => rw [q] at o; exact o.elim
          | bad => rw [q] at o; exact o.elim
        intro q vs F1 H1 w n0 n1 hq rp
        refine ⟨w.sub _ _ (w.ff _ _ h1), w.sub _ _ (w.ff _ _ h2), rfl, F1, q, vs, ds, ws, wvs, rfl, k1, w.sub, n1, hq, rp, k2.mono w.ff, hsib, ?_⟩
        rw [ed]
        exact fun v F' H' w' rv => o v F' H' (w.del n0 w') rv
  · exact o.elim
end
section
variable {X : Cx} {φ : List D → List D → Res D} {z : CloD} {cl : List (Str × Addr)} {js : List Nat} {i j k : Nat} {x : Str} {te : TE} {e : Expr} {p pos : Pos}
theorem pe_fnv (C : CloP X.prog X.w X.K X.mg X.base k z φ) (cp : X.Ok → Caps X cl z.fr js) (hr : Room j X.A) (hk : k ≤ j) (hN : X.N[i]? = some x) (hv : Vis X.env.scope x) (ha : PE X e te)
    (hd : (x == ("__debug__" : Str)) = false := by decide) (hcd : (x == ("__classdict__" : Str)) = false := by decide)
    (he : starEach [e] X.env = (false, eval e X.env) :: starEach [] X.env := by rfl) (hpl : (backTo pos (starEach [] X.env)).any (·.1) = false := by rfl) :
    PE X (.Call (.Name x p) [e] [] pos) (tCallN (NFz z cl) i js (fun _ _ => Clo1 X.K X.mg cl φ) L2.E0 (tCons te tNil)) :=
  pe_calln (mk := NFz z cl) (fun f c' => C.ok f cl c') (fun _ => rfl) cp hr hk L2.pass0 hN hv (pa_one ha he) hd hcd he hpl
end
/-! ### a function made here is handed on -/
def tCallLk (sp : Sp) (cl : List (Str × Addr)) (fr : List Str) (js : List Nat) (t : TA) : TE := fun σ H Q => t σ H fun vs H1 => ∀ H2 : Hp, (∀ b, ¬ InCl cl b → H2 b = H1 b) → (∀ b, InCl cl b → H1 b = none) → (∀ wvs, js.map (slotAt σ) = wvs.map some → CellsF H2 cl fr wvs) →
  sp vs H2 (fun v H3 => (∀ b, InCl cl b → H3 b = H2 b) → Q v (strip cl H3)) L2.E0
section
variable {X : Cx} {cl : List (Str × Addr)} {fr : List Str} {js : List Nat} {k j n : Nat} {f : Addr} {fd : FuncData} {ps : List Str} {sp : Sp} {x : Str} {p pos : Pos} {e : Expr} {es : List Expr} {t : TA}
theorem pe_callLk (F : FnOk X.prog X.w X.K X.mg X.base L2.CX0 k f fd ps sp) (cp : X.Ok → Caps X cl fr js) (hfn : ∀ y, X.fn y = true) (hr : Room k X.A) (hg : Gl X x) (hm : X.mg x = some (.ref f)) (hk : PySem.W.keepIn X.K (.ref f) = true) (hb : Binds X.K fd ps [])
    (ha : PA X (e :: es) t) (hdb : (x == ("__debug__" : Str)) = false := by decide) (he : starEach (e :: es) X.env = (false, eval e X.env) :: starEach es X.env := by rfl) (hpl : (backTo pos (starEach es X.env)).any (·.1) = false := by rfl) :
    PE X (.Call (.Name x p) (e :: es) [] pos) (tCallLk sp cl fr js t) := by
  refine ⟨fun pins s σ H Q I h => ?_⟩
  refine wpAny_Call_Name_kw (ld_glob I hg hm ?_ hdb)
  refine PySem.W.callWith_K (h₀ := X.base) I.ok.mod.kin hk (thn (ha.run pos pins s σ H _ I h) fun us s1 ⟨vs, H1, I1, r, q⟩ => ⟨I1.kIn, ?_⟩) he hpl
  have cp1 := cp I1.ok
  have nn : ∀ b, InCl cl b → H1 b = none := fun b ⟨y, hy⟩ => I1.freeC y b (cp1.sub y b hy)
  have tt : ∀ b, InCl cl b → ∃ o u, s1.heap.get? b = some o ∧ o.data = .cell u := fun b ⟨y, hy⟩ => by
    obtain ⟨v, o, ho, hd⟩ := I1.cell y b (cp1.sub y b hy)
    exact ⟨o, v, ho, hd⟩
  have tt' : ∀ b, InCl cl b → ∃ o, s1.heap.get? b = some o := fun b hb => let ⟨o, _, ho, _⟩ := tt b hb; ⟨o, ho⟩
  have hi : ∀ b, InCl cl b → X.s_0.heap.objs.size ≤ b := fun b ⟨y, hy⟩ => I1.ok.cab y b (hfn y) (cp1.sub y b hy)
  have nb : ∀ b o, X.base.get? b = some o → ¬ InCl cl b := fun b o hb hc => absurd (Nat.lt_of_lt_of_le (Heap.lt_size hb) (Nat.le_trans I1.ok.bsz (hi b hc))) (Nat.lt_irrefl _)
  have nf : ∀ b ∈ frs X.stack, ¬ InCl cl b := fun b hb hc => by
    rcases List.mem_cons.mp (I1.stkSub b hb) with z | z
    · obtain ⟨y, hy⟩ := hc
      exact I1.cne y b (cp1.sub y b hy) z
    · obtain ⟨_, o, ho, _⟩ := I1.ok.funs.mem z
      exact absurd (Nat.lt_of_lt_of_le (Heap.lt_size ho) (hi b hc)) (Nat.lt_irrefl _)
  have cells : ∀ wvs, js.map (slotAt σ) = wvs.map some → CellsF (lockH s1.heap cl H1) cl fr wvs := fun wvs ew => by
    have C := cells_of I1 cp1
    rw [ew] at C
    refine ⟨by have := C.len; rw [List.length_map] at this; exact this, fun y c hy => ?_, C.inj, fun m y v hm hv => ?_⟩
    · obtain ⟨o, u, ho, hd⟩ := tt c ⟨y, hy⟩
      exact ⟨o, u, by rw [lock_in ⟨y, hy⟩, ho]; rfl, hd⟩
    · obtain ⟨c, hc, hv2⟩ := C.has m y hm
      obtain ⟨u, ru, o, ho, hd⟩ := hv2 v (by rw [List.getElem?_map, hv]; rfl)
      exact ⟨c, o, u, hc, by rw [lock_in ⟨y, hc⟩, ho]; rfl, hd, ru⟩
  have q2 := q (lockH s1.heap cl H1) (fun b hb => lock_out hb) nn cells
  have lk : Lkd cl (lockH s1.heap cl H1) := lkd_lock tt'
  have r2 : Vals (vs ++ []) (us ++ []) := r.append .nil
  have hl : (us ++ ([] : List Value)).length = ps.length := by rw [← r2.length, List.append_nil]; exact F.len _ _ _ _ q2
  refine wpAny_call (codeAny_mono (F.run X.A X.stack s1 (lockH s1.heap cl H1) ⟨us, []⟩ (us ++ []) (vs ++ []) _ L2.E0 hr (env0_lock I1.env0 nn nb nf) (hb s1 us I1.kIn hl) r2 (by rw [List.append_nil]; exact q2)) fun r s' hq => ?_)
  cases r with
  | error e => exact hq.elim
  | ok fl =>
    cases fl with
    | ret u =>
      refine I1.after (ce_unlock ?_ nn tt')
      obtain ⟨v', H', os, bare, un, hok, rv, q'⟩ := (show CE _ _ _ _ _ _ _ _ from hq)
      refine ⟨v', H', os, bare, un, hok, rv, q' fun b hb => ?_⟩
      obtain ⟨o, zz⟩ := lk b hb
      rw [zz]
      exact un.frzs b o _ zz
    | next => exact False.elim hq
    | brk => exact False.elim hq
    | cont => exact False.elim hq
theorem pe_calLk {g : List D → Res D} {z : CloD} (c : CalP X.prog X.w X.K X.mg X.base k x n g) (cp : X.Ok → Caps X cl z.fr js) (hfn : ∀ y, X.fn y = true) (hr : Room j X.A) (hk : k ≤ j) (hg : Gl X x) (ha : PA X (e :: es) t)
    (hdb : (x == ("__debug__" : Str)) = false := by decide) (he : starEach (e :: es) X.env = (false, eval e X.env) :: starEach es X.env := by rfl) (hpl : (backTo pos (starEach es X.env)).any (·.1) = false := by rfl) :
    PE X (.Call (.Name x p) (e :: es) [] pos) (tCallLk (Pure X.K X.mg n g) cl z.fr js t) := by
  obtain ⟨a, fd, ps, F, hm, kp, b⟩ := c.ex
  exact pe_callLk F cp hfn (hr.mono hk) hg hm kp b ha hdb he hpl
end
section
variable {K : PySem.W.Frag} {mg : Str → Option Value} {W : WX}
theorem Reps.setAt {F F' : Hp} (s : Same F F') {d : D} : ∀ {ds : List D} {vs : List V} (k : Nat), Reps K mg F ds vs → (∀ v, vs[k]? = some v → Rep K mg F' d v) → Reps K mg F' (ds.set k d) vs
  | [], _, k, h, _ => by
    rw [reps_nil.mp h]
    exact reps_nil.mpr rfl
  | e :: ds, _, 0, h, q => by
    obtain ⟨v, r, rfl, h2, h3⟩ := reps_cons.mp h
    exact reps_cons.mpr ⟨v, r, rfl, q v rfl, h3.mono s⟩
  | e :: ds, _, k + 1, h, q => by
    obtain ⟨v, r, rfl, h2, h3⟩ := reps_cons.mp h
    exact reps_cons.mpr ⟨v, r, rfl, h2.mono s, Reps.setAt s k h3 fun v' hv => q v' (by simpa using hv)⟩
open Classical in
noncomputable def dCalC (n : Nat) (f : List D → Res D) (k : Nat) (z : CloD) (cl : List (Str × Addr)) (js : List Nat) (fa : En → Res (List D)) : En → Res D := fun ρ => (fa ρ).bind fun ds => if ds.length = n ∧ ds[k]? = some (.fnv z cl) then (valsAt js ρ).bind fun ws => if Sib cl ws then (match f (ds.set k (.clo z ws)) with
  | .ok d => if noClo d = true then .ok d else .bad
  | _ => .bad) else .bad else .bad
theorem de_calC {n k : Nat} {f : List D → Res D} {z : CloD} {cl : List (Str × Addr)} {js : List Nat} {ta : TA} {fa : En → Res (List D)} (ha : DA K mg W ta fa) : DE K mg W (tCallLk (Pure K mg n f) cl z.fr js ta) (dCalC n f k z cl js fa) := by
  intro F σ H ρ Q R o
  refine ha.then R o fun ds vs F1 H1 w1 r1 o1 => ?_
  split at o1
  · rename_i hn
    obtain ⟨hn, hk⟩ := hn
    cases ew : valsAt js ρ with
    | exc c => exact (valsAt_exc ew).elim
    | bad =>
      simp only [ew, Res.bind] at o1
      exact o1.elim
    | ok ws =>
      obtain ⟨wvs, k1, k2⟩ := vals_at R ew
      simp only [ew, Res.bind] at o1
      have hsib : Sib cl ws := Classical.byContradiction fun hn => by
        rw [if_neg hn] at o1
        exact o1.elim
      rw [if_pos hsib] at o1
      intro H2 hout hnone hcells
      have C2 := hcells wvs k1
      have fnone : ∀ b, InCl cl b → F1 b = none := fun b hb => by
        cases e : F1 b with
        | none => rfl
        | some u =>
          have := w1.sub b u e
          rw [hnone b hb] at this
          cases this
      have out1 : ∀ a u, F1 a = some u → ¬ InCl cl a := fun a u ea k => by rw [fnone a k] at ea; cases ea
      have s12 : Same F1 (over cl H2 F1) := fun a u ea => by rw [over_out (out1 a u ea)]; exact ea
      have s2 : Same (over cl H2 F1) H2 := fun a u ea => by
        by_cases q : InCl cl a
        · rw [over_in q] at ea; exact ea
        · rw [over_out q] at ea
          rw [hout a q]
          exact w1.sub a u ea
      have C1 : CellsF (over cl H2 F1) cl z.fr wvs := by
        obtain ⟨c1, c2, c3, c4⟩ := C2
        refine ⟨c1, fun y c hy => ?_, c3, fun i y v hi hv => ?_⟩
        · obtain ⟨o', u, z1, z2⟩ := c2 y c hy
          exact ⟨o', u, by rw [over_in ⟨y, hy⟩]; exact z1, z2⟩
        · obtain ⟨c, o', u, z1, z2, z3⟩ := c4 i y v hi hv
          exact ⟨c, o', u, z1, by rw [over_in ⟨y, z1⟩]; exact z2, z3⟩
      refine ⟨by rw [← r1.length]; exact hn, over cl H2 F1, ds.set k (.clo z ws), s2, Reps.setAt s12 k r1 fun v hv => ?_, ?_⟩
      · obtain ⟨v', hv', rv'⟩ := r1.get hk
        rw [hv] at hv'
        cases hv'
        obtain ⟨fa', c, rfl, g1, g2⟩ := rep_fnv.mp rv'
        exact rep_clo.mpr ⟨fa', c, cl, wvs, rfl, s12 _ _ g1, s12 _ _ g2, C1, hsib, (k2.mono w1.ff).mono s12⟩
      · cases ef : f (ds.set k (.clo z ws)) with
        | ok d =>
          rw [ef] at o1
          simp only at o1
          split at o1
          · rename_i hc
            intro v F' H' w' rv hsame
            have L' : ∀ b, InCl cl b → F' b = none ∨ ∃ o, F' b = some (.frz o (.own b)) := fun b hb => by
              obtain ⟨o', z'⟩ := C1.lkd b hb
              exact .inr ⟨o', w'.ff b _ z'⟩
            refine o1 v (strip cl F') (strip cl H') ⟨fun a u ea => ?_, fun a u ea => ?_, fun a u ea na => ?_, fun a u ea => ?_⟩ (Rep.strip (extC_strip L') hc rv)
            · rw [strip_out (out1 a u ea)]
              exact w'.ff a u (s12 a u ea)
            · have q : ¬ InCl cl a := fun q => by rw [hnone a q] at ea; cases ea
              rw [strip_out q]
              exact w'.hh a u (by rw [hout a q]; exact ea)
            · by_cases q : InCl cl a
              · rw [strip_in q] at ea; cases ea
              · rw [strip_out q] at ea
                have := w'.new a u ea (by rw [over_out q]; exact na)
                rw [hout a q] at this
                exact this
            · by_cases q : InCl cl a
              · rw [strip_in q] at ea; cases ea
              · rw [strip_out q] at ea ⊢
                exact w'.sub a u ea
          · exact o1.elim
        | exc c =>
          rw [ef] at o1
          exact o1.elim
        | bad =>
          rw [ef] at o1
          exact o1.elim
  · exact o1.elim
end
end Pu
/-! ## PuTop -/
/-! a law's own body: defs within it are made, tables of code objects grow -/
namespace Pu
open PySem PySem.Spec PyProof.Rows L2 LamX NdefX
def notOwn : S → Bool
  | .own _ => false
  | _ => true
def noOwnB (ρ : En) : Bool := ρ.all notOwn
theorem noOwn_of {ρ : En} (h : noOwnB ρ = true) (i : Nat) (ds : List D) : ρ[i]? ≠ some (.own ds) := fun e => by
  have := List.all_eq_true.mp h _ (List.mem_of_getElem? e)
  cases this
section
variable (K : PySem.W.Frag) (mg : Str → Option Value) (T : List NTab)
def OutX (E : Ends) : Fl → Prop
  | .nx ρ => ∀ F0 H0 F σ H, RlS K mg F0 H0 F σ H ρ → TabsN T H0 → E.nx σ H
  | .rt d => ∀ v F H, Same F H → Rep K mg F d v → E.rt v H
  | _ => False
def DX (ts : TS) (g : En → Fl) : Prop := ∀ (F0 H0 F : Hp) (σ : Sg) (H : Hp) (ρ : En) (E : Ends), RlS K mg F0 H0 F σ H ρ → TabsN T H0 → OutX K mg T E (g ρ) → ts E σ H
end
section
variable {K : PySem.W.Frag} {mg : Str → Option Value} {T : List NTab}
theorem dx_ds {ts : TS} {g : En → Fl} (h : DS K mg W0 ts g) : DX K mg T ts g := by
  intro F0 H0 F σ H ρ E R hT o
  refine h F0 H0 F σ H ρ E R ?_
  cases e : g ρ with
  | nx ρ' =>
    rw [e] at o
    exact fun F' σ' H' R' => o F0 H0 F' σ' H' R' hT
  | rt d =>
    rw [e] at o
    exact fun v F' H' w r => o v F' H' w.sub r
  | _ =>
    rw [e] at o
    exact o.elim
theorem dx_seq {t u : TS} {f g : En → Fl} (h : DX K mg T t f) (h' : DX K mg T u g) : DX K mg T (tSeq t u) (sSeq f g) := by
  intro F0 H0 F σ H ρ E R hT o
  refine h F0 H0 F σ H ρ _ R hT ?_
  unfold sSeq at o
  cases e : f ρ with
  | nx ρ' =>
    rw [e] at o
    exact fun F1 H1 F2 σ2 H2 R2 T2 => h' F1 H1 F2 σ2 H2 ρ' E R2 T2 o
  | rt d =>
    rw [e] at o
    exact o
  | _ =>
    rw [e] at o
    exact o.elim
theorem dx_frz {is : List Nat} {ts : TS} {g : En → Fl} (h : DX K mg T ts g) : DX K mg T ts (sFrz is g) := by
  intro F0 H0 F σ H ρ E R hT o
  obtain ⟨F', s, R'⟩ := RlS.frzs is R
  exact h F0 H0 F' σ H _ E R' hT o
def sNdef (i : Nat) (z : CloD) (cl : List (Str × Addr)) : En → Fl := fun ρ => if noOwnB ρ = true then .nx (ρ.set i (.val (.fnv z cl))) else .bad
def dropT (F : Hp) : Hp := fun b => match F b with
  | some (.tbl _) => none
  | x => x
theorem dropT_some {F : Hp} {b : Addr} {o : HO} (h : F b = some o) (n : ∀ ps, o ≠ .tbl ps) : dropT F b = some o := by
  unfold dropT
  rw [h]
  cases o with
  | tbl ps => exact (n ps rfl).elim
  | _ => rfl
theorem of_dropT {F : Hp} {b : Addr} {o : HO} (h : dropT F b = some o) : F b = some o ∧ ∀ ps, o ≠ .tbl ps := by
  unfold dropT at h
  split at h
  · cases h
  · rename_i hn
    exact ⟨h, fun ps e => hn ps (by rw [h, e])⟩
theorem set_notOwn {ρ : En} {i : Nat} {d : D} (h : noOwnB ρ = true) : noOwnB (ρ.set i (.val d)) = true := by
  refine List.all_eq_true.mpr fun s hs => ?_
  rcases List.mem_or_eq_of_mem_set hs with q | q
  · exact List.all_eq_true.mp h s q
  · rw [q]; rfl
theorem dx_ndef {i : Nat} {z : CloD} {cl : List (Str × Addr)} : DX K mg T (tNdefM T i (NFz z cl)) (sNdef i z cl) := by
  intro F0 H0 F σ H ρ E RR hT0 o
  unfold sNdef at o
  split at o
  case isFalse => exact o.elim
  rename_i hn
  have R := RR.rl
  have hT := hT0.ext RR.hh
  refine ⟨hT, fun f c' H1 eN nn T1 f0 f1 c1 => ?_⟩
  have Ff : F f = none := noneOf R.sub f0
  have c1 : H1 c' = some (CodeO c' z.qual) := c1
  have ext : ExtN F (upd (upd (dropT F) c' (CodeO c' z.qual)) f (FnO f (NFz z cl c'))) := fun a u e n => by
    have n1 : a ≠ f := fun q => by rw [q, Ff] at e; cases e
    rw [upd_ne n1]
    by_cases q : a = c'
    · rw [q] at e
      have := eN c' u (R.sub _ _ e) n
      rw [c1] at this
      cases this
      rw [q, upd_same]
    · rw [upd_ne q]
      exact dropT_some e n
  have ns : (upd (upd (dropT F) c' (CodeO c' z.qual)) f (FnO f (NFz z cl c'))) f = some (FnO f (NFz z cl c')) := upd_same
  have nc : f ≠ c' := fun q => by
    rw [q, c1] at f1
    have e1 : CodeO c' z.qual = FnO c' (NFz z cl c') := Option.some.inj f1
    unfold CodeO FnO at e1
    injection e1 with e2
    have hh := congrFun e2 { objs := Array.replicate (c' + 1) ({ cls := .type "function", data := .func ((NFz z cl c').fd .none .none .none) } : Obj) }
    have g : ({ objs := Array.replicate (c' + 1) ({ cls := .type "function", data := .func ((NFz z cl c').fd .none .none .none) } : Obj) } : Heap).get? c' = some ({ cls := .type "function", data := .func ((NFz z cl c').fd .none .none .none) } : Obj) := by
      unfold Heap.get?
      simp
    have p : ∃ (oc : Obj) (vs : Array Value) (t : Tok), ({ objs := Array.replicate (c' + 1) ({ cls := .type "function", data := .func ((NFz z cl c').fd .none .none .none) } : Obj) } : Heap).get? c' = some oc ∧ oc.data = .fields vs ∧ vs[1]? = some (.str z.qual t) := by
      rw [hh]
      exact ⟨_, _, _, _, _, g⟩
    obtain ⟨oc, vs, t, h1, h2, _⟩ := p
    rw [g] at h1
    cases h1
    cases h2
  have cc : (upd (upd (dropT F) c' (CodeO c' z.qual)) f (FnO f (NFz z cl c'))) c' = some (CodeO c' z.qual) := by rw [upd_ne (Ne.symm nc), upd_same]
  have sub : Same (upd (upd (dropT F) c' (CodeO c' z.qual)) f (FnO f (NFz z cl c'))) H1 := fun a u e => by
    by_cases q : a = f
    · subst q
      rw [upd_same] at e
      cases e
      exact f1
    · rw [upd_ne q] at e
      by_cases q2 : a = c'
      · subst q2
        rw [upd_same] at e
        cases e
        exact c1
      · rw [upd_ne q2] at e
        obtain ⟨e1, e2⟩ := of_dropT e
        exact eN a u (R.sub _ _ e1) e2
  have R1 : Rl K mg (upd (upd (dropT F) c' (CodeO c' z.qual)) f (FnO f (NFz z cl c'))) σ H1 ρ := by
    refine ⟨sub, R.len, fun j s e => ?_, fun j k d1 d2 a e1 _ _ _ => (noOwn_of hn j d1 e1).elim⟩
    cases s with
    | emp => exact trivial
    | val d =>
      obtain ⟨v, h1, h2⟩ := R.val e
      exact ⟨v, h1, h2.monoN ext⟩
    | own ds => exact (noOwn_of hn j ds e).elim
  have R2 := R1.set (i := i) (rep_fnv.mpr ⟨f, c', rfl, ns, cc⟩)
  exact o _ _ _ _ _ (RlS.start R2 fun j ds => noOwn_of (set_notOwn hn) j ds) T1
def onlyAt (a : Addr) (H : Hp) : Hp := fun b => if b = a then H b else none
theorem onlyAt_same {a : Addr} {H : Hp} : onlyAt a H a = H a := by unfold onlyAt; rw [if_pos rfl]
theorem onlyAt_sub {a : Addr} {H : Hp} : Same (onlyAt a H) H := fun b u e => by
  unfold onlyAt at e
  split at e
  · exact e
  · cases e
/-- the frame's own facts may be used -/
theorem pss_ok {X : Cx} {body : List Stmt} {t : TS} (h : PSs X body t) : PSs X body (fun D σ H => X.Ok → t D σ H) := ⟨fun pins s σ H D I q => h.run pins s σ H D I (q I.ok)⟩
/-- what the law's def promises -/
def SpLaw (K : PySem.W.Frag) (T : List NTab) (good : List Int → Prop) : Sp := fun vs H Q _ => ∃ (a : Addr) (ns : List Int), vs = [.ref a] ∧ SqL K H a (ns.map V.int) ∧ TabsN T H ∧ good ns ∧ ∀ H', Q (.bl true) H'
theorem law_body {ts : TS} {g : En → Fl} {N : List Str} {good : List Int → Prop} {vs : List V} {H : Hp} {Q : VK} {E : XK} (h : DX K mg T ts g) (hn : 1 ≤ N.length) (hg : ∀ ns, good ns → g (.val (.scr ns) :: List.replicate (N.length - 1) .emp) = .rt (.bl true))
    (p : SpLaw K T good vs H Q E) : ts { nx := fun _ H' => Q .non H', rt := Q } (L2.start N vs) H := by
  obtain ⟨a, ns, rfl, hs, hT, hgood, hQ⟩ := p
  have s : Same (onlyAt a H) H := onlyAt_sub
  have hs' : SqL K (onlyAt a H) a (ns.map V.int) := by
    rcases hs with hs | hs
    · refine .inl ?_
      rcases hs with hs | ⟨u, hs⟩
      · exact .inl (by rw [onlyAt_same]; exact hs)
      · exact .inr ⟨u, by rw [onlyAt_same]; exact hs⟩
    · exact .inr hs
  have R := slots_start (K := K) (mg := mg) (N := N) (ds := [.scr ns]) (vs := [.ref a]) s (reps_one (rep_scr.mpr ⟨a, rfl, hs'⟩)) hn
  have no : noOwnB (List.map Pu.S.val [D.scr ns] ++ List.replicate (N.length - [V.ref a].length) Pu.S.emp) = true := by
    refine List.all_eq_true.mpr fun x hx => ?_
    rcases List.mem_append.mp hx with q | q
    · obtain ⟨d, _, rfl⟩ := List.mem_map.mp q
      rfl
    · rw [List.eq_of_mem_replicate q]
      rfl
  refine h _ H _ _ H _ _ (RlS.start R fun j ds => noOwn_of no j ds) hT ?_
  have e : g (List.map Pu.S.val [D.scr ns] ++ List.replicate (N.length - [V.ref a].length) Pu.S.emp) = .rt (.bl true) := hg ns hgood
  rw [e]
  intro v F H' s' r
  rw [rep_bl.mp r]
  exact hQ H'
end
end Pu
/-! ## PuAlias -/
/-! a list of lists made here whose lists are filled by another name: ms = [[] for x in xs]; for k in ..: own = ms[..]; y = ..; own.append(..) in one of two ways; return ms -/
namespace Pu
open PySem PySem.Spec PyProof.Rows L2 LamX NdefX
section
variable {K : PySem.W.Frag} {mg : Str → Option Value} {W : WX} {F0 H0 F H : Hp} {σ : Sg} {ρ : En} {E : Ends}
theorem DE.ok {te : TE} {f : En → Res D} {d : D} {P : VK} (h : DE K mg W te f) (R : Rl K mg F σ H ρ) (e : f ρ = .ok d) (k : ∀ v F' H', Wd F H F' H' → Rep K mg F' d v → P v H') : te σ H P := by
  refine h F σ H ρ P R ?_
  rw [e]
  exact k
theorem DT.ok {tt : TT} {f : En → Res Bool} {b : Bool} {P : Bool → Hp → Prop} (h : DT K mg W tt f) (R : Rl K mg F σ H ρ) (e : f ρ = .ok b) (k : ∀ F' H', Wd F H F' H' → P b H') : tt σ H P := by
  refine h F σ H ρ P R ?_
  rw [e]
  exact k
theorem DI.ok {wi : TI} {f : En → Res (List D)} {xs : List D} {P : It → Hp → Prop} (h : DI K mg W wi f) (R : Rl K mg F σ H ρ) (e : f ρ = .ok xs) (k : ∀ J F' H', Wd F H F' H' → Walks K mg J F' xs → P J H') : wi σ H P := by
  refine h F σ H ρ P R ?_
  rw [e]
  exact k
theorem set_id {α : Type} {l : List α} {i : Nat} {x : α} (h : l[i]? = some x) : l.set i x = l := by
  apply List.ext_getElem?
  intro j
  by_cases q : i = j
  · subst q
    rw [get_set_self h, h]
  · rw [List.getElem?_set_ne q]
theorem Rl.see {i : Nat} {d : D} {v : V} (r : Rl K mg F σ H ρ) (hs : σ[i]? = some (some v)) (h : Rep K mg F d v) : Rl K mg F σ H (ρ.set i (.val d)) := by
  have q := r.set (i := i) h
  rw [set_id hs] at q
  exact q
/-- the state: the outer list at o, its lists at ps, what they hold -/
structure Al (K : PySem.W.Frag) (mg : Str → Option Value) (H0 F : Hp) (σ : Sg) (H : Hp) (ρ : En) (o : Addr) (ps : List Addr) (Ls : List (List D)) : Prop where
  rl : Rl K mg F σ H ρ
  hh : Same H0 H
  sl : σ[3]? = some (some (.ref o))
  fo : F o = none
  ho : H o = some (.lst (ps.map V.ref))
  h0 : H0 o = none
  nd : ps.Nodup
  op : o ∉ ps
  len : ps.length = Ls.length
  it : ∀ (k : Nat) (p : Addr), ps[k]? = some p → F p = none ∧ H0 p = none ∧ ∃ ds vs, Ls[k]? = some ds ∧ H p = some (.lst vs) ∧ Reps K mg F ds vs
open Classical in
noncomputable def fz (F H : Hp) (o : Addr) (ps : List Addr) : Hp := fun b => if b = o ∨ b ∈ ps then H b else F b
section
variable {o : Addr} {ps : List Addr} {Ls : List (List D)}
theorem fz_in {b : Addr} (h : b = o ∨ b ∈ ps) : fz F H o ps b = H b := by unfold fz; rw [if_pos h]
theorem fz_out {b : Addr} (h : ¬ (b = o ∨ b ∈ ps)) : fz F H o ps b = F b := by unfold fz; rw [if_neg h]
theorem Al.none (A : Al K mg H0 F σ H ρ o ps Ls) {b : Addr} (h : b = o ∨ b ∈ ps) : F b = Option.none ∧ H0 b = Option.none := by
  rcases h with rfl | h
  · exact ⟨A.fo, A.h0⟩
  · obtain ⟨k, hk⟩ := List.mem_iff_getElem?.mp h
    obtain ⟨h1, h2, _⟩ := A.it k b hk
    exact ⟨h1, h2⟩
theorem Al.ff (A : Al K mg H0 F σ H ρ o ps Ls) : Same F (fz F H o ps) := fun b u e => by
  rw [fz_out fun q => by rw [(A.none q).1] at e; cases e]
  exact e
theorem Al.fh (A : Al K mg H0 F σ H ρ o ps Ls) : Same (fz F H o ps) H := fun b u e => by
  by_cases q : b = o ∨ b ∈ ps
  · rw [fz_in q] at e; exact e
  · rw [fz_out q] at e; exact A.rl.sub b u e
theorem Al.inner (A : Al K mg H0 F σ H ρ o ps Ls) {k : Nat} {p : Addr} {ds : List D} (hk : ps[k]? = some p) (hd : Ls[k]? = some ds) : Rep K mg (fz F H o ps) (.lst ds) (.ref p) := by
  obtain ⟨_, _, ds', vs, h1, h2, h3⟩ := A.it k p hk
  rw [hd] at h1
  cases h1
  exact rep_lst.mpr ⟨p, vs, rfl, by rw [fz_in (.inr (List.mem_of_getElem? hk))]; exact h2, h3.mono A.ff⟩
theorem reps_map {F : Hp} : ∀ {ps : List Addr} {Ls : List (List D)}, ps.length = Ls.length → (∀ (k : Nat) (p : Addr) (ds : List D), ps[k]? = some p → Ls[k]? = some ds → Rep K mg F (.lst ds) (.ref p)) → Reps K mg F (Ls.map D.lst) (ps.map V.ref)
  | [], [], _, _ => reps_nil.mpr rfl
  | [], _ :: _, h, _ => by cases h
  | _ :: _, [], h, _ => by cases h
  | p :: ps, ds :: Ls, h, q => reps_cons.mpr ⟨.ref p, ps.map V.ref, rfl, q 0 p ds rfl rfl, reps_map (by simpa using h) fun k p' ds' h1 h2 => q (k + 1) p' ds' (by simpa using h1) (by simpa using h2)⟩
theorem Al.outer (A : Al K mg H0 F σ H ρ o ps Ls) : Rep K mg (fz F H o ps) (.lst (Ls.map D.lst)) (.ref o) :=
  rep_lst.mpr ⟨o, ps.map V.ref, rfl, by rw [fz_in (.inl rfl)]; exact A.ho, reps_map A.len fun k p ds h1 h2 => A.inner h1 h2⟩
theorem Rl.re {F1 H1 : Hp} {σ1 : Sg} (r : Rl K mg F σ H ρ) (hn : noOwnB ρ = true) (ff : Same F F1) (s : Same F1 H1) (hl : σ1.length = σ.length) (hs : ∀ (j : Nat) d, ρ[j]? = some (.val d) → σ1[j]? = σ[j]?) : Rl K mg F1 σ1 H1 ρ := by
  refine ⟨s, by rw [hl]; exact r.len, fun j t e => ?_, fun i j d1 d2 a e1 _ _ _ => (noOwn_of hn i d1 e1).elim⟩
  cases t with
  | emp => exact trivial
  | val d =>
    obtain ⟨v, h1, h2⟩ := r.val e
    exact ⟨v, by rw [hs j d e]; exact h1, h2.mono ff⟩
  | own ds => exact (noOwn_of hn j ds e).elim
theorem Al.frozen (A : Al K mg H0 F σ H ρ o ps Ls) (hn : noOwnB ρ = true) : Rl K mg (fz F H o ps) σ H (ρ.set 3 (.val (.lst (Ls.map D.lst)))) :=
  (A.rl.re hn A.ff A.fh rfl fun _ _ _ => rfl).see A.sl A.outer
/-- .. one of the lists has got an item -/
theorem Al.push (A : Al K mg H0 F σ H ρ o ps Ls) (hn : noOwnB ρ = true) {σ' : Sg} {H' : Hp} {j : Nat} {p : Addr} {own : List D} {vs : List V} {x : D} {v : V} (hp : ps[j]? = some p) (hd : Ls[j]? = some own) (hv : H p = some (.lst vs)) (rv : Reps K mg F own vs) (rx : Rep K mg F x v) (s : Same H H')
    (hl : σ'.length = σ.length) (h3 : σ'[3]? = σ[3]?) (hs : ∀ (j : Nat) d, ρ[j]? = some (.val d) → σ'[j]? = σ[j]?) : Al K mg H0 F σ' (upd H' p (.lst (vs ++ [v]))) ρ o ps (Ls.set j (own ++ [x])) := by
  have hm : p ∈ ps := List.mem_of_getElem? hp
  have neo : o ≠ p := fun z => A.op (by rw [z]; exact hm)
  obtain ⟨fp, h0p, _⟩ := A.it j p hp
  refine ⟨A.rl.re hn (Same.refl F) (fun b u e => ?_) hl hs, fun b u e => ?_, by rw [h3]; exact A.sl, A.fo, by rw [upd_ne neo]; exact s _ _ A.ho, A.h0, A.nd, A.op, by rw [List.length_set]; exact A.len, fun k q hk => ?_⟩
  · rw [upd_ne (fun z => by rw [z, fp] at e; cases e)]
    exact s b u (A.rl.sub b u e)
  · rw [upd_ne (fun z => by rw [z, h0p] at e; cases e)]
    exact s b u (A.hh b u e)
  · obtain ⟨fq, h0q, ds, ws, g1, g2, g3⟩ := A.it k q hk
    refine ⟨fq, h0q, ?_⟩
    by_cases hj : j = k
    · subst hj
      rw [hp] at hk
      cases hk
      rw [hd] at g1
      cases g1
      exact ⟨own ++ [x], vs ++ [v], get_set_self hd, upd_same, rv.append (reps_one rx)⟩
    · have hne : q ≠ p := fun z => hj (by
        subst z
        exact (List.getElem?_inj (List.getElem?_eq_some_iff.mp hp).1 A.nd).mp (by rw [hp, hk]))
      exact ⟨ds, ws, by rw [List.getElem?_set_ne hj]; exact g1, by rw [upd_ne hne]; exact s _ _ g2, g3⟩
end
/-- the loop, plain -/
def aliF (fi fp : En → Res D) (fc : En → Res Bool) (f1 f2 : En → Res D) (ρ : En) : List D → List (List D) → Res (List (List D))
  | [], Ls => .ok Ls
  | k :: ks, Ls => match fi ((ρ.set 5 (.val k)).set 3 (.val (.lst (Ls.map D.lst)))) with
    | .ok (.int i) => match ixN Ls.length i with
      | some j => match Ls[j]? with
        | some own => match fp (((ρ.set 5 (.val k)).set 3 (.val (.lst (Ls.map D.lst)))).set 6 (.val (.lst own))) with
          | .ok pd => match fc ((((ρ.set 5 (.val k)).set 3 (.val (.lst (Ls.map D.lst)))).set 6 (.val (.lst own))).set 4 (.val pd)) with
            | .ok b => match (if b = true then f1 else f2) ((((ρ.set 5 (.val k)).set 3 (.val (.lst (Ls.map D.lst)))).set 6 (.val (.lst own))).set 4 (.val pd)) with
              | .ok x => if isFlat x = true ∧ own.length < 1000000 then aliF fi fp fc f1 f2 ρ ks (Ls.set j (own ++ [x])) else .bad
              | _ => .bad
            | _ => .bad
          | _ => .bad
        | none => .bad
      | none => .bad
    | _ => .bad
def tAliB (K : PySem.W.Frag) (ti tp : TE) (tc : TT) (t1 t2 : TE) : TS := tSeq (tAsg (tOp (rIx K) (tVar 3) ti) (gName 6)) (tSeq (tAsg tp (gName 4)) (tIfS tc (tDrop (tBM K "list" rAppend (tVar 6) (tCons t1 tNil))) (tDrop (tBM K "list" rAppend (tVar 6) (tCons t2 tNil)))))
theorem append_step {te : TE} {f : En → Res D} {x : D} {p : Addr} {vs : List V} (E : Ends) (h : DE K mg W te f) (R : Rl K mg F σ H ρ) (e : f ρ = .ok x) (hf : isFlat x = true) (hs : σ[6]? = some (some (.ref p))) (hp : H p = some (.lst vs)) (hl : vs.length < 1000000)
    (k : ∀ v H', Same H H' → (∀ F', Rep K mg F' x v) → E.nx σ (upd H' p (.lst (vs ++ [v])))) : tDrop (tBM K "list" rAppend (tVar 6) (tCons te tNil)) E σ H := by
  refine ⟨.ref p, hs, .inl ⟨rfl, _, SqL.of hp⟩, h.ok R e fun v F' H' w r => ?_⟩
  exact ⟨p, vs, v, rfl, rfl, w.hh _ _ hp, cap_lt hl, k v H' w.hh fun F' => flat_rep hf r⟩
theorem ali_body {ti tp t1 t2 : TE} {tc : TT} {fi fp f1 f2 : En → Res D} {fc : En → Res Bool} {o : Addr} {ps : List Addr} {Ls Ls' : List (List D)} {k : D} {v : V} {ks : List D} (E : Ends) (hi : DE K mg W ti fi) (hp : DE K mg W tp fp) (hc : DT K mg W tc fc) (h1 : DE K mg W t1 f1) (h2 : DE K mg W t2 f2)
    (A : Al K mg H0 F σ H ρ o ps Ls) (hn : noOwnB ρ = true) (hl : ρ.length = 7) (r3 : ρ[3]? = some .emp) (r4 : ρ[4]? = some .emp) (r5 : ρ[5]? = some .emp) (r6 : ρ[6]? = some .emp) (rk : Rep K mg F k v) (e : aliF fi fp fc f1 f2 ρ (k :: ks) Ls = .ok Ls')
    (q : ∀ σ' H' Ls1, Al K mg H0 F σ' H' ρ o ps Ls1 → aliF fi fp fc f1 f2 ρ ks Ls1 = .ok Ls' → E.nx σ' H') : tAliB K ti tp tc t1 t2 E (σ.set 5 (some v)) H := by
  have sl : σ.length = 7 := by rw [← A.rl.len]; exact hl
  simp only [aliF] at e
  have A5 : Al K mg H0 F (σ.set 5 (some v)) H (ρ.set 5 (.val k)) o ps Ls := ⟨A.rl.set rk, A.hh, by rw [List.getElem?_set_ne (by decide)]; exact A.sl, A.fo, A.ho, A.h0, A.nd, A.op, A.len, A.it⟩
  have R1 := A5.frozen (set_notOwn hn)
  split at e
  · rename_i i ei
    split at e
    · rename_i j hj
      split at e
      · rename_i own hown
        split at e
        · rename_i pd epd
          split at e
          · rename_i b eb
            split at e
            · rename_i x ex
              split at e
              · rename_i hx
                have jl : j < ps.length := by rw [A.len]; exact (List.getElem?_eq_some_iff.mp hown).1
                have hpj : ps[j]? = some ps[j] := List.getElem?_eq_getElem jl
                obtain ⟨fpj, h0j, ds, vs, g1, g2, g3⟩ := A.it j ps[j] hpj
                rw [hown] at g1
                cases g1
                refine ⟨.ref o, A5.sl, hi.ok R1 ei fun y F2 H2 w2 ry => .inl ⟨o, ps.map V.ref, i, .ref ps[j], rfl, rep_int.mp ry, SqL.of (w2.hh _ _ A.ho), ?_, ?_⟩⟩
                · unfold atI
                  rw [List.length_map, A.len, hj]
                  show (ps.map V.ref)[j]? = _
                  rw [List.getElem?_map, hpj]
                  rfl
                · have R2 := (R1.mono w2).set (i := 6) ((A5.inner hpj hown).mono w2.ff)
                  refine hp.ok R2 epd fun v4 F3 H3 w3 r4' => ?_
                  have R3 := (R2.mono w3).set (i := 4) r4'
                  refine hc.ok R3 eb fun F4 H4 w4 => ?_
                  have R4 := R3.mono w4
                  have s24 : Same H H4 := (w2.hh.trans w3.hh).trans w4.hh
                  have s6 : ((((σ.set 5 (some v)).set 6 (some (V.ref ps[j]))).set 4 (some v4)) : Sg)[6]? = some (some (.ref ps[j])) := by
                    rw [List.getElem?_set_ne (by decide), List.getElem?_set_self (by rw [List.length_set]; omega)]
                  have fin : ∀ v5 H5, Same H4 H5 → (∀ F', Rep K mg F' x v5) → E.nx (((σ.set 5 (some v)).set 6 (some (V.ref ps[j]))).set 4 (some v4)) (upd H5 ps[j] (.lst (vs ++ [v5]))) := fun v5 H5 s5 rx => by
                    refine q _ _ _ (A.push hn hpj hown g2 g3 (rx F) (s24.trans s5) (by rw [List.length_set, List.length_set, List.length_set]) (by rw [List.getElem?_set_ne (by decide), List.getElem?_set_ne (by decide), List.getElem?_set_ne (by decide)]) fun m d hm => ?_) e
                    have m4 : 4 ≠ m := fun z => by rw [← z, r4] at hm; cases hm
                    have m5 : 5 ≠ m := fun z => by rw [← z, r5] at hm; cases hm
                    have m6 : 6 ≠ m := fun z => by rw [← z, r6] at hm; cases hm
                    rw [List.getElem?_set_ne m4, List.getElem?_set_ne m6, List.getElem?_set_ne m5]
                  have vl : vs.length < 1000000 := by rw [← g3.length]; exact hx.2
                  cases b with
                  | true =>
                    refine iteT ?_
                    rw [if_pos rfl] at ex
                    exact append_step E h1 R4 ex hx.1 s6 (s24 _ _ g2) vl fin
                  | false =>
                    refine iteF ?_
                    rw [if_neg (by decide)] at ex
                    exact append_step E h2 R4 ex hx.1 s6 (s24 _ _ g2) vl fin
              · cases e
            · cases e
          · cases e
        · cases e
      · cases e
    · cases e
  · cases e
theorem ali_comp {wi : TI} {f : En → Res (List D)} {xs : List D} {Q : VK} (hi : DI K mg W wi f) (R : Rl K mg F σ H ρ) (e : f ρ = .ok xs) (hx : xs.length < 1000000)
    (q : ∀ (o : Addr) (ps : List Addr) (H' : Hp), H o = none → Same H H' → H' o = some (.lst (ps.map V.ref)) → ps.length = xs.length → ps.Nodup → o ∉ ps → (∀ p ∈ ps, H p = none ∧ H' p = some (.lst [])) → Q (.ref o) H') : tLc wi (gName 4) tYes (tLst tNil) [4] σ H Q := by
  refine hi.ok R e fun J F1 H1 w1 wk Dl hD => ?_
  refine ⟨fun k m H' => m = xs.length - k ∧ k ≤ xs.length ∧ ∃ (F' : Hp) (ps : List Addr), Wd F1 H1 F' H' ∧ H' Dl = some (.lst (ps.map V.ref)) ∧ F' Dl = none ∧ ps.length = k ∧ ps.Nodup ∧ Dl ∉ ps ∧ ∀ p ∈ ps, H1 p = none ∧ H' p = some (.lst []), ⟨xs.length, by simp, Nat.zero_le _, F1, [], Wd.lay' w1.sub hD, upd_same, noneOf w1.sub hD, rfl, List.nodup_nil, by simp, fun p hp => by simp at hp⟩, ?_⟩
  rintro k m H2 ⟨rfl, hk, F2, ps, w2, h2, n2, hl, nd, ho, hp⟩
  by_cases hlt : k < xs.length
  · obtain ⟨hgo, hy⟩ := wk.go F2 H2 k w2.ff w2.sub hlt
    refine .inr ⟨hgo, fun H' => k + 1 ≤ xs.length ∧ ∃ (F' : Hp) (ps : List Addr), Wd F1 H1 F' H' ∧ H' Dl = some (.lst (ps.map V.ref)) ∧ F' Dl = none ∧ ps.length = k + 1 ∧ ps.Nodup ∧ Dl ∉ ps ∧ ∀ p ∈ ps, H1 p = none ∧ H' p = some (.lst []), fun H' hN => ⟨xs.length - (k + 1), by omega, rfl, hN⟩, fun x H3 y3 => ?_⟩
    obtain ⟨F3, d, w3, hd, r3⟩ := hy x H3 y3
    refine ⟨by show ((σ.set 4 none).set 4 (some x)).set 4 none = σ.set 4 none; rw [List.set_set, List.set_set], ?_⟩
    simp only [tYes, if_true]
    refine ⟨by decide, fun p hpn => ?_⟩
    have w23 := w2.trans w3
    have hD3 := w3.hh _ _ h2
    have pne : p ≠ Dl := fun z => by rw [z, hD3] at hpn; cases hpn
    have n1p : H1 p = none := w23.hh.free hpn
    have pout : p ∉ ps := fun hm => by
      have := w3.hh _ _ (hp p hm).2
      rw [hpn] at this
      cases this
    have nD3 : F3 Dl = none := by
      cases z : F3 Dl with
      | none => rfl
      | some u =>
        have := w3.new Dl u z n2
        rw [h2] at this
        cases this
    have wl := w23.trans (Wd.lay' (o := .lst []) w3.sub hpn)
    refine ⟨ps.map V.ref, by rw [upd_ne (Ne.symm pne)]; exact hD3, cap_lt (by rw [List.length_map]; omega), hlt, F3, ps ++ [p], ⟨wl.ff, fun a u ea => ?_, wl.new, fun a u ea => ?_⟩, by rw [upd_same, List.map_append]; rfl, nD3, by rw [List.length_append, hl]; rfl, ?_, ?_, fun p' hp' => ?_⟩
    · rw [upd_ne (ne_of_none ea hD)]
      exact wl.hh a u ea
    · rw [upd_ne (fun z => by rw [z, nD3] at ea; cases ea)]
      exact wl.sub a u ea
    · refine List.nodup_append.mpr ⟨nd, by simp, fun a ha b hb z => ?_⟩
      have : b = p := by simpa using hb
      rw [z, this] at ha
      exact pout ha
    · intro hm
      rcases List.mem_append.mp hm with q | q
      · exact ho q
      · exact pne (by simpa using (List.mem_singleton.mp q).symm)
    · rcases List.mem_append.mp hp' with q | q
      · have ne : p' ≠ p := fun z => pout (by rw [← z]; exact q)
        have ne2 : p' ≠ Dl := fun z => ho (by rw [← z]; exact q)
        exact ⟨(hp p' q).1, by rw [upd_ne ne2, upd_ne ne]; exact w3.hh _ _ (hp p' q).2⟩
      · have z : p' = p := by simpa using q
        rw [z]
        exact ⟨n1p, by rw [upd_ne pne, upd_same]⟩
  · have e0 : k = xs.length := by omega
    subst e0
    exact .inl ⟨wk.stop F2 H2 xs.length w2.ff w2.sub (Nat.le_refl _), q Dl ps H2 (w1.hh.free hD) (w1.hh.trans w2.hh) h2 hl nd ho fun p hm => ⟨w1.hh.free (hp p hm).1, (hp p hm).2⟩⟩
theorem rng_ok {ta : TA} {fa : En → Res (List D)} {xs : List D} {P : It → Hp → Prop} (h : DA K mg W ta fa) (R : Rl K mg F σ H ρ) (e : iR2 fa ρ = .ok xs)
    (k : ∀ (lo : Int) (n : Nat) F' H', Wd F H F' H' → xs = ((List.range n).map fun (k : Nat) => D.int (lo + k)) → P (Itr lo n) H') : iRng2 ta σ H P := by
  unfold iR2 at e
  refine h F σ H ρ _ R ?_
  cases ea : fa ρ with
  | ok ds =>
    simp only [ea, Res.bind] at e
    intro vs F1 H1 w rv
    obtain ⟨i, j, rfl, hb, rfl⟩ := rng2_ok e
    obtain ⟨v, t, rfl, r1, r2⟩ := reps_cons.mp rv
    obtain ⟨v2, t2, rfl, r3, r4⟩ := reps_cons.mp r2
    cases reps_nil.mp r4
    exact ⟨i, j, by rw [rep_int.mp r1, rep_int.mp r3], hb, k _ _ F1 H1 w rfl⟩
  | exc c =>
    simp only [ea, Res.bind] at e
    cases e
  | bad =>
    simp only [ea, Res.bind] at e
    cases e
/-- the four names that are not known at the beginning -/
def empB (ρ : En) (i : Nat) : Bool := match ρ[i]? with
  | some .emp => true
  | _ => false
theorem empB_ok {ρ : En} {i : Nat} (h : empB ρ i = true) : ρ[i]? = some .emp := by
  unfold empB at h
  split at h
  · assumption
  · cases h
def sAli (fx fr : En → Res (List D)) (fi fp : En → Res D) (fc : En → Res Bool) (f1 f2 : En → Res D) : En → Fl := fun ρ => if noOwnB ρ = true ∧ ρ.length = 7 ∧ empB ρ 3 = true ∧ empB ρ 4 = true ∧ empB ρ 5 = true ∧ empB ρ 6 = true then (match fx ρ with
  | .ok xs => if xs.length < 1000000 then (match fr (ρ.set 3 (.val (.lst (xs.map fun _ => .lst [])))) with
    | .ok ks => (match aliF fi fp fc f1 f2 ρ ks (xs.map fun _ => []) with
      | .ok Ls => .rt (.lst (Ls.map D.lst))
      | _ => .bad)
    | _ => .bad) else .bad
  | _ => .bad) else .bad
theorem ds_ali {wi : TI} {ta : TA} {ti tp t1 t2 : TE} {tc : TT} {fx fa : En → Res (List D)} {fi fp f1 f2 : En → Res D} {fc : En → Res Bool} (hx : DI K mg W wi fx) (hr : DA K mg W ta fa) (hi : DE K mg W ti fi) (hp : DE K mg W tp fp) (hc : DT K mg W tc fc) (h1 : DE K mg W t1 f1) (h2 : DE K mg W t2 f2) :
    DS K mg W (tSeq (tAsg (tLc wi (gName 4) tYes (tLst tNil) [4]) (gName 3)) (tSeq (tFor (iRng2 ta) (gName 5) (tAliB K ti tp tc t1 t2)) (tRet (tVar 3)))) (sAli fx (iR2 fa) fi fp fc f1 f2) := by
  intro F0 H0 F σ H ρ E R o
  unfold sAli at o
  split at o
  · rename_i hg
    obtain ⟨hn, hl, q3, q4, q5, q6⟩ := hg
    have sl : σ.length = 7 := by rw [← R.rl.len]; exact hl
    have r3 := empB_ok q3
    have r4 := empB_ok q4
    have r5 := empB_ok q5
    have r6 := empB_ok q6
    split at o
    · rename_i xs ex
      split at o
      · rename_i hcap
        split at o
        · rename_i ks ek
          split at o
          · rename_i Ls' ea
            unfold tSeq tAsg
            refine ali_comp hx R.rl ex hcap fun oo ps H1 n0 s1 g1 g2 g3 g4 g5 => ?_
            have fnone : ∀ b, H b = none → F b = none := fun b z => noneOf R.rl.sub z
            have A : Al K mg H0 F (σ.set 3 (some (.ref oo))) H1 ρ oo ps (xs.map fun _ => []) := by
              refine ⟨R.rl.re hn (Same.refl F) (R.rl.sub.trans s1) (by rw [List.length_set]) fun j d hj => ?_, R.hh.trans s1, by rw [List.getElem?_set_self (by omega)], fnone _ n0, g1, R.hh.free n0, g3, g4, by rw [List.length_map]; exact g2, fun k p hk => ?_⟩
              · have m3 : 3 ≠ j := fun z => by rw [← z, r3] at hj; cases hj
                rw [List.getElem?_set_ne m3]
              · obtain ⟨z1, z2⟩ := g5 p (List.mem_of_getElem? hk)
                have kl : k < xs.length := by rw [← g2]; exact (List.getElem?_eq_some_iff.mp hk).1
                exact ⟨fnone _ z1, R.hh.free z1, [], [], by rw [List.getElem?_map, List.getElem?_eq_getElem kl]; rfl, z2, reps_nil.mpr rfl⟩
            have RR := A.frozen hn
            have ek' : iR2 fa (ρ.set 3 (.val (.lst ((xs.map fun _ => ([] : List D)).map D.lst)))) = .ok ks := by
              rw [List.map_map]
              exact ek
            unfold gName tFor
            dsimp only
            refine rng_ok hr RR ek' fun lo n F2 H2 w2 eks => ?_
            have A2 : Al K mg H0 F (σ.set 3 (some (.ref oo))) H2 ρ oo ps (xs.map fun _ => []) := by
              refine ⟨A.rl.re hn (Same.refl F) (A.rl.sub.trans w2.hh) rfl fun _ _ _ => rfl, A.hh.trans w2.hh, A.sl, A.fo, w2.hh _ _ A.ho, A.h0, A.nd, A.op, A.len, fun k p hk => ?_⟩
              obtain ⟨z1, z2, ds, vs, z3, z4, z5⟩ := A.it k p hk
              exact ⟨z1, z2, ds, vs, z3, w2.hh _ _ z4, z5⟩
            have kl : ks.length = n := by rw [eks, List.length_map, List.length_range]
            refine ⟨fun i m σ' H' => m = ks.length - i ∧ i ≤ ks.length ∧ ∃ Ls, Al K mg H0 F σ' H' ρ oo ps Ls ∧ aliF fi fp fc f1 f2 ρ (ks.drop i) Ls = .ok Ls', ⟨ks.length, by simp, Nat.zero_le _, _, A2, by rw [List.drop_zero]; exact ea⟩, ?_⟩
            rintro i m σ2 H3 ⟨rfl, hi2, Ls, A3, e3⟩
            by_cases hlt : i < ks.length
            · have wk := walks_range (K := K) (mg := mg) (F := F) (lo := lo) (n := n)
              have hgo := (wk.go F H3 i (Same.refl F) A3.rl.sub (by rw [List.length_map, List.length_range, ← kl]; exact hlt)).1
              refine .inr ⟨hgo, fun σ' H' => ∃ Ls, Al K mg H0 F σ' H' ρ oo ps Ls ∧ aliF fi fp fc f1 f2 ρ (ks.drop (i + 1)) Ls = .ok Ls', fun σ' H' hN => ⟨ks.length - (i + 1), by omega, rfl, hlt, hN⟩, fun x H4 y4 => ?_⟩
              obtain ⟨rfl, rfl⟩ := y4
              have ed : ks[i] = D.int (lo + i) := by
                have : ks[i]? = some (D.int (lo + i)) := by
                  rw [eks, List.getElem?_map, List.getElem?_range (by omega)]
                  rfl
                rw [List.getElem?_eq_getElem hlt] at this
                exact Option.some.inj this
              rw [List.drop_eq_getElem_cons hlt, ed] at e3
              exact ali_body _ hi hp hc h1 h2 A3 hn hl r3 r4 r5 r6 (rep_int.mpr rfl) e3 fun σ' H' Ls1 A4 e4 => ⟨Ls1, A4, e4⟩
            · have e0 : i = ks.length := by omega
              subst e0
              rw [List.drop_length] at e3
              cases e3
              refine .inl ⟨?_, ?_⟩
              · have wk := walks_range (K := K) (mg := mg) (F := F) (lo := lo) (n := n)
                exact wk.stop F H3 _ (Same.refl F) A3.rl.sub (by rw [List.length_map, List.length_range, ← kl]; exact Nat.le_refl _)
              · refine ⟨.ref oo, A3.sl, o (.ref oo) (fz F H3 oo ps) H3 ⟨R.ff.trans A3.ff, A3.hh, fun a u h n => ?_, A3.fh⟩ A3.outer⟩
                by_cases q : a = oo ∨ a ∈ ps
                · exact (A3.none q).2
                · rw [fz_out q] at h
                  exact R.new a u h n
          · exact o.elim
        · exact o.elim
      · exact o.elim
    · exact o.elim
  · exact o.elim
end
end Pu
/-! ## PuEnd -/
/-! between the head's facts and the value layer -/
namespace Pu
open PySem PySem.Spec PyProof.Rows L2 LamX NdefX
section
variable {K : PySem.W.Frag} {mg : Str → Option Value} {P : Program} {w : World} {base : Heap}
theorem funD_fun {x qual : Str} {st : Stmt} {f : Addr} {fd : FuncData} (F : FunD K x qual (defArgs st) (defBody st) (defScope st) [] [] f fd) : Fun K x qual st f fd := by
  obtain ⟨oc, od, dV, kV, doc, pm, an, cdv, ct, osl, h1, h2, h3, h4, h5⟩ := F.ex
  rcases h4 with ⟨_, e⟩ | ⟨e, _⟩
  · subst e
    exact ⟨⟨oc, od, kV, doc, pm, an, cdv, ct, osl, h1, h2, h3⟩, F.kp⟩
  · exact absurd rfl e
theorem cal_zero {x : Str} {st : Stmt} {ps : List Str} {k : Nat} (T : DefP K mg x st)
    (hb : ∀ (kV doc pm : Value) (an : Option Addr) (cdv ct : Value) (us : List Value), us.length = ps.length → bindArgs (PySem.W.fnOf x x (defArgs st) (defBody st) (defScope st) .none kV doc pm an cdv ct) ⟨us, []⟩ = pure (ps.zip us)) : CalP P w K mg base k x ps.length (fun _ => .bad) := by
  obtain ⟨a, fd, F, hm⟩ := T.ex
  refine ⟨a, fd, ps, ⟨fun vs H Q E h => h.1, fun A outer s H args us vs Q E _ _ _ _ h => ?_⟩, hm, F.kp, F.binds hb⟩
  obtain ⟨_, F, ds, _, _, z⟩ := h
  exact z.elim
theorem clo_bad {k : Nat} {z : CloD} : CloP P w K mg base k z (fun _ _ => .bad) := by
  refine ⟨fun f cl c => ⟨fun ws vs H Q E h => ?_, fun A outer s H us vs ws Q E _ _ _ _ _ _ h => ?_⟩⟩
  · obtain ⟨_, F, p, xs, ds, dws, wvs, _, _, _, _, _, _, _, _, z⟩ := h
    exact z.elim
  · obtain ⟨_, F, p, xs, ds, dws, wvs, _, _, _, _, _, _, _, _, z⟩ := h
    exact z.elim
/-- the rule for a def that makes functions: its code object is that of K -/
theorem funD_okC {p : Str × Option Str} {x qual : Str} {params : Arguments} {body : List Stmt} {scope : Scope} {fd : FuncData} {CX : CXT} {N ps : List Str} {k : Nat} {sp : Sp} (F : FunD K x qual params body scope [] [] (He.fAd K p) fd) (S : FnScope N ps scope) (len : ∀ vs H Q E, sp vs H Q E → vs.length = ps.length)
    (hbody : ∀ (cdv : Value), cdv = .ref (He.codeOf K p) → ∀ (A : Around) (outer : List Env) (s : Shared) (H : Hp) (vs : List V) (Q : VK) (E : XK), Room k (A.deeper (envOfC qual scope s.heap.objs.size (He.fAd K p) cdv)) → sp vs H Q E →
      ∃ t, PSs (cxOf CX P w K mg base N qual scope (He.fAd K p) cdv A outer s H E) body t ∧ t { nx := fun _ H' => Q .non H', rt := Q } (L2.start N vs) H) : FnOk P w K mg base CX (k + 1) (He.fAd K p) fd ps sp := by
  obtain ⟨oc, od, dV, kV, doc, pm, an, cdv, ct, osl, rfl, lk, hcd, _, _⟩ := F.ex
  obtain ⟨c, hc⟩ := He.codeIn_ref hcd
  subst hc
  have e := He.codeOf_eq (p := p) lk (c := c) rfl
  exact fn_of lk hcd S len fun A outer s H vs Q E hr hsp => hbody (.ref c) (by rw [e]) A outer s H vs Q E hr hsp
end
theorem sib_none {cl : List (Str × Addr)} {ws : List D} (h : ∀ z c, D.fnv z c ∉ ws) : Sib cl ws := fun z c hm => (h z c hm).elim
theorem fnv_ok {ρ : En} {i : Nat} {z : CloD} {cl : List (Str × Addr)} {js : List Nat} {φ : List D → List D → Res D} {f : En → Res (List D)} {ws : List D} (h : ρ[i]? = some (.val (.fnv z cl))) (hv : valsAt js ρ = .ok ws) (hs : Sib cl ws) : dFnv i z cl js φ f ρ = (f ρ).bind fun ds => noExc (φ ws ds) := by
  unfold dFnv
  rw [if_pos h, hv]
  simp only [Res.bind]
  rw [if_pos hs]
theorem calC_ok {ρ : En} {n k : Nat} {f : List D → Res D} {z : CloD} {cl : List (Str × Addr)} {js : List Nat} {fa : En → Res (List D)} {ds ws : List D} {d : D} (h : fa ρ = .ok ds) (hn : ds.length = n) (hk : ds[k]? = some (.fnv z cl)) (hv : valsAt js ρ = .ok ws) (hs : Sib cl ws) (hf : f (ds.set k (.clo z ws)) = .ok d) (hc : noClo d = true) :
    dCalC n f k z cl js fa ρ = .ok d := by
  unfold dCalC
  simp only [h, Res.bind]
  rw [if_pos ⟨hn, hk⟩, hv]
  simp only
  rw [if_pos hs, hf]
  simp only
  exact if_pos hc
/-- the scripts that a law is asked at -/
def good (ns : List Int) : Prop := ns.length ≤ 63 ∧ ∀ z ∈ ns, Builtin.Int.intBits z ≤ 1048576
end Pu
/-! ## PuEval -/
/-! the plain functions run by simp -/
namespace Pu
open PySem PySem.Spec PyProof.Rows L2 LamX NdefX
section
variable {ρ : En} {i k n : Nat} {f g h fa fb fc : En → Res D} {t u : En → Res Bool} {fr : En → Res (List D)} {p q : En → Fl} {op : D → D → Option D} {d a b : D} {α β : Type}
@[simp] theorem ev_bo {f : α → Res β} {a : α} : Res.bind (.ok a) f = f a := rfl
@[simp] theorem ev_be {f : α → Res β} {c : Str} : Res.bind (.exc c) f = .exc c := rfl
@[simp] theorem ev_bb {f : α → Res β} : Res.bind (.bad : Res α) f = .bad := rfl
@[simp] theorem ev_os {a : α} : ofOpt (some a) = .ok a := rfl
@[simp] theorem ev_on : ofOpt (none : Option α) = .bad := rfl
@[simp] theorem ev_ko {f : α → Fl} {a : α} : onOk (.ok a) ρ f = f a := rfl
@[simp] theorem ev_ke {f : α → Fl} {c : Str} : onOk (.exc c) ρ f = .exc c ρ := rfl
@[simp] theorem ev_kb {f : α → Fl} : onOk (.bad : Res α) ρ f = .bad := rfl
@[simp] theorem ev_ne : noExc (.ok d) = .ok d := rfl
@[simp] theorem ev_tb {b : Bool} : toB (.bl b) = .ok b := rfl
@[simp] theorem ev_ti {i : Int} : toI (.int i) = .ok (some i) := rfl

@[simp] theorem ev_dVar (i : Nat) : dVar i ρ = (match ρ[i]? with
  | some (.val d) => .ok d
  | _ => .bad) := rfl
@[simp] theorem ev_dLook (i : Nat) : dLook i ρ = (match ρ[i]? with
  | some (.val d) => .ok d
  | some (.own ds) => .ok (.lst ds)
  | _ => .bad) := rfl
@[simp] theorem ev_dC (d : D) : dC d ρ = (.ok d) := rfl
@[simp] theorem ev_dOp (op : D → D → Option D) (fa fb : En → Res D) : dOp op fa fb ρ = ((fa ρ).bind fun a => (fb ρ).bind fun b => ofOpt (op a b)) := rfl
@[simp] theorem ev_dUn (op : D → Option D) (fa : En → Res D) : dUn op fa ρ = ((fa ρ).bind fun a => ofOpt (op a)) := rfl
@[simp] theorem ev_dNil : dNil ρ = (.ok []) := rfl
@[simp] theorem ev_dCons (fa : En → Res D) (fr : En → Res (List D)) : dCons fa fr ρ = ((fa ρ).bind fun a => (fr ρ).bind fun r => .ok (a :: r)) := rfl
@[simp] theorem ev_dCall (op : List D → Res D) (fr : En → Res (List D)) : dCall op fr ρ = ((fr ρ).bind op) := rfl
@[simp] theorem ev_dCB (op : List D → Option D) (fr : En → Res (List D)) : dCB op fr ρ = ((fr ρ).bind fun r => ofOpt (op r)) := rfl
@[simp] theorem ev_dBM (op : D → List D → Option D) (fo : En → Res D) (fr : En → Res (List D)) : dBM op fo fr ρ = ((fo ρ).bind fun o => (fr ρ).bind fun r => ofOpt (op o r)) := rfl
@[simp] theorem ev_dTup (fr : En → Res (List D)) : dTup fr ρ = ((fr ρ).bind fun r => if r.length ≤ 1000000 then .ok (.tup r) else .bad) := rfl
@[simp] theorem ev_dLst (fr : En → Res (List D)) : dLst fr ρ = ((fr ρ).bind fun r => if r.length ≤ 1000000 then .ok (.lst r) else .bad) := rfl
@[simp] theorem ev_dTest (f : En → Res D) : dTest f ρ = ((f ρ).bind toB) := rfl
@[simp] theorem ev_dAnd (f g : En → Res Bool) : dAnd f g ρ = ((f ρ).bind fun a => if a = true then g ρ else .ok false) := rfl
@[simp] theorem ev_dOr (f g : En → Res Bool) : dOr f g ρ = ((f ρ).bind fun a => if a = true then .ok true else g ρ) := rfl
@[simp] theorem ev_dNot (f : En → Res Bool) : dNot f ρ = ((f ρ).bind fun a => .ok (!a)) := rfl
@[simp] theorem ev_dIf (t : En → Res Bool) (f g : En → Res D) : dIf t f g ρ = ((t ρ).bind fun a => if a = true then f ρ else g ρ) := rfl
@[simp] theorem ev_dAndV (f g : En → Res D) : dAndV f g ρ = ((f ρ).bind fun a => (toB a).bind fun b => if b = true then g ρ else .ok (.bl false)) := rfl
@[simp] theorem ev_dOrV (f g : En → Res D) : dOrV f g ρ = ((f ρ).bind fun a => (toB a).bind fun b => if b = true then .ok (.bl true) else g ρ) := rfl
@[simp] theorem ev_dNotV (f : En → Res D) : dNotV f ρ = ((f ρ).bind fun a => (toB a).bind fun b => .ok (.bl (!b))) := rfl
@[simp] theorem ev_dNoPart : dNoPart ρ = (.ok none) := rfl
@[simp] theorem ev_dPart (f : En → Res D) : dPart f ρ = ((f ρ).bind toI) := rfl
@[simp] theorem ev_dSl (f : En → Res D) (lo hi : En → Res (Option Int)) : dSl f lo hi ρ = ((f ρ).bind fun a => (lo ρ).bind fun l => (hi ρ).bind fun h => ofOpt (slD a l h)) := rfl
@[simp] theorem ev_sSeq (f g : En → Fl) : sSeq f g ρ = (match f ρ with
  | .nx ρ' => g ρ'
  | x => x) := rfl
@[simp] theorem ev_sNext : sNext ρ = (.nx ρ) := rfl
@[simp] theorem ev_sBreak : sBreak ρ = (.bk ρ) := rfl
@[simp] theorem ev_sCont : sCont ρ = (.ct ρ) := rfl
@[simp] theorem ev_sSet (i : Nat) (f : En → Res D) : sSet i f ρ = (onOk (f ρ) ρ fun d => .nx (ρ.set i (.val d))) := rfl
@[simp] theorem ev_sOwn (i : Nat) (f : En → Res (List D)) : sOwn i f ρ = (onOk (f ρ) ρ fun ds => .nx (ρ.set i (.own ds))) := rfl
@[simp] theorem ev_sDrop (f : En → Res D) : sDrop f ρ = (onOk (f ρ) ρ fun _ => .nx ρ) := rfl
@[simp] theorem ev_sRet (f : En → Res D) : sRet f ρ = (onOk (f ρ) ρ fun d => .rt d) := rfl
@[simp] theorem ev_sRetN : sRetN ρ = (.rt .non) := rfl
@[simp] theorem ev_sIf (t : En → Res Bool) (f g : En → Fl) : sIf t f g ρ = (onOk (t ρ) ρ fun b => if b = true then f ρ else g ρ) := rfl
@[simp] theorem ev_sAsgT (g : D → En → Option En) (f : En → Res D) : sAsgT g f ρ = (onOk (f ρ) ρ fun d => match g d ρ with
  | some ρ' => .nx ρ'
  | none => .bad) := rfl
@[simp] theorem ev_sBad : sBad ρ = (.bad) := rfl
@[simp] theorem ev_nLst (fa : En → Res (List D)) : nLst fa ρ = ((fa ρ).bind fun r => if r.length ≤ 1000000 then .ok r else .bad) := rfl
@[simp] theorem ev_dNew (f : En → Res (List D)) : dNew f ρ = ((f ρ).bind fun ds => .ok (.lst ds)) := rfl
@[simp] theorem ev_sFrz (is : List Nat) (g : En → Fl) : sFrz is g ρ = (g (frzs is ρ)) := rfl
@[simp] theorem ev_vT (is : List Nat) (f : En → Res Bool) : vT is f ρ = (f (frzs is ρ)) := rfl
@[simp] theorem ev_vE (is : List Nat) (f : En → Res D) : vE is f ρ = ((f (frzs is ρ)).bind fun d => if isFlat d = true then .ok d else .bad) := rfl
@[simp] theorem ev_dIxV (i : Nat) (f : En → Res D) : dIxV i f ρ = (match ρ[i]? with
  | some (.val d) => (f ρ).bind fun k => ofOpt (ixD d k)
  | some (.own ds) => (f ρ).bind fun k => ofOpt (ixD (.lst ds) k)
  | _ => .bad) := rfl
@[simp] theorem ev_dLenV (i : Nat) : dLenV i ρ = (match ρ[i]? with
  | some (.val d) => ofOpt (lenD [d])
  | some (.own ds) => .ok (.int ds.length)
  | _ => .bad) := rfl
@[simp] theorem ev_sApp (i : Nat) (f : En → Res D) : sApp i f ρ = (onOwn i ρ fun ds => onOk (f ρ) ρ fun d => if ds.length < 1000000 then .nx (ρ.set i (.own (ds ++ [d]))) else .bad) := rfl
@[simp] theorem ev_sExt (i : Nat) (f : En → Res D) : sExt i f ρ = (onOwn i ρ fun ds => onOk (f ρ) ρ fun d => match d with
  | .lst es => if ds.length + es.length ≤ 1000000 then .nx (ρ.set i (.own (ds ++ es))) else .bad
  | _ => .bad) := rfl
@[simp] theorem ev_sSetIx (i : Nat) (fk f : En → Res D) : sSetIx i fk f ρ = (onOk (f ρ) ρ fun d => onOwn i ρ fun ds => onOk (fk ρ) ρ fun k => match k with
  | .int z => match ixN ds.length z with
    | some j => .nx (ρ.set i (.own (ds.set j d)))
    | none => .bad
  | _ => .bad) := rfl
@[simp] theorem ev_sRetO (i : Nat) : sRetO i ρ = (onOwn i ρ fun ds => .ro ds) := rfl
@[simp] theorem ev_sClr (i : Nat) : sClr i ρ = (onOwn i ρ fun _ => .nx (ρ.set i (.own []))) := rfl
@[simp] theorem ev_sFor (f : En → Res (List D)) (g : D → En → Option En) (body : En → Fl) : sFor f g body ρ = (onOk (f ρ) ρ fun xs => forD g body xs ρ) := rfl
@[simp] theorem ev_iSeq (f : En → Res D) : iSeq f ρ = ((f ρ).bind seqD) := rfl
@[simp] theorem ev_iR1 (fa : En → Res (List D)) : iR1 fa ρ = ((fa ρ).bind rng1) := rfl
@[simp] theorem ev_iR2 (fa : En → Res (List D)) : iR2 fa ρ = ((fa ρ).bind rng2) := rfl
@[simp] theorem ev_iZ (fa : En → Res (List D)) : iZ fa ρ = ((fa ρ).bind zipD) := rfl
@[simp] theorem ev_nLc (i : Nat) (f : En → Res (List D)) (t : En → Res Bool) (e : En → Res D) : nLc i f t e ρ = ((f ρ).bind fun xs => if xs.length < 1000000 then lcD i t e ρ xs else .bad) := rfl
@[simp] theorem ev_tYesD : tYesD ρ = (.ok true) := rfl
@[simp] theorem ev_dCal (n : Nat) (f : List D → Res D) (fa : En → Res (List D)) : dCal n f fa ρ = ((fa ρ).bind fun ds => if ds.length = n then noExc (f ds) else .bad) := rfl
@[simp] theorem ev_nCal (n : Nat) (f : List D → Res (List D)) (fa : En → Res (List D)) : nCal n f fa ρ = ((fa ρ).bind fun ds => if ds.length = n then (match f ds with
  | .ok d => .ok d
  | _ => .bad) else .bad) := rfl
@[simp] theorem ev_nList (fa : En → Res (List D)) : nList fa ρ = ((fa ρ).bind seq1) := rfl
@[simp] theorem ev_dChain (p q : D → D → Option D) (fa fb fc : En → Res D) : dChain p q fa fb fc ρ = ((fa ρ).bind fun a => (fb ρ).bind fun b => (ofOpt (p a b)).bind fun r => (toB r).bind fun k => if k = true then (fc ρ).bind fun c => ofOpt (q b c) else .ok (.bl false)) := rfl
@[simp] theorem ev_sAug (i : Nat) (f : En → Res D) : sAug i f ρ = (match ρ[i]? with
  | some (.val (.int a)) => onOk (f ρ) ρ fun d => match d with
    | .int b => .nx (ρ.set i (.val (.int (a + b))))
    | _ => .bad
  | _ => .bad) := rfl
@[simp] theorem ev_dClo (i : Nat) (Φ : CloD → List D → List D → Res D) (f : En → Res (List D)) : dClo i Φ f ρ = (match ρ[i]? with
  | some (.val (.clo z ws)) => (f ρ).bind fun ds => if noClos ds = true ∧ noClos ws = true then noExc (Φ z ws ds) else .bad
  | _ => .bad) := rfl
@[simp] theorem ev_gN : gN i d ρ = some (ρ.set i (.val d)) := rfl
@[simp] theorem ev_onOwn {G : List D → Fl} : onOwn i ρ G = (match ρ[i]? with
  | some (.own ds) => G ds
  | _ => .bad) := rfl
@[simp] theorem ev_frz1 : frz1 i ρ = (match ρ[i]? with
  | some (.own ds) => ρ.set i (.val (.lst ds))
  | _ => ρ) := rfl
@[simp] theorem ev_frzs0 : frzs [] ρ = ρ := rfl
@[simp] theorem ev_frzs1 {is : List Nat} : frzs (i :: is) ρ = frzs is (frz1 i ρ) := rfl
@[simp] theorem ev_gsNil : gsNil [] ρ = some ρ := rfl
@[simp] theorem ev_gsCons {g : D → En → Option En} {gs : List D → En → Option En} {r : List D} : gsCons g gs (d :: r) ρ = (match g d ρ with
    | some ρ1 => gs r ρ1
    | none => none) := rfl
@[simp] theorem ev_gT {gs : List D → En → Option En} {ds : List D} : gT n gs (.tup ds) ρ = if ds.length = n then gs ds ρ else none := rfl
@[simp] theorem ev_seqL {xs : List D} : seqD (.lst xs) = .ok xs := rfl
@[simp] theorem ev_seqT {xs : List D} : seqD (.tup xs) = .ok xs := rfl
@[simp] theorem ev_ixT {xs : List D} {i : Int} : ixD (.tup xs) (.int i) = atI xs i := rfl
@[simp] theorem ev_ixL {xs : List D} {i : Int} : ixD (.lst xs) (.int i) = atI xs i := rfl
@[simp] theorem ev_forN {g : D → En → Option En} {b : En → Fl} : forD g b [] ρ = .nx ρ := rfl
end
/-! operations -/
section
variable {a b : Int} {x y : Bool} {xs ys : List D} {d : D}
@[simp] theorem ev_add : addD (.int a) (.int b) = some (.int (a + b)) := rfl
@[simp] theorem ev_sub : subD (.int a) (.int b) = some (.int (a - b)) := rfl
@[simp] theorem ev_cmp {p : Int → Int → Bool} : cmpD p (.int a) (.int b) = some (.bl (p a b)) := rfl
@[simp] theorem ev_neg : negD (.int a) = some (.int (-a)) := rfl
@[simp] theorem ev_addL : addD (.lst xs) (.lst ys) = if xs.length + ys.length ≤ 1000000 then some (.lst (xs ++ ys)) else none := rfl
@[simp] theorem ev_lenL : lenD [.lst xs] = some (.int xs.length) := rfl
@[simp] theorem ev_lenT : lenD [.tup xs] = some (.int xs.length) := rfl
theorem fit_of (h1 : -(2 ^ 62) ≤ a) (h2 : a ≤ 2 ^ 62) : fitI a = true := decide_eq_true (Nat.le_trans (PySem.intBits_le_64 (by omega) (by omega)) (by decide))
theorem ev_mul (ha : fitI a = true) (hb : fitI b = true) : mulD (.int a) (.int b) = some (.int (a * b)) := by
  simp only [mulD, ha, hb, Bool.and_self, if_true]
theorem ev_mod (h : 0 < b) : modD (.int a) (.int b) = some (.int (a % b)) := if_pos h
theorem ev_fdiv (h : 0 < b) (h2 : b.natAbs.log2 < 9000) : fdivD (.int a) (.int b) = some (.int (a / b)) := if_pos ⟨h, h2⟩
end
end Pu
/-! ## PuForm -/
/-! forms, plain -/
namespace Pu
open PySem PySem.Spec PyProof.Rows L2
/-! ### stretches -/
def prD (p : Int × Int) : D := .tup [.int p.1, .int p.2]
def strF (hi : Int) : Int → List Int → List (Int × Int)
  | s, [] => [(s, hi)]
  | s, m :: ms => if s < m ∧ m ≤ hi then (s, m - 1) :: strF hi m ms else strF hi s ms
theorem strF_len (hi : Int) : ∀ (ms : List Int) (s : Int), (strF hi s ms).length ≤ ms.length + 1
  | [], s => Nat.le_refl _
  | m :: ms, s => by
    simp only [strF]
    split
    · have := strF_len hi ms m
      simp only [List.length_cons]
      omega
    · have := strF_len hi ms s
      simp only [List.length_cons]
      omega
def strInit (hi : Int) : Int → List Int → List (Int × Int)
  | s, [] => []
  | s, m :: ms => if s < m ∧ m ≤ hi then (s, m - 1) :: strInit hi m ms else strInit hi s ms
def strLast (hi : Int) : Int → List Int → Int
  | s, [] => s
  | s, m :: ms => if s < m ∧ m ≤ hi then strLast hi m ms else strLast hi s ms
theorem strF_eq (hi : Int) : ∀ (ms : List Int) (s : Int), strF hi s ms = strInit hi s ms ++ [(strLast hi s ms, hi)]
  | [], s => rfl
  | m :: ms, s => by
    simp only [strF, strInit, strLast]
    split
    · rw [strF_eq hi ms m]; rfl
    · rw [strF_eq hi ms s]
/-- the marks at which a new stretch begins -/
def incs (hi : Int) : Int → List Int → List Int
  | s, [] => []
  | s, m :: ms => if s < m ∧ m ≤ hi then m :: incs hi m ms else incs hi s ms
theorem strF_incs (hi : Int) : ∀ (ms : List Int) (s : Int), (strF hi s ms).length = (incs hi s ms).length + 1
  | [], s => rfl
  | m :: ms, s => by
    simp only [strF, incs]
    split
    · simp only [List.length_cons, strF_incs hi ms m]
    · exact strF_incs hi ms s
theorem incs_sub (hi : Int) : ∀ (ms : List Int) (s : Int), ∀ x ∈ incs hi s ms, x ∈ ms ∧ s < x
  | [], s, x, h => by simp [incs] at h
  | m :: ms, s, x, h => by
    simp only [incs] at h
    split at h
    · rename_i q
      rcases List.mem_cons.mp h with rfl | h
      · exact ⟨List.mem_cons_self, q.1⟩
      · obtain ⟨a, b⟩ := incs_sub hi ms m x h
        exact ⟨List.mem_cons_of_mem _ a, by omega⟩
    · obtain ⟨a, b⟩ := incs_sub hi ms s x h
      exact ⟨List.mem_cons_of_mem _ a, b⟩
theorem incs_nodup (hi : Int) : ∀ (ms : List Int) (s : Int), (incs hi s ms).Nodup
  | [], s => List.nodup_nil
  | m :: ms, s => by
    simp only [incs]
    split
    · refine List.nodup_cons.mpr ⟨fun h => ?_, incs_nodup hi ms m⟩
      have := (incs_sub hi ms m m h).2
      omega
    · exact incs_nodup hi ms s
theorem nodup_len : ∀ (X A : List Int), X.Nodup → (∀ x ∈ X, x ∈ A) → X.length ≤ A.length
  | [], A, _, _ => Nat.zero_le _
  | x :: X, A, h, q => by
    obtain ⟨h1, h2⟩ := List.nodup_cons.mp h
    have hx : x ∈ A := q x List.mem_cons_self
    have := nodup_len X (A.erase x) h2 fun y hy => (List.mem_erase_of_ne (fun z => h1 (by rw [← z]; exact hy))).mpr (q y (List.mem_cons_of_mem _ hy))
    rw [List.length_erase_of_mem hx] at this
    have : 0 < A.length := List.length_pos_of_mem hx
    simp only [List.length_cons]
    omega
theorem strF_few (hi lo : Int) (ms A : List Int) (h : ∀ x ∈ ms, x ∈ A) : (strF hi lo (srt ms)).length ≤ A.length + 1 := by
  rw [strF_incs]
  have := nodup_len (incs hi lo (srt ms)) A (incs_nodup hi _ lo) fun x hx => h x ((srt_perm ms).mem_iff.mp (incs_sub hi _ lo x hx).1)
  omega
/-! ### triples -/
section
variable {α : Type}
def tl : Int → Int → List (Int × Int × α) → Prop
  | lo, hi, [] => lo = hi + 1
  | lo, hi, p :: ps => p.1 = lo ∧ lo ≤ p.2.1 ∧ tl (p.2.1 + 1) hi ps
theorem tl_str (g : Int × Int → α) (hi : Int) : ∀ (ms : List Int) (s : Int), s ≤ hi → tl s hi ((strF hi s ms).map fun p => (p.1, p.2, g p))
  | [], s, h => ⟨rfl, h, rfl⟩
  | m :: ms, s, h => by
    simp only [strF]
    split
    · rename_i q
      refine ⟨rfl, by show s ≤ m - 1; omega, ?_⟩
      have := tl_str g hi ms m q.2
      show tl (m - 1 + 1) hi _
      rw [Int.sub_add_cancel]
      exact this
    · exact tl_str g hi ms s h
variable [DecidableEq α]
def mrg : Int × Int × α → List (Int × Int × α) → List (Int × Int × α)
  | c, [] => [c]
  | c, p :: ps => if c.2.2 = p.2.2 then mrg (c.1, p.2.1, p.2.2) ps else c :: mrg p ps
def drF : List (Int × Int × α) → List (Int × Int × α)
  | [] => []
  | p :: ps => mrg p ps
theorem tl_mrg (hi : Int) : ∀ (ps : List (Int × Int × α)) (c : Int × Int × α) (lo : Int), tl lo hi (c :: ps) → tl lo hi (mrg c ps)
  | [], c, lo, h => h
  | p :: ps, c, lo, h => by
    obtain ⟨h1, h2, h3, h4, h5⟩ := h
    simp only [mrg]
    split
    · exact tl_mrg hi ps _ lo ⟨h1, by show lo ≤ p.2.1; omega, h5⟩
    · exact ⟨h1, h2, tl_mrg hi ps p _ ⟨h3, h4, h5⟩⟩
theorem tl_drF {lo hi : Int} {ps : List (Int × Int × α)} (h : tl lo hi ps) : tl lo hi (drF ps) := by
  cases ps with
  | nil => exact h
  | cons p ps => exact tl_mrg hi ps p lo h
def adj : List (Int × Int × α) → Prop
  | [] => True
  | [_] => True
  | p :: q :: r => p.2.2 ≠ q.2.2 ∧ adj (q :: r)
theorem mrg_head : ∀ (ps : List (Int × Int × α)) (c : Int × Int × α), ∃ h t, mrg c ps = h :: t ∧ h.2.2 = c.2.2
  | [], c => ⟨c, [], rfl, rfl⟩
  | p :: ps, c => by
    simp only [mrg]
    split
    · rename_i q
      obtain ⟨h, t, e1, e2⟩ := mrg_head ps (c.1, p.2.1, p.2.2)
      exact ⟨h, t, e1, by rw [e2, q]⟩
    · exact ⟨c, _, rfl, rfl⟩
theorem adj_mrg : ∀ (ps : List (Int × Int × α)) (c : Int × Int × α), adj (mrg c ps)
  | [], c => trivial
  | p :: ps, c => by
    simp only [mrg]
    split
    · exact adj_mrg ps _
    · rename_i q
      have := adj_mrg ps p
      obtain ⟨h, t, e1, e2⟩ := mrg_head ps p
      rw [e1] at this ⊢
      exact ⟨by rw [e2]; exact q, this⟩
theorem adj_drF (ps : List (Int × Int × α)) : adj (drF ps) := by
  cases ps with
  | nil => trivial
  | cons p ps => exact adj_mrg ps p
theorem mrg_mem : ∀ (ps : List (Int × Int × α)) (c : Int × Int × α), ∀ q ∈ mrg c ps, q.2.2 = c.2.2 ∨ ∃ p ∈ ps, q.2.2 = p.2.2
  | [], c, q, h => .inl (by rw [List.mem_singleton.mp h])
  | p :: ps, c, q, h => by
    simp only [mrg] at h
    split at h
    · rename_i e
      rcases mrg_mem ps _ q h with z | ⟨p', h1, h2⟩
      · exact .inl (by rw [z, e])
      · exact .inr ⟨p', List.mem_cons_of_mem _ h1, h2⟩
    · rcases List.mem_cons.mp h with rfl | h
      · exact .inl rfl
      · rcases mrg_mem ps p q h with z | ⟨p', h1, h2⟩
        · exact .inr ⟨p, List.mem_cons_self, z⟩
        · exact .inr ⟨p', List.mem_cons_of_mem _ h1, h2⟩
theorem drF_mem {ps : List (Int × Int × α)} {q : Int × Int × α} (h : q ∈ drF ps) : ∃ p ∈ ps, q.2.2 = p.2.2 := by
  cases ps with
  | nil => cases h
  | cons p ps =>
    rcases mrg_mem ps p q h with z | ⟨p', h1, h2⟩
    · exact ⟨p, List.mem_cons_self, z⟩
    · exact ⟨p', List.mem_cons_of_mem _ h1, h2⟩
theorem mrg_len : ∀ (ps : List (Int × Int × α)) (c : Int × Int × α), (mrg c ps).length ≤ ps.length + 1
  | [], c => Nat.le_refl _
  | p :: ps, c => by
    simp only [mrg]
    split
    · have := mrg_len ps (c.1, p.2.1, p.2.2)
      simp only [List.length_cons]
      omega
    · have := mrg_len ps p
      simp only [List.length_cons]
      omega
theorem drF_len (ps : List (Int × Int × α)) : (drF ps).length ≤ ps.length := by
  cases ps with
  | nil => exact Nat.le_refl _
  | cons p ps => exact mrg_len ps p
/-- the one that holds a code -/
def fnd (x : Int) : List (Int × Int × α) → Option α
  | [] => none
  | p :: ps => if x ≤ p.2.1 then some p.2.2 else fnd x ps
theorem fnd_mrg (hi x : Int) : ∀ (ps : List (Int × Int × α)) (c : Int × Int × α) (lo : Int), tl lo hi (c :: ps) → fnd x (mrg c ps) = fnd x (c :: ps)
  | [], c, lo, h => rfl
  | p :: ps, c, lo, h => by
    obtain ⟨h1, h2, h3, h4, h5⟩ := h
    simp only [mrg]
    split
    · rename_i q
      rw [fnd_mrg hi x ps (c.1, p.2.1, p.2.2) lo ⟨h1, by show lo ≤ p.2.1; omega, h5⟩]
      simp only [fnd, q]
      by_cases k : x ≤ c.2.1
      · rw [if_pos k, if_pos (by omega)]
      · rw [if_neg k]
    · show (if _ then _ else fnd x (mrg p ps)) = _
      rw [fnd_mrg hi x ps p _ ⟨h3, h4, h5⟩]
      rfl
theorem fnd_drF {lo hi x : Int} {ps : List (Int × Int × α)} (h : tl lo hi ps) : fnd x (drF ps) = fnd x ps := by
  cases ps with
  | nil => rfl
  | cons p ps => exact fnd_mrg hi x ps p lo h
theorem fnd_some {x : Int} : ∀ {ps : List (Int × Int × α)} {lo hi : Int}, tl lo hi ps → lo ≤ x → x ≤ hi → ∃ p ∈ ps, fnd x ps = some p.2.2
  | [], lo, hi, h, h1, h2 => by
    have : lo = hi + 1 := h
    omega
  | p :: ps, lo, hi, ⟨q1, q2, q3⟩, h1, h2 => by
    simp only [fnd]
    by_cases k : x ≤ p.2.1
    · rw [if_pos k]
      exact ⟨p, List.mem_cons_self, rfl⟩
    · rw [if_neg k]
      obtain ⟨p', m, e⟩ := fnd_some q3 (by omega) h2
      exact ⟨p', List.mem_cons_of_mem _ m, e⟩
end
/-- the lowest code of the stretch that holds x -/
def startOf (x : Int) : List (Int × Int) → Int
  | [] => 0
  | p :: ps => if x ≤ p.2 then p.1 else startOf x ps
theorem fnd_start {α : Type} [DecidableEq α] (g : Int → α) (x : Int) : ∀ (r : List (Int × Int)) (a : α), fnd x (r.map fun p => (p.1, p.2, g p.1)) = some a → a = g (startOf x r)
  | [], a, h => by cases h
  | p :: ps, a, h => by
    simp only [List.map_cons, fnd, startOf] at h ⊢
    by_cases k : x ≤ p.2
    · rw [if_pos k] at h ⊢
      exact (Option.some.inj h).symm
    · rw [if_neg k] at h ⊢
      exact fnd_start g x ps a h
theorem start_mem (hi x : Int) : ∀ (ms : List Int) (s : Int), ms.Pairwise (· ≤ ·) → s ≤ x → x ≤ hi → startOf x (strF hi s ms) ∈ s :: ms.filter (fun m => decide (s < m) && decide (m ≤ x)) ∧ s ≤ startOf x (strF hi s ms) ∧ ∀ m ∈ ms, m ≤ x → m ≤ startOf x (strF hi s ms)
  | [], s, _, h1, h2 => by
    simp only [strF, startOf, if_pos h2]
    exact ⟨List.mem_cons_self, Int.le_refl _, fun m hm => by cases hm⟩
  | m :: ms, s, hs, h1, h2 => by
    obtain ⟨hs1, hs2⟩ := List.pairwise_cons.mp hs
    simp only [strF]
    split
    · rename_i q
      by_cases k : x ≤ m - 1
      · simp only [startOf, if_pos k]
        refine ⟨List.mem_cons_self, Int.le_refl _, fun y hy hyx => ?_⟩
        rcases List.mem_cons.mp hy with rfl | hy
        · omega
        · have := hs1 y hy
          omega
      · simp only [startOf, if_neg k]
        obtain ⟨a, b, c⟩ := start_mem hi x ms m hs2 (by omega) h2
        refine ⟨?_, by omega, fun y hy hyx => ?_⟩
        · have e : (m :: ms).filter (fun y => decide (s < y) && decide (y ≤ x)) = m :: ms.filter (fun y => decide (s < y) && decide (y ≤ x)) := by
            rw [List.filter_cons, if_pos (by simp; omega)]
          rw [e]
          rcases List.mem_cons.mp a with z | z
          · rw [z]
            exact List.mem_cons_of_mem _ List.mem_cons_self
          · refine List.mem_cons_of_mem _ (List.mem_cons_of_mem _ ?_)
            rw [List.mem_filter] at z ⊢
            refine ⟨z.1, ?_⟩
            simp only [Bool.and_eq_true, decide_eq_true_eq] at z ⊢
            omega
        · rcases List.mem_cons.mp hy with rfl | hy
          · exact b
          · exact c y hy hyx
    · rename_i q
      obtain ⟨a, b, c⟩ := start_mem hi x ms s hs2 h1 h2
      refine ⟨?_, b, fun y hy hyx => ?_⟩
      · rcases List.mem_cons.mp a with z | z
        · rw [z]
          exact List.mem_cons_self
        · refine List.mem_cons_of_mem _ ?_
          rw [List.mem_filter] at z ⊢
          exact ⟨List.mem_cons_of_mem _ z.1, z.2⟩
      · rcases List.mem_cons.mp hy with rfl | hy
        · omega
        · exact c y hy hyx
theorem start_max (hi lo x : Int) (ms : List Int) (h1 : lo ≤ x) (h2 : x ≤ hi) : maxI (lo :: ms.filter (fun m => decide (lo < m) && decide (m ≤ x))) = startOf x (strF hi lo (srt ms)) := by
  obtain ⟨a, b, c⟩ := start_mem hi x (srt ms) lo (srt_sorted ms) h1 h2
  refine maxI_eq ?_ fun y hy => ?_
  · rcases List.mem_cons.mp a with z | z
    · rw [z]
      exact List.mem_cons_self
    · refine List.mem_cons_of_mem _ ?_
      rw [List.mem_filter] at z ⊢
      exact ⟨(srt_perm ms).mem_iff.mp z.1, z.2⟩
  · rcases List.mem_cons.mp hy with rfl | hy
    · exact b
    · rw [List.mem_filter] at hy
      simp only [Bool.and_eq_true, decide_eq_true_eq] at hy
      exact c y ((srt_perm ms).mem_iff.mpr hy.1) hy.2.2
/-! ### forms -/
def Fo : Nat → Type
  | 0 => Int
  | n + 1 => List (Int × Int × Fo n)
def foDec : (n : Nat) → DecidableEq (Fo n)
  | 0 => inferInstanceAs (DecidableEq Int)
  | n + 1 =>
    have := foDec n
    inferInstanceAs (DecidableEq (List (Int × Int × Fo n)))
instance (n : Nat) : DecidableEq (Fo n) := foDec n
def foD : (n : Nat) → Fo n → D
  | 0, (i : Int) => .int i
  | n + 1, (ps : List (Int × Int × Fo n)) => .tup (ps.map fun p => .tup [.int p.1, .int p.2.1, foD n p.2.2])
def trD {n : Nat} (p : Int × Int × Fo n) : D := .tup [.int p.1, .int p.2.1, foD n p.2.2]
theorem foD_succ {n : Nat} (ps : List (Int × Int × Fo n)) : foD (n + 1) ps = .tup (ps.map trD) := rfl
theorem eqv_foD : ∀ (n : Nat) (a b : Fo n), eqvD (foD n a) (foD n b) = decide (a = b)
  | 0, a, b => by
    show (@BEq.beq Int _ a b) = _
    exact Bool.beq_eq_decide_eq (α := Int) a b
  | n + 1, a, b => by
    have ih := eqv_foD n
    have key : ∀ (a b : List (Int × Int × Fo n)), eqvDs (a.map trD) (b.map trD) = decide (a = b) := by
      intro a
      induction a with
      | nil =>
        intro b
        cases b with
        | nil => simp [eqvDs]
        | cons q b => simp [eqvDs]
      | cons p a iha =>
        intro b
        cases b with
        | nil => simp [eqvDs]
        | cons q b =>
          obtain ⟨p1, p2, p3⟩ := p
          obtain ⟨q1, q2, q3⟩ := q
          rw [List.map_cons, List.map_cons]
          simp only [eqvDs, trD, eqvD, ih, iha, Bool.and_true]
          by_cases h1 : p1 = q1 <;> by_cases h2 : p2 = q2 <;> by_cases h3 : p3 = q3 <;> by_cases h4 : a = b <;> simp [h1, h2, h3, h4]
    show eqvDs (List.map trD a) (List.map trD b) = _
    exact key a b
theorem sh_foD : ∀ (n : Nat) (a : Fo n) (k : Nat), 2 * n ≤ k → shD (foD n a) k = true
  | 0, a, k, _ => by
    show shD (.int a) k = true
    simp [shD]
  | n + 1, a, k, h => by
    obtain ⟨k, rfl⟩ : ∃ j, k = j + 2 := ⟨k - 2, by omega⟩
    have key : ∀ (a : List (Int × Int × Fo n)), shDs (a.map trD) (k + 1) = true := by
      intro a
      induction a with
      | nil => simp [shDs]
      | cons p a ih =>
        rw [List.map_cons]
        simp only [shDs, trD, shD, ih, sh_foD n p.2.2 k (by omega), Bool.and_true, Bool.and_self]
    show shDs (List.map trD a) (k + 1) = true
    exact key a
theorem eqD_foD {n : Nat} (a b : Fo n) (h : n ≤ 20) : eqD (foD n a) (foD n b) = some (.bl (decide (a = b))) := by
  unfold eqD
  rw [sh_foD n a 60 (by omega), sh_foD n b 60 (by omega), eqv_foD]
  rfl
theorem neD_foD {n : Nat} (a b : Fo n) (h : n ≤ 20) : neD (foD n a) (foD n b) = some (.bl (!decide (a = b))) := by
  unfold neD
  rw [sh_foD n a 60 (by omega), sh_foD n b 60 (by omega), eqv_foD]
  rfl
theorem noClo_foD : ∀ (n : Nat) (a : Fo n), noClo (foD n a) = true
  | 0, a => noClo_int
  | n + 1, a => by
    show noClo (.tup (List.map trD a)) = true
    rw [noClo_tup, noClos_all]
    intro d hd
    obtain ⟨p, _, rfl⟩ := List.mem_map.mp hd
    unfold trD
    rw [noClo_tup, noClos_cons, noClos_cons, noClos_cons, noClos_nil, noClo_int, noClo_int, noClo_foD n]
    rfl
/-- the form that a function of codes makes over rows of stretches -/
def bld (leaf : List Int → Int) : (rows : List (List (Int × Int))) → List Int → Fo rows.length
  | [], codes => leaf codes
  | r :: rs, codes => drF (r.map fun p => (p.1, p.2, bld leaf rs (codes ++ [p.1])))
def lkF : (n : Nat) → Fo n → List Int → Option Int
  | 0, (v : Int), _ => some v
  | n + 1, (ps : List (Int × Int × Fo n)), x :: xs => (fnd x ps).bind fun f => lkF n f xs
  | _ + 1, _, [] => none
/-- rows that tile bounds -/
def Tiles : List (Int × Int) → List (List (Int × Int)) → Prop
  | [], [] => True
  | b :: bs, r :: rs => b.1 ≤ b.2 ∧ (∀ (α : Type) (g : Int × Int → α), tl b.1 b.2 (r.map fun p => (p.1, p.2, g p))) ∧ Tiles bs rs
  | _, _ => False
def starts : List (List (Int × Int)) → List Int → List Int
  | r :: rs, x :: xs => startOf x r :: starts rs xs
  | _, _ => []
def Within : List (Int × Int) → List Int → Prop
  | [], [] => True
  | b :: bs, x :: xs => b.1 ≤ x ∧ x ≤ b.2 ∧ Within bs xs
  | _, _ => False
theorem look_bld (leaf : List Int → Int) : ∀ (bs : List (Int × Int)) (rows : List (List (Int × Int))) (codes xs : List Int), Tiles bs rows → Within bs xs → lkF rows.length (bld leaf rows codes) xs = some (leaf (codes ++ starts rows xs))
  | [], [], codes, [], _, _ => by simp [lkF, bld, starts]
  | b :: bs, r :: rs, codes, x :: xs, ⟨h1, h2, h3⟩, ⟨w1, w2, w3⟩ => by
    show (fnd x (drF _)).bind _ = _
    have t := h2 _ (fun p => bld leaf rs (codes ++ [p.1]))
    rw [fnd_drF t]
    obtain ⟨p, hp, e⟩ := fnd_some t w1 w2
    have e2 := fnd_start (fun a => bld leaf rs (codes ++ [a])) x r _ e
    rw [e, Option.bind_some, e2, look_bld leaf bs rs _ xs h3 w3]
    simp [starts]
  | [], r :: rs, _, _, h, _ => h.elim
  | b :: bs, [], _, _, h, _ => h.elim
  | [], [], _, _ :: _, _, h => h.elim
  | _ :: _, _ :: _, _, [], _, h => h.elim
/-- its shape -/
def Shp : (n : Nat) → Fo n → List (Int × Int) → Prop
  | 0, _, [] => True
  | n + 1, (ps : List (Int × Int × Fo n)), b :: bs => ps ≠ [] ∧ tl b.1 b.2 ps ∧ adj ps ∧ ∀ p ∈ ps, Shp n p.2.2 bs
  | _, _, _ => False
theorem shp_bld (leaf : List Int → Int) : ∀ (bs : List (Int × Int)) (rows : List (List (Int × Int))) (codes : List Int), Tiles bs rows → Shp rows.length (bld leaf rows codes) bs
  | [], [], codes, _ => trivial
  | b :: bs, r :: rs, codes, ⟨h1, h2, h3⟩ => by
    have t := h2 _ (fun p => bld leaf rs (codes ++ [p.1]))
    have t2 := tl_drF t
    refine ⟨fun z => ?_, t2, adj_drF _, fun p hp => ?_⟩
    · have z : drF (r.map fun p => (p.1, p.2, bld leaf rs (codes ++ [p.1]))) = [] := z
      rw [z] at t2
      have : b.1 = b.2 + 1 := t2
      omega
    · obtain ⟨q, hq, e⟩ := drF_mem (show p ∈ drF _ from hp)
      obtain ⟨q', _, rfl⟩ := List.mem_map.mp hq
      rw [e]
      exact shp_bld leaf bs rs _ h3
  | [], r :: rs, _, h => h.elim
  | b :: bs, [], _, h => h.elim
end Pu
namespace Pu
/-- not too long -/
def FoSmall : (n : Nat) → Fo n → Prop
  | 0, _ => True
  | n + 1, (ps : List (Int × Int × Fo n)) => ps.length ≤ 100000 ∧ ∀ p ∈ ps, FoSmall n p.2.2
theorem small_bld (leaf : List Int → Int) : ∀ (rows : List (List (Int × Int))) (codes : List Int), (∀ r ∈ rows, r.length ≤ 100000) → FoSmall rows.length (bld leaf rows codes)
  | [], codes, _ => trivial
  | r :: rs, codes, h => by
    refine ⟨?_, fun p hp => ?_⟩
    · have := drF_len (r.map fun p => (p.1, p.2, bld leaf rs (codes ++ [p.1])))
      rw [List.length_map] at this
      exact Nat.le_trans this (h r List.mem_cons_self)
    · obtain ⟨q, hq, e⟩ := drF_mem (show p ∈ drF _ from hp)
      obtain ⟨q', _, rfl⟩ := List.mem_map.mp hq
      rw [e]
      exact small_bld leaf rs _ fun r hr => h r (List.mem_cons_of_mem _ hr)
end Pu
/-! ## PuLoops -/
/-! loops and lists of the plain functions -/
namespace Pu
open PySem PySem.Spec PyProof.Rows L2
section
variable {g : D → En → Option En} {body : En → Fl} {ρ : En}
theorem forD_P (P : Nat → En → Prop) : ∀ (xs : List D) (ρ : En) (m : Nat), P m ρ → (∀ k x ρ, xs[k]? = some x → P (m + k) ρ → ∃ ρ1 ρ2, g x ρ = some ρ1 ∧ body ρ1 = .nx ρ2 ∧ P (m + k + 1) ρ2) → ∃ ρ', forD g body xs ρ = .nx ρ' ∧ P (m + xs.length) ρ'
  | [], ρ, m, h0, _ => ⟨ρ, rfl, h0⟩
  | x :: xs, ρ, m, h0, hs => by
    obtain ⟨ρ1, ρ2, h1, h2, h3⟩ := hs 0 x ρ rfl h0
    obtain ⟨ρ', e, q⟩ := forD_P P xs ρ2 (m + 1) h3 fun k y ρ hk hP => by
      have e : m + 1 + k = m + (k + 1) := by omega
      rw [e] at hP ⊢
      exact hs (k + 1) y ρ (by simpa using hk) hP
    refine ⟨ρ', ?_, by rw [List.length_cons, show m + (xs.length + 1) = m + 1 + xs.length by omega]; exact q⟩
    simp only [forD, h1, h2, e]
/-- for k in range(n) -/
theorem forD_rng (P : Nat → En → Prop) (n : Nat) (h0 : P 0 ρ) (hs : ∀ k ρ, k < n → P k ρ → ∃ ρ1 ρ2, g (.int k) ρ = some ρ1 ∧ body ρ1 = .nx ρ2 ∧ P (k + 1) ρ2) : ∃ ρ', forD g body ((List.range n).map fun (k : Nat) => D.int (k : Int)) ρ = .nx ρ' ∧ P n ρ' := by
  have := forD_P (g := g) (body := body) P ((List.range n).map fun (k : Nat) => D.int (k : Int)) ρ 0 h0 fun k x ρ hk hP => by
    rw [Nat.zero_add] at hP ⊢
    have hk' : k < n := by
      have := (List.getElem?_eq_some_iff.mp hk).1
      rwa [List.length_map, List.length_range] at this
    rw [List.getElem?_map, List.getElem?_range hk'] at hk
    cases hk
    exact hs k ρ hk' hP
  rwa [List.length_map, List.length_range, Nat.zero_add] at this
theorem lcD_fm {β : Type} {i : Nat} {t : En → Res Bool} {e : En → Res D} (c : β → D) (p : β → Bool) (f : β → D) : ∀ (ms : List β), (∀ m ∈ ms, t (ρ.set i (.val (c m))) = .ok (p m) ∧ (p m = true → e (ρ.set i (.val (c m))) = .ok (f m))) → lcD i t e ρ (ms.map c) = .ok ((ms.filter p).map f)
  | [], _ => rfl
  | m :: ms, h => by
    obtain ⟨h1, h2⟩ := h m List.mem_cons_self
    have ih := lcD_fm (i := i) (t := t) (e := e) c p f ms fun x hx => h x (List.mem_cons_of_mem _ hx)
    rw [List.map_cons, List.filter_cons]
    simp only [lcD, h1]
    cases q : p m with
    | true => simp [q, h2 q, ih]
    | false => simp [q, ih]
theorem lcD_all {β : Type} {i : Nat} {e : En → Res D} (c : β → D) (f : β → D) (ms : List β) (h : ∀ m ∈ ms, e (ρ.set i (.val (c m))) = .ok (f m)) : lcD i tYesD e ρ (ms.map c) = .ok (ms.map f) := by
  have := lcD_fm (ρ := ρ) (i := i) (t := tYesD) (e := e) c (fun _ => true) f ms fun m hm => ⟨rfl, fun _ => h m hm⟩
  rwa [List.filter_eq_self.mpr fun _ _ => rfl] at this
theorem lcD_rng {i n : Nat} {e : En → Res D} (f : Nat → D) (h : ∀ k < n, e (ρ.set i (.val (.int k))) = .ok (f k)) : lcD i tYesD e ρ ((List.range n).map fun (k : Nat) => D.int (k : Int)) = .ok ((List.range n).map f) :=
  lcD_all (fun (k : Nat) => D.int (k : Int)) f (List.range n) fun k hk => h k (List.mem_range.mp hk)
end
section
variable {α : Type} {xs : List α} {a b c : α}
theorem atI_nat {k : Nat} (h : xs[k]? = some a) : atI xs (k : Int) = some a := by
  obtain ⟨hk, _⟩ := List.getElem?_eq_some_iff.mp h
  unfold atI ixN
  rw [if_pos (by omega), if_pos (by omega)]
  simpa using h
@[simp] theorem atI_0 : atI (a :: xs) 0 = some a := atI_nat (k := 0) rfl
@[simp] theorem atI_1 : atI (a :: b :: xs) 1 = some b := atI_nat (k := 1) rfl
@[simp] theorem atI_2 : atI (a :: b :: c :: xs) 2 = some c := atI_nat (k := 2) rfl
@[simp] theorem ixN_last {n : Nat} : ixN (n + 1) (-1) = some n := by
  unfold ixN
  rw [if_neg (by decide), if_pos (by omega)]
  congr 1
  omega
@[simp] theorem atI_last : atI (xs ++ [a]) (-1) = some a := by
  unfold atI
  rw [List.length_append, List.length_singleton, ixN_last]
  simp
@[simp] theorem set_last : (xs ++ [a]).set xs.length b = xs ++ [b] := by
  rw [List.set_append_right _ _ (Nat.le_refl _)]
  simp
theorem atI_mod {i : Int} (h : 0 < xs.length) : ∃ k, k < xs.length ∧ ixN xs.length (i % xs.length) = some k ∧ atI xs (i % xs.length) = xs[k]? := by
  have h1 : 0 ≤ i % (xs.length : Int) := Int.emod_nonneg _ (by omega)
  have h2 : i % (xs.length : Int) < xs.length := Int.emod_lt_of_pos _ (by omega)
  refine ⟨(i % xs.length).toNat, by omega, ?_, ?_⟩
  · unfold ixN
    rw [if_pos h1, if_pos h2]
  · unfold atI ixN
    rw [if_pos h1, if_pos h2]
    rfl
end
@[simp] theorem ixD_pr0 {p : Int × Int} : ixD (prD p) (.int 0) = some (.int p.1) := by simp [prD]
@[simp] theorem ixD_pr1 {p : Int × Int} : ixD (prD p) (.int 1) = some (.int p.2) := by simp [prD]
@[simp] theorem ixD_tr0 {n : Nat} {p : Int × Int × Fo n} : ixD (trD p) (.int 0) = some (.int p.1) := by simp [trD]
@[simp] theorem ixD_tr1 {n : Nat} {p : Int × Int × Fo n} : ixD (trD p) (.int 1) = some (.int p.2.1) := by simp [trD]
@[simp] theorem ixD_tr2 {n : Nat} {p : Int × Int × Fo n} : ixD (trD p) (.int 2) = some (foD n p.2.2) := by simp [trD]
@[simp] theorem eqD_int {a b : Int} : eqD (.int a) (.int b) = some (.bl (decide (a = b))) := by
  have : (a == b) = decide (a = b) := Bool.beq_eq_decide_eq a b
  simp [eqD, shD, eqvD, this]
@[simp] theorem neD_int {a b : Int} : neD (.int a) (.int b) = some (.bl (!decide (a = b))) := by
  have : (a == b) = decide (a = b) := Bool.beq_eq_decide_eq a b
  simp [neD, shD, eqvD, this]
theorem rng1_nat {n : Nat} (h : n ≤ 1000000) : rng1 [.int (n : Int)] = .ok ((List.range n).map fun (k : Nat) => D.int (k : Int)) := by
  have h1 : (n : Int).natAbs ≤ 1000000000 := by omega
  simp only [rng1]
  rw [if_pos h1]
  simp
def iD (xs : List Int) : D := .lst (xs.map D.int)
def bD (bs : List (Int × Int)) : D := .lst (bs.map prD)
def mD (Ls : List (List Int)) : D := .lst (Ls.map iD)
def rD (rows : List (List (Int × Int))) : D := .lst (rows.map bD)
theorem bD_at {bs : List (Int × Int)} {k : Nat} {b : Int × Int} (h : bs[k]? = some b) : ixD (bD bs) (.int k) = some (prD b) := atI_nat (by rw [List.getElem?_map, h]; rfl)
theorem mD_at {Ls : List (List Int)} {k : Nat} {L : List Int} (h : Ls[k]? = some L) : ixD (mD Ls) (.int k) = some (iD L) := atI_nat (by rw [List.getElem?_map, h]; rfl)
theorem rD_at {Ls : List (List (Int × Int))} {k : Nat} {L : List (Int × Int)} (h : Ls[k]? = some L) : ixD (rD Ls) (.int k) = some (bD L) := atI_nat (by rw [List.getElem?_map, h]; rfl)
theorem iD_at {xs : List Int} {k : Nat} {x : Int} (h : xs[k]? = some x) : ixD (iD xs) (.int k) = some (.int x) := atI_nat (by rw [List.getElem?_map, h]; rfl)
@[simp] theorem len_iD {xs : List Int} : lenD [iD xs] = some (.int xs.length) := by simp [iD]
@[simp] theorem len_bD {xs : List (Int × Int)} : lenD [bD xs] = some (.int xs.length) := by simp [bD]
@[simp] theorem len_mD {xs : List (List Int)} : lenD [mD xs] = some (.int xs.length) := by simp [mD]
@[simp] theorem len_rD {xs : List (List (Int × Int))} : lenD [rD xs] = some (.int xs.length) := by simp [rD]
@[simp] theorem seq_iD {xs : List Int} : seqD (iD xs) = .ok (xs.map D.int) := rfl
@[simp] theorem seq_bD {xs : List (Int × Int)} : seqD (bD xs) = .ok (xs.map prD) := rfl
@[simp] theorem seq_mD {xs : List (List Int)} : seqD (mD xs) = .ok (xs.map iD) := rfl
@[simp] theorem seq1_lst {xs : List D} : seq1 [.lst xs] = .ok xs := rfl
@[simp] theorem seq1_tup {xs : List D} : seq1 [.tup xs] = .ok xs := rfl
@[simp] theorem seq1_iD {xs : List Int} : seq1 [iD xs] = .ok (xs.map D.int) := rfl
@[simp] theorem seq1_bD {xs : List (Int × Int)} : seq1 [bD xs] = .ok (xs.map prD) := rfl
theorem fit_of' {a : Int} (h : a.natAbs < 2 ^ 200) : fitI a = true := decide_eq_true (Nat.le_trans (PySem.intBits_le_iff.mpr h) (by decide))
theorem fit_small {a : Int} (h : a.natAbs ≤ 1000000) : fitI a = true := fit_of (by omega) (by omega)
theorem fit_nat {a : Nat} (h : a ≤ 1000000) : fitI (a : Int) = true := fit_small (by simpa using h)
/-- == of lists of ints, of lists of these -/
theorem eqv_ints : ∀ (a b : List Int), eqvDs (a.map D.int) (b.map D.int) = decide (a = b)
  | [], [] => by simp [eqvDs]
  | [], _ :: _ => by simp [eqvDs]
  | _ :: _, [] => by simp [eqvDs]
  | x :: a, y :: b => by
    have : (x == y) = decide (x = y) := Bool.beq_eq_decide_eq x y
    simp only [List.map_cons, eqvDs, eqvD, this, eqv_ints a b]
    by_cases h1 : x = y <;> by_cases h2 : a = b <;> simp [h1, h2]
theorem eqv_mats : ∀ (a b : List (List Int)), eqvDs (a.map iD) (b.map iD) = decide (a = b)
  | [], [] => by simp [eqvDs]
  | [], _ :: _ => by simp [eqvDs]
  | _ :: _, [] => by simp [eqvDs]
  | x :: a, y :: b => by
    have hxy : eqvD (iD x) (iD y) = decide (x = y) := by simp only [iD, eqvD, eqv_ints]
    simp only [List.map_cons, eqvDs, hxy, eqv_mats a b]
    by_cases h1 : x = y <;> by_cases h2 : a = b <;> simp [h1, h2]
theorem sh_ints {k : Nat} : ∀ (a : List Int), shDs (a.map D.int) k = true
  | [] => by simp [shDs]
  | x :: a => by simp [shDs, shD, sh_ints a]
theorem sh_mats {k : Nat} : ∀ (a : List (List Int)), shDs (a.map iD) (k + 1) = true
  | [] => by simp [shDs]
  | x :: a => by
    simp only [List.map_cons, shDs, sh_mats a, Bool.and_true]
    simp [iD, shD, sh_ints]
theorem eqD_ints (a b : List Int) : eqD (iD a) (iD b) = some (.bl (decide (a = b))) := by simp [eqD, iD, shD, sh_ints, eqvD, eqv_ints]
theorem neD_ints (a b : List Int) : neD (iD a) (iD b) = some (.bl (!decide (a = b))) := by simp [neD, iD, shD, sh_ints, eqvD, eqv_ints]
theorem neD_mats (a b : List (List Int)) : neD (mD a) (mD b) = some (.bl (!decide (a = b))) := by
  have := eqv_mats a b
  simp [neD, mD, shD, sh_mats, eqvD, this]
theorem noClo_iD {xs : List Int} : noClo (iD xs) = true := by
  unfold iD
  rw [noClo_lst]
  exact noClos_ints xs
theorem noClo_mD {xs : List (List Int)} : noClo (mD xs) = true := by
  unfold mD
  rw [noClo_lst, noClos_all]
  intro d hd
  obtain ⟨x, _, rfl⟩ := List.mem_map.mp hd
  exact noClo_iD
end Pu
namespace Pu
open PySem PySem.Spec PyProof.Rows L2
@[simp] theorem len_scr {xs : List Int} : lenD [.scr xs] = some (.int xs.length) := rfl
theorem scr_at {xs : List Int} {k : Nat} {x : Int} (h : xs[k]? = some x) : ixD (.scr xs) (.int k) = some (.int x) := by
  simp only [ixD, atI_nat h, Option.map_some]
@[simp] theorem ev_max2 {a b : Int} : max2D [.int a, .int b] = some (.int (max a b)) := rfl
@[simp] theorem ev_min2 {a b : Int} : min2D [.int a, .int b] = some (.int (min a b)) := rfl
theorem pow10 {n : Nat} (h : n ≤ 1000) : powD (.int 10) (.int n) = some (.int (10 ^ n)) := by
  have hc : 0 ≤ (n : Int) ∧ (n : Int) ≤ 1000000 ∧ (10 : Int).natAbs < 2 ^ 64 := ⟨by omega, by omega, by decide⟩
  simp only [powD]
  rw [if_pos hc]
  rfl
theorem pow10_40 : powD (.int 10) (.int 40) = some (.int (10 ^ 40)) := pow10 (n := 40) (by decide)
theorem pow10_39 : powD (.int 10) (.int 39) = some (.int (10 ^ 39)) := pow10 (n := 39) (by decide)
theorem pow10_20 : powD (.int 10) (.int 20) = some (.int (10 ^ 20)) := pow10 (n := 20) (by decide)
def aT (ns : List Int) (k : Nat) : Int := ns.getD k 0
theorem fit39 : fitI (10 ^ 39) = true := fit_of' (by decide)
theorem ex40 : ∃ T : Int, powD (.int 10) (.int 40) = some (.int T) ∧ 0 < T := ⟨_, pow10_40, by decide⟩
theorem ex39 : ∃ T : Int, powD (.int 10) (.int 39) = some (.int T) ∧ fitI T = true := ⟨_, pow10_39, fit39⟩
theorem ex20 : ∃ T : Int, powD (.int 10) (.int 20) = some (.int T) ∧ 0 < T ∧ T.natAbs < 2 ^ 100 := ⟨_, pow10_20, by decide, by decide⟩
theorem fdiv_small {a b : Int} (h : 0 < b) (h2 : b ≤ 8000) : fdivD (.int a) (.int b) = some (.int (a / b)) := ev_fdiv h (Nat.lt_of_le_of_lt (Nat.log2_le_self _) (by omega))
theorem maxD_ints (x : Int) (xs : List Int) : maxD [.lst ((x :: xs).map D.int)] = some (.int (maxI (x :: xs))) := by
  simp only [maxD, onInts, intsOf_map, Option.bind_some]
  rw [if_pos (by simp)]
theorem sumD_ints (xs : List Int) : sumD [.lst (xs.map D.int)] = some (.int xs.sum) := by simp only [sumD, onInts, intsOf_map, Option.bind_some]
@[simp] theorem isi_int_int {i : Int} : isiD [.int i, .raw (.ty "int")] = some (.bl true) := rfl
@[simp] theorem isi_int_bool {i : Int} : isiD [.int i, .raw (.ty "bool")] = some (.bl false) := rfl
@[simp] theorem isi_int_tup {i : Int} : isiD [.int i, .raw (.ty "tuple")] = some (.bl false) := rfl
@[simp] theorem isi_tup_tup {xs : List D} : isiD [.tup xs, .raw (.ty "tuple")] = some (.bl true) := rfl
@[simp] theorem isFlat_int {i : Int} : isFlat (.int i) = true := rfl
theorem adj_at {α : Type} [DecidableEq α] : ∀ {ps : List (Int × Int × α)}, adj ps → ∀ {k : Nat} {p q : Int × Int × α}, ps[k]? = some p → ps[k + 1]? = some q → p.2.2 ≠ q.2.2
  | [], _, k, p, q, h, _ => by simp at h
  | [_], _, k, p, q, h, h' => by simp at h'
  | a :: b :: r, hh, 0, p, q, h, h' => by
    simp at h h'
    subst h h'
    exact hh.1
  | a :: b :: r, hh, k + 1, p, q, h, h' => adj_at (ps := b :: r) hh.2 (k := k) (by simpa using h) (by simpa using h')
theorem tl_drop {α : Type} {hi : Int} : ∀ {ps : List (Int × Int × α)} {lo : Int} {k : Nat} {p : Int × Int × α}, tl lo hi ps → ps[k]? = some p → tl p.1 hi (ps.drop k)
  | [], _, k, p, _, h => by simp at h
  | a :: r, lo, 0, p, ⟨h1, h2, h3⟩, h => by
    simp at h
    subst h
    exact ⟨rfl, by omega, h3⟩
  | a :: r, lo, k + 1, p, ⟨h1, h2, h3⟩, h => tl_drop (ps := r) h3 (by simpa using h)
end Pu
/-! ## PuCloV -/
/-! made functions whose argument is looked at only -/
namespace Pu
open PySem PySem.Spec PyProof.Rows L2 LamX NdefX
/-- with one argument that stands for plain data -/
def CloV1 (K : PySem.W.Frag) (mg : Str → Option Value) (cl : List (Str × Addr)) (φ : List D → D → Res D) : List (Option V) → Sp := fun ws vs H Q E => vs.length = 1 ∧ ∃ F v d dws wvs, vs = [v] ∧ ws = wvs.map some ∧ Same F H ∧ Rep K mg F d v ∧ Reps K mg F dws wvs ∧ Sib cl dws ∧ (match φ dws d with
  | .ok d' => ∀ v' F' H', Wd F H F' H' → Rep K mg F' d' v' → Q v' H'
  | _ => False)
structure CloQ (P : Program) (w : World) (K : PySem.W.Frag) (mg : Str → Option Value) (base : Heap) (k : Nat) (z : CloD) (φ : List D → D → Res D) : Prop where
  ok : ∀ (f : Addr) (cl : List (Str × Addr)) (c : Addr), NOk P w K mg base CX0 k f (NFz z cl c) z.ps z.fr (CloV1 K mg cl φ)
theorem CloQ.mono {P : Program} {w : World} {K : PySem.W.Frag} {mg : Str → Option Value} {base : Heap} {j k : Nat} {z : CloD} {φ : List D → D → Res D} (c : CloQ P w K mg base j z φ) (h : j ≤ k) : CloQ P w K mg base k z φ := ⟨fun f cl a => (c.ok f cl a).mono h⟩
theorem cloQ_bad {P : Program} {w : World} {K : PySem.W.Frag} {mg : Str → Option Value} {base : Heap} {k : Nat} {z : CloD} : CloQ P w K mg base k z (fun _ _ => .bad) := by
  refine ⟨fun f cl c => ⟨fun ws vs H Q E h => ?_, fun A outer s H us vs ws Q E _ _ _ _ _ _ h => ?_⟩⟩
  · obtain ⟨_, F, v, d, dws, wvs, _, _, _, _, _, _, z⟩ := h
    exact z.elim
  · obtain ⟨_, F, v, d, dws, wvs, _, _, _, _, _, _, z⟩ := h
    exact z.elim
/-- a body, its argument settled -/
def runQ (N : Nat) (g : En → Fl) : List D → D → Res D := fun dws d => match g (S.val d :: (dws.map S.val ++ List.replicate (N - 1 - dws.length) S.emp)) with
  | .rt d => .ok d
  | .nx _ => .ok .non
  | _ => .bad
/-- the rule; what is made may lean on what is captured -/
theorem cloQ_of {P : Program} {w : World} {K : PySem.W.Frag} {mg : Str → Option Value} {base : Heap} {z : CloD} {N : List Str} {k : Nat} {φ : List D → D → Res D} (S : NScope N z.ps z.fr (C8.fnScope z.st)) (hl : z.ps.length = 1)
    (hb : ∀ (cl : List (Str × Addr)) (c : Addr) (doc pm ctv : Value) (us : List Value), us.length = z.ps.length → bindArgs ((NFz z cl c).fd doc pm ctv) ⟨us, []⟩ = pure (z.ps.zip us))
    (hbody : ∀ (f : Addr) (cl : List (Str × Addr)) (c : Addr) (A : Around) (outer : List Env) (s : Shared) (H : Hp) (E : XK) (dws : List D), Room k (A.deeper (envF (NFz z cl c) f s.heap.objs.size)) → Sib cl dws → (∃ d d', φ dws d = .ok d') →
      ∃ t g, PSs (ncx CX0 P w K mg base N (NFz z cl c) f A outer s H E) (C8.fnBody z.st) t ∧ DS K mg W0 t g ∧ ∀ d, φ dws d = runQ N.length g dws d) : CloQ P w K mg base (k + 1) z φ := by
  refine ⟨fun f cl c => nok_of S (hb cl c) (fun ws vs H Q E h => by rw [hl]; exact h.1) fun A outer s H vs ws Q E hr hf hc hw hsp => ?_⟩
  obtain ⟨_, F, v, d, dws, wvs, rfl, rfl, s0, r, rw', sib, o⟩ := hsp
  have ex : ∃ d d', φ dws d = .ok d' := by
    cases e : φ dws d with
    | ok d' => exact ⟨d, d', e⟩
    | exc c => rw [e] at o; exact o.elim
    | bad => rw [e] at o; exact o.elim
  obtain ⟨t, g, h1, h2, h3⟩ := hbody f cl c A outer s H E dws hr sib ex
  rw [h3 d] at o
  refine ⟨t, h1, ?_⟩
  have lw := rw'.length
  rw [List.length_map] at hw
  have hN : 1 + wvs.length ≤ N.length := by
    have q := congrArg List.length S.pre
    rw [List.length_take, List.length_append] at q
    omega
  have no : noOwnB (Pu.S.val d :: (dws.map Pu.S.val ++ List.replicate (N.length - 1 - dws.length) Pu.S.emp)) = true := by
    refine List.all_eq_true.mpr fun x hx => ?_
    rcases List.mem_cons.mp hx with rfl | hx
    · rfl
    · rcases List.mem_append.mp hx with q | q
      · obtain ⟨d, _, rfl⟩ := List.mem_map.mp q
        rfl
      · rw [List.eq_of_mem_replicate q]
        rfl
  have R : Rl K mg F (startF N [v] (wvs.map some)) H (Pu.S.val d :: (dws.map Pu.S.val ++ List.replicate (N.length - 1 - dws.length) Pu.S.emp)) := by
    refine ⟨s0, ?_, fun i st e => ?_, fun i j d1 d2 a e1 _ _ _ => (noOwn_of no i d1 e1).elim⟩
    · unfold startF
      simp [lw]
    · unfold startF
      cases i with
      | zero =>
        cases e
        exact ⟨v, rfl, r⟩
      | succ i =>
        rw [List.getElem?_cons_succ] at e
        by_cases hi : i < dws.length
        · rw [List.getElem?_append_left (by rw [List.length_map]; exact hi), List.getElem?_map, List.getElem?_eq_getElem hi] at e
          cases e
          obtain ⟨u, g1, g2⟩ := rw'.get (List.getElem?_eq_getElem hi)
          refine ⟨u, ?_, g2⟩
          show ((some v) :: (wvs.map some ++ _))[i + 1]? = _
          rw [List.getElem?_cons_succ, List.getElem?_append_left (by rw [List.length_map]; omega), List.getElem?_map, g1]
          rfl
        · rw [List.getElem?_append_right (by rw [List.length_map]; omega), List.getElem?_replicate] at e
          split at e
          · cases e
            exact trivial
          · cases e
  refine h2 F H F _ H _ _ (RlS.start R fun i ds => noOwn_of no i ds) ?_
  unfold runQ at o
  cases e : g (Pu.S.val d :: (dws.map Pu.S.val ++ List.replicate (N.length - 1 - dws.length) Pu.S.emp)) with
  | nx ρ =>
    rw [e] at o
    exact fun F' σ' H' R' => o .non F' H' R'.wd (rep_non.mpr rfl)
  | rt d =>
    rw [e] at o
    exact fun v F' H' w rp => o v F' H' w rp
  | _ =>
    rw [e] at o
    exact o.elim
section
variable {K : PySem.W.Frag} {mg : Str → Option Value} {W : WX} {Φ : CloD → List D → D → Res D}
/-- a function handed in is called -/
def dCloQ (i : Nat) (Φ : CloD → List D → D → Res D) (f : En → Res D) : En → Res D := fun ρ => match ρ[i]? with
  | some (.val (.clo z ws)) => (f ρ).bind fun d => if noClo d = true ∧ noClos ws = true then noExc (Φ z ws d) else .bad
  | _ => .bad
theorem de_cloQ {i : Nat} {te : TE} {f : En → Res D} (h : DE K mg W te f) : DE K mg W (tClo i (fun z cl => CloV1 K mg cl (Φ z)) te) (dCloQ i Φ f) := by
  intro F σ H ρ Q R o
  unfold dCloQ at o
  split at o
  · rename_i z ws e
    obtain ⟨v0, g1, g2⟩ := R.val e
    obtain ⟨fa, c, cl, wvs, rfl, h1, h2, h3, hsib, h4⟩ := rep_clo.mp g2
    refine ⟨fa, z, cl, c, g1, R.sub _ _ h1, h.then R o fun d v F1 H1 w rp o1 => ?_⟩
    split at o1
    · rename_i hn
      obtain ⟨d', ed, o1⟩ : ∃ d', Φ z ws d = .ok d' ∧ ∀ v F' H', Wd F1 H1 F' H' → Rep K mg F' d' v → Q v H' := by
        unfold noExc at o1
        cases q : Φ z ws d with
        | ok d' => rw [q] at o1; exact ⟨d', rfl, o1⟩
        | exc c => rw [q] at o1; exact o1.elim
        | bad => rw [q] at o1; exact o1.elim
      have C1 : CellsF F1 cl z.fr wvs := h3.monoN (ExtN.of w.ff)
      have CH : CellsF H1 cl z.fr wvs := C1.monoN (ExtN.of w.sub)
      have L1 := C1.lkd
      have X1 : ExtC F1 (strip cl F1) := extC_strip fun b hb => .inr (L1 b hb)
      refine ⟨w.sub _ _ (w.ff _ _ h1), w.sub _ _ (w.ff _ _ h2), wvs, CH, rfl, strip cl F1, v, d, ws, wvs, rfl, rfl, fun a u ea => ?_, Rep.strip X1 hn.1 rp, Reps.strip X1 hn.2 (h4.mono w.ff), hsib, ?_⟩
      · by_cases k : InCl cl a
        · rw [strip_in k] at ea; cases ea
        · rw [strip_out k] at ea ⊢; exact w.sub a u ea
      · rw [ed]
        intro v' F' H' w' rv hfree
        have out' : ∀ a u, F' a = some u → ¬ InCl cl a := fun a u ea k => by
          have := w'.sub a u ea
          rw [hfree a k] at this; cases this
        refine o1 v' (over cl F1 F') (over cl H1 H') ⟨fun a u ea => ?_, fun a u ea => ?_, fun a u ea na => ?_, fun a u ea => ?_⟩ (rv.mono fun a u ea => by rw [over_out (out' a u ea)]; exact ea)
        · by_cases k : InCl cl a
          · rw [over_in k]; exact ea
          · rw [over_out k]
            exact w'.ff a u (by rw [strip_out k]; exact ea)
        · by_cases k : InCl cl a
          · rw [over_in k]; exact ea
          · rw [over_out k]
            exact w'.hh a u (by rw [strip_out k]; exact ea)
        · by_cases k : InCl cl a
          · rw [over_in k, na] at ea; cases ea
          · rw [over_out k] at ea
            have z2 := w'.new a u ea (by rw [strip_out k]; exact na)
            rw [strip_out k] at z2
            exact z2
        · by_cases k : InCl cl a
          · rw [over_in k] at ea ⊢
            exact w.sub a u ea
          · rw [over_out k] at ea ⊢
            exact w'.sub a u ea
    · exact o1.elim
  · exact o.elim
open Classical in
noncomputable def dFnvQ (i : Nat) (z : CloD) (cl : List (Str × Addr)) (js : List Nat) (φ : List D → D → Res D) (f : En → Res D) : En → Res D := fun ρ => if ρ[i]? = some (.val (.fnv z cl)) then (valsAt js ρ).bind fun ws => if Sib cl ws then (f ρ).bind fun d => noExc (φ ws d) else .bad else .bad
theorem de_fnvQ {i : Nat} {z : CloD} {cl : List (Str × Addr)} {js : List Nat} {φ : List D → D → Res D} {te : TE} {f : En → Res D} (h : DE K mg W te f) :
    DE K mg W (tCallN (NFz z cl) i js (fun _ _ => CloV1 K mg cl φ) L2.E0 (tCons te tNil)) (dFnvQ i z cl js φ f) := by
  intro F σ H ρ Q R o
  unfold dFnvQ at o
  split at o
  · rename_i e
    obtain ⟨v0, g1, g2⟩ := R.val e
    obtain ⟨fa, c, rfl, h1, h2⟩ := rep_fnv.mp g2
    cases ew : valsAt js ρ with
    | exc c => exact (valsAt_exc ew).elim
    | bad =>
      simp only [ew, Res.bind] at o
      exact o.elim
    | ok ws =>
      obtain ⟨wvs, k1, k2⟩ := vals_at R ew
      simp only [ew, Res.bind] at o
      have hsib : Sib cl ws := Classical.byContradiction fun hn => by
        rw [if_neg hn] at o
        exact o.elim
      rw [if_pos hsib] at o
      refine ⟨fa, c, g1, R.sub _ _ h1, ?_⟩
      show te σ H _
      have o' : Out K mg W F H σ Q ((f ρ).bind fun d => noExc (φ ws d)) := o
      refine h.then R o' fun d v F1 H1 w rp o1 => ?_
      obtain ⟨d', ed, o1⟩ : ∃ d', φ ws d = .ok d' ∧ ∀ v F' H', Wd F1 H1 F' H' → Rep K mg F' d' v → Q v H' := by
        unfold noExc at o1
        cases q : φ ws d with
        | ok d' => rw [q] at o1; exact ⟨d', rfl, o1⟩
        | exc c => rw [q] at o1; exact o1.elim
        | bad => rw [q] at o1; exact o1.elim
      refine ⟨w.sub _ _ (w.ff _ _ h1), w.sub _ _ (w.ff _ _ h2), rfl, F1, v, d, ws, wvs, rfl, k1, w.sub, rp, k2.mono w.ff, hsib, ?_⟩
      rw [ed]
      exact o1
  · exact o.elim
theorem fnvQ_ok {ρ : En} {i : Nat} {z : CloD} {cl : List (Str × Addr)} {js : List Nat} {φ : List D → D → Res D} {f : En → Res D} {ws : List D} (h : ρ[i]? = some (.val (.fnv z cl))) (hv : valsAt js ρ = .ok ws) (hs : Sib cl ws) : dFnvQ i z cl js φ f ρ = (f ρ).bind fun d => noExc (φ ws d) := by
  unfold dFnvQ
  rw [if_pos h, hv]
  simp only [Res.bind]
  rw [if_pos hs]
end
section
variable {X : Cx} {φ : List D → D → Res D} {z : CloD} {cl : List (Str × Addr)} {js : List Nat} {i j k : Nat} {x : Str} {te : TE} {e : Expr} {p pos : Pos}
theorem pe_fnvQ (C : CloQ X.prog X.w X.K X.mg X.base k z φ) (cp : X.Ok → Caps X cl z.fr js) (hr : Room j X.A) (hk : k ≤ j) (hN : X.N[i]? = some x) (hv : Vis X.env.scope x) (ha : PE X e te)
    (hd : (x == ("__debug__" : Str)) = false := by decide) (hcd : (x == ("__classdict__" : Str)) = false := by decide)
    (he : starEach [e] X.env = (false, eval e X.env) :: starEach [] X.env := by rfl) (hpl : (backTo pos (starEach [] X.env)).any (·.1) = false := by rfl) :
    PE X (.Call (.Name x p) [e] [] pos) (tCallN (NFz z cl) i js (fun _ _ => CloV1 X.K X.mg cl φ) L2.E0 (tCons te tNil)) :=
  pe_calln (mk := NFz z cl) (fun f c' => C.ok f cl c') (fun _ => rfl) cp hr hk L2.pass0 hN hv (pa_one ha he) hd hcd he hpl
end
/-- within a made function: another one that captures the same cells -/
theorem caps_sib {P : Program} {w : World} {K : PySem.W.Frag} {mg : Str → Option Value} {base : Heap} {N : List Str} {z z1 : CloD} {cl cl1 : List (Str × Addr)} {c f : Addr} {A : Around} {outer : List Env} {s : Shared} {H : Hp} {E : XK} {dws : List D} {js : List Nat} (sib : Sib cl dws) (hm : D.fnv z1 cl1 ∈ dws)
    (hk : z1.fr.all (fun y => decide ((C8.fnScope z.st).names.lookup y = some .free)) = true) (hj : js.map (fun j => N[j]?) = z1.fr.map some) : Caps (ncx CX0 P w K mg base N (NFz z cl c) f A outer s H E) cl1 z1.fr js := by
  obtain ⟨s1, s2⟩ := sib z1 cl1 hm
  refine ⟨fun y a e => s2 y a e, fun y hy => .inr (of_decide_eq_true (List.all_eq_true.mp hk y hy)), fun y hy a e => ?_, hj⟩
  have e : cl.lookup y = some a := e
  rw [s1 y hy]
  exact e
end Pu
/-! ## PuSet -/
/-! sorted(set(xs)), xs a list of ints -/
namespace L2
open PySem PySem.Spec PyProof.Rows
/-- a new set's object -/
abbrev newSt (w : World) : Obj := { cls := .type "set", dict := none, data := .set #[] 0 (.fresh 0 0 (!w.params.followText "set-order")) }
section
variable {P : Program} {w : World} {A : Around} {E : Value → Shared → Prop} {s : Shared}
theorem set_listI {lst : Addr} {its : Array Value} (ns : List Int) {Q : Value → Shared → Prop} (nh : A.handled = none) (il : s.heap.IsList lst its) (ia : IntsAre its.toList ns) (room : ns.length + 1 < scanBound)
    (k : ∀ (g : Heap) (tk c : Nat), SetR w g s.heap.objs.size (fun j => decide (j ∈ ns)) c → (∀ b o, s.heap.get? b = some o → g.get? b = some o) → Q (.ref s.heap.objs.size) { s with heap := g, toks := tk }) :
    wpAny (model P w) A (call (.type "set") [.ref lst]) Q E s := by
  have size_eq : its.size = ns.length := (Array.length_toList (xs := its)).symm.trans (IntsAre.length ia)
  obtain ⟨q1, q2, q3⟩ := F.called_set.mro
  have q4 := F.called_set.made
  have q5 := F.called_set.sub
  refine wpAny_call (codeAny_of_tree ?_)
  show wpAny _ _ (callAny (.type "set") _) _ _ _
  refine wpAny_pure ⟨Code.quiet_builtin _ (by decide +kernel), codeAny_builtin F.entry_type_call ?_⟩
  rw [Around.under_plain (weight_type_call_type "set" [.ref lst] []) rfl]
  have q6 := F.called_set.notType
  have q7 := F.called_set.canCreate
  have q8 := F.typeCall_set_1 (.ref lst)
  repeat (any_goals (first | assumption | wp_step))
  have at0 : (s.heap.push (newSt w)).get? s.heap.objs.size = some (newSt w) := Heap.get?_push_size _ rfl
  have ty0 : Shared.TypeIs { s with heap := s.heap.push (newSt w) } (.ref s.heap.objs.size) "set" := ⟨_, at0, rfl⟩
  refine codeAny_mono (code_set_led1 (.ref lst) (E := E) (Q₁ := fun o s1 => o = .ref s.heap.objs.size ∧ s1 = { s with heap := s.heap.push (newSt w) }) ⟨rfl, rfl⟩) fun r1 s1 w1 => ?_
  cases r1 with
  | error ex => exact w1
  | ok f1 =>
    cases f1 with
    | next => exact w1.elim
    | brk => exact w1.elim
    | cont => exact w1.elim
    | ret o1 =>
      obtain ⟨rfl, rfl⟩ := w1
      have look := F.called_set.init.lookup
      have bnd := F.called_set.init.bind (.ref s.heap.objs.size)
      repeat (any_goals (first | assumption | wp_step))
      refine codeAny_mono (codeAny_call_builtin (R := wants (fun r s2 => r = .none ∧ ∃ g tk c, s2 = { s with heap := g, toks := tk } ∧ SetR w g s.heap.objs.size (fun j => decide (j ∈ ns)) c ∧ ∀ b o, s.heap.get? b = some o → g.get? b = some o) E)
        F.called_set.init.plain F.entry_set_init (check_set_init_1 ty0 ?_)) fun r2 s2 w2 => ?_
      · obtain ⟨ob, ho, hcls, nn, hdat⟩ := il
        obtain ⟨oc, od, dt, sl⟩ := ob
        simp only at hcls hdat
        subst hcls; subst hdat
        have up : (s.heap.push (newSt w)).get? lst = some { cls := .type "list", dict := od, data := .seq its nn, slots := sl } := Heap.get?_push_of_some _ ho
        have n1 := F.sub_list_set
        have n2 := F.sub_list_frozenset
        have n3 : (Value.type "list" == Value.type "dict") = false := by decide
        have il1 : (s.heap.push (newSt w)).IsList lst its := ⟨_, up, rfl, nn, rfl⟩
        unfold Builtin.«set.__init__» noKeywords Builtin.Frozenset.updateFrom
        generalize gPI : pyIter = PI
        wp_walk
        subst gPI
        refine wpAny_pyIter_list il1 (wpAny_bind (wpAny_runValue ?_))
        have lt0 : lst < s.heap.objs.size := Heap.lt_size ho
        have nh3 : A.in1.in1.in1.handled = none := by simp [nh]
        have psz : (s.heap.push (newSt w)).objs.size = s.heap.objs.size + 1 := Heap.size_push ..
        have ne1 : lst ≠ (s.heap.push (newSt w)).objs.size := Nat.ne_of_lt (psz ▸ Nat.lt_succ_of_lt lt0)
        have out1 : s.heap.objs.size ∉ [(s.heap.push (newSt w)).objs.size, lst] := by
          rw [psz]
          simp only [List.mem_cons, List.not_mem_nil, or_false, not_or]
          exact ⟨Nat.ne_of_lt (Nat.lt_succ_self _), Nat.ne_of_gt lt0⟩
        have item : ∀ (i : Nat) (v : Value), its[i]? = some v → ∃ z t, ns[i]? = some z ∧ v = .int z t := fun i v hv => by
          have il3 : i < ns.length := by
            have := (Array.getElem?_eq_some_iff.mp hv).1
            omega
          obtain ⟨t, e⟩ := PyProof.Rows.IntsAre.int_at ia i v (by rw [Array.getElem?_toList]; exact hv)
          refine ⟨ns[i], t, List.getElem?_eq_getElem il3, ?_⟩
          rw [e, List.getD_eq_getElem?_getD, List.getElem?_eq_getElem il3]
          rfl
        refine set_update_ints (Walks.list nh3 _ lst ne1 its).toS s.heap.objs.size out1 ns size_eq room item its.size 0 _ (Nat.sub_zero _) (Nat.zero_le _) ⟨⟨_, Heap.get?_push_size _ rfl, rfl, rfl⟩, il1.push _⟩ ?first ?last
        case first =>
          exact ⟨0, Nat.le_refl 0, setR_new_at (Heap.get?_push_of_some _ at0)⟩
        case last =>
          intro s3 c3 mv cle R3
          obtain ⟨g3, gn, dr, tk3, os3⟩ := s3
          obtain rfl : gn = s.gens := mv.gens
          obtain rfl : dr = s.drawn := mv.drawn
          obtain rfl : os3 = s.os := mv.os
          show wpAny _ _ _ _ _ _
          refine wpAny_pure (show wpAny _ _ (ret Value.none) _ _ _ from wpAny_pure ⟨rfl, g3, tk3, c3, rfl, R3, fun b u e => ?_⟩)
          have blt : b < s.heap.objs.size := Heap.lt_size e
          refine mv.heap b u ?_ (Heap.get?_push_of_some _ (Heap.get?_push_of_some _ e))
          rw [psz]
          simp only [List.mem_cons, List.not_mem_nil, or_false, not_or]
          exact ⟨Nat.ne_of_lt blt, Nat.ne_of_lt (Nat.lt_succ_of_lt blt)⟩
      · cases r2 with
        | error ex => exact w2
        | ok f2 =>
          cases f2 with
          | next => exact w2.elim
          | brk => exact w2.elim
          | cont => exact w2.elim
          | ret o2 =>
            obtain ⟨rfl, g, tk, c, rfl, R2, keep⟩ := w2
            repeat (any_goals (first | assumption | wp_step))
            exact k _ _ _ R2 keep
end
end L2
namespace L2
open PySem PySem.Spec PyProof.Rows
/-- set(xs), xs a list of ints -/
def rSetNew (K : PySem.W.Frag) (w : World) : List V → Hp → VK → Prop := fun vs H Q => ∃ (lst : Addr) (ns : List Int), vs = [.ref lst] ∧ SqL K H lst (ns.map V.int) ∧ ns.length ≤ 1000 ∧ ∀ (a : Addr) (n : Nat), H a = none → (∀ L : List Int, (∀ z ∈ ns, z ∈ L) → n ≤ L.length) → Q (.ref a) (upd H a (SetO w a (fun j => decide (j ∈ ns)) n))
theorem cr_setL {X : Cx} (hc : X.calm = true) : CallR X (.type "set") (rSetNew X.K X.w) := by
  intro pins s σ H vs us Q I r h
  obtain ⟨lst, ns, rfl, sq, hl, q⟩ := h
  obtain ⟨its, rv, pl, _⟩ := I.list sq
  have ia := rv.ints
  have il : s.heap.IsList lst its.toArray := pl.isList
  rw [Vals.ref1 r]
  refine set_listI ns (I.ok.hd hc) il (by simpa using ia) (by unfold scanBound; omega) fun g tk c R kp => ?_
  refine ⟨.ref s.heap.objs.size, _, I.laid (t' := tk) kp (Nat.le_refl _) (setO_new R), rfl, q _ _ (I.hok.fresh (Nat.le_refl _)) fun L hL => ?_⟩
  obtain ⟨o, es, ep, t, ho, hex, hdt, gd, nd, hm, hb, hf, hn, hr, hl2⟩ := R
  have := Pu.nodup_len (es.toList.map keyOf) L nd fun z hz => hL z (by
    have z2 := (hm z).mpr hz
    exact of_decide_eq_true z2)
  rw [List.length_map, Array.length_toList, hn] at this
  exact this
end L2
namespace Pu
open PySem PySem.Spec PyProof.Rows L2
/-- each once -/
def ddp : List Int → List Int
  | [] => []
  | x :: xs => if x ∈ xs then ddp xs else x :: ddp xs
theorem mem_ddp (y : Int) : ∀ (xs : List Int), y ∈ ddp xs ↔ y ∈ xs
  | [] => Iff.rfl
  | x :: xs => by
    simp only [ddp]
    split
    · rename_i h
      rw [mem_ddp y xs]
      exact ⟨fun q => List.mem_cons_of_mem _ q, fun q => (List.mem_cons.mp q).elim (fun e => by rw [e]; exact h) id⟩
    · rw [List.mem_cons, List.mem_cons, mem_ddp y xs]
theorem ddp_nodup : ∀ (xs : List Int), (ddp xs).Nodup
  | [] => List.nodup_nil
  | x :: xs => by
    simp only [ddp]
    split
    · exact ddp_nodup xs
    · rename_i h
      exact List.nodup_cons.mpr ⟨fun q => h ((mem_ddp x xs).mp q), ddp_nodup xs⟩
def srtS (ns : List Int) : List Int := srt (ddp ns)
theorem mem_srtS {ns : List Int} {y : Int} : y ∈ srtS ns ↔ y ∈ ns := by
  unfold srtS
  rw [(srt_perm _).mem_iff, mem_ddp]
theorem srtS_up (ns : List Int) : (srtS ns).Pairwise (· < ·) := by
  have h1 := srt_sorted (ddp ns)
  have h2 : (srt (ddp ns)).Nodup := (srt_perm _).nodup_iff.mpr (ddp_nodup ns)
  unfold srtS
  exact List.Pairwise.imp₂ (fun a b (x : a ≤ b) (y : a ≠ b) => by omega) h1 h2
theorem up_unique : ∀ {xs ys : List Int}, xs.Pairwise (· < ·) → ys.Pairwise (· < ·) → (∀ z, z ∈ xs ↔ z ∈ ys) → xs = ys
  | [], [], _, _, _ => rfl
  | [], y :: ys, _, _, h => by
    have := (h y).mpr List.mem_cons_self
    cases this
  | x :: xs, [], _, _, h => by
    have := (h x).mp List.mem_cons_self
    cases this
  | x :: xs, y :: ys, h1, h2, h => by
    obtain ⟨a1, a2⟩ := List.pairwise_cons.mp h1
    obtain ⟨b1, b2⟩ := List.pairwise_cons.mp h2
    have e : x = y := by
      rcases List.mem_cons.mp ((h x).mp List.mem_cons_self) with q | q
      · exact q
      · rcases List.mem_cons.mp ((h y).mpr List.mem_cons_self) with r | r
        · exact r.symm
        · have := b1 x q
          have := a1 y r
          omega
    subst e
    rw [up_unique a2 b2 fun z => ?_]
    constructor
    · intro hz
      rcases List.mem_cons.mp ((h z).mp (List.mem_cons_of_mem _ hz)) with q | q
      · have := a1 z hz
        omega
      · exact q
    · intro hz
      rcases List.mem_cons.mp ((h z).mpr (List.mem_cons_of_mem _ hz)) with q | q
      · have := b1 z hz
        omega
      · exact q
def sortSetD : List D → Option D := onInts fun ns => if ns.length ≤ 1000 ∧ (ddp ns).length < 64 then some (.lst ((srtS ns).map D.int)) else none
section
variable {K : PySem.W.Frag} {mg : Str → Option Value} {W : WX} {w : World}
theorem de_sortset {ta : TA} {fa : En → Res (List D)} (ha : DA K mg W ta fa) : DE K mg W (tCB (rSortedSet w) (tCons (tCB (rSetNew K w) ta) tNil)) (dCB sortSetD fa) := by
  intro F σ H ρ Q R o
  refine ha.then R o fun as xs F1 H1 w1 r o1 => ?_
  obtain ⟨d, e, q⟩ := o1.ofOpt
  obtain ⟨ns, rfl, e2⟩ := onInts_ok e
  split at e2
  · rename_i hg
    cases e2
    obtain ⟨a, rfl, fa1⟩ := reps_lst_ints r
    refine ⟨a, ns, rfl, SqL.of (w1.sub _ _ fa1), hg.1, fun p n np hL => ?_⟩
    refine ⟨p, _, n, rfl, upd_same, Nat.lt_of_le_of_lt (hL (ddp ns) fun z hz => (mem_ddp z ns).mpr hz) hg.2, fun out p2 up hm hlen np2 => ?_⟩
    have eo : out = srtS ns := up_unique up (srtS_up ns) fun z => by rw [hm z, mem_srtS, decide_eq_true_eq]
    subst eo
    have wa := Wd.lay' (o := SetO w p (fun j => decide (j ∈ ns)) n) w1.sub np
    have wb := Wd.lay (o := .lst ((srtS ns).map V.int)) wa.sub np2
    exact q _ _ _ (wa.trans wb) (rep_lst.mpr ⟨p2, _, rfl, upd_same, reps_ints (srtS ns)⟩)
  · cases e2
end
theorem sortSet_ints {ns : List Int} (h1 : ns.length ≤ 1000) (h2 : (ddp ns).length < 64) : sortSetD [iD ns] = some (iD (srtS ns)) := by
  simp only [sortSetD, iD, onInts, intsOf_map, Option.bind_some]
  rw [if_pos ⟨h1, h2⟩]
end Pu
/-! ## PuForm2 -/
/-! forms: one for each function -/
namespace Pu
open PySem PySem.Spec PyProof.Rows L2 LamX NdefX
section
variable {α : Type} [DecidableEq α]
theorem tl_le {hi : Int} : ∀ {ps : List (Int × Int × α)} {lo : Int}, tl lo hi ps → lo ≤ hi + 1
  | [], lo, h => by
    have : lo = hi + 1 := h
    omega
  | p :: ps, lo, ⟨h1, h2, h3⟩ => by
    have := tl_le h3
    omega
theorem tl_unique {hi : Int} : ∀ (ps qs : List (Int × Int × α)) (lo : Int), tl lo hi ps → tl lo hi qs → adj ps → adj qs → (∀ x, lo ≤ x → x ≤ hi → fnd x ps = fnd x qs) → ps = qs
  | [], [], _, _, _, _, _, _ => rfl
  | [], q :: qs, lo, h, ⟨k1, k2, k3⟩, _, _, _ => by
    have h : lo = hi + 1 := h
    have := tl_le k3
    omega
  | p :: ps, [], lo, ⟨k1, k2, k3⟩, h, _, _, _ => by
    have h : lo = hi + 1 := h
    have := tl_le k3
    omega
  | p :: ps, q :: qs, lo, ⟨a1, a2, a3⟩, ⟨b1, b2, b3⟩, c1, c2, f => by
    have la := tl_le a3
    have lb := tl_le b3
    have f0 := f lo (Int.le_refl _) (by omega)
    simp only [fnd, if_pos a2, if_pos b2, Option.some.injEq] at f0
    have key : ∀ (p q : Int × Int × α) (ps qs : List (Int × Int × α)), tl (p.2.1 + 1) hi ps → adj (p :: ps) → q.2.1 ≤ hi → p.2.2 = q.2.2 → lo ≤ p.2.1 → (∀ x, lo ≤ x → x ≤ hi → fnd x (p :: ps) = fnd x (q :: qs)) → ¬ p.2.1 < q.2.1 := by
      intro p q ps qs t c lq e l f hlt
      have fx := f (p.2.1 + 1) (by omega) (by omega)
      cases ps with
      | nil =>
        have t : p.2.1 + 1 = hi + 1 := t
        omega
      | cons r rs =>
        obtain ⟨r1, r2, _⟩ := t
        simp only [fnd] at fx
        rw [if_neg (by omega), if_pos r2, if_pos (by omega)] at fx
        have : r.2.2 = q.2.2 := Option.some.inj fx
        exact c.1 (by rw [e, this])
    have n1 := key p q ps qs a3 c1 (by omega) f0 a2 f
    have n2 := key q p qs ps b3 c2 (by omega) f0.symm b2 fun x h1 h2 => (f x h1 h2).symm
    have e2 : p.2.1 = q.2.1 := by omega
    have ep : p = q := by
      obtain ⟨p1, p2, p3⟩ := p
      obtain ⟨q1, q2, q3⟩ := q
      simp only at *
      rw [a1, b1, e2, f0]
    subst ep
    have adj_tl : ∀ {x : Int × Int × α} {xs : List (Int × Int × α)}, adj (x :: xs) → adj xs := fun {x xs} h => by
      cases xs with
      | nil => trivial
      | cons y ys => exact h.2
    rw [tl_unique ps qs (p.2.1 + 1) a3 b3 (adj_tl c1) (adj_tl c2) fun x h1 h2 => ?_]
    have := f x (by omega) h2
    simp only [fnd] at this
    rw [if_neg (by omega), if_neg (by omega)] at this
    exact this
end
theorem shp_len : ∀ (n : Nat) (F : Fo n) (bs : List (Int × Int)), Shp n F bs → n = bs.length
  | 0, _, [], _ => rfl
  | 0, _, _ :: _, h => h.elim
  | n + 1, _, [], h => h.elim
  | n + 1, (ps : List (Int × Int × Fo n)), b :: bs, ⟨h1, _, _, h4⟩ => by
    obtain ⟨p, hp⟩ := List.exists_mem_of_ne_nil ps h1
    rw [List.length_cons, ← shp_len n p.2.2 bs (h4 p hp)]
theorem canon : ∀ (n : Nat) (F G : Fo n) (bs : List (Int × Int)), Shp n F bs → Shp n G bs → (∀ cs, Within bs cs → lkF n F cs = lkF n G cs) → F = G
  | 0, F, G, [], _, _, h => by
    have := h [] trivial
    exact Option.some.inj (show some F = some G from this)
  | 0, _, _, _ :: _, h, _, _ => h.elim
  | n + 1, _, _, [], h, _, _ => h.elim
  | n + 1, (ps : List (Int × Int × Fo n)), (qs : List (Int × Int × Fo n)), b :: bs, ⟨_, a2, a3, a4⟩, ⟨_, b2, b3, b4⟩, h => by
    refine tl_unique ps qs b.1 a2 b2 a3 b3 fun x h1 h2 => ?_
    obtain ⟨p, hp, ep⟩ := fnd_some a2 h1 h2
    obtain ⟨q, hq, eq⟩ := fnd_some b2 h1 h2
    rw [ep, eq]
    congr 1
    refine canon n p.2.2 q.2.2 bs (a4 p hp) (b4 q hq) fun cs hw => ?_
    have := h (x :: cs) ⟨h1, h2, hw⟩
    have this : (fnd x ps).bind (fun f => lkF n f cs) = (fnd x qs).bind (fun f => lkF n f cs) := this
    rw [ep, eq] at this
    exact this
open Classical in
theorem forms_eq {n m : Nat} {F : Fo n} {G : Fo m} {bs : List (Int × Int)} (hn : n ≤ 20) (h1 : Shp n F bs) (h2 : Shp m G bs) : eqD (foD n F) (foD m G) = some (.bl (decide (∀ cs, Within bs cs → lkF n F cs = lkF m G cs))) := by
  have e := (shp_len n F bs h1).trans (shp_len m G bs h2).symm
  subst e
  rw [eqD_foD F G hn]
  congr 2
  by_cases q : F = G
  · subst q
    simp
  · rw [decide_eq_false q, decide_eq_false fun k => q (canon n F G bs h1 h2 k)]
/-! ### corners -/
def crnF (acc : List (List Int)) : List (List Int) → List (List Int)
  | [] => acc
  | own :: rest => crnF (acc.flatMap fun c => own.map fun l => c ++ [l]) rest
theorem mem_crn {cs : List Int} : ∀ (lows acc : List (List Int)), cs ∈ crnF acc lows ↔ ∃ a b, a ∈ acc ∧ cs = a ++ b ∧ b.length = lows.length ∧ ∀ (k : Nat) l x, lows[k]? = some l → b[k]? = some x → x ∈ l
  | [], acc => by
    simp only [crnF]
    constructor
    · exact fun h => ⟨cs, [], h, by simp, rfl, fun k l x h => by simp at h⟩
    · rintro ⟨a, b, h1, h2, h3, _⟩
      have : b = [] := List.length_eq_zero_iff.mp (by simpa using h3)
      rw [h2, this, List.append_nil]
      exact h1
  | own :: rest, acc => by
    simp only [crnF]
    rw [mem_crn rest]
    constructor
    · rintro ⟨a, b, h1, h2, h3, h4⟩
      obtain ⟨c, hc, hm⟩ := List.mem_flatMap.mp h1
      obtain ⟨l, hl, rfl⟩ := List.mem_map.mp hm
      refine ⟨c, l :: b, hc, by rw [h2, List.append_assoc]; rfl, by simp [h3], fun k l' x q1 q2 => ?_⟩
      cases k with
      | zero =>
        simp at q1 q2
        subst q1 q2
        exact hl
      | succ k => exact h4 k l' x (by simpa using q1) (by simpa using q2)
    · rintro ⟨a, b, h1, h2, h3, h4⟩
      cases b with
      | nil => cases h3
      | cons l b =>
        refine ⟨a ++ [l], b, List.mem_flatMap.mpr ⟨a, h1, List.mem_map.mpr ⟨l, h4 0 own l rfl rfl, rfl⟩⟩, by rw [h2, List.append_assoc]; rfl, by simpa using h3, fun k l' x q1 q2 => h4 (k + 1) l' x (by simpa using q1) (by simpa using q2)⟩
/-- functions that capture the same names -/
theorem sib_clo {cells : List (Str × Addr)} {n1 n2 : List (Str × NameKind)} {fr : List Str} (h1 : ∀ y ∈ n1, y.2 = .free → ∃ c, cells.lookup y.1 = some c) (h2 : ∀ y ∈ n2, y.2 = .free → ∃ c, cells.lookup y.1 = some c) (hs : ∀ y ∈ n1, y.2 = .free → y ∈ n2) (hf : ∀ y ∈ fr, (y, NameKind.free) ∈ n1) :
    (∀ y ∈ fr, (cloFrom cells n1 []).lookup y = (cloFrom cells n2 []).lookup y) ∧ ∀ y c, (cloFrom cells n1 []).lookup y = some c → (cloFrom cells n2 []).lookup y = some c := by
  refine ⟨fun y hy => ?_, fun y c e => ?_⟩
  · have m1 := hf y hy
    obtain ⟨c, hc⟩ := h1 _ m1 rfl
    rw [clo_has h1 m1 hc, clo_has h2 (hs _ m1 rfl) hc]
  · rcases cloFrom_mem (PySem.mem_of_lookup e) with hm | ⟨m1, _⟩
    · cases hm
    · exact clo_has h2 (hs _ m1 rfl) (clo_cm h1 e)
end Pu
/-! ## K35a -/
namespace K35
open PySem PySem.Spec PyProof.Rows L2 LamX NdefX Pu
def topS (i : Nat) : Stmt := PySem.Challenge.pw_rowjudge_k35_whole_one_form.main.body.getD i (.Pass ⟨0, 0, 0, 0⟩)
section
variable {P : Program} {w : World} {K : PySem.W.Frag} {mg : Str → Option Value} {base : Heap}
structure Top (K : PySem.W.Frag) (mg : Str → Option Value) : Prop where
  f_isinstance : mg "isinstance" = none
  f_len : mg "len" = none
  f_list : mg "list" = none
  f_min : mg "min" = none
  f_range : mg "range" = none
  f_set : mg "set" = none
  f_sorted : mg "sorted" = none
  f_tuple : mg "tuple" = none
  c_FINEST : ∃ t, mg "FINEST" = some (.int 300 t)
  d_stretches : DefP K mg "stretches" (topS 4)
  d_grain : DefP K mg "grain" (topS 7)
  d_drawn : DefP K mg "drawn" (topS 8)
  d_built_behind : DefP K mg "built_behind" (topS 9)
  d_built : DefP K mg "built" (topS 10)
  d__law_at : DefP K mg "_law_at" (topS 12)
  d__law_bounds : DefP K mg "_law_bounds" (topS 13)
  d__law_marks : DefP K mg "_law_marks" (topS 14)
  d__law_lows : DefP K mg "_law_lows" (topS 15)
  d__law_corners : DefP K mg "_law_corners" (topS 16)
  d__law_told : DefP K mg "_law_told" (topS 17)

/-! stretches -/
abbrev s_stretches : Stmt := topS 4
theorem sc_stretches : FnScope ["low", "high", "marks", "told", "start", "mark"] ["low", "high", "marks"] (defScope s_stretches) := ⟨rfl, rfl, rfl, by decide +kernel, rfl, by decide +kernel, by decide +kernel⟩
def b_stretches : En → Fl :=
 (sSeq (sOwn 3 (nLst dNil))
 (sSeq (sSet 4 (dVar 0))
 (sSeq (sFor (iSeq (dCB sortD (dCons (dVar 2) dNil))) (gN 5)
 (sIf (dTest (dChain ltD leD (dVar 4) (dVar 5) (dVar 1)))
 (sSeq (sApp 3 (dTup (dCons (dVar 4) (dCons (dOp subD (dVar 5) (dC (.int 1))) dNil))))
 (sSet 4 (dVar 5)))
 sNext))
 (sSeq (sApp 3 (dTup (dCons (dVar 4) (dCons (dVar 1) dNil))))
 (sRetO 3)))))
def d_stretches : List D → Res D := runD 3 6 (b_stretches)
theorem cal_stretches (T : Top K mg) : CalP P w K mg base 1 "stretches" 3 (d_stretches) := by
  refine cal_of (k := 0) T.d_stretches sc_stretches (fun _ _ _ _ _ _ us hl => match us, hl with | [_, _, _], _ => rfl) (fun f cdv A outer s H E hr => ?_)
  exact ⟨_, (pss_cons (ps_set (i := 3) sc_stretches.nd rfl (by first | exact Or.inl rfl | exact Or.inr rfl) (pe_lst pa_nil))
 (pss_cons (ps_set (i := 4) sc_stretches.nd rfl (by first | exact Or.inl rfl | exact Or.inr rfl) (pv 0))
 (pss_cons (ps_for PassesOwn.never rfl (pi_U (pe_callB cr_sortedI (by rfl) T.f_sorted (by decide +kernel) (pa_cons (pv 2) pa_nil))) (pg_name (i := 5) sc_stretches.nd rfl (by first | exact Or.inl rfl | exact Or.inr rfl))
 (pss_one (ps_if (pt_chain op_lt op_le (pv 4) (pv 5) (pv 1))
 (pss_cons (ps_expr (pe_bm PySem.F.plainAttrs_list PySem.F.slot_list_append PySem.F.type_list_append mt_append (pv 3) (pa_cons (pe_tup (pa_cons (pv 4) (pa_cons (pe_op op_sub (pv 5) pe_int) pa_nil))) pa_nil)))
 (pss_one (ps_set (i := 4) sc_stretches.nd rfl (by first | exact Or.inl rfl | exact Or.inr rfl) (pv 5))))
 pss_nil)))
 (pss_cons (ps_expr (pe_bm PySem.F.plainAttrs_list PySem.F.slot_list_append PySem.F.type_list_append mt_append (pv 3) (pa_cons (pe_tup (pa_cons (pv 4) (pa_cons (pv 1) pa_nil))) pa_nil)))
 (pss_one (ps_ret (pv 3))))))), fun W => (ds_seq (ds_own (dn_lst da_nil))
 (ds_seq (ds_set de_var)
 (ds_seq (ds_for (di_U (de_callB cd_sort (da_cons de_var da_nil))) dg_name
 (ds_if (dt_test (de_chain de_var de_var de_var))
 (ds_seq (ds_app (de_tup (da_cons de_var (da_cons (de_op od_sub de_var de_int) da_nil))))
 (ds_set de_var))
 ds_next))
 (ds_seq (ds_app (de_tup (da_cons de_var (da_cons de_var da_nil))))
 ds_retO))))⟩

/-! grain -/
abbrev s_grain : Stmt := topS 7
theorem sc_grain : FnScope ["bounds", "marks", "count", "k"] ["bounds", "marks"] (defScope s_grain) := ⟨rfl, rfl, rfl, by decide +kernel, rfl, by decide +kernel, by decide +kernel⟩
def b_grain : En → Fl :=
 (sSeq (sSet 2 (dC (.int 1)))
 (sSeq (sFor (iR1 (dCons (dLenV 0) dNil)) (gN 3)
 (sSet 2 (dOp mulD (dVar 2) (dCB lenD (dCons (dCal 3 d_stretches (dCons (dOp ixD (dIxV 0 (dVar 3)) (dC (.int 0))) (dCons (dOp ixD (dIxV 0 (dVar 3)) (dC (.int 1))) (dCons (dIxV 1 (dVar 3)) dNil)))) dNil)))))
 (sRet (dVar 2))))
def d_grain : List D → Res D := runD 2 4 (b_grain)
theorem cal_grain (T : Top K mg) : CalP P w K mg base 2 "grain" 2 (d_grain) := by
  refine cal_of (k := 1) T.d_grain sc_grain (fun _ _ _ _ _ _ us hl => match us, hl with | [_, _], _ => rfl) (fun f cdv A outer s H E hr => ?_)
  exact ⟨_, (pss_cons (ps_set (i := 2) sc_grain.nd rfl (by first | exact Or.inl rfl | exact Or.inr rfl) pe_int)
 (pss_cons (ps_for PassesOwn.never rfl (pi_range1 (by rfl) T.f_range (pa_cons (pe_callB call_lenU (by rfl) T.f_len PySem.boot_len (pa_cons (pv 0) pa_nil)) pa_nil)) (pg_name (i := 3) sc_grain.nd rfl (by first | exact Or.inl rfl | exact Or.inr rfl))
 (pss_one (ps_set (i := 2) sc_grain.nd rfl (by first | exact Or.inl rfl | exact Or.inr rfl) (pe_op op_mulX (pv 2) (pe_callB call_lenU (by rfl) T.f_len (by decide +kernel) (pa_cons (pe_cal (cal_stretches T) hr (by omega) (by rfl) (pa_cons (pe_ix ix_seq (pe_ix ix_seq (pv 0) (pv 3) (fun _ _ => rfl)) pe_int (fun _ _ => rfl)) (pa_cons (pe_ix ix_seq (pe_ix ix_seq (pv 0) (pv 3) (fun _ _ => rfl)) pe_int (fun _ _ => rfl)) (pa_cons (pe_ix ix_seq (pv 1) (pv 3) (fun _ _ => rfl)) pa_nil)))) pa_nil))))))
 (pss_one (ps_ret (pv 2))))), fun W => (ds_seq (ds_set de_int)
 (ds_seq (ds_for (di_r1 (da_cons de_lenV da_nil)) dg_name
 (ds_set (de_op od_mul de_var (de_callB cd_len (da_cons (de_cal (da_cons (de_op od_ix (de_ixV de_var) de_int) (da_cons (de_op od_ix (de_ixV de_var) de_int) (da_cons (de_ixV de_var) da_nil)))) da_nil)))))
 (ds_ret de_var)))⟩

/-! drawn -/
abbrev s_drawn : Stmt := topS 8
theorem sc_drawn : FnScope ["parts", "told", "part"] ["parts"] (defScope s_drawn) := ⟨rfl, rfl, rfl, by decide +kernel, rfl, by decide +kernel, by decide +kernel⟩
def b_drawn : En → Fl :=
 (sSeq (sOwn 1 (nLst dNil))
 (sSeq (sFor (iSeq (dVar 0)) (gN 2)
 (sIf (dAnd (dTest (dOp gtD (dLenV 1) (dC (.int 0)))) (dTest (dOp eqD (dOp ixD (dIxV 1 (dUn negD (dC (.int 1)))) (dC (.int 2))) (dIxV 2 (dC (.int 2))))))
 (sSetIx 1 (dUn negD (dC (.int 1))) (dTup (dCons (dOp ixD (dIxV 1 (dUn negD (dC (.int 1)))) (dC (.int 0))) (dCons (dIxV 2 (dC (.int 1))) (dCons (dIxV 2 (dC (.int 2))) dNil)))))
 (sApp 1 (dVar 2))))
 (sFrz [1] (sRet (dCB tupD (dCons (dVar 1) dNil))))))
def d_drawn : List D → Res D := runD 1 3 (b_drawn)
theorem cal_drawn (T : Top K mg) : CalP P w K mg base 1 "drawn" 1 (d_drawn) := by
  refine cal_of (k := 0) T.d_drawn sc_drawn (fun _ _ _ _ _ _ us hl => match us, hl with | [_], _ => rfl) (fun f cdv A outer s H E hr => ?_)
  exact ⟨_, (pss_cons (ps_set (i := 1) sc_drawn.nd rfl (by first | exact Or.inl rfl | exact Or.inr rfl) (pe_lst pa_nil))
 (pss_cons (ps_for PassesOwn.never rfl (pi_U (pv 0)) (pg_name (i := 2) sc_drawn.nd rfl (by first | exact Or.inl rfl | exact Or.inr rfl))
 (pss_one (ps_if (PW.pt (pw_and (pt_cmpR op_gt (pe_callB call_lenU (by rfl) T.f_len PySem.boot_len (pa_cons (pv 1) pa_nil)) pe_int (nomark _)) (pw_and1 (pt_cmpR (op_eqD hr.units) (pe_ix ix_seq (pe_ix ix_seq (pv 1) (pe_un un_neg pe_int) (fun _ _ => rfl)) pe_int (fun _ _ => rfl)) (pe_ix ix_seq (pv 2) pe_int (fun _ _ => rfl)) (nomark _)))))
 (pss_one (ps_asg (pe_tup (pa_cons (pe_ix ix_seq (pe_ix ix_seq (pv 1) (pe_un un_neg pe_int) (fun _ _ => rfl)) pe_int (fun _ _ => rfl)) (pa_cons (pe_ix ix_seq (pv 2) pe_int (fun _ _ => rfl)) (pa_cons (pe_ix ix_seq (pv 2) pe_int (fun _ _ => rfl)) pa_nil)))) (pg_sub (pv 1) (pe_un un_neg pe_int) set_list)))
 (pss_one (ps_expr (pe_bm PySem.F.plainAttrs_list PySem.F.slot_list_append PySem.F.type_list_append mt_append (pv 1) (pa_cons (pv 2) pa_nil)))))))
 (pss_one (ps_ret (pe_callTy call_tuple_of (by rfl) T.f_tuple (by decide +kernel) (pa_cons (pv 1) pa_nil)))))), fun W => (ds_seq (ds_own (dn_lst da_nil))
 (ds_seq (ds_for (di_U de_var) dg_name
 (ds_if (dt_and (dt_test (de_op od_cmp de_lenV de_int)) (dt_test (de_op od_eq (de_op od_ix (de_ixV (de_un ud_neg de_int)) de_int) (de_ixV de_int))))
 (ds_setIx (de_tup (da_cons (de_op od_ix (de_ixV (de_un ud_neg de_int)) de_int) (da_cons (de_ixV de_int) (da_cons (de_ixV de_int) da_nil)))) (de_un ud_neg de_int))
 (ds_app de_var)))
 (ds_frz (is := [1]) (ds_ret (de_callB cd_tup (da_cons de_var da_nil))))))⟩

/-! _law_told -/
abbrev s__law_told : Stmt := topS 17
theorem sc__law_told : FnScope ["_law_codes", "_law_marks_here", "_law_twist", "_law_turn", "_law_step", "_law_total", "_law_k", "_law_below", "_law_mark"] ["_law_codes", "_law_marks_here", "_law_twist", "_law_turn", "_law_step"] (defScope s__law_told) := ⟨rfl, rfl, rfl, by decide +kernel, rfl, by decide +kernel, by decide +kernel⟩
def b__law_told : En → Fl :=
 (sSeq (sSet 5 (dC (.int 0)))
 (sSeq (sFor (iR1 (dCons (dLenV 0) dNil)) (gN 6)
 (sSeq (sSet 7 (dCB lenD (dCons (dNew (nLc 8 (iSeq (dIxV 1 (dVar 6))) (dTest (dOp leD (dVar 8) (dIxV 0 (dVar 6)))) (dVar 8))) dNil)))
 (sSet 5 (dOp addD (dOp mulD (dVar 5) (dVar 2)) (dOp mulD (dOp modD (dOp addD (dC (.int 1)) (dVar 5)) (dC (.int 3))) (dVar 7))))))
 (sRet (dOp mulD (dOp modD (dVar 5) (dVar 3)) (dVar 4)))))
def d__law_told : List D → Res D := runD 5 9 (b__law_told)
theorem cal__law_told (T : Top K mg) : CalP P w K mg base 1 "_law_told" 5 (d__law_told) := by
  refine cal_of (k := 0) T.d__law_told sc__law_told (fun _ _ _ _ _ _ us hl => match us, hl with | [_, _, _, _, _], _ => rfl) (fun f cdv A outer s H E hr => ?_)
  exact ⟨_, (pss_cons (ps_set (i := 5) sc__law_told.nd rfl (by first | exact Or.inl rfl | exact Or.inr rfl) pe_int)
 (pss_cons (ps_for PassesOwn.never rfl (pi_range1 (by rfl) T.f_range (pa_cons (pe_callB call_lenU (by rfl) T.f_len PySem.boot_len (pa_cons (pv 0) pa_nil)) pa_nil)) (pg_name (i := 6) sc__law_told.nd rfl (by first | exact Or.inl rfl | exact Or.inr rfl))
 (pss_cons (ps_set (i := 7) sc__law_told.nd rfl (by first | exact Or.inl rfl | exact Or.inr rfl) (pe_callB call_lenU (by rfl) T.f_len (by decide +kernel) (pa_cons (pe_lc (own := [("_law_mark", 8)]) (g := gName 8) (by rfl) sc__law_told.nd (pi_U (pe_ix ix_seq (pv 1) (pv 6) (fun _ _ => rfl))) (blkOk_by (own := [("_law_mark", 8)]) (N := ["_law_codes", "_law_marks_here", "_law_twist", "_law_turn", "_law_step", "_law_total", "_law_k", "_law_below", "_law_mark"]) (sc := defScope s__law_told) (by decide +kernel)) (fun _ _ _ _ _ => pg_name (i := 8) sc__law_told.nd rfl (Or.inl rfl)) (fun _ _ _ _ _ => (pts_one (pt_cmpR op_le (pv 8) (pe_ix ix_seq (pv 0) (pv 6) (fun _ _ => rfl)) (nomark _)))) (fun _ _ _ _ _ => (pv 8))) pa_nil)))
 (pss_one (ps_set (i := 5) sc__law_told.nd rfl (by first | exact Or.inl rfl | exact Or.inr rfl) (pe_op op_addU (pe_op op_mulX (pv 5) (pv 2)) (pe_op op_mulX (pe_op op_mod (pe_op op_addU pe_int (pv 5)) pe_int) (pv 7)))))))
 (pss_one (ps_ret (pe_op op_mulX (pe_op op_mod (pv 5) (pv 3)) (pv 4)))))), fun W => (ds_seq (ds_set de_int)
 (ds_seq (ds_for (di_r1 (da_cons de_lenV da_nil)) dg_name
 (ds_seq (ds_set (de_callB cd_len (da_cons (de_new (dn_lc (i := 8) (di_U (de_ixV de_var)) (dt_test (de_op od_cmp de_var (de_ixV de_var))) de_var)) da_nil)))
 (ds_set (de_op od_add (de_op od_mul de_var de_var) (de_op od_mul (de_op od_mod (de_op od_add de_int de_var) de_int) de_var)))))
 (ds_ret (de_op od_mul (de_op od_mod de_var de_var) de_var))))⟩

/-! _law_ones -/
abbrev s__law_ones : Stmt := (defBody (topS 18)).getD 8 (.Pass ⟨0, 0, 0, 0⟩)
def z__law_ones : CloD := ⟨s__law_ones, "_law_ones", "law.<locals>._law_ones", ["_law_codes"], ["_law_marks_here", "_law_step", "_law_turn", "_law_twist"]⟩
theorem ns__law_ones : NScope ["_law_codes", "_law_marks_here", "_law_step", "_law_turn", "_law_twist"] ["_law_codes"] ["_law_marks_here", "_law_step", "_law_turn", "_law_twist"] (C8.fnScope s__law_ones) := nscope_by (by decide +kernel)
theorem sc__law_ones : (["_law_codes", "_law_marks_here", "_law_step", "_law_turn", "_law_twist"] : List Str).Nodup := by decide +kernel
theorem nb__law_ones : ndefB (defScope (topS 18)) (C8.fnScope s__law_ones) ["_law_marks_here", "_law_step", "_law_turn", "_law_twist"] = true := by decide +kernel
def b__law_ones : En → Fl :=
 (sRet (dCal 5 d__law_told (dCons (dVar 0) (dCons (dVar 1) (dCons (dVar 4) (dCons (dVar 3) (dCons (dVar 2) dNil)))))))
def f__law_ones : List D → D → Res D := runQ 5 b__law_ones
theorem clo__law_ones (T : Top K mg) : CloQ P w K mg base 2 z__law_ones f__law_ones := by
  refine cloQ_of (k := 1) (N := ["_law_codes", "_law_marks_here", "_law_step", "_law_turn", "_law_twist"]) ns__law_ones rfl (fun _ _ _ _ _ us hl => match us, hl with | [_], _ => rfl) (fun f cl c A outer s H E dws hr sib ex => ?_)
  exact ⟨_, _, (pss_one (ps_ret (pe_cal (cal__law_told T) hr (by omega) (by rfl) (pa_cons (pv 0) (pa_cons (pv 1) (pa_cons (pv 4) (pa_cons (pv 3) (pa_cons (pv 2) pa_nil)))))))), (ds_ret (de_cal (da_cons de_var (da_cons de_var (da_cons de_var (da_cons de_var (da_cons de_var da_nil))))))), fun _ => rfl⟩

/-! _law_others -/
abbrev s__law_others : Stmt := (defBody (topS 18)).getD 9 (.Pass ⟨0, 0, 0, 0⟩)
def z__law_others : CloD := ⟨s__law_others, "_law_others", "law.<locals>._law_others", ["_law_codes"], ["_law_marks_here", "_law_more", "_law_ones", "_law_step", "_law_turn", "_law_twist", "_law_way"]⟩
theorem ns__law_others : NScope ["_law_codes", "_law_marks_here", "_law_more", "_law_ones", "_law_step", "_law_turn", "_law_twist", "_law_way"] ["_law_codes"] ["_law_marks_here", "_law_more", "_law_ones", "_law_step", "_law_turn", "_law_twist", "_law_way"] (C8.fnScope s__law_others) := nscope_by (by decide +kernel)
theorem sc__law_others : (["_law_codes", "_law_marks_here", "_law_more", "_law_ones", "_law_step", "_law_turn", "_law_twist", "_law_way"] : List Str).Nodup := by decide +kernel
theorem nb__law_others : ndefB (defScope (topS 18)) (C8.fnScope s__law_others) ["_law_marks_here", "_law_more", "_law_ones", "_law_step", "_law_turn", "_law_twist", "_law_way"] = true := by decide +kernel
noncomputable def b__law_others (cl1 : List (Str × Addr)) : En → Fl :=
 (sSeq (sIf (dTest (dOp eqD (dVar 7) (dC (.int 1))))
 (sRet (dCal 5 d__law_told (dCons (dVar 0) (dCons (dVar 1) (dCons (dOp addD (dVar 6) (dC (.int 1))) (dCons (dVar 5) (dCons (dVar 4) dNil)))))))
 sNext)
 (sSeq (sIf (dAnd (dTest (dOp eqD (dVar 7) (dC (.int 2)))) (dTest (dOp geD (dIxV 0 (dC (.int 0))) (dOp ixD (dIxV 2 (dC (.int 0))) (dC (.int 0))))))
 (sRet (dOp addD (dFnvQ 3 z__law_ones cl1 [1, 4, 5, 6] f__law_ones (dVar 0)) (dC (.int 1))))
 sNext)
 (sRet (dFnvQ 3 z__law_ones cl1 [1, 4, 5, 6] f__law_ones (dVar 0)))))
def clOf__law_others (ws : List D) : List (Str × Addr) := match ws[2]? with
  | some (D.fnv _ cl) => cl
  | _ => []
open Classical in
noncomputable def f__law_others : List D → D → Res D := fun ws d => if ws[2]? = some (.fnv z__law_ones (clOf__law_others ws)) then runQ 8 (b__law_others (clOf__law_others ws)) ws d else .bad
theorem clo__law_others (T : Top K mg) : CloQ P w K mg base 3 z__law_others f__law_others := by
  refine cloQ_of (k := 2) (N := ["_law_codes", "_law_marks_here", "_law_more", "_law_ones", "_law_step", "_law_turn", "_law_twist", "_law_way"]) ns__law_others rfl (fun _ _ _ _ _ us hl => match us, hl with | [_], _ => rfl) (fun f cl c A outer s H E dws hr sib ex => ?_)
  have hq : dws[2]? = some (.fnv z__law_ones (clOf__law_others dws)) := Classical.byContradiction fun hn => by
    obtain ⟨d, d2, e⟩ := ex
    unfold f__law_others at e
    rw [if_neg hn] at e
    cases e
  have hm := List.mem_of_getElem? hq
  generalize hcl : clOf__law_others dws = cl1 at *
  exact ⟨_, _, (pss_cons (ps_if (pt_cmpR (op_eqD hr.units) (pv 7) pe_int (nomark _))
 (pss_one (ps_ret (pe_cal (cal__law_told T) hr (by omega) (by rfl) (pa_cons (pv 0) (pa_cons (pv 1) (pa_cons (pe_op op_addU (pv 6) pe_int) (pa_cons (pv 5) (pa_cons (pv 4) pa_nil))))))))
 pss_nil)
 (pss_cons (ps_if (PW.pt (pw_and (pt_cmpR (op_eqD hr.units) (pv 7) pe_int (nomark _)) (pw_and1 (pt_cmpR op_ge (pe_ix ix_seq (pv 0) pe_int (fun _ _ => rfl)) (pe_ix ix_seq (pe_ix ix_seq (pv 2) pe_int (fun _ _ => rfl)) pe_int (fun _ _ => rfl)) (nomark _)))))
 (pss_one (ps_ret (pe_op op_addU (pe_fnvQ (i := 3) (z := z__law_ones) (clo__law_ones T) (fun _ => caps_sib (js := [1, 4, 5, 6]) sib hm (by decide +kernel) rfl) hr (by omega) rfl (by first | exact Or.inl rfl | exact Or.inr (Or.inl rfl) | exact Or.inr (Or.inr rfl)) (pv 0)) pe_int)))
 pss_nil)
 (pss_one (ps_ret (pe_fnvQ (i := 3) (z := z__law_ones) (clo__law_ones T) (fun _ => caps_sib (js := [1, 4, 5, 6]) sib hm (by decide +kernel) rfl) hr (by omega) rfl (by first | exact Or.inl rfl | exact Or.inr (Or.inl rfl) | exact Or.inr (Or.inr rfl)) (pv 0)))))), (ds_seq (ds_if (dt_test (de_op od_eq de_var de_int))
 (ds_ret (de_cal (da_cons de_var (da_cons de_var (da_cons (de_op od_add de_var de_int) (da_cons de_var (da_cons de_var da_nil)))))))
 ds_next)
 (ds_seq (ds_if (dt_and (dt_test (de_op od_eq de_var de_int)) (dt_test (de_op od_cmp (de_ixV de_int) (de_op od_ix (de_ixV de_int) de_int))))
 (ds_ret (de_op od_add (de_fnvQ de_var) de_int))
 ds_next)
 (ds_ret (de_fnvQ de_var)))), fun d => by
    unfold f__law_others
    rw [hcl, if_pos hq]
    rfl⟩

open Classical in
noncomputable def phi : CloD → List D → D → Res D := fun q => if q = z__law_ones then f__law_ones else if q = z__law_others then f__law_others else fun _ _ => .bad
theorem phi_ok (T : Top K mg) : ∀ q, CloQ P w K mg base 3 q (phi q) := fun q => by
  unfold phi
  split
  · rename_i h
    rw [h]
    exact (clo__law_ones T).mono (by decide)
  split
  · rename_i h
    rw [h]
    exact (clo__law_others T).mono (by decide)
  exact cloQ_bad

def lineOf : Stmt → Nat
  | .FunctionDef _ _ _ _ _ _ _ _ _ pos => pos.line
  | _ => 0
def nm_law : Nat → Nat → Str := fun l _ => if l = lineOf s__law_ones then "law.<locals>._law_ones" else "law.<locals>._law_others"
theorem nm_u (P0 : Addr) : ∀ p ∈ [(P0, nm_law)], p.1 = P0 → p.2 = nm_law := fun p hp _ => by rw [List.mem_singleton.mp hp]

/-! built_behind -/
abbrev s_built_behind : Stmt := topS 9
theorem sc_built_behind : FnScope ["rows", "codes", "leaf", "parts", "low", "high"] ["rows", "codes", "leaf"] (defScope s_built_behind) := ⟨rfl, rfl, rfl, by decide +kernel, rfl, by decide +kernel, by decide +kernel⟩
def b_built_behind (Φ : CloD → List D → D → Res D) (r : List D → Res D) : En → Fl :=
 (sSeq (sIf (dTest (dOp eqD (dLenV 1) (dLenV 0)))
 (sRet (dCloQ 2 Φ (dNew (nList (dCons (dVar 1) dNil)))))
 sNext)
 (sSeq (sOwn 3 (nLst dNil))
 (sSeq (sFor (iSeq (dIxV 0 (dLenV 1))) (gT 2 (gsCons (gN 4) (gsCons (gN 5) gsNil)))
 (sApp 3 (dTup (dCons (dVar 4) (dCons (dVar 5) (dCons (dCal 3 r (dCons (dVar 0) (dCons (dOp addD (dVar 1) (dNew (nLst (dCons (dVar 4) dNil)))) (dCons (dVar 2) dNil)))) dNil))))))
 (sFrz [3] (sRet (dCal 1 d_drawn (dCons (dVar 3) dNil)))))))
def d_built_behind (Φ : CloD → List D → D → Res D) : Nat → List D → Res D
  | 0 => fun _ => .bad
  | n + 1 => runD 3 6 (b_built_behind Φ (d_built_behind Φ n))
theorem cal_built_behind (T : Top K mg) {Φ : CloD → List D → D → Res D} (hΦ : ∀ z, CloQ P w K mg base 3 z (Φ z)) : ∀ n, CalP P w K mg base (3 + n) "built_behind" 3 (d_built_behind Φ n)
  | 0 => cal_zero T.d_built_behind (ps := ["rows", "codes", "leaf"]) (fun _ _ _ _ _ _ us hl => match us, hl with | [_, _, _], _ => rfl)
  | n + 1 => by
    refine cal_of (k := 3 + n) T.d_built_behind sc_built_behind (fun _ _ _ _ _ _ us hl => match us, hl with | [_, _, _], _ => rfl) (fun f cdv A outer s H E hr => ?_)
    exact ⟨_, (pss_cons (ps_if (pt_cmpR (op_eqD hr.units) (pe_callB call_lenU (by rfl) T.f_len PySem.boot_len (pa_cons (pv 1) pa_nil)) (pe_callB call_lenU (by rfl) T.f_len PySem.boot_len (pa_cons (pv 0) pa_nil)) (nomark _))
 (pss_one (ps_ret (pe_clo (sp := fun z cl => CloV1 K mg cl (Φ z)) (fun z f cl c => (hΦ z).ok f cl c) hr (by omega) rfl (by first | exact Or.inl rfl | exact Or.inr (Or.inl rfl) | exact Or.inr (Or.inr rfl)) (pe_callTy call_list_of (by rfl) T.f_list (by decide +kernel) (pa_cons (pv 1) pa_nil)))))
 pss_nil)
 (pss_cons (ps_set (i := 3) sc_built_behind.nd rfl (by first | exact Or.inl rfl | exact Or.inr rfl) (pe_lst pa_nil))
 (pss_cons (ps_for PassesOwn.never rfl (pi_U (pe_ix ix_seq (pv 0) (pe_callB call_lenU (by rfl) T.f_len PySem.boot_len (pa_cons (pv 1) pa_nil)) (fun _ _ => rfl))) (pg_tup (by rfl) (pgs_cons (pg_name (i := 4) sc_built_behind.nd rfl (by first | exact Or.inl rfl | exact Or.inr rfl)) (pgs_cons (pg_name (i := 5) sc_built_behind.nd rfl (by first | exact Or.inl rfl | exact Or.inr rfl)) pgs_nil)))
 (pss_one (ps_expr (pe_bm PySem.F.plainAttrs_list PySem.F.slot_list_append PySem.F.type_list_append mt_append (pv 3) (pa_cons (pe_tup (pa_cons (pv 4) (pa_cons (pv 5) (pa_cons (pe_cal (cal_built_behind T hΦ n) hr (by omega) (by rfl) (pa_cons (pv 0) (pa_cons (pe_op op_addU (pv 1) (pe_lst (pa_cons (pv 4) pa_nil))) (pa_cons (pv 2) pa_nil)))) pa_nil)))) pa_nil)))))
 (pss_one (ps_ret (pe_cal (cal_drawn T) hr (by omega) (by rfl) (pa_cons (pv 3) pa_nil))))))), fun W => (ds_seq (ds_if (dt_test (de_op od_eq de_lenV de_lenV))
 (ds_ret (de_cloQ (de_new (dn_listOf (da_cons de_var da_nil)))))
 ds_next)
 (ds_seq (ds_own (dn_lst da_nil))
 (ds_seq (ds_for (di_U (de_ixV de_lenV)) (dg_tup (dgs_cons dg_name (dgs_cons dg_name dgs_nil)))
 (ds_app (de_tup (da_cons de_var (da_cons de_var (da_cons (de_cal (da_cons de_var (da_cons (de_op od_add de_var (de_new (dn_lst (da_cons de_var da_nil)))) (da_cons de_var da_nil)))) da_nil))))))
 (ds_frz (is := [3]) (ds_ret (de_cal (da_cons de_var da_nil)))))))⟩

/-! built -/
abbrev s_built : Stmt := topS 10
theorem sc_built : FnScope ["bounds", "marks", "leaf", "rows", "k"] ["bounds", "marks", "leaf"] (defScope s_built) := ⟨rfl, rfl, rfl, by decide +kernel, rfl, by decide +kernel, by decide +kernel⟩
def b_built (Φ : CloD → List D → D → Res D) : En → Fl :=
 (sSeq (sIf (dTest (dOp gtD (dCal 2 d_grain (dCons (dVar 0) (dCons (dVar 1) dNil))) (dC (.int 300))))
 sBad
 sNext)
 (sSeq (sSet 3 (dNew (nLc 4 (iR1 (dCons (dLenV 0) dNil)) tYesD (dCal 3 d_stretches (dCons (dOp ixD (dIxV 0 (dVar 4)) (dC (.int 0))) (dCons (dOp ixD (dIxV 0 (dVar 4)) (dC (.int 1))) (dCons (dIxV 1 (dVar 4)) dNil)))))))
 (sRet (dCal 3 (d_built_behind Φ 5) (dCons (dVar 3) (dCons (dNew (nLst dNil)) (dCons (dVar 2) dNil)))))))
def d_built (Φ : CloD → List D → D → Res D) : List D → Res D := runD 3 5 (b_built Φ)
theorem cal_built (T : Top K mg) {Φ : CloD → List D → D → Res D} (hΦ : ∀ z, CloQ P w K mg base 3 z (Φ z)) : CalP P w K mg base 9 "built" 3 (d_built Φ) := by
  refine cal_of (k := 8) T.d_built sc_built (fun _ _ _ _ _ _ us hl => match us, hl with | [_, _, _], _ => rfl) (fun f cdv A outer s H E hr => ?_)
  exact ⟨_, (pss_cons (ps_if (pt_cmpR op_gt (pe_cal (cal_grain T) hr (by omega) (by rfl) (pa_cons (pv 0) (pa_cons (pv 1) pa_nil))) (pe_gconst (by rfl) T.c_FINEST) (nomark _))
 (pss_one ps_never)
 pss_nil)
 (pss_cons (ps_setLc (i := 3) (own := [("k", 4)]) (g := gName 4) (by rfl) sc_built.nd rfl rfl (sw_true rfl rfl rfl (by decide +kernel)) (pi_range1 (by rfl) T.f_range (pa_cons (pe_callB call_lenU (by rfl) T.f_len PySem.boot_len (pa_cons (pv 0) pa_nil)) pa_nil)) (blkOk_by (own := [("k", 4)]) (N := ["bounds", "marks", "leaf", "rows", "k"]) (sc := defScope s_built) (by decide +kernel)) (fun _ _ _ _ _ => pg_name (i := 4) sc_built.nd rfl (Or.inl rfl)) (fun _ _ _ _ _ => pts_nil) (fun _ _ _ _ _ => (pe_cal (cal_stretches T) hr (by omega) (by rfl) (pa_cons (pe_ix ix_seq (pe_ix ix_seq (pv 0) (pv 4) (fun _ _ => rfl)) pe_int (fun _ _ => rfl)) (pa_cons (pe_ix ix_seq (pe_ix ix_seq (pv 0) (pv 4) (fun _ _ => rfl)) pe_int (fun _ _ => rfl)) (pa_cons (pe_ix ix_seq (pv 1) (pv 4) (fun _ _ => rfl)) pa_nil))))))
 (pss_one (ps_ret (pe_cal (cal_built_behind T hΦ 5) hr (by omega) (by rfl) (pa_cons (pv 3) (pa_cons (pe_lst pa_nil) (pa_cons (pv 2) pa_nil)))))))), fun W => (ds_seq (ds_if (dt_test (de_op od_cmp (de_cal (da_cons de_var (da_cons de_var da_nil))) de_int))
 ds_bad
 ds_next)
 (ds_seq (ds_set (de_new (dn_lc (i := 4) (di_r1 (da_cons de_lenV da_nil)) dt_yes (de_cal (da_cons (de_op od_ix (de_ixV de_var) de_int) (da_cons (de_op od_ix (de_ixV de_var) de_int) (da_cons (de_ixV de_var) da_nil)))))))
 (ds_ret (de_cal (da_cons de_var (da_cons (de_new (dn_lst da_nil)) (da_cons de_var da_nil)))))))⟩

/-! _law_at -/
abbrev s__law_at : Stmt := topS 12
theorem sc__law_at : FnScope ["_law_script", "_law_k"] ["_law_script", "_law_k"] (defScope s__law_at) := ⟨rfl, rfl, rfl, by decide +kernel, rfl, by decide +kernel, by decide +kernel⟩
def b__law_at : En → Fl :=
 (sSeq (sIf (dTest (dOp ltD (dVar 1) (dLenV 0)))
 (sRet (dIxV 0 (dVar 1)))
 sNext)
 (sRet (dC (.int 0))))
def d__law_at : List D → Res D := runD 2 2 (b__law_at)
theorem cal__law_at (T : Top K mg) : CalP P w K mg base 1 "_law_at" 2 (d__law_at) := by
  refine cal_of (k := 0) T.d__law_at sc__law_at (fun _ _ _ _ _ _ us hl => match us, hl with | [_, _], _ => rfl) (fun f cdv A outer s H E hr => ?_)
  exact ⟨_, (pss_cons (ps_if (pt_cmpR op_lt (pv 1) (pe_callB call_lenU (by rfl) T.f_len PySem.boot_len (pa_cons (pv 0) pa_nil)) (nomark _))
 (pss_one (ps_ret (pe_ix ix_seq (pv 0) (pv 1) (fun _ _ => rfl))))
 pss_nil)
 (pss_one (ps_ret pe_int))), fun W => (ds_seq (ds_if (dt_test (de_op od_cmp de_var de_lenV))
 (ds_ret (de_ixV de_var))
 ds_next)
 (ds_ret de_int))⟩

/-! _law_bounds -/
abbrev s__law_bounds : Stmt := topS 13
theorem sc__law_bounds : FnScope ["_law_script", "_law_bounds_here", "_law_k", "_law_low", "_law_width"] ["_law_script"] (defScope s__law_bounds) := ⟨rfl, rfl, rfl, by decide +kernel, rfl, by decide +kernel, by decide +kernel⟩
def b__law_bounds : En → Fl :=
 (sSeq (sOwn 1 (nLst dNil))
 (sSeq (sFor (iR1 (dCons (dOp addD (dC (.int 1)) (dOp modD (dCal 2 d__law_at (dCons (dVar 0) (dCons (dC (.int 0)) dNil))) (dC (.int 3)))) dNil)) (gN 2)
 (sSeq (sSet 3 (dOp subD (dOp modD (dCal 2 d__law_at (dCons (dVar 0) (dCons (dOp addD (dC (.int 1)) (dOp mulD (dC (.int 2)) (dVar 2))) dNil))) (dOp powD (dC (.int 10)) (dC (.int 40)))) (dOp mulD (dC (.int 5)) (dOp powD (dC (.int 10)) (dC (.int 39))))))
 (sSeq (sSet 4 (dOp modD (dCal 2 d__law_at (dCons (dVar 0) (dCons (dOp addD (dC (.int 2)) (dOp mulD (dC (.int 2)) (dVar 2))) dNil))) (dOp powD (dC (.int 10)) (dC (.int 40)))))
 (sSeq (sIf (dTest (dOp eqD (dOp modD (dVar 4) (dC (.int 3))) (dC (.int 1))))
 (sSet 4 (dOp modD (dOp fdivD (dVar 4) (dC (.int 3))) (dC (.int 7))))
 sNext)
 (sApp 1 (dTup (dCons (dVar 3) (dCons (dOp addD (dVar 3) (dVar 4)) dNil))))))))
 (sRetO 1)))
def d__law_bounds : List D → Res D := runD 1 5 (b__law_bounds)
theorem cal__law_bounds (T : Top K mg) : CalP P w K mg base 2 "_law_bounds" 1 (d__law_bounds) := by
  refine cal_of (k := 1) T.d__law_bounds sc__law_bounds (fun _ _ _ _ _ _ us hl => match us, hl with | [_], _ => rfl) (fun f cdv A outer s H E hr => ?_)
  exact ⟨_, (pss_cons (ps_set (i := 1) sc__law_bounds.nd rfl (by first | exact Or.inl rfl | exact Or.inr rfl) (pe_lst pa_nil))
 (pss_cons (ps_for PassesOwn.never rfl (pi_range1 (by rfl) T.f_range (pa_cons (pe_op op_addU pe_int (pe_op op_mod (pe_cal (cal__law_at T) hr (by omega) (by rfl) (pa_cons (pv 0) (pa_cons pe_int pa_nil))) pe_int)) pa_nil)) (pg_name (i := 2) sc__law_bounds.nd rfl (by first | exact Or.inl rfl | exact Or.inr rfl))
 (pss_cons (ps_set (i := 3) sc__law_bounds.nd rfl (by first | exact Or.inl rfl | exact Or.inr rfl) (pe_op op_sub (pe_op op_mod (pe_cal (cal__law_at T) hr (by omega) (by rfl) (pa_cons (pv 0) (pa_cons (pe_op op_addU pe_int (pe_op op_mulX pe_int (pv 2))) pa_nil))) (pe_op op_pow pe_int pe_int)) (pe_op op_mulX pe_int (pe_op op_pow pe_int pe_int))))
 (pss_cons (ps_set (i := 4) sc__law_bounds.nd rfl (by first | exact Or.inl rfl | exact Or.inr rfl) (pe_op op_mod (pe_cal (cal__law_at T) hr (by omega) (by rfl) (pa_cons (pv 0) (pa_cons (pe_op op_addU pe_int (pe_op op_mulX pe_int (pv 2))) pa_nil))) (pe_op op_pow pe_int pe_int)))
 (pss_cons (ps_if (pt_cmpR (op_eqD hr.units) (pe_op op_mod (pv 4) pe_int) pe_int (nomark _))
 (pss_one (ps_set (i := 4) sc__law_bounds.nd rfl (by first | exact Or.inl rfl | exact Or.inr rfl) (pe_op op_mod (pe_op op_fdivW (pv 4) pe_int) pe_int)))
 pss_nil)
 (pss_one (ps_expr (pe_bm PySem.F.plainAttrs_list PySem.F.slot_list_append PySem.F.type_list_append mt_append (pv 1) (pa_cons (pe_tup (pa_cons (pv 3) (pa_cons (pe_op op_addU (pv 3) (pv 4)) pa_nil))) pa_nil))))))))
 (pss_one (ps_ret (pv 1))))), fun W => (ds_seq (ds_own (dn_lst da_nil))
 (ds_seq (ds_for (di_r1 (da_cons (de_op od_add de_int (de_op od_mod (de_cal (da_cons de_var (da_cons de_int da_nil))) de_int)) da_nil)) dg_name
 (ds_seq (ds_set (de_op od_sub (de_op od_mod (de_cal (da_cons de_var (da_cons (de_op od_add de_int (de_op od_mul de_int de_var)) da_nil))) (de_op od_pow de_int de_int)) (de_op od_mul de_int (de_op od_pow de_int de_int))))
 (ds_seq (ds_set (de_op od_mod (de_cal (da_cons de_var (da_cons (de_op od_add de_int (de_op od_mul de_int de_var)) da_nil))) (de_op od_pow de_int de_int)))
 (ds_seq (ds_if (dt_test (de_op od_eq (de_op od_mod de_var de_int) de_int))
 (ds_set (de_op od_mod (de_op od_fdiv de_var de_int) de_int))
 ds_next)
 (ds_app (de_tup (da_cons de_var (da_cons (de_op od_add de_var de_var) da_nil))))))))
 ds_retO))⟩

/-! _law_marks -/
abbrev s__law_marks : Stmt := topS 14
theorem sc__law_marks : FnScope ["_law_script", "_law_bounds_here", "_law_most", "_law_marks_here", "_law_pair", "_law_k", "_law_own"] ["_law_script", "_law_bounds_here"] (defScope s__law_marks) := ⟨rfl, rfl, rfl, by decide +kernel, rfl, by decide +kernel, by decide +kernel⟩
def b__law_marks : En → Fl :=
 (sSeq (sSet 2 (dOp ixD (dNew (nLst (dCons (dC (.int 40)) (dCons (dC (.int 5)) (dCons (dC (.int 2)) dNil))))) (dOp subD (dLenV 1) (dC (.int 1)))))
 (sAli (iSeq (dVar 1)) (iR2 (dCons (dC (.int 7)) (dCons (dCB min2D (dCons (dLenV 0) (dCons (dC (.int 406)) dNil))) dNil))) (dOp modD (dVar 5) (dLenV 1)) (dIxV 1 (dOp modD (dVar 5) (dLenV 1))) (dTest (dOp ltD (dLenV 6) (dVar 2))) (dOp addD (dOp subD (dIxV 4 (dC (.int 0))) (dC (.int 1))) (dOp modD (dIxV 0 (dVar 5)) (dOp addD (dOp subD (dIxV 4 (dC (.int 1))) (dIxV 4 (dC (.int 0)))) (dC (.int 3))))) (dIxV 6 (dOp modD (dIxV 0 (dVar 5)) (dVar 2)))))
def d__law_marks : List D → Res D := runD 2 7 (b__law_marks)
theorem cal__law_marks (T : Top K mg) : CalP P w K mg base 1 "_law_marks" 2 (d__law_marks) := by
  refine cal_of (k := 0) T.d__law_marks sc__law_marks (fun _ _ _ _ _ _ us hl => match us, hl with | [_, _], _ => rfl) (fun f cdv A outer s H E hr => ?_)
  exact ⟨_, (pss_cons (ps_set (i := 2) sc__law_marks.nd rfl (by first | exact Or.inl rfl | exact Or.inr rfl) (pe_ix ix_seq (pe_lst (pa_cons pe_int (pa_cons pe_int (pa_cons pe_int pa_nil)))) (pe_op op_sub (pe_callB call_lenU (by rfl) T.f_len PySem.boot_len (pa_cons (pv 1) pa_nil)) pe_int) (fun _ _ => rfl)))
 (pss_cons (ps_setLc (i := 3) (own := [("_law_pair", 4)]) (g := gName 4) (by rfl) sc__law_marks.nd rfl rfl (sw_true rfl rfl rfl (by decide +kernel)) (pi_U (pv 1)) (blkOk_by (own := [("_law_pair", 4)]) (N := ["_law_script", "_law_bounds_here", "_law_most", "_law_marks_here", "_law_pair", "_law_k", "_law_own"]) (sc := defScope s__law_marks) (by decide +kernel)) (fun _ _ _ _ _ => pg_name (i := 4) sc__law_marks.nd rfl (Or.inl rfl)) (fun _ _ _ _ _ => pts_nil) (fun _ _ _ _ _ => (pe_lst pa_nil)))
 (pss_cons (ps_for PassesOwn.never rfl (pi_range2 (by rfl) T.f_range (pa_cons pe_int (pa_cons (pe_callB (call_min2 rfl) (by rfl) T.f_min (by decide +kernel) (pa_cons (pe_callB call_lenU (by rfl) T.f_len PySem.boot_len (pa_cons (pv 0) pa_nil)) (pa_cons pe_int pa_nil))) pa_nil))) (pg_name (i := 5) sc__law_marks.nd rfl (by first | exact Or.inl rfl | exact Or.inr rfl)) (pss_cons (ps_set (i := 6) sc__law_marks.nd rfl (by first | exact Or.inl rfl | exact Or.inr rfl) (pe_ix ix_seq (pv 3) (pe_op op_mod (pv 5) (pe_callB call_lenU (by rfl) T.f_len PySem.boot_len (pa_cons (pv 1) pa_nil))) (fun _ _ => rfl))) (pss_cons (ps_set (i := 4) sc__law_marks.nd rfl (by first | exact Or.inl rfl | exact Or.inr rfl) (pe_ix ix_seq (pv 1) (pe_op op_mod (pv 5) (pe_callB call_lenU (by rfl) T.f_len PySem.boot_len (pa_cons (pv 1) pa_nil))) (fun _ _ => rfl))) (pss_one (ps_if (pt_cmpR op_lt (pe_callB call_lenU (by rfl) T.f_len PySem.boot_len (pa_cons (pv 6) pa_nil)) (pv 2) (nomark _)) (pss_one (ps_expr (pe_bm PySem.F.plainAttrs_list PySem.F.slot_list_append PySem.F.type_list_append mt_append (pv 6) (pa_cons (pe_op op_addU (pe_op op_sub (pe_ix ix_seq (pv 4) pe_int (fun _ _ => rfl)) pe_int) (pe_op op_mod (pe_ix ix_seq (pv 0) (pv 5) (fun _ _ => rfl)) (pe_op op_addU (pe_op op_sub (pe_ix ix_seq (pv 4) pe_int (fun _ _ => rfl)) (pe_ix ix_seq (pv 4) pe_int (fun _ _ => rfl))) pe_int))) pa_nil)))) (pss_one (ps_expr (pe_bm PySem.F.plainAttrs_list PySem.F.slot_list_append PySem.F.type_list_append mt_append (pv 6) (pa_cons (pe_ix ix_seq (pv 6) (pe_op op_mod (pe_ix ix_seq (pv 0) (pv 5) (fun _ _ => rfl)) (pv 2)) (fun _ _ => rfl)) pa_nil)))))))))
 (pss_one (ps_ret (pv 3)))))), fun W => (ds_seq (ds_set (de_op od_ix (de_new (dn_lst (da_cons de_int (da_cons de_int (da_cons de_int da_nil))))) (de_op od_sub de_lenV de_int)))
 (ds_ali (di_U de_var) (da_cons de_int (da_cons (de_callB cd_min2 (da_cons de_lenV (da_cons de_int da_nil))) da_nil)) (de_op od_mod de_var de_lenV) (de_ixV (de_op od_mod de_var de_lenV)) (dt_test (de_op od_cmp de_lenV de_var)) (de_op od_add (de_op od_sub (de_ixV de_int) de_int) (de_op od_mod (de_ixV de_var) (de_op od_add (de_op od_sub (de_ixV de_int) (de_ixV de_int)) de_int))) (de_ixV (de_op od_mod (de_ixV de_var) de_var))))⟩

/-! _law_lows -/
abbrev s__law_lows : Stmt := topS 15
theorem sc__law_lows : FnScope ["_law_bounds_here", "_law_marks_here", "_law_lows_here", "_law_k", "_law_own", "_law_mark"] ["_law_bounds_here", "_law_marks_here"] (defScope s__law_lows) := ⟨rfl, rfl, rfl, by decide +kernel, rfl, by decide +kernel, by decide +kernel⟩
def b__law_lows : En → Fl :=
 (sSeq (sOwn 2 (nLst dNil))
 (sSeq (sFor (iR1 (dCons (dLenV 0) dNil)) (gN 3)
 (sSeq (sSet 4 (dNew (nLc 5 (iSeq (dIxV 1 (dVar 3))) (dAnd (dTest (dOp ltD (dOp ixD (dIxV 0 (dVar 3)) (dC (.int 0))) (dVar 5))) (dTest (dOp leD (dVar 5) (dOp ixD (dIxV 0 (dVar 3)) (dC (.int 1)))))) (dVar 5))))
 (sApp 2 (dOp addD (dNew (nLst (dCons (dOp ixD (dIxV 0 (dVar 3)) (dC (.int 0))) dNil))) (dCB sortSetD (dCons (dVar 4) dNil))))))
 (sRetO 2)))
def d__law_lows : List D → Res D := runD 2 6 (b__law_lows)
theorem cal__law_lows (T : Top K mg) : CalP P w K mg base 1 "_law_lows" 2 (d__law_lows) := by
  refine cal_of (k := 0) T.d__law_lows sc__law_lows (fun _ _ _ _ _ _ us hl => match us, hl with | [_, _], _ => rfl) (fun f cdv A outer s H E hr => ?_)
  exact ⟨_, (pss_cons (ps_set (i := 2) sc__law_lows.nd rfl (by first | exact Or.inl rfl | exact Or.inr rfl) (pe_lst pa_nil))
 (pss_cons (ps_for PassesOwn.never rfl (pi_range1 (by rfl) T.f_range (pa_cons (pe_callB call_lenU (by rfl) T.f_len PySem.boot_len (pa_cons (pv 0) pa_nil)) pa_nil)) (pg_name (i := 3) sc__law_lows.nd rfl (by first | exact Or.inl rfl | exact Or.inr rfl))
 (pss_cons (ps_setLc (i := 4) (own := [("_law_mark", 5)]) (g := gName 5) (by rfl) sc__law_lows.nd rfl rfl (sw_true rfl rfl rfl (by decide +kernel)) (pi_U (pe_ix ix_seq (pv 1) (pv 3) (fun _ _ => rfl))) (blkOk_by (own := [("_law_mark", 5)]) (N := ["_law_bounds_here", "_law_marks_here", "_law_lows_here", "_law_k", "_law_own", "_law_mark"]) (sc := defScope s__law_lows) (by decide +kernel)) (fun _ _ _ _ _ => pg_name (i := 5) sc__law_lows.nd rfl (Or.inl rfl)) (fun _ _ _ _ _ => (pts_one (PW.pt (pw_and (pt_cmpR op_lt (pe_ix ix_seq (pe_ix ix_seq (pv 0) (pv 3) (fun _ _ => rfl)) pe_int (fun _ _ => rfl)) (pv 5) (nomark _)) (pw_and1 (pt_cmpR op_le (pv 5) (pe_ix ix_seq (pe_ix ix_seq (pv 0) (pv 3) (fun _ _ => rfl)) pe_int (fun _ _ => rfl)) (nomark _))))))) (fun _ _ _ _ _ => (pv 5)))
 (pss_one (ps_expr (pe_bm PySem.F.plainAttrs_list PySem.F.slot_list_append PySem.F.type_list_append mt_append (pv 2) (pa_cons (pe_op op_addU (pe_lst (pa_cons (pe_ix ix_seq (pe_ix ix_seq (pv 0) (pv 3) (fun _ _ => rfl)) pe_int (fun _ _ => rfl)) pa_nil)) (pe_callB (cr_sortedSet rfl) (by rfl) T.f_sorted (by decide +kernel) (pa_cons (pe_callTy (cr_setL rfl) (by rfl) T.f_set (by decide +kernel) (pa_cons (pv 4) pa_nil)) pa_nil))) pa_nil))))))
 (pss_one (ps_ret (pv 2))))), fun W => (ds_seq (ds_own (dn_lst da_nil))
 (ds_seq (ds_for (di_r1 (da_cons de_lenV da_nil)) dg_name
 (ds_seq (ds_set (de_new (dn_lc (i := 5) (di_U (de_ixV de_var)) (dt_and (dt_test (de_op od_cmp (de_op od_ix (de_ixV de_var) de_int) de_var)) (dt_test (de_op od_cmp de_var (de_op od_ix (de_ixV de_var) de_int)))) de_var)))
 (ds_app (de_op od_add (de_new (dn_lst (da_cons (de_op od_ix (de_ixV de_var) de_int) da_nil))) (de_sortset (da_cons de_var da_nil))))))
 ds_retO))⟩

/-! _law_corners -/
abbrev s__law_corners : Stmt := topS 16
theorem sc__law_corners : FnScope ["_law_lows_here", "_law_corners_here", "_law_own", "_law_further", "_law_codes", "_law_low"] ["_law_lows_here"] (defScope s__law_corners) := ⟨rfl, rfl, rfl, by decide +kernel, rfl, by decide +kernel, by decide +kernel⟩
def b__law_corners : En → Fl :=
 (sSeq (sSet 1 (dNew (nLst (dCons (dNew (nLst dNil)) dNil))))
 (sSeq (sFor (iSeq (dVar 0)) (gN 2)
 (sSeq (sOwn 3 (nLst dNil))
 (sSeq (sFor (iSeq (dVar 1)) (gN 4)
 (sFor (iSeq (dVar 2)) (gN 5)
 (sApp 3 (dOp addD (dVar 4) (dNew (nLst (dCons (dVar 5) dNil)))))))
 (sFrz [3] (sSet 1 (dVar 3))))))
 (sRet (dVar 1))))
def d__law_corners : List D → Res D := runD 1 6 (b__law_corners)
theorem cal__law_corners (T : Top K mg) : CalP P w K mg base 1 "_law_corners" 1 (d__law_corners) := by
  refine cal_of (k := 0) T.d__law_corners sc__law_corners (fun _ _ _ _ _ _ us hl => match us, hl with | [_], _ => rfl) (fun f cdv A outer s H E hr => ?_)
  exact ⟨_, (pss_cons (ps_set (i := 1) sc__law_corners.nd rfl (by first | exact Or.inl rfl | exact Or.inr rfl) (pe_lst (pa_cons (pe_lst pa_nil) pa_nil)))
 (pss_cons (ps_for PassesOwn.never rfl (pi_U (pv 0)) (pg_name (i := 2) sc__law_corners.nd rfl (by first | exact Or.inl rfl | exact Or.inr rfl))
 (pss_cons (ps_set (i := 3) sc__law_corners.nd rfl (by first | exact Or.inl rfl | exact Or.inr rfl) (pe_lst pa_nil))
 (pss_cons (ps_for PassesOwn.never rfl (pi_U (pv 1)) (pg_name (i := 4) sc__law_corners.nd rfl (by first | exact Or.inl rfl | exact Or.inr rfl))
 (pss_one (ps_for PassesOwn.never rfl (pi_U (pv 2)) (pg_name (i := 5) sc__law_corners.nd rfl (by first | exact Or.inl rfl | exact Or.inr rfl))
 (pss_one (ps_expr (pe_bm PySem.F.plainAttrs_list PySem.F.slot_list_append PySem.F.type_list_append mt_append (pv 3) (pa_cons (pe_op op_addU (pv 4) (pe_lst (pa_cons (pv 5) pa_nil))) pa_nil)))))))
 (pss_one (ps_set (i := 1) sc__law_corners.nd rfl (by first | exact Or.inl rfl | exact Or.inr rfl) (pv 3))))))
 (pss_one (ps_ret (pv 1))))), fun W => (ds_seq (ds_set (de_new (dn_lst (da_cons (de_new (dn_lst da_nil)) da_nil))))
 (ds_seq (ds_for (di_U de_var) dg_name
 (ds_seq (ds_own (dn_lst da_nil))
 (ds_seq (ds_for (di_U de_var) dg_name
 (ds_for (di_U de_var) dg_name
 (ds_app (de_op od_add de_var (de_new (dn_lst (da_cons de_var da_nil)))))))
 (ds_frz (is := [3]) (ds_set de_var)))))
 (ds_ret de_var)))⟩

/-! law -/
abbrev s_law : Stmt := topS 18
theorem sc_law : FnScope ["_law_script", "_law_bounds_here", "_law_marks_here", "_law_more", "_law_k", "_law_low", "_law_extra", "_law_j", "_law_way", "_law_twist", "_law_turn", "_law_step", "_law_ones", "_law_others", "_law_one", "_law_own", "_law_other", "_law_agreed", "_law_codes"] ["_law_script"] (defScope s_law) := ⟨rfl, rfl, rfl, by decide +kernel, rfl, by decide +kernel, by decide +kernel⟩
noncomputable def b_law (cells : List (Str × Addr)) : En → Fl :=
 (sSeq (sSet 1 (dCal 1 d__law_bounds (dCons (dVar 0) dNil)))
 (sSeq (sSet 2 (dCal 2 d__law_marks (dCons (dVar 0) (dCons (dVar 1) dNil))))
 (sSeq (sOwn 3 (nLst dNil))
 (sSeq (sFor (iR1 (dCons (dLenV 1) dNil)) (gN 4)
 (sSeq (sSet 5 (dOp ixD (dIxV 1 (dVar 4)) (dC (.int 0))))
 (sSeq (sSet 6 (dOp addD (dVar 5) (dOp modD (dOp fdivD (dCal 2 d__law_at (dCons (dVar 0) (dCons (dOp addD (dC (.int 9)) (dVar 4)) dNil))) (dC (.int 2))) (dOp addD (dOp subD (dOp ixD (dIxV 1 (dVar 4)) (dC (.int 1))) (dVar 5)) (dC (.int 1))))))
 (sApp 3 (dOp addD (dNew (nLst (dCons (dVar 6) dNil))) (dNew (nLc 7 (iR1 (dCons (dCB lenD (dCons (dIxV 2 (dVar 4)) dNil)) dNil)) tYesD (dOp ixD (dIxV 2 (dVar 4)) (dOp subD (dOp subD (dCB lenD (dCons (dIxV 2 (dVar 4)) dNil)) (dC (.int 1))) (dVar 7))))))))))
 (sSeq (sSet 8 (dOp modD (dOp fdivD (dCal 2 d__law_at (dCons (dVar 0) (dCons (dC (.int 0)) dNil))) (dC (.int 3))) (dC (.int 3))))
 (sSeq (sSet 9 (dOp addD (dC (.int 1)) (dOp modD (dOp fdivD (dCal 2 d__law_at (dCons (dVar 0) (dCons (dC (.int 0)) dNil))) (dC (.int 9))) (dC (.int 4)))))
 (sSeq (sSet 10 (dOp addD (dC (.int 1)) (dOp modD (dOp fdivD (dCal 2 d__law_at (dCons (dVar 0) (dCons (dC (.int 0)) dNil))) (dC (.int 36))) (dC (.int 5)))))
 (sSeq (sSet 11 (dOp addD (dC (.int 1)) (dOp modD (dCal 2 d__law_at (dCons (dVar 0) (dCons (dC (.int 6)) dNil))) (dOp powD (dC (.int 10)) (dC (.int 20))))))
 (sSeq (sFrz [3] (sNdef 12 z__law_ones (cloFrom cells (C8.fnScope z__law_ones.st).names [])))
 (sSeq (sFrz [3] (sNdef 13 z__law_others (cloFrom cells (C8.fnScope z__law_others.st).names [])))
 (sSeq (sSet 14 (dCalC 3 (d_built phi) 2 z__law_ones (cloFrom cells (C8.fnScope z__law_ones.st).names []) [2, 11, 10, 9] (dCons (dNew (nList (dCons (dVar 1) dNil))) (dCons (dNew (nLc 15 (iSeq (dVar 2)) tYesD (dNew (nList (dCons (dVar 15) dNil))))) (dCons (dVar 12) dNil)))))
 (sSeq (sFrz [3] (sSet 16 (dCalC 3 (d_built phi) 2 z__law_others (cloFrom cells (C8.fnScope z__law_others.st).names []) [2, 3, 12, 11, 10, 9, 8] (dCons (dNew (nList (dCons (dVar 1) dNil))) (dCons (dNew (nLc 15 (iSeq (dVar 3)) tYesD (dNew (nList (dCons (dVar 15) dNil))))) (dCons (dVar 13) dNil))))))
 (sSeq (sSet 17 (dC (.bl true)))
 (sSeq (sFrz [3] (sFor (iSeq (dCal 1 d__law_corners (dCons (dCal 2 d__law_lows (dCons (dVar 1) (dCons (dVar 3) dNil))) dNil))) (gN 18)
 (sIf (dTest (dOp neD (dFnvQ 12 z__law_ones (cloFrom cells (C8.fnScope z__law_ones.st).names []) [2, 11, 10, 9] f__law_ones (dVar 18)) (dFnvQ 13 z__law_others (cloFrom cells (C8.fnScope z__law_others.st).names []) [2, 3, 12, 11, 10, 9, 8] f__law_others (dVar 18))))
 (sSet 17 (dC (.bl false)))
 sNext)))
 (sRet (dAndV (dCB isiD (dCons (dVar 14) (dCons (dC (.raw (.ty "tuple"))) dNil))) (dAndV (dCB isiD (dCons (dVar 16) (dCons (dC (.raw (.ty "tuple"))) dNil))) (dOp eqD (dOp eqD (dVar 14) (dVar 16)) (dVar 17)))))))))))))))))))
theorem bd_law (T : Top K mg) (f c P0 : Addr) (cdv : Value) (hc : cdv = .ref c) (TB : TabB base mg c P0) (A : Around) (outer : List Env) (s : Shared) (H : Hp) (E : XK) (hr : Room 9 (A.deeper (envOfC "law" (defScope s_law) s.heap.objs.size f cdv))) : ∃ t, PSs (cxOf L2.CX0 P w K mg base ["_law_script", "_law_bounds_here", "_law_marks_here", "_law_more", "_law_k", "_law_low", "_law_extra", "_law_j", "_law_way", "_law_twist", "_law_turn", "_law_step", "_law_ones", "_law_others", "_law_one", "_law_own", "_law_other", "_law_agreed", "_law_codes"] "law" (defScope s_law) f cdv A outer s H E).nox (defBody s_law) t ∧ DX K mg [(P0, nm_law)] t (b_law (cxOf L2.CX0 P w K mg base ["_law_script", "_law_bounds_here", "_law_marks_here", "_law_more", "_law_k", "_law_low", "_law_extra", "_law_j", "_law_way", "_law_twist", "_law_turn", "_law_step", "_law_ones", "_law_others", "_law_one", "_law_own", "_law_other", "_law_agreed", "_law_codes"] "law" (defScope s_law) f cdv A outer s H E).env.cells) :=
  ⟨_, (pss_cons (ps_set (i := 1) sc_law.nd rfl (by first | exact Or.inl rfl | exact Or.inr rfl) (pe_cal (cal__law_bounds T) hr (by omega) (by rfl) (pa_cons (pv 0) pa_nil)))
 (pss_cons (ps_set (i := 2) sc_law.nd rfl (by first | exact Or.inl rfl | exact Or.inr rfl) (pe_cal (cal__law_marks T) hr (by omega) (by rfl) (pa_cons (pv 0) (pa_cons (pv 1) pa_nil))))
 (pss_cons (ps_set (i := 3) sc_law.nd rfl (by first | exact Or.inl rfl | exact Or.inr rfl) (pe_lst pa_nil))
 (pss_cons (ps_for PassesOwn.never rfl (pi_range1 (by rfl) T.f_range (pa_cons (pe_callB call_lenU (by rfl) T.f_len PySem.boot_len (pa_cons (pv 1) pa_nil)) pa_nil)) (pg_name (i := 4) sc_law.nd rfl (by first | exact Or.inl rfl | exact Or.inr rfl))
 (pss_cons (ps_set (i := 5) sc_law.nd rfl (by first | exact Or.inl rfl | exact Or.inr rfl) (pe_ix ix_seq (pe_ix ix_seq (pv 1) (pv 4) (fun _ _ => rfl)) pe_int (fun _ _ => rfl)))
 (pss_cons (ps_set (i := 6) sc_law.nd rfl (by first | exact Or.inl rfl | exact Or.inr rfl) (pe_op op_addU (pv 5) (pe_op op_mod (pe_op op_fdivW (pe_cal (cal__law_at T) hr (by omega) (by rfl) (pa_cons (pv 0) (pa_cons (pe_op op_addU pe_int (pv 4)) pa_nil))) pe_int) (pe_op op_addU (pe_op op_sub (pe_ix ix_seq (pe_ix ix_seq (pv 1) (pv 4) (fun _ _ => rfl)) pe_int (fun _ _ => rfl)) (pv 5)) pe_int))))
 (pss_one (ps_expr (pe_bm PySem.F.plainAttrs_list PySem.F.slot_list_append PySem.F.type_list_append mt_append (pv 3) (pa_cons (pe_op op_addU (pe_lst (pa_cons (pv 6) pa_nil)) (pe_lc (own := [("_law_j", 7)]) (g := gName 7) (by rfl) sc_law.nd (pi_range1 (by rfl) T.f_range (pa_cons (pe_callB call_lenU (by rfl) T.f_len (by decide +kernel) (pa_cons (pe_ix ix_seq (pv 2) (pv 4) (fun _ _ => rfl)) pa_nil)) pa_nil)) (blkOk_by (own := [("_law_j", 7)]) (N := ["_law_script", "_law_bounds_here", "_law_marks_here", "_law_more", "_law_k", "_law_low", "_law_extra", "_law_j", "_law_way", "_law_twist", "_law_turn", "_law_step", "_law_ones", "_law_others", "_law_one", "_law_own", "_law_other", "_law_agreed", "_law_codes"]) (sc := defScope s_law) (by decide +kernel)) (fun _ _ _ _ _ => pg_name (i := 7) sc_law.nd rfl (Or.inl rfl)) (fun _ _ _ _ _ => pts_nil) (fun _ _ _ _ _ => (pe_ix ix_seq (pe_ix ix_seq (pv 2) (pv 4) (fun _ _ => rfl)) (pe_op op_sub (pe_op op_sub (pe_callB call_lenU (by rfl) T.f_len (by decide +kernel) (pa_cons (pe_ix ix_seq (pv 2) (pv 4) (fun _ _ => rfl)) pa_nil)) pe_int) (pv 7)) (fun _ _ => rfl))))) pa_nil)))))))
 (pss_cons (ps_set (i := 8) sc_law.nd rfl (by first | exact Or.inl rfl | exact Or.inr rfl) (pe_op op_mod (pe_op op_fdivW (pe_cal (cal__law_at T) hr (by omega) (by rfl) (pa_cons (pv 0) (pa_cons pe_int pa_nil))) pe_int) pe_int))
 (pss_cons (ps_set (i := 9) sc_law.nd rfl (by first | exact Or.inl rfl | exact Or.inr rfl) (pe_op op_addU pe_int (pe_op op_mod (pe_op op_fdivW (pe_cal (cal__law_at T) hr (by omega) (by rfl) (pa_cons (pv 0) (pa_cons pe_int pa_nil))) pe_int) pe_int)))
 (pss_cons (ps_set (i := 10) sc_law.nd rfl (by first | exact Or.inl rfl | exact Or.inr rfl) (pe_op op_addU pe_int (pe_op op_mod (pe_op op_fdivW (pe_cal (cal__law_at T) hr (by omega) (by rfl) (pa_cons (pv 0) (pa_cons pe_int pa_nil))) pe_int) pe_int)))
 (pss_cons (ps_set (i := 11) sc_law.nd rfl (by first | exact Or.inl rfl | exact Or.inr rfl) (pe_op op_addU pe_int (pe_op op_mod (pe_cal (cal__law_at T) hr (by omega) (by rfl) (pa_cons (pv 0) (pa_cons pe_int pa_nil))) (pe_op op_pow pe_int pe_int))))
 (pss_cons (ps_ndefMS (st := s__law_ones) (T := [(P0, nm_law)]) (i := 12) rfl TB hc (List.mem_singleton.mpr rfl) (by rfl) (nm_u P0) (ndef_free nb__law_ones) rfl rfl rfl sc_law.nd rfl (by first | exact Or.inl rfl | exact Or.inr rfl) (by first | exact Or.inl rfl | exact Or.inr rfl))
 (pss_cons (ps_ndefMS (st := s__law_others) (T := [(P0, nm_law)]) (i := 13) rfl TB hc (List.mem_singleton.mpr rfl) (by rfl) (nm_u P0) (ndef_free nb__law_others) rfl rfl rfl sc_law.nd rfl (by first | exact Or.inl rfl | exact Or.inr rfl) (by first | exact Or.inl rfl | exact Or.inr rfl))
 (pss_cons (ps_set (i := 14) sc_law.nd rfl (by first | exact Or.inl rfl | exact Or.inr rfl) (pe_calLk (z := z__law_ones) (cal_built T (phi_ok T)) (fun ok => Caps.made ok (ndef_free nb__law_ones) (ndef_fr nb__law_ones) rfl) (fun _ => rfl) hr (by omega) (by rfl) (pa_cons (pe_callTy call_list_of (by rfl) T.f_list (by decide +kernel) (pa_cons (pv 1) pa_nil)) (pa_cons (pe_lc (own := [("_law_own", 15)]) (g := gName 15) (by rfl) sc_law.nd (pi_U (pv 2)) (blkOk_by (own := [("_law_own", 15)]) (N := ["_law_script", "_law_bounds_here", "_law_marks_here", "_law_more", "_law_k", "_law_low", "_law_extra", "_law_j", "_law_way", "_law_twist", "_law_turn", "_law_step", "_law_ones", "_law_others", "_law_one", "_law_own", "_law_other", "_law_agreed", "_law_codes"]) (sc := defScope s_law) (by decide +kernel)) (fun _ _ _ _ _ => pg_name (i := 15) sc_law.nd rfl (Or.inl rfl)) (fun _ _ _ _ _ => pts_nil) (fun _ _ _ _ _ => (pe_callTy call_list_of (by rfl) T.f_list (by decide +kernel) (pa_cons (pv 15) pa_nil)))) (pa_cons (pv 12) pa_nil)))))
 (pss_cons (ps_set (i := 16) sc_law.nd rfl (by first | exact Or.inl rfl | exact Or.inr rfl) (pe_calLk (z := z__law_others) (cal_built T (phi_ok T)) (fun ok => Caps.made ok (ndef_free nb__law_others) (ndef_fr nb__law_others) rfl) (fun _ => rfl) hr (by omega) (by rfl) (pa_cons (pe_callTy call_list_of (by rfl) T.f_list (by decide +kernel) (pa_cons (pv 1) pa_nil)) (pa_cons (pe_lc (own := [("_law_own", 15)]) (g := gName 15) (by rfl) sc_law.nd (pi_U (pv 3)) (blkOk_by (own := [("_law_own", 15)]) (N := ["_law_script", "_law_bounds_here", "_law_marks_here", "_law_more", "_law_k", "_law_low", "_law_extra", "_law_j", "_law_way", "_law_twist", "_law_turn", "_law_step", "_law_ones", "_law_others", "_law_one", "_law_own", "_law_other", "_law_agreed", "_law_codes"]) (sc := defScope s_law) (by decide +kernel)) (fun _ _ _ _ _ => pg_name (i := 15) sc_law.nd rfl (Or.inl rfl)) (fun _ _ _ _ _ => pts_nil) (fun _ _ _ _ _ => (pe_callTy call_list_of (by rfl) T.f_list (by decide +kernel) (pa_cons (pv 15) pa_nil)))) (pa_cons (pv 13) pa_nil)))))
 (pss_cons (ps_set (i := 17) sc_law.nd rfl (by first | exact Or.inl rfl | exact Or.inr rfl) pe_bl)
 (pss_cons (ps_for PassesOwn.never rfl (pi_U (pe_cal (cal__law_corners T) hr (by omega) (by rfl) (pa_cons (pe_cal (cal__law_lows T) hr (by omega) (by rfl) (pa_cons (pv 1) (pa_cons (pv 3) pa_nil))) pa_nil))) (pg_name (i := 18) sc_law.nd rfl (by first | exact Or.inl rfl | exact Or.inr rfl))
 (pss_one (ps_if (pt_cmpR (op_neD hr.units) (pe_fnvQ (i := 12) (z := z__law_ones) (clo__law_ones T) (fun ok => Caps.made ok (ndef_free nb__law_ones) (ndef_fr nb__law_ones) rfl) hr (by omega) rfl (by first | exact Or.inl rfl | exact Or.inr (Or.inl rfl) | exact Or.inr (Or.inr rfl)) (pv 18)) (pe_fnvQ (i := 13) (z := z__law_others) (clo__law_others T) (fun ok => Caps.made ok (ndef_free nb__law_others) (ndef_fr nb__law_others) rfl) hr (by omega) rfl (by first | exact Or.inl rfl | exact Or.inr (Or.inl rfl) | exact Or.inr (Or.inr rfl)) (pv 18)) (nomark _))
 (pss_one (ps_set (i := 17) sc_law.nd rfl (by first | exact Or.inl rfl | exact Or.inr rfl) pe_bl))
 pss_nil)))
 (pss_one (ps_ret (pe_and (pe_callB call_isi (by rfl) T.f_isinstance (by decide +kernel) (pa_cons (pv 14) (pa_cons (pe_bltn (v := .ty "tuple") (by rfl) T.f_tuple (by decide +kernel) rfl) pa_nil))) (pe_and (pe_callB call_isi (by rfl) T.f_isinstance (by decide +kernel) (pa_cons (pv 16) (pa_cons (pe_bltn (v := .ty "tuple") (by rfl) T.f_tuple (by decide +kernel) rfl) pa_nil))) (pe_one (pe_cmpR (op_eqD hr.units) (pe_cmpR (op_eqD hr.units) (pv 14) (pv 16) (nomark _)) (pv 17) (nomark _))))))))))))))))))))), (dx_seq (dx_ds (ds_set (de_cal (da_cons de_var da_nil))))
 (dx_seq (dx_ds (ds_set (de_cal (da_cons de_var (da_cons de_var da_nil)))))
 (dx_seq (dx_ds (ds_own (dn_lst da_nil)))
 (dx_seq (dx_ds (ds_for (di_r1 (da_cons de_lenV da_nil)) dg_name
 (ds_seq (ds_set (de_op od_ix (de_ixV de_var) de_int))
 (ds_seq (ds_set (de_op od_add de_var (de_op od_mod (de_op od_fdiv (de_cal (da_cons de_var (da_cons (de_op od_add de_int de_var) da_nil))) de_int) (de_op od_add (de_op od_sub (de_op od_ix (de_ixV de_var) de_int) de_var) de_int))))
 (ds_app (de_op od_add (de_new (dn_lst (da_cons de_var da_nil))) (de_new (dn_lc (i := 7) (di_r1 (da_cons (de_callB cd_len (da_cons (de_ixV de_var) da_nil)) da_nil)) dt_yes (de_op od_ix (de_ixV de_var) (de_op od_sub (de_op od_sub (de_callB cd_len (da_cons (de_ixV de_var) da_nil)) de_int) de_var))))))))))
 (dx_seq (dx_ds (ds_set (de_op od_mod (de_op od_fdiv (de_cal (da_cons de_var (da_cons de_int da_nil))) de_int) de_int)))
 (dx_seq (dx_ds (ds_set (de_op od_add de_int (de_op od_mod (de_op od_fdiv (de_cal (da_cons de_var (da_cons de_int da_nil))) de_int) de_int))))
 (dx_seq (dx_ds (ds_set (de_op od_add de_int (de_op od_mod (de_op od_fdiv (de_cal (da_cons de_var (da_cons de_int da_nil))) de_int) de_int))))
 (dx_seq (dx_ds (ds_set (de_op od_add de_int (de_op od_mod (de_cal (da_cons de_var (da_cons de_int da_nil))) (de_op od_pow de_int de_int)))))
 (dx_seq (dx_frz (is := [3]) dx_ndef)
 (dx_seq (dx_frz (is := [3]) dx_ndef)
 (dx_ds (ds_seq (ds_set (de_calC (k := 2) (da_cons (de_new (dn_listOf (da_cons de_var da_nil))) (da_cons (de_new (dn_lc (i := 15) (di_U de_var) dt_yes (de_new (dn_listOf (da_cons de_var da_nil))))) (da_cons de_var da_nil)))))
 (ds_seq (ds_frz (is := [3]) (ds_set (de_calC (k := 2) (da_cons (de_new (dn_listOf (da_cons de_var da_nil))) (da_cons (de_new (dn_lc (i := 15) (di_U de_var) dt_yes (de_new (dn_listOf (da_cons de_var da_nil))))) (da_cons de_var da_nil))))))
 (ds_seq (ds_set de_bl)
 (ds_seq (ds_frz (is := [3]) (ds_for (di_U (de_cal (da_cons (de_cal (da_cons de_var (da_cons de_var da_nil))) da_nil))) dg_name
 (ds_if (dt_test (de_op od_ne (de_fnvQ de_var) (de_fnvQ de_var)))
 (ds_set de_bl)
 ds_next)))
 (ds_ret (de_andV (de_callB cd_isi (da_cons de_var (da_cons de_raw da_nil))) (de_andV (de_callB cd_isi (da_cons de_var (da_cons de_raw da_nil))) (de_op od_eq (de_op od_eq de_var de_var) de_var)))))))))))))))))))⟩

end
end K35
/-! ## K35p -/
namespace K35
open PySem PySem.Spec PyProof.Rows L2 LamX NdefX Pu
/-! ### stretches -/
theorem stretches_loop (lo hi : Int) (mk : D) : ∀ (ms : List Int) (s : Int) (told : List D) (x : S), told.length + ms.length < 1000000 →
    ∃ x', forD (gN 5) (sIf (dTest (dChain ltD leD (dVar 4) (dVar 5) (dVar 1)))
      (sSeq (sApp 3 (dTup (dCons (dVar 4) (dCons (dOp subD (dVar 5) (dC (.int 1))) dNil)))) (sSet 4 (dVar 5))) sNext) (ms.map D.int) [.val (.int lo), .val (.int hi), .val mk, .own told, .val (.int s), x] =
      .nx [.val (.int lo), .val (.int hi), .val mk, .own (told ++ (strInit hi s ms).map prD), .val (.int (strLast hi s ms)), x']
  | [], s, told, x, _ => ⟨x, by simp [forD, strInit, strLast]⟩
  | m :: ms, s, told, x, hl => by
    simp only [List.length_cons] at hl
    simp only [List.map_cons, forD]
    by_cases h1 : s < m
    · by_cases h2 : m ≤ hi
      · obtain ⟨x', e⟩ := stretches_loop lo hi mk ms m (told ++ [prD (s, m - 1)]) (.val (.int m)) (by simp; omega)
        refine ⟨x', ?_⟩
        have h3 : told.length < 1000000 := by omega
        simp [h1, h2, h3, strInit, strLast, prD] at e ⊢
        exact e
      · obtain ⟨x', e⟩ := stretches_loop lo hi mk ms s told (.val (.int m)) (by omega)
        refine ⟨x', ?_⟩
        simp [h1, h2, strInit, strLast] at e ⊢
        exact e
    · obtain ⟨x', e⟩ := stretches_loop lo hi mk ms s told (.val (.int m)) (by omega)
      refine ⟨x', ?_⟩
      simp [h1, strInit, strLast] at e ⊢
      exact e
theorem stretches_eq (lo hi : Int) (ms : List Int) (h : ms.length < 1000) : d_stretches [.int lo, .int hi, iD ms] = .ok (bD (strF hi lo (srt ms))) := by
  have hl : (srt ms).length = ms.length := (srt_perm ms).length_eq
  obtain ⟨x', e⟩ := stretches_loop lo hi (.lst (ms.map D.int)) (srt ms) lo [] .emp (by simp; omega)
  have hc : (strInit hi lo (srt ms)).length < 1000000 := by
    have := strF_len hi (srt ms) lo
    rw [strF_eq, List.length_append] at this
    simp at this
    omega
  simp [d_stretches, runD, b_stretches, sortD, onInts, intsOf_map, List.replicate, e, hc, strF_eq, prD, iD, bD]
/-! ### grain -/
theorem grain_le (bs : List (Int × Int)) (Ls : List (List Int)) (q : Nat) (hB : ∀ k ≤ bs.length, q ^ k ≤ 1000) (hq : q ≤ 1000) (hb : bs.length ≤ 3) (hl : Ls.length = bs.length) (hs : ∀ L ∈ Ls, L.length < 1000) (hf : ∀ (k : Nat) b L, bs[k]? = some b → Ls[k]? = some L → (strF b.2 b.1 (srt L)).length ≤ q) :
    ∃ c : Nat, d_grain [bD bs, mD Ls] = .ok (.int (c : Int)) ∧ c ≤ q ^ bs.length := by
  obtain ⟨ρ', e, c, x, rfl, h1⟩ := forD_rng (g := gN 3) (body := sSet 2 (dOp mulD (dVar 2) (dCB lenD (dCons (dCal 3 d_stretches (dCons (dOp ixD (dIxV 0 (dVar 3)) (dC (.int 0))) (dCons (dOp ixD (dIxV 0 (dVar 3)) (dC (.int 1))) (dCons (dIxV 1 (dVar 3)) dNil)))) dNil))))
    (ρ := [.val (bD bs), .val (mD Ls), .val (.int 1), .emp]) (fun k ρ => ∃ (c : Nat) (x : S), ρ = [.val (bD bs), .val (mD Ls), .val (.int (c : Int)), x] ∧ c ≤ q ^ k) bs.length ⟨1, .emp, rfl, by simp⟩ (by
      rintro k ρ hk ⟨c, x, rfl, c1⟩
      have hb1 : bs[k]? = some bs[k] := List.getElem?_eq_getElem hk
      have hL1 : Ls[k]? = some Ls[k] := List.getElem?_eq_getElem (by omega)
      have hsl := hs Ls[k] (List.getElem_mem _)
      have hlen := hf k _ _ hb1 hL1
      have qk := hB k (by omega)
      have f1 : fitI (c : Int) = true := fit_nat (by omega)
      have f2 : fitI ((strF bs[k].2 bs[k].1 (srt Ls[k])).length : Int) = true := fit_nat (by omega)
      have st := stretches_eq bs[k].1 bs[k].2 Ls[k] hsl
      generalize strF bs[k].2 bs[k].1 (srt Ls[k]) = Z at *
      refine ⟨_, [.val (bD bs), .val (mD Ls), .val (.int ((c * Z.length : Nat) : Int)), .val (.int k)], ev_gN, ?_, c * Z.length, _, rfl, ?_⟩
      · simp [bD_at hb1, mD_at hL1, st, ev_mul f1 f2]
      · rw [Nat.pow_succ]
        exact Nat.mul_le_mul c1 hlen)
  refine ⟨c, ?_, h1⟩
  simp [d_grain, runD, b_grain, List.replicate, rng1_nat (show bs.length ≤ 1000000 by omega), e]
/-! ### drawn -/
theorem drawn_loop {n : Nat} (hn : n ≤ 20) (pd : D) : ∀ (ps : List (Int × Int × Fo n)) (c : Int × Int × Fo n) (done : List D) (x : S), done.length + ps.length + 1 < 1000000 →
    ∃ x', forD (gN 2) (sIf (dAnd (dTest (dOp gtD (dLenV 1) (dC (.int 0)))) (dTest (dOp eqD (dOp ixD (dIxV 1 (dUn negD (dC (.int 1)))) (dC (.int 2))) (dIxV 2 (dC (.int 2))))))
 (sSetIx 1 (dUn negD (dC (.int 1))) (dTup (dCons (dOp ixD (dIxV 1 (dUn negD (dC (.int 1)))) (dC (.int 0))) (dCons (dIxV 2 (dC (.int 1))) (dCons (dIxV 2 (dC (.int 2))) dNil)))))
 (sApp 1 (dVar 2))) (ps.map trD) [.val pd, .own (done ++ [trD c]), x] = .nx [.val pd, .own (done ++ (mrg c ps).map trD), x']
  | [], c, done, x, _ => ⟨x, by simp [mrg]⟩
  | p :: ps, c, done, x, hl => by
    simp only [List.length_cons] at hl
    simp only [List.map_cons, forD]
    have h3 : done.length + 1 < 1000000 := by omega
    have h4 : (0 : Int) < (done.length : Int) + 1 := by omega
    by_cases h : c.2.2 = p.2.2
    · obtain ⟨x', e⟩ := drawn_loop hn pd ps (c.1, p.2.1, p.2.2) done (.val (trD p)) (by omega)
      refine ⟨x', ?_⟩
      simp only [mrg, if_pos h]
      have e2 : D.tup [D.int c.1, D.int p.2.1, foD n p.2.2] = trD ((c.1, p.2.1, p.2.2) : Int × Int × Fo n) := rfl
      simp [h3, h4, h, eqD_foD _ _ hn, e2]
      exact e
    · obtain ⟨x', e⟩ := drawn_loop hn pd ps p (done ++ [trD c]) (.val (trD p)) (by simp; omega)
      refine ⟨x', ?_⟩
      simp only [mrg, if_neg h]
      simp [h3, h4, h, eqD_foD _ _ hn] at e ⊢
      exact e
theorem drawn_eq {n : Nat} (hn : n ≤ 20) (ps : List (Int × Int × Fo n)) (hl : ps.length < 10000) : d_drawn [.lst (ps.map trD)] = .ok (foD (n + 1) (drF ps)) := by
  cases ps with
  | nil => simp [d_drawn, runD, b_drawn, List.replicate, drF, tupD, foD]
  | cons p ps =>
    simp only [List.length_cons] at hl
    obtain ⟨x', e⟩ := drawn_loop hn (.lst ((p :: ps).map trD)) ps p [] (.val (trD p)) (by simp; omega)
    have hlen := mrg_len ps p
    simp only [List.nil_append, List.map_cons] at e
    have hc : (mrg p ps).length ≤ 1000000 := by omega
    simp [d_drawn, runD, b_drawn, List.replicate, drF, forD, e, tupD, foD_succ, hc]
/-! ### built_behind, built -/
@[simp] theorem ev_cloQ {ρ : En} {i : Nat} {Φ : CloD → List D → D → Res D} {f : En → Res D} : dCloQ i Φ f ρ = (match ρ[i]? with
  | some (.val (.clo z ws)) => (f ρ).bind fun d => if noClo d = true ∧ noClos ws = true then noExc (Φ z ws d) else .bad
  | _ => .bad) := rfl
section
variable {Φ : CloD → List D → D → Res D} {z : CloD} {ws : List D} {leaf : List Int → Int} {N : Nat}
theorem bb_loop {n : Nat} (f : Int × Int → Fo n) (r : List D → Res D) (rows codes : D) (cs : List Int) (hc : codes = iD cs) (hcs : cs.length < 1000) : ∀ (ps : List (Int × Int)) (acc : List D) (x y : S), acc.length + ps.length < 1000000 → (∀ p ∈ ps, r [rows, iD (cs ++ [p.1]), .clo z ws] = .ok (foD n (f p))) →
    ∃ x' y', forD (gT 2 (gsCons (gN 4) (gsCons (gN 5) gsNil))) (sApp 3 (dTup (dCons (dVar 4) (dCons (dVar 5) (dCons (dCal 3 r (dCons (dVar 0) (dCons (dOp addD (dVar 1) (dNew (nLst (dCons (dVar 4) dNil)))) (dCons (dVar 2) dNil)))) dNil)))))
      (ps.map prD) [.val rows, .val codes, .val (.clo z ws), .own acc, x, y] = .nx [.val rows, .val codes, .val (.clo z ws), .own (acc ++ ps.map fun p => trD ((p.1, p.2, f p) : Int × Int × Fo n)), x', y']
  | [], acc, x, y, _, _ => ⟨x, y, by simp⟩
  | p :: ps, acc, x, y, hl, h => by
    simp only [List.length_cons] at hl
    obtain ⟨x', y', e⟩ := bb_loop f r rows codes cs hc hcs ps (acc ++ [trD ((p.1, p.2, f p) : Int × Int × Fo n)]) (.val (.int p.1)) (.val (.int p.2)) (by simp; omega) fun q hq => h q (List.mem_cons_of_mem _ hq)
    refine ⟨x', y', ?_⟩
    have h1 := h p List.mem_cons_self
    have h2 : addD codes (.lst [.int p.1]) = some (iD (cs ++ [p.1])) := by
      rw [hc]
      have : cs.length + 1 ≤ 1000000 := by omega
      simp [iD, this]
    have h3 : acc.length < 1000000 := by omega
    simp only [List.map_cons, forD]
    simp [prD, h1, h2, h3, trD] at e ⊢
    exact e
theorem bb_eq (hN : N ≤ 20) (hw : noClos ws = true) (hleaf : ∀ cs : List Int, cs.length = N → Φ z ws (.lst (cs.map D.int)) = .ok (.int (leaf cs))) : ∀ (rs pre : List (List (Int × Int))) (cs : List Int) (k : Nat), pre.length + rs.length = N → cs.length = pre.length → (∀ r ∈ rs, r.length < 10000) →
    d_built_behind Φ (rs.length + 1 + k) [rD (pre ++ rs), iD cs, .clo z ws] = .ok (foD rs.length (bld leaf rs cs))
  | [], pre, cs, k, hn, hc, _ => by
    have e1 : ([] : List (List (Int × Int))).length + 1 + k = k + 1 := by simp; omega
    rw [e1]
    have hl : Φ z ws (.lst (cs.map D.int)) = .ok (.int (leaf cs)) := hleaf cs (by simpa using (by omega : cs.length = N))
    have hq : (cs.length : Int) = ((pre ++ []).length : Int) := by rw [List.append_nil, hc]
    have hq' : (cs.length : Int) = (pre.length : Int) := by rw [hc]
    simp [d_built_behind, runD, b_built_behind, List.replicate, hq', hl, noClo_lst, noClos_ints, hw, bld, foD]
  | r :: rs, pre, cs, k, hn, hc, hr => by
    simp only [List.length_cons] at hn
    have e1 : (r :: rs).length + 1 + k = (rs.length + 1 + k) + 1 := by simp only [List.length_cons]; omega
    rw [e1]
    have hq : ¬ ((cs.length : Int) = ((pre ++ r :: rs).length : Int)) := by
      simp only [List.length_append, List.length_cons]
      omega
    have hq' : ¬ ((cs.length : Int) = (pre.length : Int) + ((rs.length : Int) + 1)) := by omega
    have hat : ixD (rD (pre ++ r :: rs)) (.int (cs.length : Int)) = some (bD r) := rD_at (by rw [hc]; simp)
    obtain ⟨x', y', e⟩ := bb_loop (fun p => bld leaf rs (cs ++ [p.1])) (d_built_behind Φ (rs.length + 1 + k)) (rD (pre ++ r :: rs)) (iD cs) cs rfl (by omega) r [] .emp .emp (by
      have := hr r List.mem_cons_self
      simp only [List.length_nil]
      omega) fun p hp => by
        have ih := bb_eq hN hw hleaf rs (pre ++ [r]) (cs ++ [p.1]) k (by simp; omega) (by simp [hc]) fun q hq => hr q (List.mem_cons_of_mem _ hq)
        rw [List.append_assoc] at ih
        exact ih
    have hd := drawn_eq (n := rs.length) (by omega) (r.map fun p => ((p.1, p.2, bld leaf rs (cs ++ [p.1])) : Int × Int × Fo rs.length)) (by rw [List.length_map]; exact hr r List.mem_cons_self)
    rw [List.map_map] at hd
    have hd' : d_drawn [.lst (r.map fun p => trD ((p.1, p.2, bld leaf rs (cs ++ [p.1])) : Int × Int × Fo rs.length))] = .ok (foD (rs.length + 1) (drF (r.map fun p => ((p.1, p.2, bld leaf rs (cs ++ [p.1])) : Int × Int × Fo rs.length)))) := hd
    simp [d_built_behind, runD, b_built_behind, List.replicate, hq', hat, e, hd', bld]
def rowsOf (bs : List (Int × Int)) (Ls : List (List Int)) : List (List (Int × Int)) := List.zipWith (fun b L => strF b.2 b.1 (srt L)) bs Ls
theorem rows_len {bs : List (Int × Int)} {Ls : List (List Int)} (hl : Ls.length = bs.length) : (rowsOf bs Ls).length = bs.length := by unfold rowsOf; rw [List.length_zipWith, hl, Nat.min_self]
theorem rows_at {bs : List (Int × Int)} {Ls : List (List Int)} {k : Nat} {b : Int × Int} {L : List Int} (h1 : bs[k]? = some b) (h2 : Ls[k]? = some L) : (rowsOf bs Ls)[k]? = some (strF b.2 b.1 (srt L)) := by
  unfold rowsOf
  rw [List.getElem?_zipWith, h1, h2]
theorem built_eq (q : Nat) (bs : List (Int × Int)) (Ls : List (List Int)) (hN : bs.length ≤ 3) (hB : ∀ k ≤ bs.length, q ^ k ≤ 300) (hl : Ls.length = bs.length) (hs : ∀ L ∈ Ls, L.length < 1000) (hf : ∀ (k : Nat) b L, bs[k]? = some b → Ls[k]? = some L → (strF b.2 b.1 (srt L)).length ≤ q)
    (hw : noClos ws = true) (hleaf : ∀ cs : List Int, cs.length = bs.length → Φ z ws (.lst (cs.map D.int)) = .ok (.int (leaf cs))) :
    d_built Φ [bD bs, mD Ls, .clo z ws] = .ok (foD (rowsOf bs Ls).length (bld leaf (rowsOf bs Ls) [])) := by
  have q1000 : ∀ k ≤ bs.length, q ^ k ≤ 1000 := fun k hk => Nat.le_trans (hB k hk) (by decide)
  have rl := rows_len hl
  have fuel : ∃ j, 5 = (rowsOf bs Ls).length + 1 + j := ⟨4 - bs.length, by omega⟩
  obtain ⟨j, hj⟩ := fuel
  by_cases h0 : bs.length = 0
  · have b0 : bs = [] := List.length_eq_zero_iff.mp h0
    subst b0
    have l0 : Ls = [] := List.length_eq_zero_iff.mp (by simpa using hl)
    subst l0
    obtain ⟨c, ec, hc⟩ := grain_le [] [] 1 (fun k _ => by simp) (by decide) (by decide) rfl (fun L h => by simp at h) (fun k b L h => by simp at h)
    have e := bb_eq (Φ := Φ) (z := z) (ws := ws) (leaf := leaf) (N := 0) (by decide) hw (fun cs h => hleaf cs (by simpa using h)) [] [] [] 4 rfl rfl fun r h => by simp at h
    have cc : ¬ ((300 : Int) < (c : Int)) := by simp at hc; omega
    have e' : d_built_behind Φ 5 [rD [], iD [], .clo z ws] = .ok (foD 0 (bld leaf [] [])) := e
    have hr : rng1 [.int ((0 : Nat) : Int)] = .ok [] := rng1_nat (n := 0) (by decide)
    simp [rD, iD] at e' hr
    simp [d_built, runD, b_built, List.replicate, ec, cc, hr, lcD, e', rowsOf, bld]
  · have q0 : q ≤ 1000 := by
      have := q1000 1 (by omega)
      simpa using this
    obtain ⟨c, ec, hc⟩ := grain_le bs Ls q q1000 q0 hN hl hs hf
    have cc : ¬ ((300 : Int) < (c : Int)) := by
      have := hB bs.length (Nat.le_refl _)
      omega
    have e := bb_eq (Φ := Φ) (z := z) (ws := ws) (leaf := leaf) (N := bs.length) (by omega) hw hleaf (rowsOf bs Ls) [] [] j (by rw [rl]; simp) rfl fun r hr => by
      obtain ⟨k, hk⟩ := List.mem_iff_getElem?.mp hr
      have hkl := (List.getElem?_eq_some_iff.mp hk).1
      rw [rl] at hkl
      have e1 : bs[k]? = some bs[k] := List.getElem?_eq_getElem hkl
      have e2 : Ls[k]? = some Ls[k] := List.getElem?_eq_getElem (by omega)
      rw [rows_at e1 e2] at hk
      cases hk
      have := hf k _ _ e1 e2
      omega
    rw [← hj, List.nil_append] at e
    have hrows : lcD 4 tYesD (dCal 3 d_stretches (dCons (dOp ixD (dIxV 0 (dVar 4)) (dC (.int 0))) (dCons (dOp ixD (dIxV 0 (dVar 4)) (dC (.int 1))) (dCons (dIxV 1 (dVar 4)) dNil)))) [.val (bD bs), .val (mD Ls), .val (.clo z ws), .emp, .emp] ((List.range bs.length).map fun (k : Nat) => D.int (k : Int)) = .ok ((rowsOf bs Ls).map bD) := by
      rw [lcD_rng (fun k => bD ((rowsOf bs Ls).getD k [])) fun k hk => ?_]
      · congr 1
        apply List.ext_getElem?
        intro k
        rw [List.getElem?_map, List.getElem?_map]
        by_cases hk : k < bs.length
        · rw [List.getElem?_range hk, List.getElem?_eq_getElem (by rw [rl]; exact hk)]
          simp [List.getElem?_eq_getElem (show k < (rowsOf bs Ls).length by rw [rl]; exact hk)]
        · rw [List.getElem?_eq_none (by rw [List.length_range]; omega), List.getElem?_eq_none (by rw [rl]; omega)]
          rfl
      · have e1 : bs[k]? = some bs[k] := List.getElem?_eq_getElem hk
        have e2 : Ls[k]? = some Ls[k] := List.getElem?_eq_getElem (by omega)
        have st := stretches_eq bs[k].1 bs[k].2 Ls[k] (hs _ (List.getElem_mem _))
        simp [bD_at e1, mD_at e2, st, rows_at e1 e2]
    have e' : d_built_behind Φ 5 [.lst ((rowsOf bs Ls).map bD), .lst [], .clo z ws] = .ok (foD (rowsOf bs Ls).length (bld leaf (rowsOf bs Ls) [])) := e
    simp [d_built, runD, b_built, List.replicate, ec, cc, rng1_nat (show bs.length ≤ 1000000 by omega), hrows, e', show bs.length < 1000000 by omega]
end
/-! ### the law's small defs -/
theorem at_eq (ns : List Int) (k : Nat) : d__law_at [.scr ns, .int k] = .ok (.int (aT ns k)) := by
  by_cases h : k < ns.length
  · have e := scr_at (List.getElem?_eq_getElem h)
    have h2 : (k : Int) < (ns.length : Int) := by omega
    simp [d__law_at, runD, b__law_at, h2, e, h, aT]
  · have h2 : ¬ ((k : Int) < (ns.length : Int)) := by omega
    simp [d__law_at, runD, b__law_at, h2, h, aT]
theorem bounds_eq (ns : List Int) : ∃ bs : List (Int × Int), d__law_bounds [.scr ns] = .ok (bD bs) ∧ 1 ≤ bs.length ∧ bs.length ≤ 3 ∧ ∀ b ∈ bs, b.1 ≤ b.2 := by
  have m0 : 0 ≤ aT ns 0 % 3 := Int.emod_nonneg _ (by decide)
  have m1 : aT ns 0 % 3 < 3 := Int.emod_lt_of_pos _ (by decide)
  obtain ⟨n, hn⟩ : ∃ n : Nat, (1 + aT ns 0 % 3 : Int) = (n : Int) := ⟨(1 + aT ns 0 % 3).toNat, by omega⟩
  have f5 : fitI 5 = true := fit_small (by decide)
  obtain ⟨T40, hp40, p40⟩ := ex40
  obtain ⟨T39, hp39, f39⟩ := ex39
  have f2 : fitI 2 = true := fit_small (by decide)
  have m5 := ev_mul f5 f39
  have e0 := at_eq ns 0
  have e0' : d__law_at [.scr ns, .int 0] = .ok (.int (aT ns 0)) := e0
  obtain ⟨ρ', e, bs, x, y, w, rfl, hl, hb⟩ := forD_rng (g := gN 2) (body := (sSeq (sSet 3 (dOp subD (dOp modD (dCal 2 d__law_at (dCons (dVar 0) (dCons (dOp addD (dC (.int 1)) (dOp mulD (dC (.int 2)) (dVar 2))) dNil))) (dOp powD (dC (.int 10)) (dC (.int 40)))) (dOp mulD (dC (.int 5)) (dOp powD (dC (.int 10)) (dC (.int 39))))))
 (sSeq (sSet 4 (dOp modD (dCal 2 d__law_at (dCons (dVar 0) (dCons (dOp addD (dC (.int 2)) (dOp mulD (dC (.int 2)) (dVar 2))) dNil))) (dOp powD (dC (.int 10)) (dC (.int 40)))))
 (sSeq (sIf (dTest (dOp eqD (dOp modD (dVar 4) (dC (.int 3))) (dC (.int 1))))
 (sSet 4 (dOp modD (dOp fdivD (dVar 4) (dC (.int 3))) (dC (.int 7))))
 sNext)
 (sApp 1 (dTup (dCons (dVar 3) (dCons (dOp addD (dVar 3) (dVar 4)) dNil)))))))) (ρ := [.val (.scr ns), .own [], .emp, .emp, .emp])
    (fun k ρ => ∃ (bs : List (Int × Int)) (x y w : S), ρ = [.val (.scr ns), .own (bs.map prD), x, y, w] ∧ bs.length = k ∧ ∀ b ∈ bs, b.1 ≤ b.2) n ⟨[], .emp, .emp, .emp, rfl, rfl, by simp⟩ (by
      rintro k ρ hk ⟨bs, x, y, w, rfl, hl, hb⟩
      have fk : fitI (k : Int) = true := fit_nat (by omega)
      have mk := ev_mul f2 fk
      have a1 : d__law_at [.scr ns, .int (1 + 2 * (k : Int))] = .ok (.int (aT ns (1 + 2 * k))) := by
        have := at_eq ns (1 + 2 * k)
        rwa [show ((1 + 2 * k : Nat) : Int) = 1 + 2 * (k : Int) by omega] at this
      have a2 : d__law_at [.scr ns, .int (2 + 2 * (k : Int))] = .ok (.int (aT ns (2 + 2 * k))) := by
        have := at_eq ns (2 + 2 * k)
        rwa [show ((2 + 2 * k : Nat) : Int) = 2 + 2 * (k : Int) by omega] at this
      generalize aT ns (1 + 2 * k) = A at *
      generalize aT ns (2 + 2 * k) = Bv at *
      have w0 : 0 ≤ Bv % T40 := Int.emod_nonneg _ (by omega)
      have hcap : bs.length < 1000000 := by omega
      have d3 : fdivD (.int (Bv % T40)) (.int 3) = some (.int (Bv % T40 / 3)) := fdiv_small (by decide) (by decide)
      have eA : modD (.int A) (.int T40) = some (.int (A % T40)) := ev_mod p40
      have eB : modD (.int Bv) (.int T40) = some (.int (Bv % T40)) := ev_mod p40
      generalize hW : Bv % T40 = Wd at *
      generalize hL : A % T40 = Lw at *
      generalize hT : (5 * T39 : Int) = T at *
      have e3 : modD (.int Wd) (.int 3) = some (.int (Wd % 3)) := ev_mod (by decide)
      have e7 : modD (.int (Wd / 3)) (.int 7) = some (.int (Wd / 3 % 7)) := ev_mod (by decide)
      have z7 : 0 ≤ Wd / 3 % 7 := Int.emod_nonneg _ (by decide)
      by_cases h : Wd % 3 = 1
      · refine ⟨_, [.val (.scr ns), .own ((bs ++ [(Lw - T, Lw - T + Wd / 3 % 7)]).map prD), .val (.int k), .val (.int (Lw - T)), .val (.int (Wd / 3 % 7))], ev_gN, ?_, _, _, _, _, rfl, by simp [hl], fun b hbm => ?_⟩
        · simp [mk, a1, a2, hp40, hp39, m5, eA, eB, e3, e7, d3, h, hcap, prD]
        · rcases List.mem_append.mp hbm with q | q
          · exact hb b q
          · rw [List.mem_singleton.mp q]
            show Lw - T ≤ Lw - T + Wd / 3 % 7
            omega
      · refine ⟨_, [.val (.scr ns), .own ((bs ++ [(Lw - T, Lw - T + Wd)]).map prD), .val (.int k), .val (.int (Lw - T)), .val (.int Wd)], ev_gN, ?_, _, _, _, _, rfl, by simp [hl], fun b hbm => ?_⟩
        · simp [mk, a1, a2, hp40, hp39, m5, eA, eB, e3, h, hcap, prD]
        · rcases List.mem_append.mp hbm with q | q
          · exact hb b q
          · rw [List.mem_singleton.mp q]
            show Lw - T ≤ Lw - T + Wd
            omega)
  refine ⟨bs, ?_, by omega, by omega, hb⟩
  have e3 : modD (.int (aT ns 0)) (.int 3) = some (.int (aT ns 0 % 3)) := ev_mod (by decide)
  generalize aT ns 0 % 3 = M at *
  simp [d__law_bounds, runD, b__law_bounds, List.replicate, e0', e3, hn, rng1_nat (show n ≤ 1000000 by omega), e, bD]
/-! ### marks -/
def mksOk (M c : Nat) (l : List Int) : Prop := l.length ≤ c ∧ ∀ x ∈ l, x ∈ l.take M
theorem mksOk_mono {M c c' : Nat} {l : List Int} (h : mksOk M c l) (hc : c ≤ c') : mksOk M c' l := ⟨Nat.le_trans h.1 hc, h.2⟩
theorem mksOk_short {M c : Nat} {l : List Int} {x : Int} (h : mksOk M c l) (hl : l.length < M) : mksOk M (c + 1) (l ++ [x]) := by
  have h1 := h.1
  refine ⟨by rw [List.length_append]; simp only [List.length_singleton]; omega, fun y hy => ?_⟩
  rw [List.take_of_length_le (by rw [List.length_append]; simp only [List.length_singleton]; omega)]
  exact hy
theorem mksOk_again {M c : Nat} {l : List Int} {x : Int} (h : mksOk M c l) (hl : ¬ l.length < M) (hx : x ∈ l.take M) : mksOk M (c + 1) (l ++ [x]) := by
  have h1 := h.1
  refine ⟨by rw [List.length_append]; simp only [List.length_singleton]; omega, fun y hy => ?_⟩
  rw [List.take_append_of_le_length (by omega)]
  rcases List.mem_append.mp hy with q | q
  · exact h.2 y q
  · rw [List.mem_singleton.mp q]
    exact hx
theorem ali_run (ns : List Int) (bs : List (Int × Int)) (M : Nat) (hM : 0 < M) (hb0 : 0 < bs.length) (hb : ∀ b ∈ bs, b.1 ≤ b.2) : ∀ (ks : List Nat) (Ms : List (List Int)) (c : Nat), c + ks.length < 1000 → Ms.length = bs.length → (∀ l ∈ Ms, mksOk M c l) → (∀ k ∈ ks, k < ns.length) →
    ∃ Ms' : List (List Int), aliF (dOp modD (dVar 5) (dLenV 1)) (dIxV 1 (dOp modD (dVar 5) (dLenV 1))) (dTest (dOp ltD (dLenV 6) (dVar 2))) (dOp addD (dOp subD (dIxV 4 (dC (.int 0))) (dC (.int 1))) (dOp modD (dIxV 0 (dVar 5)) (dOp addD (dOp subD (dIxV 4 (dC (.int 1))) (dIxV 4 (dC (.int 0)))) (dC (.int 3))))) (dIxV 6 (dOp modD (dIxV 0 (dVar 5)) (dVar 2)))
      [.val (.scr ns), .val (bD bs), .val (.int (M : Int)), .emp, .emp, .emp, .emp] (ks.map fun (k : Nat) => D.int (k : Int)) (Ms.map fun l => l.map D.int) = .ok (Ms'.map fun l => l.map D.int) ∧ Ms'.length = bs.length ∧ ∀ l ∈ Ms', mksOk M (c + ks.length) l
  | [], Ms, c, _, hl, h, _ => ⟨Ms, rfl, hl, h⟩
  | k :: ks, Ms, c, hc, hl, h, hk => by
    simp only [List.length_cons] at hc
    have hbl : (0 : Int) < (bs.length : Int) := by omega
    have e1 : modD (.int (k : Int)) (.int (bs.length : Int)) = some (.int ((k : Int) % (bs.length : Int))) := ev_mod hbl
    obtain ⟨j, hj, hj1, hj2⟩ := atI_mod (xs := Ms.map fun l => l.map D.int) (i := (k : Int)) (by rw [List.length_map, hl]; exact hb0)
    obtain ⟨j2, hj3, hj4, hj5⟩ := atI_mod (xs := bs.map prD) (i := (k : Int)) (by rw [List.length_map]; exact hb0)
    rw [List.length_map] at hj hj1 hj2 hj3 hj4 hj5
    rw [hl] at hj hj1 hj2
    have hjM : j < Ms.length := by omega
    have own : (Ms.map fun l => l.map D.int)[j]? = some (Ms[j].map D.int) := by rw [List.getElem?_map, List.getElem?_eq_getElem hjM]; rfl
    have hx : ixD (bD bs) (.int ((k : Int) % (bs.length : Int))) = some (prD bs[j2]) := by
      show atI (bs.map prD) _ = _
      rw [hj5, List.getElem?_map, List.getElem?_eq_getElem hj3]
      rfl
    have hbk := hb bs[j2] (List.getElem_mem _)
    generalize bs[j2] = b at *
    have hkn : k < ns.length := hk k List.mem_cons_self
    have hs := scr_at (List.getElem?_eq_getElem hkn)
    generalize ns[k] = s at *
    have ok := h Ms[j] (List.getElem_mem _)
    have e2 : modD (.int s) (.int (b.2 - b.1 + 3)) = some (.int (s % (b.2 - b.1 + 3))) := ev_mod (by omega)
    have cap : Ms[j].length < 1000000 := by
      have := ok.1
      omega
    have set_map : ∀ x : Int, (Ms.map fun l => l.map D.int).set j (Ms[j].map D.int ++ [D.int x]) = (Ms.set j (Ms[j] ++ [x])).map fun l => l.map D.int := fun x => by
      rw [List.map_set]
      simp
    have next : ∀ x : Int, mksOk M (c + 1) (Ms[j] ++ [x]) → ∀ l ∈ Ms.set j (Ms[j] ++ [x]), mksOk M (c + 1) l := fun x hx l hl => by
      rcases List.mem_or_eq_of_mem_set hl with q | q
      · exact mksOk_mono (h l q) (by omega)
      · rw [q]; exact hx
    have hjl : ixN (Ms.map fun l => l.map D.int).length ((k : Int) % (bs.length : Int)) = some j := by rw [List.length_map, hl]; exact hj1
    by_cases hlen : Ms[j].length < M
    · obtain ⟨Ms', e, g1, g2⟩ := ali_run ns bs M hM hb0 hb ks (Ms.set j (Ms[j] ++ [b.1 - 1 + s % (b.2 - b.1 + 3)])) (c + 1) (by omega) (by rw [List.length_set]; exact hl) (next _ (mksOk_short ok hlen)) fun q hq => hk q (List.mem_cons_of_mem _ hq)
      refine ⟨Ms', ?_, g1, fun l q => ?_⟩
      · have hlt : (Ms[j].length : Int) < (M : Int) := by omega
        rw [List.map_cons]
        unfold aliF
        simp only [List.getElem?_cons_succ, List.getElem?_cons_zero, List.set_cons_succ, List.set_cons_zero, ev_dOp, ev_dVar, ev_dLenV, ev_bo, ev_os, len_bD, e1, hjl, own, ev_dIxV, hx]
        simp [hlt, hs, e2, cap]
        rw [set_map]
        exact e
      · have := g2 l q
        rw [show c + 1 + ks.length = c + (k :: ks).length by simp only [List.length_cons]; omega] at this
        exact this
    · have hMl : M ≤ Ms[j].length := by omega
      have m0 : 0 ≤ s % (M : Int) := Int.emod_nonneg _ (by omega)
      have m1 : s % (M : Int) < (M : Int) := Int.emod_lt_of_pos _ (by omega)
      obtain ⟨i, hi⟩ : ∃ i : Nat, s % (M : Int) = (i : Int) := ⟨(s % (M : Int)).toNat, by omega⟩
      have hil : i < Ms[j].length := by omega
      have e4 : modD (.int s) (.int (M : Int)) = some (.int (s % (M : Int))) := ev_mod (by omega)
      have e5 : ixD (.lst (Ms[j].map D.int)) (.int (i : Int)) = some (.int Ms[j][i]) := iD_at (List.getElem?_eq_getElem hil)
      have hmem : Ms[j][i] ∈ Ms[j].take M := List.mem_take_iff_getElem.mpr ⟨i, by omega, rfl⟩
      obtain ⟨Ms', e, g1, g2⟩ := ali_run ns bs M hM hb0 hb ks (Ms.set j (Ms[j] ++ [Ms[j][i]])) (c + 1) (by omega) (by rw [List.length_set]; exact hl) (next _ (mksOk_again ok hlen hmem)) fun q hq => hk q (List.mem_cons_of_mem _ hq)
      refine ⟨Ms', ?_, g1, fun l q => ?_⟩
      · have hlt : ¬ (Ms[j].length : Int) < (M : Int) := by omega
        rw [List.map_cons]
        unfold aliF
        simp only [List.getElem?_cons_succ, List.getElem?_cons_zero, List.set_cons_succ, List.set_cons_zero, ev_dOp, ev_dVar, ev_dLenV, ev_bo, ev_os, len_bD, e1, hjl, own, ev_dIxV, hx]
        rw [← ev_ixL] at *
        simp [hlt, hs, e4, hi, cap]
        simp only [ev_ixL] at e5
        simp [e5]
        rw [set_map]
        exact e
      · have := g2 l q
        rw [show c + 1 + ks.length = c + (k :: ks).length by simp only [List.length_cons]; omega] at this
        exact this
def mostOf (n : Nat) : Nat := if n = 1 then 40 else if n = 2 then 5 else 2
theorem marks_eq (ns : List Int) (bs : List (Int × Int)) (hns : ns.length ≤ 63) (h1 : 1 ≤ bs.length) (h3 : bs.length ≤ 3) (hb : ∀ b ∈ bs, b.1 ≤ b.2) :
    ∃ Ls : List (List Int), d__law_marks [.scr ns, bD bs] = .ok (mD Ls) ∧ Ls.length = bs.length ∧ ∀ l ∈ Ls, mksOk (mostOf bs.length) 100 l := by
  have hM : ixD (.lst [.int 40, .int 5, .int 2]) (.int ((bs.length : Int) - 1)) = some (.int (mostOf bs.length : Int)) := by
    have : bs.length = 1 ∨ bs.length = 2 ∨ bs.length = 3 := by omega
    rcases this with q | q | q <;> rw [q] <;> simp [mostOf]
  have hM0 : 0 < mostOf bs.length := by
    unfold mostOf
    split
    · decide
    · split <;> decide
  generalize hm : mostOf bs.length = M at *
  have fr : ∀ x : S, iR2 (dCons (dC (.int 7)) (dCons (dCB min2D (dCons (dLenV 0) (dCons (dC (.int 406)) dNil))) dNil)) [.val (.scr ns), .val (bD bs), .val (.int (M : Int)), x, .emp, .emp, .emp] = .ok ((List.range' 7 (ns.length - 7)).map fun (k : Nat) => D.int (k : Int)) := fun x => by
    have hmin : min (ns.length : Int) 406 = (ns.length : Int) := by omega
    have hna : (ns.length : Int).natAbs ≤ 1000000000 := by omega
    have e : rng2 [.int 7, .int (ns.length : Int)] = .ok ((List.range' 7 (ns.length - 7)).map fun (k : Nat) => D.int (k : Int)) := by
      simp only [rng2]
      rw [if_pos ⟨by decide, hna⟩]
      congr 1
      rw [show ((ns.length : Int) - 7).toNat = ns.length - 7 by omega, List.range'_eq_map_range, List.map_map]
      apply List.map_congr_left
      intro k _
      show D.int _ = D.int _
      congr 1
    simp [iR2, hmin, e]
  obtain ⟨Ms', e, g1, g2⟩ := ali_run ns bs M hM0 (by omega) hb (List.range' 7 (ns.length - 7)) (bs.map fun _ => []) 0 (by rw [List.length_range']; omega) (by rw [List.length_map]) (fun l hl => by
    obtain ⟨_, _, rfl⟩ := List.mem_map.mp hl
    exact ⟨Nat.le_refl _, fun x hx => by simp at hx⟩) fun k hk => by
      rw [List.mem_range'_1] at hk
      omega
  refine ⟨Ms', ?_, g1, fun l hl => mksOk_mono (g2 l hl) (by rw [List.length_range']; omega)⟩
  have e' : aliF (dOp modD (dVar 5) (dLenV 1)) (dIxV 1 (dOp modD (dVar 5) (dLenV 1))) (dTest (dOp ltD (dLenV 6) (dVar 2))) (dOp addD (dOp subD (dIxV 4 (dC (.int 0))) (dC (.int 1))) (dOp modD (dIxV 0 (dVar 5)) (dOp addD (dOp subD (dIxV 4 (dC (.int 1))) (dIxV 4 (dC (.int 0)))) (dC (.int 3))))) (dIxV 6 (dOp modD (dIxV 0 (dVar 5)) (dVar 2)))
      [.val (.scr ns), .val (bD bs), .val (.int (M : Int)), .emp, .emp, .emp, .emp] ((List.range' 7 (ns.length - 7)).map fun (k : Nat) => D.int (k : Int)) ((bs.map prD).map fun _ => []) = .ok (Ms'.map fun l => l.map D.int) := by
    rw [List.map_map] at e ⊢
    exact e
  have hcap : bs.length < 1000000 := by omega
  have hfin : (Ms'.map fun l => l.map D.int).map D.lst = Ms'.map iD := by rw [List.map_map]; rfl
  have hfx : iSeq (dVar 1) [.val (.scr ns), .val (bD bs), .val (.int (M : Int)), .emp, .emp, .emp, .emp] = .ok (bs.map prD) := by simp
  have key : sAli (iSeq (dVar 1)) (iR2 (dCons (dC (.int 7)) (dCons (dCB min2D (dCons (dLenV 0) (dCons (dC (.int 406)) dNil))) dNil))) (dOp modD (dVar 5) (dLenV 1)) (dIxV 1 (dOp modD (dVar 5) (dLenV 1))) (dTest (dOp ltD (dLenV 6) (dVar 2))) (dOp addD (dOp subD (dIxV 4 (dC (.int 0))) (dC (.int 1))) (dOp modD (dIxV 0 (dVar 5)) (dOp addD (dOp subD (dIxV 4 (dC (.int 1))) (dIxV 4 (dC (.int 0)))) (dC (.int 3))))) (dIxV 6 (dOp modD (dIxV 0 (dVar 5)) (dVar 2)))
      [.val (.scr ns), .val (bD bs), .val (.int (M : Int)), .emp, .emp, .emp, .emp] = .rt (mD Ms') := by
    unfold sAli
    rw [if_pos ⟨rfl, rfl, rfl, rfl, rfl, rfl⟩, hfx]
    show (if (bs.map prD).length < 1000000 then _ else _) = _
    rw [if_pos (by rw [List.length_map]; exact hcap)]
    show (match iR2 _ [.val (.scr ns), .val (bD bs), .val (.int (M : Int)), _, .emp, .emp, .emp] with
      | .ok ks => _
      | _ => _) = _
    rw [fr]
    simp only [e', hfin]
    rfl
  simp only [d__law_marks, runD, b__law_marks, List.replicate, List.map_cons, List.map_nil, List.cons_append, List.nil_append, ev_sSeq, ev_sSet, ev_dOp, ev_dNew, ev_nLst, ev_dCons, ev_dC, ev_dNil, ev_bo, ev_dLenV, List.getElem?_cons_succ, List.getElem?_cons_zero, len_bD, ev_os, ev_sub]
  simp [hM, key]
theorem filter_len {α : Type} (p : α → Bool) (xs : List α) : (xs.filter p).length ≤ xs.length := List.length_filter_le p xs
theorem within_of : ∀ (bs : List (Int × Int)) (cs : List Int), cs.length = bs.length → (∀ (k : Nat) b c, bs[k]? = some b → cs[k]? = some c → b.1 ≤ c ∧ c ≤ b.2) → Within bs cs
  | [], [], _, _ => trivial
  | [], _ :: _, h, _ => by cases h
  | _ :: _, [], h, _ => by cases h
  | b :: bs, c :: cs, h, q => ⟨(q 0 b c rfl rfl).1, (q 0 b c rfl rfl).2, within_of bs cs (by simpa using h) fun k b' c' h1 h2 => q (k + 1) b' c' (by simpa using h1) (by simpa using h2)⟩
theorem within_len : ∀ (bs : List (Int × Int)) (cs : List Int), Within bs cs → cs.length = bs.length
  | [], [], _ => rfl
  | [], _ :: _, h => h.elim
  | _ :: _, [], h => h.elim
  | b :: bs, c :: cs, ⟨_, _, h⟩ => by rw [List.length_cons, List.length_cons, within_len bs cs h]
theorem within_at : ∀ (bs : List (Int × Int)) (cs : List Int), Within bs cs → ∀ (k : Nat) b c, bs[k]? = some b → cs[k]? = some c → b.1 ≤ c ∧ c ≤ b.2
  | [], [], _, k, b, c, h, _ => by simp at h
  | [], _ :: _, h, _, _, _, _, _ => h.elim
  | _ :: _, [], h, _, _, _, _, _ => h.elim
  | b :: bs, c :: cs, ⟨h1, h2, _⟩, 0, b', c', e1, e2 => by
    simp at e1 e2
    subst e1 e2
    exact ⟨h1, h2⟩
  | b :: bs, c :: cs, ⟨_, _, h⟩, k + 1, b', c', e1, e2 => within_at bs cs h k b' c' (by simpa using e1) (by simpa using e2)
theorem starts_at : ∀ (rows : List (List (Int × Int))) (xs : List Int) (k : Nat) r x, rows[k]? = some r → xs[k]? = some x → (starts rows xs)[k]? = some (startOf x r)
  | [], _, k, r, x, h, _ => by simp at h
  | _ :: _, [], k, r, x, _, h => by simp at h
  | r :: rs, x :: xs, 0, r', x', h1, h2 => by
    simp at h1 h2
    subst h1 h2
    rfl
  | r :: rs, x :: xs, k + 1, r', x', h1, h2 => by
    simp only [starts, List.getElem?_cons_succ]
    exact starts_at rs xs k r' x' (by simpa using h1) (by simpa using h2)
theorem starts_len : ∀ (rows : List (List (Int × Int))) (xs : List Int), rows.length = xs.length → (starts rows xs).length = xs.length
  | [], [], _ => rfl
  | [], _ :: _, h => by cases h
  | _ :: _, [], h => by cases h
  | r :: rs, x :: xs, h => by simp only [starts, List.length_cons, starts_len rs xs (by simpa using h)]
theorem tiles_of : ∀ (bs : List (Int × Int)) (Ls : List (List Int)), Ls.length = bs.length → (∀ b ∈ bs, b.1 ≤ b.2) → Tiles bs (rowsOf bs Ls)
  | [], [], _, _ => trivial
  | [], _ :: _, h, _ => by cases h
  | _ :: _, [], h, _ => by cases h
  | b :: bs, L :: Ls, h, q => ⟨q b List.mem_cons_self, fun α g => tl_str g b.2 (srt L) b.1 (q b List.mem_cons_self), tiles_of bs Ls (by simpa using h) fun c hc => q c (List.mem_cons_of_mem _ hc)⟩
/-! ### the functions -/
def cntL (L : List Int) (c : Int) : Nat := (L.filter fun m => decide (m ≤ c)).length
def tolF (tw : Int) : Int → List (List Int) → List Int → Int
  | t, L :: Ls, c :: cs => tolF tw (t * tw + (1 + t) % 3 * (cntL L c : Int)) Ls cs
  | t, _, _ => t
theorem tolF_snoc (tw : Int) (L : List Int) (c : Int) : ∀ (Ls : List (List Int)) (cs : List Int) (t : Int), Ls.length = cs.length → tolF tw t (Ls ++ [L]) (cs ++ [c]) = tolF tw t Ls cs * tw + (1 + tolF tw t Ls cs) % 3 * (cntL L c : Int)
  | [], [], t, _ => by simp [tolF]
  | [], _ :: _, t, h => by cases h
  | _ :: _, [], t, h => by cases h
  | M :: Ls, d :: cs, t, h => by
    simp only [List.cons_append, tolF]
    exact tolF_snoc tw L c Ls cs _ (by simpa using h)
theorem tolF_congr (tw : Int) : ∀ (Ls : List (List Int)) (cs ds : List Int) (t : Int), cs.length = ds.length → (∀ (k : Nat) L c d, Ls[k]? = some L → cs[k]? = some c → ds[k]? = some d → cntL L c = cntL L d) → tolF tw t Ls cs = tolF tw t Ls ds
  | [], cs, ds, t, _, _ => by cases cs <;> cases ds <;> rfl
  | L :: Ls, [], [], t, _, _ => rfl
  | L :: Ls, [], _ :: _, t, h, _ => by cases h
  | L :: Ls, _ :: _, [], t, h, _ => by cases h
  | L :: Ls, c :: cs, d :: ds, t, h, q => by
    simp only [tolF]
    rw [q 0 L c d rfl rfl rfl]
    exact tolF_congr tw Ls cs ds _ (by simpa using h) fun k L' c' d' h1 h2 h3 => q (k + 1) L' c' d' (by simpa using h1) (by simpa using h2) (by simpa using h3)
def onesF (Ls : List (List Int)) (tw tu st : Int) (cs : List Int) : Int := tolF tw 0 Ls cs % tu * st
theorem told_eq (cs : List Int) (Ls : List (List Int)) (tw tu st : Int) (hl : Ls.length = cs.length) (h3 : cs.length ≤ 3) (hs : ∀ l ∈ Ls, l.length ≤ 100) (t1 : 1 ≤ tw ∧ tw ≤ 5) (t2 : 1 ≤ tu ∧ tu ≤ 5) (t3 : 1 ≤ st ∧ st.natAbs < 2 ^ 150) :
    d__law_told [iD cs, mD Ls, .int tw, .int tu, .int st] = .ok (.int (onesF Ls tw tu st cs)) := by
  obtain ⟨ρ', e, x, y, w, rfl, c0, c1⟩ := forD_rng (g := gN 6) (body := (sSeq (sSet 7 (dCB lenD (dCons (dNew (nLc 8 (iSeq (dIxV 1 (dVar 6))) (dTest (dOp leD (dVar 8) (dIxV 0 (dVar 6)))) (dVar 8))) dNil)))
 (sSet 5 (dOp addD (dOp mulD (dVar 5) (dVar 2)) (dOp mulD (dOp modD (dOp addD (dC (.int 1)) (dVar 5)) (dC (.int 3))) (dVar 7))))))
    (ρ := [.val (iD cs), .val (mD Ls), .val (.int tw), .val (.int tu), .val (.int st), .val (.int 0), .emp, .emp, .emp])
    (fun k ρ => ∃ (x y w : S), ρ = [.val (iD cs), .val (mD Ls), .val (.int tw), .val (.int tu), .val (.int st), .val (.int (tolF tw 0 (Ls.take k) (cs.take k))), x, y, w] ∧ 0 ≤ tolF tw 0 (Ls.take k) (cs.take k) ∧ tolF tw 0 (Ls.take k) (cs.take k) ≤ ((200 * 6 ^ k : Nat) : Int)) cs.length ⟨.emp, .emp, .emp, rfl, by simp [tolF], by simp [tolF]⟩ (by
      rintro k ρ hk ⟨x, y, w, rfl, c0, c1⟩
      have e1 : cs[k]? = some cs[k] := List.getElem?_eq_getElem hk
      have e2 : Ls[k]? = some Ls[k] := List.getElem?_eq_getElem (by omega)
      have hl2 := hs Ls[k] (List.getElem_mem _)
      have hk3 : k = 0 ∨ k = 1 ∨ k = 2 := by omega
      have snoc : tolF tw 0 (Ls.take (k + 1)) (cs.take (k + 1)) = tolF tw 0 (Ls.take k) (cs.take k) * tw + (1 + tolF tw 0 (Ls.take k) (cs.take k)) % 3 * (cntL Ls[k] cs[k] : Int) := by
        rw [List.take_succ, List.take_succ, e1, e2]
        exact tolF_snoc tw Ls[k] cs[k] _ _ 0 (by rw [List.length_take, List.length_take]; omega)
      rw [snoc]
      generalize tolF tw 0 (Ls.take k) (cs.take k) = c at *
      have f := lcD_fm (ρ := [.val (iD cs), .val (mD Ls), .val (.int tw), .val (.int tu), .val (.int st), .val (.int c), .val (.int (k : Int)), y, w]) (i := 8) (t := dTest (dOp leD (dVar 8) (dIxV 0 (dVar 6)))) (e := dVar 8) D.int (fun m => decide (m ≤ cs[k])) D.int Ls[k] (fun m _ => ⟨by simp [iD_at e1], fun _ => by simp⟩)
      have cap : Ls[k].length < 1000000 := by omega
      have fl := filter_len (fun m => decide (m ≤ cs[k])) Ls[k]
      have hcnt : cntL Ls[k] cs[k] = (Ls[k].filter fun m => decide (m ≤ cs[k])).length := rfl
      rw [hcnt]
      generalize hz : Ls[k].filter (fun m => decide (m ≤ cs[k])) = Z at *
      have cb : c ≤ 40000 := by rcases hk3 with q | q | q <;> subst q <;> simp at c1 <;> omega
      have m1 := ev_mul (a := c) (b := tw) (fit_small (by omega)) (fit_small (by omega))
      have r0 : 0 ≤ (1 + c) % 3 := Int.emod_nonneg _ (by decide)
      have r1 : (1 + c) % 3 < 3 := Int.emod_lt_of_pos _ (by decide)
      have e3 : modD (.int (1 + c)) (.int 3) = some (.int ((1 + c) % 3)) := ev_mod (by decide)
      generalize (1 + c) % 3 = r at *
      have m2 := ev_mul (a := r) (b := (Z.length : Int)) (fit_small (by omega)) (fit_small (by omega))
      refine ⟨_, [.val (iD cs), .val (mD Ls), .val (.int tw), .val (.int tu), .val (.int st), .val (.int (c * tw + r * (Z.length : Int))), .val (.int (k : Int)), .val (.int (Z.length : Int)), w], ev_gN, ?_, _, _, _, rfl, ?_, ?_⟩
      · simp [mD_at e2, cap, f, m1, m2, e3]
      · have a1 : 0 ≤ c * tw := Int.mul_nonneg c0 (by omega)
        have a2 : 0 ≤ r * (Z.length : Int) := Int.mul_nonneg r0 (by omega)
        omega
      · have a1 : c * tw ≤ c * 5 := Int.mul_le_mul_of_nonneg_left t1.2 c0
        have a2 : r * (Z.length : Int) ≤ 2 * (Z.length : Int) := Int.mul_le_mul_of_nonneg_right (by omega) (by omega)
        rcases hk3 with q | q | q <;> subst q <;> simp at c1 ⊢ <;> omega)
  rw [List.take_of_length_le (by omega), List.take_of_length_le (by omega)] at e
  unfold onesF
  generalize tolF tw 0 Ls cs = c at *
  have r0 : 0 ≤ c % tu := Int.emod_nonneg _ (by omega)
  have r1 : c % tu < tu := Int.emod_lt_of_pos _ (by omega)
  have e3 : modD (.int c) (.int tu) = some (.int (c % tu)) := ev_mod (by omega)
  generalize c % tu = r at *
  have m2 := ev_mul (a := r) (b := st) (fit_small (by omega)) (fit_of' (Nat.lt_of_lt_of_le t3.2 (Nat.pow_le_pow_right (by decide) (by decide))))
  simp [d__law_told, runD, b__law_told, List.replicate, rng1_nat (show cs.length ≤ 1000000 by omega), e, e3, m2]
theorem ones_eq (cs : List Int) (Ls : List (List Int)) (tw tu st : Int) (hl : Ls.length = cs.length) (h3 : cs.length ≤ 3) (hs : ∀ l ∈ Ls, l.length ≤ 100) (t1 : 1 ≤ tw ∧ tw ≤ 5) (t2 : 1 ≤ tu ∧ tu ≤ 5) (t3 : 1 ≤ st ∧ st.natAbs < 2 ^ 150) :
    f__law_ones [mD Ls, .int st, .int tu, .int tw] (iD cs) = .ok (.int (onesF Ls tw tu st cs)) := by
  have e := told_eq cs Ls tw tu st hl h3 hs t1 t2 t3
  simp [f__law_ones, runQ, b__law_ones, List.replicate, e]
def othF (Ls : List (List Int)) (e0 way tw tu st : Int) (cs : List Int) : Int :=
  if way = 1 then onesF Ls (tw + 1) tu st cs else if way = 2 ∧ e0 ≤ cs.headD 0 then onesF Ls tw tu st cs + 1 else onesF Ls tw tu st cs
theorem others_eq (cs : List Int) (Ls Ms : List (List Int)) (e0 way tw tu st : Int) (cl1 : List (Str × Addr)) (M : List Int) (Mr : List (List Int)) (hM : Ms = (e0 :: M) :: Mr) (hl : Ls.length = cs.length) (h1 : 1 ≤ cs.length) (h3 : cs.length ≤ 3) (hs : ∀ l ∈ Ls, l.length ≤ 100) (t1 : 1 ≤ tw ∧ tw ≤ 4) (t2 : 1 ≤ tu ∧ tu ≤ 5) (t3 : 1 ≤ st ∧ st.natAbs < 2 ^ 150) :
    f__law_others [mD Ls, mD Ms, .fnv z__law_ones cl1, .int st, .int tu, .int tw, .int way] (iD cs) = .ok (.int (othF Ls e0 way tw tu st cs)) := by
  have eo := ones_eq cs Ls tw tu st hl h3 hs (by omega) t2 t3
  have e1 := told_eq cs Ls (tw + 1) tu st hl h3 hs (by omega) t2 t3
  obtain ⟨c0, cr, rfl⟩ : ∃ c0 cr, cs = c0 :: cr := by
    cases cs with
    | nil => simp at h1
    | cons c0 cr => exact ⟨c0, cr, rfl⟩
  have hc : ixD (iD (c0 :: cr)) (.int 0) = some (.int c0) := iD_at (k := 0) rfl
  have hm0 : ixD (mD Ms) (.int 0) = some (iD (e0 :: M)) := mD_at (k := 0) (by rw [hM]; rfl)
  have hm1 : ixD (iD (e0 :: M)) (.int 0) = some (.int e0) := iD_at (k := 0) rfl
  have sib : Sib cl1 [mD Ls, .int st, .int tu, .int tw] := sib_none fun q c hm => by simp [mD] at hm
  have call : dFnvQ 3 z__law_ones cl1 [1, 4, 5, 6] f__law_ones (dVar 0) [.val (iD (c0 :: cr)), .val (mD Ls), .val (mD Ms), .val (.fnv z__law_ones cl1), .val (.int st), .val (.int tu), .val (.int tw), .val (.int way)] = .ok (.int (onesF Ls tw tu st (c0 :: cr))) := by
    rw [fnvQ_ok (ws := [mD Ls, .int st, .int tu, .int tw]) rfl (by simp [valsAt]) sib]
    simp [eo]
  have go : f__law_others [mD Ls, mD Ms, .fnv z__law_ones cl1, .int st, .int tu, .int tw, .int way] (iD (c0 :: cr)) = runQ 8 (b__law_others cl1) [mD Ls, mD Ms, .fnv z__law_ones cl1, .int st, .int tu, .int tw, .int way] (iD (c0 :: cr)) := by
    unfold f__law_others
    exact if_pos rfl
  rw [go]
  unfold runQ b__law_others othF
  by_cases w1 : way = 1
  · simp [List.replicate, w1, e1]
  · by_cases w2 : way = 2
    · by_cases w3 : e0 ≤ c0
      · simp [List.replicate, w1, w2, w3, hc, hm0, hm1]
        rw [w2] at call
        simp [call]
      · simp [List.replicate, w1, w2, w3, hc, hm0, hm1]
        rw [w2] at call
        simp [call]
    · simp [List.replicate, w1, w2]
      simp [call]
/-! ### lows, corners -/
def lowOf (b : Int × Int) (M : List Int) : List Int := b.1 :: srtS (M.filter fun m => decide (b.1 < m) && decide (m ≤ b.2))
def lowsF (bs : List (Int × Int)) (Ms : List (List Int)) : List (List Int) := List.zipWith lowOf bs Ms
theorem lows_at {bs : List (Int × Int)} {Ms : List (List Int)} {k : Nat} {b : Int × Int} {M : List Int} (h1 : bs[k]? = some b) (h2 : Ms[k]? = some M) : (lowsF bs Ms)[k]? = some (lowOf b M) := by
  unfold lowsF
  rw [List.getElem?_zipWith, h1, h2]
theorem lows_len {bs : List (Int × Int)} {Ms : List (List Int)} (hl : Ms.length = bs.length) : (lowsF bs Ms).length = bs.length := by unfold lowsF; rw [List.length_zipWith, hl, Nat.min_self]
theorem lows_eq (bs : List (Int × Int)) (Ms : List (List Int)) (h3 : bs.length ≤ 3) (hl : Ms.length = bs.length) (hs : ∀ l ∈ Ms, l.length ≤ 200) (hd : ∀ l ∈ Ms, ∃ A : List Int, A.length ≤ 50 ∧ ∀ x ∈ l, x ∈ A) : d__law_lows [bD bs, mD Ms] = .ok (mD (lowsF bs Ms)) := by
  have hll := lows_len hl
  obtain ⟨ρ', e, x3, x4, x5, rfl⟩ := forD_rng (g := gN 3) (body := (sSeq (sSet 4 (dNew (nLc 5 (iSeq (dIxV 1 (dVar 3))) (dAnd (dTest (dOp ltD (dOp ixD (dIxV 0 (dVar 3)) (dC (.int 0))) (dVar 5))) (dTest (dOp leD (dVar 5) (dOp ixD (dIxV 0 (dVar 3)) (dC (.int 1)))))) (dVar 5))))
 (sApp 2 (dOp addD (dNew (nLst (dCons (dOp ixD (dIxV 0 (dVar 3)) (dC (.int 0))) dNil))) (dCB sortSetD (dCons (dVar 4) dNil)))))) (ρ := [.val (bD bs), .val (mD Ms), .own [], .emp, .emp, .emp])
    (fun k ρ => ∃ (x3 x4 x5 : S), ρ = [.val (bD bs), .val (mD Ms), .own (((lowsF bs Ms).take k).map iD), x3, x4, x5]) bs.length ⟨.emp, .emp, .emp, rfl⟩ (by
      rintro k ρ hk ⟨x3, x4, x5, rfl⟩
      have e1 : bs[k]? = some bs[k] := List.getElem?_eq_getElem hk
      have e2 : Ms[k]? = some Ms[k] := List.getElem?_eq_getElem (by omega)
      have hlo := lows_at e1 e2
      have hbat := bD_at e1
      have hmat := mD_at e2
      have hlk := hs Ms[k] (List.getElem_mem _)
      obtain ⟨A, hA1, hA2⟩ := hd Ms[k] (List.getElem_mem _)
      have f := lcD_fm (ρ := [.val (bD bs), .val (mD Ms), .own (((lowsF bs Ms).take k).map iD), .val (.int (k : Int)), x4, x5]) (i := 5) (t := dAnd (dTest (dOp ltD (dOp ixD (dIxV 0 (dVar 3)) (dC (.int 0))) (dVar 5))) (dTest (dOp leD (dVar 5) (dOp ixD (dIxV 0 (dVar 3)) (dC (.int 1)))))) (e := dVar 5) D.int (fun m => decide (bs[k].1 < m) && decide (m ≤ bs[k].2)) D.int Ms[k] (fun m _ => ⟨by
        by_cases q : bs[k].1 < m
        · simp [q, hbat]
        · simp [q, hbat], fun _ => by simp⟩)
      have fl := filter_len (fun m => decide (bs[k].1 < m) && decide (m ≤ bs[k].2)) Ms[k]
      have few : (ddp (Ms[k].filter fun m => decide (bs[k].1 < m) && decide (m ≤ bs[k].2))).length ≤ A.length := nodup_len _ _ (ddp_nodup _) fun x hx => hA2 x (List.mem_filter.mp ((mem_ddp x _).mp hx)).1
      have cap : Ms[k].length < 1000000 := by omega
      have e4 : (lowsF bs Ms).take (k + 1) = (lowsF bs Ms).take k ++ [lowOf bs[k] Ms[k]] := by
        rw [List.take_succ, hlo]
        rfl
      have htl : ((lowsF bs Ms).take k).length < 1000000 := by
        rw [List.length_take]
        omega
      unfold lowOf at e4
      generalize hz : Ms[k].filter (fun m => decide (bs[k].1 < m) && decide (m ≤ bs[k].2)) = Z at *
      have ss := sortSet_ints (ns := Z) (by omega) (by omega)
      have sl : (srtS Z).length ≤ 1000 := by
        have : (srtS Z).length = (ddp Z).length := (srt_perm _).length_eq
        omega
      generalize srtS Z = Sz at *
      have ss' : sortSetD [.lst (Z.map D.int)] = some (.lst (Sz.map D.int)) := ss
      have ad : addD (.lst [.int bs[k].1]) (.lst (Sz.map D.int)) = some (iD (bs[k].1 :: Sz)) := by
        have : 1 + Sz.length ≤ 1000000 := by omega
        simp [this, iD]
      generalize (lowsF bs Ms).take k = Tk at *
      refine ⟨_, [.val (bD bs), .val (mD Ms), .own ((Tk ++ [bs[k].1 :: Sz]).map iD), .val (.int (k : Int)), .val (.lst (Z.map D.int)), x5], ev_gN, ?_, _, _, _, by rw [e4]⟩
      simp only [ev_sSeq, ev_sSet, ev_dNew, ev_nLc, ev_iSeq, ev_dIxV, ev_dVar, List.set_cons_succ, List.set_cons_zero, List.getElem?_cons_succ, List.getElem?_cons_zero, ev_bo, ev_os, hmat, seq_iD, List.length_map, cap, if_true, f, ev_ko]
      simp only [ev_sApp, ev_onOwn, List.getElem?_cons_succ, List.getElem?_cons_zero, ev_dOp, ev_dNew, ev_nLst, ev_dCons, ev_dNil, ev_dIxV, ev_dVar, ev_dC, ev_dCB, ev_bo, ev_os, hbat, ixD_pr0, ss', List.length_cons, List.length_nil]
      simp [ad, htl])
  rw [← hll, List.take_of_length_le (Nat.le_refl _)] at e
  rw [hll] at e
  simp [d__law_lows, runD, b__law_lows, List.replicate, rng1_nat (show bs.length ≤ 1000000 by omega), e]
  rfl
theorem crn_in (ws : List D) (base : En) (c : List Int) : ∀ (own : List Int) (acc : List (List Int)) (a0 a1 a2 : S) (x : S), c.length < 1000 → acc.length + own.length < 1000000 →
    ∃ x', forD (gN 5) (sApp 3 (dOp addD (dVar 4) (dNew (nLst (dCons (dVar 5) dNil))))) (own.map D.int) [a0, a1, a2, .own (acc.map iD), .val (iD c), x] = .nx [a0, a1, a2, .own ((acc ++ own.map fun l => c ++ [l]).map iD), .val (iD c), x']
  | [], acc, a0, a1, a2, x, _, _ => ⟨x, by simp⟩
  | l :: own, acc, a0, a1, a2, x, hc, hl => by
    simp only [List.length_cons] at hl
    obtain ⟨x', e⟩ := crn_in ws base c own (acc ++ [c ++ [l]]) a0 a1 a2 (.val (.int l)) hc (by simp; omega)
    refine ⟨x', ?_⟩
    have ad : addD (iD c) (.lst [.int l]) = some (iD (c ++ [l])) := by
      have : c.length + 1 ≤ 1000000 := by omega
      simp [iD, this]
    have hcap : acc.length < 1000000 := by omega
    simp only [List.map_cons, forD]
    simp [ad, hcap] at e ⊢
    exact e
theorem crn_mid (own : List Int) (a0 a1 : S) : ∀ (cs acc : List (List Int)) (x y : S), (∀ c ∈ cs, c.length < 1000) → acc.length + cs.length * own.length < 1000000 →
    ∃ x' y', forD (gN 4) (sFor (iSeq (dVar 2)) (gN 5) (sApp 3 (dOp addD (dVar 4) (dNew (nLst (dCons (dVar 5) dNil)))))) (cs.map iD) [a0, a1, .val (iD own), .own (acc.map iD), x, y] = .nx [a0, a1, .val (iD own), .own ((acc ++ cs.flatMap fun c => own.map fun l => c ++ [l]).map iD), x', y']
  | [], acc, x, y, _, _ => ⟨x, y, by simp⟩
  | c :: cs, acc, x, y, hc, hl => by
    rw [List.length_cons, Nat.add_mul, Nat.one_mul] at hl
    obtain ⟨y1, e1⟩ := crn_in [] [] c own acc a0 a1 (.val (iD own)) y (hc c List.mem_cons_self) (by omega)
    obtain ⟨x', y', e⟩ := crn_mid own a0 a1 cs (acc ++ own.map fun l => c ++ [l]) (.val (iD c)) y1 (fun d hd => hc d (List.mem_cons_of_mem _ hd)) (by rw [List.length_append, List.length_map]; omega)
    refine ⟨x', y', ?_⟩
    simp only [List.map_cons, forD, ev_gN, List.set_cons_succ, List.set_cons_zero, ev_sFor, ev_iSeq, ev_dVar, List.getElem?_cons_succ, List.getElem?_cons_zero, ev_bo, seq_iD, ev_ko, e1]
    rw [List.flatMap_cons, ← List.append_assoc]
    exact e
theorem flat_len (own : List Int) : ∀ cs : List (List Int), (cs.flatMap fun c => own.map fun l => c ++ [l]).length = cs.length * own.length
  | [] => by simp
  | c :: cs => by
    rw [List.flatMap_cons, List.length_append, flat_len own cs, List.length_map, List.length_cons, Nat.add_mul, Nat.one_mul, Nat.add_comm]
theorem crn_out (a0 : S) : ∀ (lows : List (List Int)) (acc : List (List Int)) (x2 x3 x4 x5 : S) (n : Nat), (∀ l ∈ lows, l.length ≤ 60) → (∀ c ∈ acc, c.length < 900 + n) → n + lows.length ≤ 3 → acc.length ≤ 60 ^ n →
    ∃ x2' x3' x4' x5', forD (gN 2) (sSeq (sOwn 3 (nLst dNil))
 (sSeq (sFor (iSeq (dVar 1)) (gN 4)
 (sFor (iSeq (dVar 2)) (gN 5)
 (sApp 3 (dOp addD (dVar 4) (dNew (nLst (dCons (dVar 5) dNil)))))))
 (sFrz [3] (sSet 1 (dVar 3))))) (lows.map iD) [a0, .val (mD acc), x2, x3, x4, x5] = .nx [a0, .val (mD (crnF acc lows)), x2', x3', x4', x5']
  | [], acc, x2, x3, x4, x5, n, _, _, _, _ => ⟨x2, x3, x4, x5, rfl⟩
  | own :: lows, acc, x2, x3, x4, x5, n, h1, h2, h3, h4 => by
    simp only [List.length_cons] at h3
    have ho := h1 own List.mem_cons_self
    have hn : n = 0 ∨ n = 1 ∨ n = 2 := by omega
    have hmul : acc.length * own.length ≤ 60 ^ n * 60 := Nat.mul_le_mul h4 ho
    have hcap : 60 ^ n * 60 < 1000000 := by rcases hn with q | q | q <;> subst q <;> decide
    obtain ⟨x', y', e1⟩ := crn_mid own a0 (.val (mD acc)) acc [] x4 x5 (fun c hc => by have := h2 c hc; omega) (by simp only [List.length_nil]; omega)
    obtain ⟨z2, z3, z4, z5, e⟩ := crn_out a0 lows (acc.flatMap fun c => own.map fun l => c ++ [l]) (.val (iD own)) (.val (mD (acc.flatMap fun c => own.map fun l => c ++ [l]))) x' y' (n + 1) (fun l hl => h1 l (List.mem_cons_of_mem _ hl)) (fun c hc => by
      obtain ⟨c', hc', hm⟩ := List.mem_flatMap.mp hc
      obtain ⟨l, _, rfl⟩ := List.mem_map.mp hm
      have := h2 c' hc'
      rw [List.length_append]
      simp only [List.length_singleton]
      omega) (by omega) (by rw [flat_len, Nat.pow_succ]; exact hmul)
    refine ⟨z2, z3, z4, z5, ?_⟩
    simp only [List.map_nil, List.nil_append] at e1
    simp only [List.map_cons, forD, ev_gN, List.set_cons_succ, List.set_cons_zero, ev_sSeq, ev_sOwn, ev_nLst, ev_dNil, ev_bo, ev_ko, List.length_nil, Nat.zero_le, if_true, ev_sFor, ev_iSeq, ev_dVar, List.getElem?_cons_succ, List.getElem?_cons_zero, seq_mD, e1, ev_sFrz, ev_frzs1, ev_frz1, ev_frzs0, ev_sSet]
    exact e
theorem corners_eq (lows : List (List Int)) (h3 : lows.length ≤ 3) (h : ∀ l ∈ lows, l.length ≤ 60) : d__law_corners [mD lows] = .ok (mD (crnF [[]] lows)) := by
  obtain ⟨x2, x3, x4, x5, e⟩ := crn_out (.val (mD lows)) lows [[]] .emp .emp .emp .emp 0 h (fun c hc => by rw [List.mem_singleton.mp hc]; decide) (by omega) (by decide)
  have hm : D.lst [.lst []] = mD [[]] := rfl
  simp [d__law_corners, runD, b__law_corners, List.replicate, hm, e]
/-! ### the law -/
theorem cnt_start {L M : List Int} {lo hi c : Int} (h : ∀ x ∈ L, x ∈ M) (h1 : lo ≤ c) (h2 : c ≤ hi) : cntL L c = cntL L (startOf c (strF hi lo (srt M))) := by
  obtain ⟨a, b, d⟩ := start_mem hi c (srt M) lo (srt_sorted M) h1 h2
  have le : startOf c (strF hi lo (srt M)) ≤ c := by
    rcases List.mem_cons.mp a with z | z
    · omega
    · have := (List.mem_filter.mp z).2
      simp only [Bool.and_eq_true, decide_eq_true_eq] at this
      exact this.2
  unfold cntL
  congr 1
  apply List.filter_congr
  intro m hm
  have := d m ((srt_perm M).mem_iff.mpr (h m hm))
  exact decide_eq_decide.mpr ⟨fun q => this q, fun q => by omega⟩
theorem le_start {M : List Int} {lo hi c e : Int} (he : e ∈ M) (h1 : lo ≤ c) (h2 : c ≤ hi) : e ≤ c ↔ e ≤ startOf c (strF hi lo (srt M)) := by
  obtain ⟨a, b, d⟩ := start_mem hi c (srt M) lo (srt_sorted M) h1 h2
  have le : startOf c (strF hi lo (srt M)) ≤ c := by
    rcases List.mem_cons.mp a with z | z
    · omega
    · have := (List.mem_filter.mp z).2
      simp only [Bool.and_eq_true, decide_eq_true_eq] at this
      exact this.2
  exact ⟨fun q => d e ((srt_perm M).mem_iff.mpr he) q, fun q => by omega⟩
def Sub2 (Ls Ms : List (List Int)) : Prop := ∀ (k : Nat) L M, Ls[k]? = some L → Ms[k]? = some M → ∀ x ∈ L, x ∈ M
theorem ones_start {bs : List (Int × Int)} {Ls Ms : List (List Int)} {cs : List Int} {tw tu st : Int} (hl : Ls.length = bs.length) (hm : Ms.length = bs.length) (hs : Sub2 Ls Ms) (hw : Within bs cs) : onesF Ls tw tu st cs = onesF Ls tw tu st (starts (rowsOf bs Ms) cs) := by
  have hc := within_len bs cs hw
  have hsl : (starts (rowsOf bs Ms) cs).length = cs.length := starts_len _ _ (by rw [rows_len hm, hc])
  unfold onesF
  rw [tolF_congr tw Ls cs (starts (rowsOf bs Ms) cs) 0 hsl.symm fun k L c d h1 h2 h3 => ?_]
  have kc := (List.getElem?_eq_some_iff.mp h2).1
  have e1 : bs[k]? = some bs[k] := List.getElem?_eq_getElem (by omega)
  have e2 : Ms[k]? = some Ms[k] := List.getElem?_eq_getElem (by omega)
  have hst := starts_at _ _ k _ _ (rows_at e1 e2) h2
  rw [h3] at hst
  cases hst
  have w := within_at bs cs hw k _ _ e1 h2
  exact cnt_start (hs k L _ h1 e2) w.1 w.2
theorem oth_start {bs : List (Int × Int)} {Ls Ms : List (List Int)} {cs : List Int} {e0 way tw tu st : Int} {M : List Int} {Mr : List (List Int)} (hM : Ms = (e0 :: M) :: Mr) (hl : Ls.length = bs.length) (hm : Ms.length = bs.length) (hs : Sub2 Ls Ms) (hw : Within bs cs) : othF Ls e0 way tw tu st cs = othF Ls e0 way tw tu st (starts (rowsOf bs Ms) cs) := by
  unfold othF
  rw [← ones_start hl hm hs hw, ← ones_start hl hm hs hw]
  have hd : (e0 ≤ cs.headD 0) ↔ (e0 ≤ (starts (rowsOf bs Ms) cs).headD 0) := by
    cases bs with
    | nil =>
      rw [hM] at hm
      simp at hm
    | cons b bs =>
      cases cs with
      | nil => exact hw.elim
      | cons c cs =>
        subst hM
        exact le_start (M := e0 :: M) List.mem_cons_self hw.1 hw.2.1
  simp only [hd]
theorem start_low {M : List Int} {b : Int × Int} {c : Int} (h1 : b.1 ≤ c) (h2 : c ≤ b.2) : startOf c (strF b.2 b.1 (srt M)) ∈ lowOf b M := by
  obtain ⟨a, _, _⟩ := start_mem b.2 c (srt M) b.1 (srt_sorted M) h1 h2
  unfold lowOf
  rcases List.mem_cons.mp a with z | z
  · rw [z]; exact List.mem_cons_self
  · refine List.mem_cons_of_mem _ (mem_srtS.mpr ?_)
    rw [List.mem_filter] at z ⊢
    refine ⟨(srt_perm M).mem_iff.mp z.1, ?_⟩
    have := z.2
    simp only [Bool.and_eq_true, decide_eq_true_eq] at this ⊢
    omega
theorem low_in {M : List Int} {b : Int × Int} {c : Int} (hb : b.1 ≤ b.2) (h : c ∈ lowOf b M) : b.1 ≤ c ∧ c ≤ b.2 := by
  unfold lowOf at h
  rcases List.mem_cons.mp h with z | z
  · omega
  · have := (List.mem_filter.mp (mem_srtS.mp z)).2
    simp only [Bool.and_eq_true, decide_eq_true_eq] at this
    omega
theorem crn_within {bs : List (Int × Int)} {Ms : List (List Int)} {cs : List Int} (hm : Ms.length = bs.length) (hb : ∀ b ∈ bs, b.1 ≤ b.2) (h : cs ∈ crnF [[]] (lowsF bs Ms)) : Within bs cs := by
  obtain ⟨a, b, h1, h2, h3, h4⟩ := (mem_crn _ _).mp h
  rw [List.mem_singleton.mp h1, List.nil_append] at h2
  subst h2
  rw [lows_len hm] at h3
  refine within_of bs cs h3 fun k b' c e1 e2 => ?_
  have kl := (List.getElem?_eq_some_iff.mp e1).1
  have e3 : Ms[k]? = some Ms[k] := List.getElem?_eq_getElem (by omega)
  exact low_in (hb b' (List.mem_of_getElem? e1)) (h4 k _ c (lows_at e1 e3) e2)
theorem crn_starts {bs : List (Int × Int)} {Ms : List (List Int)} {cs : List Int} (hm : Ms.length = bs.length) (hw : Within bs cs) : starts (rowsOf bs Ms) cs ∈ crnF [[]] (lowsF bs Ms) := by
  have hc := within_len bs cs hw
  have hsl : (starts (rowsOf bs Ms) cs).length = cs.length := starts_len _ _ (by rw [rows_len hm, hc])
  refine (mem_crn _ _).mpr ⟨[], _, List.mem_singleton.mpr rfl, rfl, by rw [hsl, lows_len hm, hc], fun k l x h1 h2 => ?_⟩
  have kl := (List.getElem?_eq_some_iff.mp h2).1
  have e1 : bs[k]? = some bs[k] := List.getElem?_eq_getElem (by omega)
  have e2 : Ms[k]? = some Ms[k] := List.getElem?_eq_getElem (by omega)
  have e3 : cs[k]? = some cs[k] := List.getElem?_eq_getElem (by omega)
  rw [lows_at e1 e2] at h1
  cases h1
  rw [starts_at _ _ k _ _ (rows_at e1 e2) e3] at h2
  cases h2
  have w := within_at bs cs hw k _ _ e1 e3
  exact start_low w.1 w.2
theorem rev_comp (L : List Int) : (List.range L.length).map (fun j => D.int (L.getD (L.length - 1 - j) 0)) = L.reverse.map D.int := by
  apply List.ext_getElem?
  intro k
  rw [List.getElem?_map, List.getElem?_map]
  by_cases hk : k < L.length
  · rw [List.getElem?_range hk, List.getElem?_reverse hk]
    have : L.length - 1 - k < L.length := by omega
    simp [List.getElem?_eq_getElem this]
  · rw [List.getElem?_eq_none (by rw [List.length_range]; omega), List.getElem?_eq_none (by rw [List.length_reverse]; omega)]
    rfl
theorem more_eq (ns : List Int) (bs : List (Int × Int)) (Ls : List (List Int)) (x4 x5 x6 x7 : S) (rest : En) (h3 : bs.length ≤ 3) (hl : Ls.length = bs.length) (hb : ∀ b ∈ bs, b.1 ≤ b.2) (hs : ∀ l ∈ Ls, l.length ≤ 100) (hx : notOwn x4 = true ∧ notOwn x5 = true ∧ notOwn x6 = true ∧ notOwn x7 = true) :
    ∃ (Ms : List (List Int)) (y4 y5 y6 y7 : S), (notOwn y4 = true ∧ notOwn y5 = true ∧ notOwn y6 = true ∧ notOwn y7 = true) ∧ forD (gN 4) (sSeq (sSet 5 (dOp ixD (dIxV 1 (dVar 4)) (dC (.int 0))))
 (sSeq (sSet 6 (dOp addD (dVar 5) (dOp modD (dOp fdivD (dCal 2 d__law_at (dCons (dVar 0) (dCons (dOp addD (dC (.int 9)) (dVar 4)) dNil))) (dC (.int 2))) (dOp addD (dOp subD (dOp ixD (dIxV 1 (dVar 4)) (dC (.int 1))) (dVar 5)) (dC (.int 1))))))
 (sApp 3 (dOp addD (dNew (nLst (dCons (dVar 6) dNil))) (dNew (nLc 7 (iR1 (dCons (dCB lenD (dCons (dIxV 2 (dVar 4)) dNil)) dNil)) tYesD (dOp ixD (dIxV 2 (dVar 4)) (dOp subD (dOp subD (dCB lenD (dCons (dIxV 2 (dVar 4)) dNil)) (dC (.int 1))) (dVar 7)))))))))
      ((List.range bs.length).map fun (k : Nat) => D.int (k : Int)) (.val (.scr ns) :: .val (bD bs) :: .val (mD Ls) :: .own [] :: x4 :: x5 :: x6 :: x7 :: rest) = .nx (.val (.scr ns) :: .val (bD bs) :: .val (mD Ls) :: .own (Ms.map iD) :: y4 :: y5 :: y6 :: y7 :: rest) ∧
      Ms.length = bs.length ∧ ∀ (j : Nat) M, Ms[j]? = some M → ∃ e b L, bs[j]? = some b ∧ Ls[j]? = some L ∧ M = e :: L.reverse ∧ b.1 ≤ e ∧ e ≤ b.2 := by
  obtain ⟨ρ', e, Ms, y4, y5, y6, y7, rfl, hy, hml, hmp⟩ := forD_rng (g := gN 4) (body := sSeq (sSet 5 (dOp ixD (dIxV 1 (dVar 4)) (dC (.int 0))))
 (sSeq (sSet 6 (dOp addD (dVar 5) (dOp modD (dOp fdivD (dCal 2 d__law_at (dCons (dVar 0) (dCons (dOp addD (dC (.int 9)) (dVar 4)) dNil))) (dC (.int 2))) (dOp addD (dOp subD (dOp ixD (dIxV 1 (dVar 4)) (dC (.int 1))) (dVar 5)) (dC (.int 1))))))
 (sApp 3 (dOp addD (dNew (nLst (dCons (dVar 6) dNil))) (dNew (nLc 7 (iR1 (dCons (dCB lenD (dCons (dIxV 2 (dVar 4)) dNil)) dNil)) tYesD (dOp ixD (dIxV 2 (dVar 4)) (dOp subD (dOp subD (dCB lenD (dCons (dIxV 2 (dVar 4)) dNil)) (dC (.int 1))) (dVar 7))))))))) (ρ := .val (.scr ns) :: .val (bD bs) :: .val (mD Ls) :: .own [] :: x4 :: x5 :: x6 :: x7 :: rest)
    (fun k ρ => ∃ (Ms : List (List Int)) (y4 y5 y6 y7 : S), ρ = .val (.scr ns) :: .val (bD bs) :: .val (mD Ls) :: .own (Ms.map iD) :: y4 :: y5 :: y6 :: y7 :: rest ∧ (notOwn y4 = true ∧ notOwn y5 = true ∧ notOwn y6 = true ∧ notOwn y7 = true) ∧ Ms.length = k ∧ ∀ (j : Nat) M, Ms[j]? = some M → ∃ e b L, bs[j]? = some b ∧ Ls[j]? = some L ∧ M = e :: L.reverse ∧ b.1 ≤ e ∧ e ≤ b.2) bs.length ⟨[], x4, x5, x6, x7, rfl, hx, rfl, fun j M h => by simp at h⟩ (by
      rintro k ρ hk ⟨Ms, y4, y5, y6, y7, rfl, hy, hml, hmp⟩
      have e1 : bs[k]? = some bs[k] := List.getElem?_eq_getElem hk
      have e2 : Ls[k]? = some Ls[k] := List.getElem?_eq_getElem (by omega)
      have hbk := hb bs[k] (List.getElem_mem _)
      have hlk := hs Ls[k] (List.getElem_mem _)
      have hbat := bD_at e1
      have hmat := mD_at e2
      have ha : d__law_at [.scr ns, .int (9 + (k : Int))] = .ok (.int (aT ns (9 + k))) := by
        have := at_eq ns (9 + k)
        rwa [show ((9 + k : Nat) : Int) = 9 + (k : Int) by omega] at this
      generalize aT ns (9 + k) = A at *
      generalize bs[k] = b at *
      generalize Ls[k] = L at *
      have d2 : fdivD (.int A) (.int 2) = some (.int (A / 2)) := fdiv_small (by decide) (by decide)
      have md : modD (.int (A / 2)) (.int (b.2 - b.1 + 1)) = some (.int (A / 2 % (b.2 - b.1 + 1))) := ev_mod (by omega)
      have r0 : 0 ≤ A / 2 % (b.2 - b.1 + 1) := Int.emod_nonneg _ (by omega)
      have r1 : A / 2 % (b.2 - b.1 + 1) < b.2 - b.1 + 1 := Int.emod_lt_of_pos _ (by omega)
      generalize A / 2 % (b.2 - b.1 + 1) = R at *
      have cmp := lcD_rng (ρ := .val (.scr ns) :: .val (bD bs) :: .val (mD Ls) :: .own (Ms.map iD) :: .val (.int (k : Int)) :: .val (.int b.1) :: .val (.int (b.1 + R)) :: y7 :: rest) (i := 7) (n := L.length) (e := dOp ixD (dIxV 2 (dVar 4)) (dOp subD (dOp subD (dCB lenD (dCons (dIxV 2 (dVar 4)) dNil)) (dC (.int 1))) (dVar 7))) (fun j => D.int (L.getD (L.length - 1 - j) 0)) fun j hj => by
        have hlt : L.length - 1 - j < L.length := by omega
        have hx := iD_at (List.getElem?_eq_getElem hlt)
        rw [show ((L.length - 1 - j : Nat) : Int) = (L.length : Int) - 1 - (j : Int) by omega] at hx
        simp [hmat, hx, List.getElem?_eq_getElem hlt]
      rw [rev_comp] at cmp
      have ad : addD (.lst [.int (b.1 + R)]) (.lst (L.reverse.map D.int)) = some (iD ((b.1 + R) :: L.reverse)) := by
        have : 1 + L.length ≤ 1000000 := by omega
        simp [this, iD]
      have hcap : Ms.length < 1000000 := by omega
      have hlc : L.length < 1000000 := by omega
      generalize hLr : L.reverse = Lr at *
      refine ⟨_, .val (.scr ns) :: .val (bD bs) :: .val (mD Ls) :: .own ((Ms ++ [(b.1 + R) :: Lr]).map iD) :: .val (.int (k : Int)) :: .val (.int b.1) :: .val (.int (b.1 + R)) :: y7 :: rest, ev_gN, ?_, _, _, _, _, _, rfl, ⟨rfl, rfl, rfl, hy.2.2.2⟩, by simp [hml], fun j M hj => ?_⟩
      · simp only [ev_sSeq, ev_sSet, ev_dOp, ev_dIxV, ev_dVar, ev_dC, ev_dCal, ev_dCons, ev_dNil, List.set_cons_succ, List.set_cons_zero, List.getElem?_cons_succ, List.getElem?_cons_zero, ev_bo, ev_os, ev_ko, hbat, ixD_pr0, ixD_pr1, ev_add, ev_sub, List.length_cons, List.length_nil, if_true, ha, ev_ne, d2, md]
        simp only [ev_sApp, ev_onOwn, ev_dOp, ev_dNew, ev_nLst, ev_nLc, ev_iR1, ev_dCons, ev_dNil, ev_dCB, ev_dIxV, ev_dVar, List.getElem?_cons_succ, List.getElem?_cons_zero, ev_bo, ev_os, hmat, len_iD, rng1_nat (show L.length ≤ 1000000 by omega), List.length_map, List.length_range, hlc, if_true, cmp, List.length_cons, List.length_nil]
        simp [ad, hcap]
      · by_cases hjk : j < Ms.length
        · rw [List.getElem?_append_left hjk] at hj
          exact hmp j M hj
        · rw [List.getElem?_append_right (by omega)] at hj
          have hj0 : j - Ms.length = 0 := by
            have := (List.getElem?_eq_some_iff.mp hj).1
            simp at this
            omega
          rw [hj0] at hj
          simp at hj
          have : j = k := by omega
          subst this
          exact ⟨b.1 + R, b, L, e1, e2, by rw [← hj, hLr], by omega, by omega⟩)
  exact ⟨Ms, y4, y5, y6, y7, hy, e, hml, hmp⟩
theorem phi_ones : phi z__law_ones = f__law_ones := by
  unfold phi
  exact if_pos rfl
theorem phi_others : phi z__law_others = f__law_others := by
  have h : z__law_others ≠ z__law_ones := fun z => absurd (congrArg CloD.name z) (by decide)
  unfold phi
  rw [if_neg h]
  exact if_pos rfl
theorem isi_form {n : Nat} (F : Fo n) (h : 1 ≤ n) : isiD [foD n F, .raw (.ty "tuple")] = some (.bl true) := by
  cases n with
  | zero => omega
  | succ n => rfl
@[simp] theorem eqD_bl {a b : Bool} : eqD (.bl a) (.bl b) = some (.bl (a == b)) := by simp [eqD, shD, eqvD]
open Classical in
theorem plain (ns : List Int) (hg : good ns) (cells : List (Str × Addr)) (hc : ∀ y, (defScope s_law).names.lookup y = some .cell ∨ (defScope s_law).names.lookup y = some .free → ∃ c, cells.lookup y = some c) : b_law cells (.val (.scr ns) :: List.replicate 18 .emp) = .rt (.bl true) := by
  obtain ⟨bs, eb, b1, b3, hb⟩ := bounds_eq ns
  obtain ⟨Ls, em, hl, hm⟩ := marks_eq ns bs hg.1 b1 b3 hb
  have hs : ∀ l ∈ Ls, l.length ≤ 100 := fun l q => (hm l q).1
  have e0 : d__law_at [.scr ns, .int 0] = .ok (.int (aT ns 0)) := at_eq ns 0
  have e6 : d__law_at [.scr ns, .int 6] = .ok (.int (aT ns 6)) := at_eq ns 6
  obtain ⟨Ms, y4, y5, y6, y7, hy, emore, hml, hmp⟩ := more_eq ns bs Ls .emp .emp .emp .emp (List.replicate 11 .emp) b3 hl hb hs ⟨rfl, rfl, rfl, rfl⟩
  obtain ⟨T20, hp20, p20, n20⟩ := ex20
  generalize aT ns 0 = A0 at *
  generalize aT ns 6 = A6 at *
  have d3 : fdivD (.int A0) (.int 3) = some (.int (A0 / 3)) := fdiv_small (by decide) (by decide)
  have d9 : fdivD (.int A0) (.int 9) = some (.int (A0 / 9)) := fdiv_small (by decide) (by decide)
  have d36 : fdivD (.int A0) (.int 36) = some (.int (A0 / 36)) := fdiv_small (by decide) (by decide)
  have m3 : modD (.int (A0 / 3)) (.int 3) = some (.int (A0 / 3 % 3)) := ev_mod (by decide)
  have m4 : modD (.int (A0 / 9)) (.int 4) = some (.int (A0 / 9 % 4)) := ev_mod (by decide)
  have m5 : modD (.int (A0 / 36)) (.int 5) = some (.int (A0 / 36 % 5)) := ev_mod (by decide)
  have m20 : modD (.int A6) (.int T20) = some (.int (A6 % T20)) := ev_mod p20
  have z4 := Int.emod_nonneg (A0 / 9) (show (4 : Int) ≠ 0 by decide)
  have y4' := Int.emod_lt_of_pos (A0 / 9) (show (0 : Int) < 4 by decide)
  have z5 := Int.emod_nonneg (A0 / 36) (show (5 : Int) ≠ 0 by decide)
  have y5' := Int.emod_lt_of_pos (A0 / 36) (show (0 : Int) < 5 by decide)
  have z20 := Int.emod_nonneg A6 (show T20 ≠ 0 by omega)
  have y20 := Int.emod_lt_of_pos A6 p20
  generalize hWy : A0 / 3 % 3 = way at *
  generalize hTw : 1 + A0 / 9 % 4 = tw at *
  generalize hTu : 1 + A0 / 36 % 5 = tu at *
  generalize hSt : 1 + A6 % T20 = st at *
  have t1 : 1 ≤ tw ∧ tw ≤ 4 := by omega
  have t1' : 1 ≤ tw ∧ tw ≤ 5 := by omega
  have t2 : 1 ≤ tu ∧ tu ≤ 5 := by omega
  have t3 : 1 ≤ st ∧ st.natAbs < 2 ^ 150 := by
    refine ⟨by omega, Nat.lt_of_lt_of_le (m := 2 ^ 100 + 2) ?_ (by decide)⟩
    generalize 2 ^ 100 = Q at *
    omega
  -- the further marks
  obtain ⟨ee, M0, Mr, hM⟩ : ∃ ee M0 Mr, Ms = (ee :: M0) :: Mr := by
    cases hMs : Ms with
    | nil => rw [hMs] at hml; simp at hml; omega
    | cons M Mr =>
      obtain ⟨e, _, L, _, _, hML, _⟩ := hmp 0 M (by rw [hMs]; rfl)
      exact ⟨e, L.reverse, Mr, by rw [hML]⟩
  have hsub : Sub2 Ls Ms := fun k L M h1 h2 x hx => by
    obtain ⟨e, b, L', _, q2, q3, _⟩ := hmp k M h2
    rw [h1] at q2
    cases q2
    rw [q3]
    exact List.mem_cons_of_mem _ (List.mem_reverse.mpr hx)
  have hself : Sub2 Ls Ls := fun k L M h1 h2 x hx => by
    rw [h1] at h2
    cases h2
    exact hx
  have inL : ∀ M ∈ Ms, ∃ e L, L ∈ Ls ∧ M = e :: L.reverse := fun M q => by
    obtain ⟨k, hk⟩ := List.mem_iff_getElem?.mp q
    obtain ⟨e, _, L, _, h2, h3, _⟩ := hmp k M hk
    exact ⟨e, L, List.mem_of_getElem? h2, h3⟩
  have hsM : ∀ M ∈ Ms, M.length ≤ 101 := fun M q => by
    obtain ⟨e, L, h1, h2⟩ := inL M q
    have := hs L h1
    rw [h2]
    simp
    omega
  have few : ∀ M ∈ Ms, ∃ A : List Int, A.length ≤ mostOf bs.length + 1 ∧ ∀ x ∈ M, x ∈ A := fun M q => by
    obtain ⟨e, L, h1, h2⟩ := inL M q
    refine ⟨e :: L.take (mostOf bs.length), by simp [List.length_take]; omega, fun x hx => ?_⟩
    rw [h2] at hx
    rcases List.mem_cons.mp hx with z | z
    · rw [z]; exact List.mem_cons_self
    · exact List.mem_cons_of_mem _ ((hm L h1).2 x (List.mem_reverse.mp z))
  have most40 : mostOf bs.length ≤ 40 := by
    unfold mostOf
    split
    · exact Nat.le_refl _
    · split <;> decide
  have hB : ∀ k ≤ bs.length, (mostOf bs.length + 2) ^ k ≤ 300 := fun k hk => by
    have : bs.length = 1 ∨ bs.length = 2 ∨ bs.length = 3 := by omega
    rcases this with q | q | q <;> rw [q] at hk ⊢
    · have : k = 0 ∨ k = 1 := by omega
      rcases this with r | r <;> subst r <;> decide
    · have : k = 0 ∨ k = 1 ∨ k = 2 := by omega
      rcases this with r | r | r <;> subst r <;> decide
    · have : k = 0 ∨ k = 1 ∨ k = 2 ∨ k = 3 := by omega
      rcases this with r | r | r | r <;> subst r <;> decide
  -- the two functions
  let cl1 := cloFrom cells (C8.fnScope z__law_ones.st).names []
  let cl2 := cloFrom cells (C8.fnScope z__law_others.st).names []
  let ws1 : List D := [mD Ls, .int st, .int tu, .int tw]
  let ws2 : List D := [mD Ls, mD Ms, .fnv z__law_ones cl1, .int st, .int tu, .int tw, .int way]
  let one : List Int → Int := onesF Ls tw tu st
  let oth : List Int → Int := othF Ls ee way tw tu st
  have h1 : ∀ cs : List Int, cs.length = bs.length → f__law_ones ws1 (iD cs) = .ok (.int (one cs)) := fun cs q => ones_eq cs Ls tw tu st (by omega) (by omega) hs t1' t2 t3
  have h2 : ∀ cs : List Int, cs.length = bs.length → f__law_others ws2 (iD cs) = .ok (.int (oth cs)) := fun cs q => others_eq cs Ls Ms ee way tw tu st cl1 M0 Mr hM (by omega) (by omega) (by omega) hs t1 t2 t3
  have hw1 : noClos ws1 = true := by simp [ws1, noClos_cons, noClos_nil, noClo_mD, noClo_int]
  have hw2 : noClos ws2 = true := by
    have : noClo (.fnv z__law_ones cl1) = true := by simp only [noClo]
    simp [ws2, noClos_cons, noClos_nil, noClo_mD, noClo_int, this]
  have sib1 : Sib cl1 ws1 := sib_none fun q c hm => by simp [ws1, mD] at hm
  have free1 : ∀ y ∈ (C8.fnScope z__law_ones.st).names, y.2 = .free → ∃ c, cells.lookup y.1 = some c := fun y hy e => hc y.1 (ndef_free nb__law_ones y hy e)
  have free2 : ∀ y ∈ (C8.fnScope z__law_others.st).names, y.2 = .free → ∃ c, cells.lookup y.1 = some c := fun y hy e => hc y.1 (ndef_free nb__law_others y hy e)
  have sub12 : ∀ y ∈ (C8.fnScope z__law_ones.st).names, y.2 = .free → y ∈ (C8.fnScope z__law_others.st).names := by
    have : ((C8.fnScope z__law_ones.st).names.all fun y => !decide (y.2 = .free) || decide (y ∈ (C8.fnScope z__law_others.st).names)) = true := by decide +kernel
    intro y hy e
    have := List.all_eq_true.mp this y hy
    simpa [e] using this
  have sib2 : Sib cl2 ws2 := fun q c hm => by
    have : q = z__law_ones ∧ c = cl1 := by
      simp [ws2, mD] at hm
      exact hm
    obtain ⟨rfl, rfl⟩ := this
    exact sib_clo free1 free2 sub12 (ndef_fr nb__law_ones)
  -- the two forms
  have hf1 : ∀ (k : Nat) b L, bs[k]? = some b → Ls[k]? = some L → (strF b.2 b.1 (srt L)).length ≤ mostOf bs.length + 2 := fun k b L _ h2 => by
    have ok := hm L (List.mem_of_getElem? h2)
    have := strF_few b.2 b.1 L (L.take (mostOf bs.length)) ok.2
    have := List.length_take_le (mostOf bs.length) L
    omega
  have hf2 : ∀ (k : Nat) b L, bs[k]? = some b → Ms[k]? = some L → (strF b.2 b.1 (srt L)).length ≤ mostOf bs.length + 2 := fun k b L _ h2 => by
    obtain ⟨A, a1, a2⟩ := few L (List.mem_of_getElem? h2)
    have := strF_few b.2 b.1 L A a2
    omega
  have built1 := built_eq (Φ := phi) (z := z__law_ones) (ws := ws1) (leaf := one) (mostOf bs.length + 2) bs Ls b3 hB hl (fun l q => by have := hs l q; omega) hf1 hw1 (fun cs q => by rw [phi_ones]; exact h1 cs q)
  have built2 := built_eq (Φ := phi) (z := z__law_others) (ws := ws2) (leaf := oth) (mostOf bs.length + 2) bs Ms b3 hB hml (fun l q => by have := hsM l q; omega) hf2 hw2 (fun cs q => by rw [phi_others]; exact h2 cs q)
  have til1 := tiles_of bs Ls hl hb
  have til2 := tiles_of bs Ms hml hb
  have rl1 := rows_len hl
  have rl2 := rows_len hml
  have shp1 := shp_bld one bs (rowsOf bs Ls) [] til1
  have shp2 := shp_bld oth bs (rowsOf bs Ms) [] til2
  have feq := forms_eq (by omega) shp1 shp2
  have lk1 : ∀ cs, Within bs cs → lkF (rowsOf bs Ls).length (bld one (rowsOf bs Ls) []) cs = some (one cs) := fun cs hw => by
    rw [look_bld one bs (rowsOf bs Ls) [] cs til1 hw, List.nil_append]
    exact congrArg some (ones_start hl hl hself hw).symm
  have lk2 : ∀ cs, Within bs cs → lkF (rowsOf bs Ms).length (bld oth (rowsOf bs Ms) []) cs = some (oth cs) := fun cs hw => by
    rw [look_bld oth bs (rowsOf bs Ms) [] cs til2 hw, List.nil_append]
    exact congrArg some (oth_start hM hl hml hsub hw).symm
  have agree : (∀ cs, Within bs cs → lkF (rowsOf bs Ls).length (bld one (rowsOf bs Ls) []) cs = lkF (rowsOf bs Ms).length (bld oth (rowsOf bs Ms) []) cs) ↔ ∀ cs ∈ crnF [[]] (lowsF bs Ms), one cs = oth cs := by
    constructor
    · intro h cs hcs
      have hw := crn_within hml hb hcs
      have := h cs hw
      rw [lk1 cs hw, lk2 cs hw] at this
      exact Option.some.inj this
    · intro h cs hw
      rw [lk1 cs hw, lk2 cs hw]
      have e1 : one cs = one (starts (rowsOf bs Ms) cs) := ones_start hl hml hsub hw
      have e2 : oth cs = oth (starts (rowsOf bs Ms) cs) := oth_start hM hl hml hsub hw
      rw [e1, e2, h _ (crn_starts hml hw)]
  have isi1 := isi_form (bld one (rowsOf bs Ls) []) (by omega)
  have isi2 := isi_form (bld oth (rowsOf bs Ms) []) (by omega)
  have nc1 := noClo_foD (rowsOf bs Ls).length (bld one (rowsOf bs Ls) [])
  have nc2 := noClo_foD (rowsOf bs Ms).length (bld oth (rowsOf bs Ms) [])
  have feq' : eqD (foD (rowsOf bs Ls).length (bld one (rowsOf bs Ls) [])) (foD (rowsOf bs Ms).length (bld oth (rowsOf bs Ms) [])) = some (.bl (decide (∀ cs ∈ crnF [[]] (lowsF bs Ms), one cs = oth cs))) := by
    rw [feq]
    congr 2
    exact decide_eq_decide.mpr agree
  have elow := lows_eq bs Ms b3 hml (fun l q => by have := hsM l q; omega) (fun l q => by
    obtain ⟨A, a1, a2⟩ := few l q
    exact ⟨A, by omega, a2⟩)
  have ecrn := corners_eq (lowsF bs Ms) (by rw [lows_len hml]; exact b3) fun l q => by
    obtain ⟨k, hk⟩ := List.mem_iff_getElem?.mp q
    have kl := (List.getElem?_eq_some_iff.mp hk).1
    rw [lows_len hml] at kl
    have q1 : bs[k]? = some bs[k] := List.getElem?_eq_getElem kl
    have q2 : Ms[k]? = some Ms[k] := List.getElem?_eq_getElem (by omega)
    rw [lows_at q1 q2] at hk
    cases hk
    obtain ⟨A, a1, a2⟩ := few Ms[k] (List.getElem_mem _)
    have := nodup_len (ddp (Ms[k].filter fun m => decide (bs[k].1 < m) && decide (m ≤ bs[k].2))) A (ddp_nodup _) fun x hx => a2 x (List.mem_filter.mp ((mem_ddp x _).mp hx)).1
    unfold lowOf srtS
    rw [List.length_cons, (srt_perm _).length_eq]
    omega
  have hcl : ∀ cs ∈ crnF [[]] (lowsF bs Ms), cs.length = bs.length := fun cs q => within_len bs cs (crn_within hml hb q)
  generalize foD (rowsOf bs Ls).length (bld one (rowsOf bs Ls) []) = FD1 at *
  generalize foD (rowsOf bs Ms).length (bld oth (rowsOf bs Ms) []) = FD2 at *
  generalize crnF [[]] (lowsF bs Ms) = C at *
  clear feq agree lk1 lk2
  have hmD : D.lst (Ms.map iD) = mD Ms := rfl
  have hLD : D.lst (Ls.map iD) = mD Ls := rfl
  have loop : ∀ (Cs : List (List Int)) (b : Bool) (x : S), (∀ cs ∈ Cs, cs.length = bs.length) → ∃ x', forD (gN 18) (sIf (dTest (dOp neD (dFnvQ 12 z__law_ones cl1 [2, 11, 10, 9] f__law_ones (dVar 18)) (dFnvQ 13 z__law_others cl2 [2, 3, 12, 11, 10, 9, 8] f__law_others (dVar 18))))
 (sSet 17 (dC (.bl false)))
 sNext) (Cs.map iD) [.val (.scr ns), .val (bD bs), .val (mD Ls), .val (mD Ms), y4, y5, y6, y7, .val (.int way), .val (.int tw), .val (.int tu), .val (.int st), .val (.fnv z__law_ones cl1), .val (.fnv z__law_others cl2), .val FD1, .emp, .val FD2, .val (.bl b), x] =
      .nx [.val (.scr ns), .val (bD bs), .val (mD Ls), .val (mD Ms), y4, y5, y6, y7, .val (.int way), .val (.int tw), .val (.int tu), .val (.int st), .val (.fnv z__law_ones cl1), .val (.fnv z__law_others cl2), .val FD1, .emp, .val FD2, .val (.bl (b && decide (∀ cs ∈ Cs, one cs = oth cs))), x'] := by
    intro Cs
    induction Cs with
    | nil => exact fun b x _ => ⟨x, by simp⟩
    | cons cs Cs ih =>
      intro b x hC
      have hlen := hC cs List.mem_cons_self
      have q1 : dFnvQ 12 z__law_ones cl1 [2, 11, 10, 9] f__law_ones (dVar 18) [.val (.scr ns), .val (bD bs), .val (mD Ls), .val (mD Ms), y4, y5, y6, y7, .val (.int way), .val (.int tw), .val (.int tu), .val (.int st), .val (.fnv z__law_ones cl1), .val (.fnv z__law_others cl2), .val FD1, .emp, .val FD2, .val (.bl b), .val (iD cs)] = .ok (.int (one cs)) := by
        rw [fnvQ_ok (ws := ws1) rfl (by simp [valsAt, ws1]) sib1]
        simp [h1 cs hlen]
      have q2 : dFnvQ 13 z__law_others cl2 [2, 3, 12, 11, 10, 9, 8] f__law_others (dVar 18) [.val (.scr ns), .val (bD bs), .val (mD Ls), .val (mD Ms), y4, y5, y6, y7, .val (.int way), .val (.int tw), .val (.int tu), .val (.int st), .val (.fnv z__law_ones cl1), .val (.fnv z__law_others cl2), .val FD1, .emp, .val FD2, .val (.bl b), .val (iD cs)] = .ok (.int (oth cs)) := by
        rw [fnvQ_ok (ws := ws2) rfl (by simp [valsAt, ws2]) sib2]
        simp [h2 cs hlen]
      by_cases he : one cs = oth cs
      · obtain ⟨x', e⟩ := ih b (.val (iD cs)) fun c q => hC c (List.mem_cons_of_mem _ q)
        refine ⟨x', ?_⟩
        simp only [List.map_cons, forD]
        simp [q1, q2, he]
        simpa using e
      · obtain ⟨x', e⟩ := ih false (.val (iD cs)) fun c q => hC c (List.mem_cons_of_mem _ q)
        refine ⟨x', ?_⟩
        simp only [List.map_cons, forD]
        simp [q1, q2, he]
        simpa using e
  obtain ⟨x', eloop⟩ := loop C true .emp hcl
  have hand : ∀ (L : List (List Int)) (ρ : En), lcD 15 tYesD (dNew (nList (dCons (dVar 15) dNil))) ρ (L.map iD) = .ok (L.map iD) ∨ ρ.length ≤ 15 := fun L ρ => by
    by_cases hρ : ρ.length ≤ 15
    · exact .inr hρ
    · refine .inl (lcD_all iD iD L fun l _ => ?_)
      have : (ρ.set 15 (.val (iD l)))[15]? = some (.val (iD l)) := List.getElem?_set_self (by omega)
      simp [this]
      rfl
  have hLl : Ls.length < 1000000 := by omega
  have hMl : Ms.length < 1000000 := by omega
  have form1 : ∀ a b c d : S, dCalC 3 (d_built phi) 2 z__law_ones cl1 [2, 11, 10, 9] (dCons (dNew (nList (dCons (dVar 1) dNil))) (dCons (dNew (nLc 15 (iSeq (dVar 2)) tYesD (dNew (nList (dCons (dVar 15) dNil))))) (dCons (dVar 12) dNil)))
      [.val (.scr ns), .val (bD bs), .val (mD Ls), .val (mD Ms), y4, y5, y6, y7, .val (.int way), .val (.int tw), .val (.int tu), .val (.int st), .val (.fnv z__law_ones cl1), .val (.fnv z__law_others cl2), a, b, c, d, .emp] = .ok FD1 := fun a b c d => by
    have hh := (hand Ls [.val (.scr ns), .val (bD bs), .val (mD Ls), .val (mD Ms), y4, y5, y6, y7, .val (.int way), .val (.int tw), .val (.int tu), .val (.int st), .val (.fnv z__law_ones cl1), .val (.fnv z__law_others cl2), a, b, c, d, .emp]).resolve_right (by simp)
    exact calC_ok (ds := [bD bs, mD Ls, .fnv z__law_ones cl1]) (ws := ws1) (by simp [hh, hLl, hLD]; simp [bD]) rfl rfl (by simp [valsAt, ws1]) sib1 built1 nc1
  have form2 : ∀ a b c d : S, dCalC 3 (d_built phi) 2 z__law_others cl2 [2, 3, 12, 11, 10, 9, 8] (dCons (dNew (nList (dCons (dVar 1) dNil))) (dCons (dNew (nLc 15 (iSeq (dVar 3)) tYesD (dNew (nList (dCons (dVar 15) dNil))))) (dCons (dVar 13) dNil)))
      [.val (.scr ns), .val (bD bs), .val (mD Ls), .val (mD Ms), y4, y5, y6, y7, .val (.int way), .val (.int tw), .val (.int tu), .val (.int st), .val (.fnv z__law_ones cl1), .val (.fnv z__law_others cl2), a, b, c, d, .emp] = .ok FD2 := fun a b c d => by
    have hh := (hand Ms [.val (.scr ns), .val (bD bs), .val (mD Ls), .val (mD Ms), y4, y5, y6, y7, .val (.int way), .val (.int tw), .val (.int tu), .val (.int st), .val (.fnv z__law_ones cl1), .val (.fnv z__law_others cl2), a, b, c, d, .emp]).resolve_right (by simp)
    exact calC_ok (ds := [bD bs, mD Ms, .fnv z__law_others cl2]) (ws := ws2) (by simp [hh, hMl, hmD]; simp [bD]) rfl rfl (by simp [valsAt, ws2]) sib2 built2 nc2
  clear_value one oth
  unfold b_law
  show (sSeq _ (sSeq _ _)) _ = _
  simp only [List.replicate] at emore ⊢
  simp [eb, em, rng1_nat (show bs.length ≤ 1000000 by omega)]
  rw [emore]
  simp [e0, e6, d3, d9, d36, m3, m4, m5, m20, hp20, hWy, hTw, hTu, hSt, sNdef, noOwnB, hy.1, hy.2.1, hy.2.2.1, hy.2.2.2, show ∀ d, notOwn (.val d) = true from fun _ => rfl, show notOwn .emp = true from rfl, hmD]
  rw [show cloFrom cells (C8.fnScope z__law_ones.st).names [] = cl1 from rfl, show cloFrom cells (C8.fnScope z__law_others.st).names [] = cl2 from rfl]
  clear_value cl1 cl2
  rw [form1]
  simp only [ev_ko, List.set_cons_succ, List.set_cons_zero, List.getElem?_cons_succ, List.getElem?_cons_zero]
  rw [form2]
  simp only [Bool.true_and] at eloop
  simp [elow, ecrn]
  rw [eloop]
  simp [isi1, isi2, feq']
end K35
/-! ## K35h -/
namespace K35
open PySem PySem.Spec PyProof.Rows L2 LamX NdefX Pu
/-! ### the head -/
def dd (x : Str) (i : Nat) : He.DefD := ⟨(x, none), x, x, defArgs (topS i), defBody (topS i), defScope (topS i), [], []⟩
def fn : List He.DefD := [dd "stretches" 4, dd "grain" 7, dd "drawn" 8, dd "built_behind" 9, dd "built" 10, dd "_law_at" 12, dd "_law_bounds" 13, dd "_law_marks" 14, dd "_law_lows" 15, dd "_law_corners" 16, dd "_law_told" 17, dd "law" 18]
def fa : List He.Fa := [.glo "stretches", .glo "grain", .glo "drawn", .glo "built_behind", .glo "built", .glo "_law_at", .glo "_law_bounds", .glo "_law_marks", .glo "_law_lows", .glo "_law_corners", .glo "_law_told", .glo "law", .free "isinstance", .free "len", .free "list", .free "min", .free "range", .free "set", .free "sorted", .free "tuple", .int "FINEST" 300]
def tf : List He.Defn := [("law", none)]
def ex0 : PySem.W.Frag → Bool := fun _ => true
def loose : List Str := ["TableError", "TooFine", "stretches", "FINEST", "grain", "drawn", "built_behind", "built", "_law_at", "_law_bounds", "_law_marks", "_law_lows", "_law_corners", "_law_told"]
abbrev RR : PySem.W.OpenRow := PySem.W.OpenLaw.row PySem.Challenge.rw_rowjudge_k35_whole_one_form
abbrev hk : PySem.W.Hook := He.hookX 4 fa fn [] tf ex0
def ob (s : PySem.W.SharedT) : He.AlX := He.obsX 4 fa fn [] tf ex0 (HandSHeadRun.getT s)
theorem ob_eq (s : PySem.W.SharedT) : ob s = hk.obs s.abs := He.obsX_eq (HandSHeadRun.getT_eq s)
theorem run (w : World) : HandSHeadRun.RunEq RR (PySem.W.view RR.prog [18]) hk ob 6000 loose w := by
  intro os
  kernel_rfl
theorem top_of {K : PySem.W.Frag} {h : Heap} {mg : Str → Option Value} (X : K.In h) (G : h.Ns mainGlobals mg) (c : He.SaysD fa fn K) : Top K mg where
  f_isinstance := He.free_ok X G (c.fact 12 (f := .free "isinstance") rfl)
  f_len := He.free_ok X G (c.fact 13 (f := .free "len") rfl)
  f_list := He.free_ok X G (c.fact 14 (f := .free "list") rfl)
  f_min := He.free_ok X G (c.fact 15 (f := .free "min") rfl)
  f_range := He.free_ok X G (c.fact 16 (f := .free "range") rfl)
  f_set := He.free_ok X G (c.fact 17 (f := .free "set") rfl)
  f_sorted := He.free_ok X G (c.fact 18 (f := .free "sorted") rfl)
  f_tuple := He.free_ok X G (c.fact 19 (f := .free "tuple") rfl)
  c_FINEST := He.int_ok X G (c.fact 20 (f := .int "FINEST" 300) rfl)
  d_stretches := by
    obtain ⟨fd, F⟩ := c.def_ 0 (d := dd "stretches" 4) rfl
    exact ⟨_, fd, funD_fun F, He.glo_ok X G (c.fact 0 (f := .glo "stretches") rfl)⟩
  d_grain := by
    obtain ⟨fd, F⟩ := c.def_ 1 (d := dd "grain" 7) rfl
    exact ⟨_, fd, funD_fun F, He.glo_ok X G (c.fact 1 (f := .glo "grain") rfl)⟩
  d_drawn := by
    obtain ⟨fd, F⟩ := c.def_ 2 (d := dd "drawn" 8) rfl
    exact ⟨_, fd, funD_fun F, He.glo_ok X G (c.fact 2 (f := .glo "drawn") rfl)⟩
  d_built_behind := by
    obtain ⟨fd, F⟩ := c.def_ 3 (d := dd "built_behind" 9) rfl
    exact ⟨_, fd, funD_fun F, He.glo_ok X G (c.fact 3 (f := .glo "built_behind") rfl)⟩
  d_built := by
    obtain ⟨fd, F⟩ := c.def_ 4 (d := dd "built" 10) rfl
    exact ⟨_, fd, funD_fun F, He.glo_ok X G (c.fact 4 (f := .glo "built") rfl)⟩
  d__law_at := by
    obtain ⟨fd, F⟩ := c.def_ 5 (d := dd "_law_at" 12) rfl
    exact ⟨_, fd, funD_fun F, He.glo_ok X G (c.fact 5 (f := .glo "_law_at") rfl)⟩
  d__law_bounds := by
    obtain ⟨fd, F⟩ := c.def_ 6 (d := dd "_law_bounds" 13) rfl
    exact ⟨_, fd, funD_fun F, He.glo_ok X G (c.fact 6 (f := .glo "_law_bounds") rfl)⟩
  d__law_marks := by
    obtain ⟨fd, F⟩ := c.def_ 7 (d := dd "_law_marks" 14) rfl
    exact ⟨_, fd, funD_fun F, He.glo_ok X G (c.fact 7 (f := .glo "_law_marks") rfl)⟩
  d__law_lows := by
    obtain ⟨fd, F⟩ := c.def_ 8 (d := dd "_law_lows" 15) rfl
    exact ⟨_, fd, funD_fun F, He.glo_ok X G (c.fact 8 (f := .glo "_law_lows") rfl)⟩
  d__law_corners := by
    obtain ⟨fd, F⟩ := c.def_ 9 (d := dd "_law_corners" 16) rfl
    exact ⟨_, fd, funD_fun F, He.glo_ok X G (c.fact 9 (f := .glo "_law_corners") rfl)⟩
  d__law_told := by
    obtain ⟨fd, F⟩ := c.def_ 10 (d := dd "_law_told" 17) rfl
    exact ⟨_, fd, funD_fun F, He.glo_ok X G (c.fact 10 (f := .glo "_law_told") rfl)⟩
theorem law_at (plain : ∀ ns, good ns → ∀ cells, (∀ y, (defScope s_law).names.lookup y = some .cell ∨ (defScope s_law).names.lookup y = some .free → ∃ c, cells.lookup y = some c) → b_law cells (.val (.scr ns) :: List.replicate 18 .emp) = .rt (.bl true)) {w : World} {K : PySem.W.Frag} {h : Heap} {mg : Str → Option Value} {fa0 : Addr} (X : K.In h) (G : h.Ns mainGlobals mg) (hmg : mg "law" = some (.ref fa0)) (c : He.SaysX fa fn [] tf ex0 w h K) :
    LawAtS PySem.Challenge.rw_rowjudge_k35_whole_one_form w K L2.CX0 10 63 "_law_script" mg fa0 h := by
  have cd := c.t.d
  have e := hmg.symm.trans (He.glo_ok X G (cd.fact 11 (f := .glo "law") rfl))
  cases e
  obtain ⟨fd, F⟩ := cd.def_ 11 (d := dd "law" 18) rfl
  have b := FunD.bindsA (ps := ["_law_script"]) F fun _ _ _ _ _ _ us hl => match us, hl with | [_], _ => rfl
  have hm : (("law", none) : He.Defn) ∈ tf := List.mem_singleton.mpr rfl
  refine ⟨fd, [He.cT K ("law", none)], SpLaw K [((He.cT K ("law", none)).2, nm_law)] good, fun p hp => ?_, fun p hp => ?_, fun p hp => ?_, fun s v => b s [v] rfl, fun H a ns hlen hbits hT hS => ⟨a, ns, rfl, hS, fun p hp => ?_, ⟨hlen, hbits⟩, fun _ => rfl⟩, fun base KB GB TB => ?_⟩
  · rw [List.mem_singleton.mp hp]
    exact c.empty _ hm
  · rw [List.mem_singleton.mp hp]
    exact c.out _ hm
  · rw [List.mem_singleton.mp hp]
    exact PySem.W.codeHd_of_K X (c.hd _ hm)
  · rw [List.mem_singleton.mp hp]
    exact TabN.nil (hT _ (List.mem_singleton.mpr rfl))
  · have T : Top K mg := top_of X G cd
    refine funD_okC (p := ("law", none)) F sc_law (fun vs H Q E q => ?_) (fun cdv hc A outer s H vs Q E hr q => ?_)
    · obtain ⟨a, ns, rfl, _⟩ := q
      rfl
    · obtain ⟨t, h1, h2⟩ := bd_law (P := (PySem.Challenge.rw_rowjudge_k35_whole_one_form).prog) (w := w) (base := base) T (He.fAd K ("law", none)) (He.codeOf K ("law", none)) (He.cT K ("law", none)).2 cdv hc (TB _ (List.mem_singleton.mpr rfl)) A outer s H E hr
      exact ⟨_, pss_ok h1.nox, fun ok => law_body h2 (by decide) (fun ns hg => plain ns hg _ fun y hy => ok.has y hy) q⟩
end K35
open PySem PySem.W PySem.Calls PyProof.Rows
theorem PySem.Challenge.cw_rowjudge_k35_whole_one_form_holds : PySem.Challenge.rw_rowjudge_k35_whole_one_form.Holds := by
  w_on; o_law
  refine HandSHeadRun.head_any (r := OpenLaw.row PySem.Challenge.rw_rowjudge_k35_whole_one_form) (q := view (OpenLaw.row PySem.Challenge.rw_rowjudge_k35_whole_one_form).prog [18]) (H := K35.hk) (ob := K35.ob) (M := 6000) (loose := K35.loose) (d := HandSHeadRun.topDef (OpenLaw.row PySem.Challenge.rw_rowjudge_k35_whole_one_form).prog 18) (kwd := []) K35.ob_eq
    (by kernel_rfl) (fun s => by kernel_rfl) K35.run (by kernel_rfl) (by kernel_rfl) (by kernel_rfl) (by rfl) (by first | assumption | decide +kernel) (by decide +kernel) ⟨rfl, rfl, rfl, rfl, rfl, by decide +kernel⟩ ?hw ?hc
  case hw => w_witness2
  case hc =>
    refine LamX.walk_ofTsE (l := PySem.Challenge.rw_rowjudge_k35_whole_one_form) (n := 63) (k := 10) (x := "_law_script") (CX := fun _ => L2.CX0) rfl (by decide) (by kernel_rfl) ⟨rfl, by decide, by decide⟩ ?F (fun _ _ _ _ _ z => z)
    intro w mg fa h Y G hmg0
    obtain ⟨K, KX, c⟩ := Y
    have hmg : mg ("law" : PySem.Str) = some (.ref fa) := by
      have e : (HandSHeadRun.topDef (OpenLaw.row PySem.Challenge.rw_rowjudge_k35_whole_one_form).prog 18).name = ("law" : PySem.Str) := by kernel_rfl
      rw [← e]
      exact hmg0
    exact ⟨K, KX, K35.law_at K35.plain KX G hmg c⟩
