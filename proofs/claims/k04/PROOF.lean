import PyProof.Rows.All
import Wide.All
import OpenK.AllK
import Wide.FinOn
import HandS.ForMost
import HandS.ForExc
import HandS.IsInst
import HandS.TupAny
import HandS.TupMul
import HandS.Rev
import HandS.Deep
import HandS.TryMany
import HandS.More
import HandS.Strs
import HandS.StrMore
import HandS.Dict
import KE.KIndexOf
import HandS.TupSets
import HandS.ExcIs
import PyProof.StrOps2
import KE.GoesComp
import HandS.DictComp
import PySem.Challenge.RW_redraft_k04_a_telling_done
set_option Elab.async false
set_option Elab.async false
set_option linter.all false
set_option maxRecDepth 100000
set_option maxHeartbeats 2000000
/-! DL1: data, the frozen heap, the judgements of expressions -/
namespace DL
open PySem PySem.Spec PyProof.Rows L2

/-! ### outcomes -/
inductive Exn where
  | noWord | tooLong | noRow | noFit
  deriving DecidableEq
inductive R (α : Type) where
  | ok (a : α) | ex (c : Exn) | no
def R.bind {α β : Type} : R α → (α → R β) → R β
  | .ok a, f => f a
  | .ex c, _ => .ex c
  | .no, _ => .no
instance : Monad R where
  pure := R.ok
  bind := R.bind
@[simp] theorem ok_bind {α β : Type} (a : α) (f : α → R β) : (R.ok a >>= f) = f a := rfl
@[simp] theorem ex_bind {α β : Type} (c : Exn) (f : α → R β) : ((R.ex c : R α) >>= f) = .ex c := rfl
@[simp] theorem no_bind {α β : Type} (f : α → R β) : ((R.no : R α) >>= f) = .no := rfl
@[simp] theorem pure_ok {α : Type} (a : α) : (pure a : R α) = .ok a := rfl
def Wp {α : Type} (r : R α) (ok : α → Prop) (ex : Exn → Prop) : Prop :=
  match r with
  | .ok a => ok a
  | .ex c => ex c
  | .no => False
theorem Wp.bind {α β : Type} {r : R α} {f : α → R β} {ok : β → Prop} {ex : Exn → Prop} (h : Wp (r >>= f) ok ex) : Wp r (fun a => Wp (f a) ok ex) ex := by
  cases r with
  | ok a => exact h
  | ex c => exact h
  | no => exact h
theorem Wp.mono {α : Type} {r : R α} {ok ok' : α → Prop} {ex ex' : Exn → Prop} (h : Wp r ok ex) (a : ∀ x, ok x → ok' x) (b : ∀ c, ex c → ex' c) : Wp r ok' ex' := by
  cases r with
  | ok x => exact a x h
  | ex c => exact b c h
  | no => exact h

/-! ### data -/
inductive D where
  | non | bl (b : Bool) | int (i : Int) | str (x : Str) | lst (xs : List D) | tup (xs : List D) | dic (kvs : List (Key × V)) | scr (ns : List Int) | adr (a : Addr)
mutual
def Dn (K : PySem.W.Frag) (F : Hp) : V → D → Prop
  | v, .non => v = .non
  | v, .bl b => v = .bl b
  | v, .int i => v = .int i
  | v, .str x => v = .str x
  | v, .lst ds => ∃ a vs, v = .ref a ∧ F a = some (.lst vs) ∧ DnL K F vs ds
  | v, .tup ds => ∃ a vs, v = .ref a ∧ SqT K F a vs ∧ DnL K F vs ds
  | v, .dic kvs => ∃ a, v = .ref a ∧ F a = some (.dK kvs) ∧ ∀ p ∈ kvs, flatV p.2 = true
  | v, .scr ns => ∃ a, v = .ref a ∧ SqL K F a (ns.map V.int)
  | v, .adr a => v = .ref a
def DnL (K : PySem.W.Frag) (F : Hp) : List V → List D → Prop
  | [], [] => True
  | v :: vs, d :: ds => Dn K F v d ∧ DnL K F vs ds
  | _ :: _, [] => False
  | [], _ :: _ => False
end
theorem sameT {K : PySem.W.Frag} {H H' : Hp} {a : Addr} {xs : List V} (e : Same H H') (h : SqT K H a xs) : SqT K H' a xs := by
  rcases h with (h | ⟨o, h⟩) | h
  · exact .inl (.inl (e _ _ h))
  · exact .inl (.inr ⟨o, e _ _ h⟩)
  · exact .inr h
mutual
theorem Dn.same {K : PySem.W.Frag} {F F' : Hp} (s : Same F F') : ∀ (d : D) (v : V), Dn K F v d → Dn K F' v d
  | .non, v, h => by simpa [Dn] using h
  | .bl _, v, h => by simpa [Dn] using h
  | .int _, v, h => by simpa [Dn] using h
  | .str _, v, h => by simpa [Dn] using h
  | .lst ds, v, h => by
    simp only [Dn] at h ⊢
    obtain ⟨a, vs, e, h1, h2⟩ := h
    exact ⟨a, vs, e, s _ _ h1, DnL.same s ds vs h2⟩
  | .tup ds, v, h => by
    simp only [Dn] at h ⊢
    obtain ⟨a, vs, e, h1, h2⟩ := h
    exact ⟨a, vs, e, sameT s h1, DnL.same s ds vs h2⟩
  | .dic _, v, h => by
    simp only [Dn] at h ⊢
    obtain ⟨a, e, h1, h2⟩ := h
    exact ⟨a, e, s _ _ h1, h2⟩
  | .scr _, v, h => by
    simp only [Dn] at h ⊢
    obtain ⟨a, e, h1⟩ := h
    exact ⟨a, e, s.seq h1⟩
  | .adr _, v, h => by simpa [Dn] using h
theorem DnL.same {K : PySem.W.Frag} {F F' : Hp} (s : Same F F') : ∀ (ds : List D) (vs : List V), DnL K F vs ds → DnL K F' vs ds
  | [], [], _ => by simp [DnL]
  | d :: ds, v :: vs, h => by
    simp only [DnL] at h ⊢
    exact ⟨Dn.same s d v h.1, DnL.same s ds vs h.2⟩
  | [], _ :: _, h => by simp [DnL] at h
  | _ :: _, [], h => by simp [DnL] at h
end
theorem DnL.length {K : PySem.W.Frag} {F : Hp} : ∀ {vs : List V} {ds : List D}, DnL K F vs ds → vs.length = ds.length
  | [], [], _ => rfl
  | _ :: vs, _ :: ds, h => by
    simp only [DnL] at h
    simp [DnL.length h.2]
  | [], _ :: _, h => by simp [DnL] at h
  | _ :: _, [], h => by simp [DnL] at h
theorem DnL.get {K : PySem.W.Frag} {F : Hp} : ∀ {vs : List V} {ds : List D} {i : Nat} {d : D}, DnL K F vs ds → ds[i]? = some d → ∃ v, vs[i]? = some v ∧ Dn K F v d
  | [], [], _, _, _, e => by simp at e
  | v :: vs, d :: ds, 0, d', h, e => by
    simp only [DnL] at h
    simp at e; subst e
    exact ⟨v, rfl, h.1⟩
  | v :: vs, d :: ds, i + 1, d', h, e => by
    simp only [DnL] at h
    obtain ⟨w, h1, h2⟩ := DnL.get (i := i) (d := d') h.2 (by simpa using e)
    exact ⟨w, by simpa using h1, h2⟩
  | [], _ :: _, _, _, h, _ => by simp [DnL] at h
  | _ :: _, [], _, _, h, _ => by simp [DnL] at h
theorem DnL.append {K : PySem.W.Frag} {F : Hp} : ∀ {vs ws : List V} {ds es : List D}, DnL K F vs ds → DnL K F ws es → DnL K F (vs ++ ws) (ds ++ es)
  | [], _, [], _, _, h => h
  | v :: vs, ws, d :: ds, es, h, h' => by
    simp only [DnL] at h
    show Dn K F v d ∧ DnL K F (vs ++ ws) (ds ++ es)
    exact ⟨h.1, DnL.append h.2 h'⟩
  | [], _, _ :: _, _, h, _ => by simp [DnL] at h
  | _ :: _, _, [], _, h, _ => by simp [DnL] at h
theorem DnL.one {K : PySem.W.Frag} {F : Hp} {v : V} {d : D} (h : Dn K F v d) : DnL K F [v] [d] := by
  simp only [DnL]; exact ⟨h, trivial⟩
theorem DnL.nil {K : PySem.W.Frag} {F : Hp} : DnL K F [] [] := by simp [DnL]
theorem DnL.cons {K : PySem.W.Frag} {F : Hp} {v : V} {d : D} {vs : List V} {ds : List D} (h : Dn K F v d) (h' : DnL K F vs ds) : DnL K F (v :: vs) (d :: ds) := by
  simp only [DnL]; exact ⟨h, h'⟩
theorem DnL.take {K : PySem.W.Frag} {F : Hp} : ∀ {vs : List V} {ds : List D} (n : Nat), DnL K F vs ds → DnL K F (vs.take n) (ds.take n)
  | _, _, 0, _ => by simp [DnL]
  | [], [], _ + 1, _ => by simp [DnL]
  | v :: vs, d :: ds, n + 1, h => by
    simp only [DnL] at h
    show Dn K F v d ∧ DnL K F (vs.take n) (ds.take n)
    exact ⟨h.1, DnL.take n h.2⟩
  | [], _ :: _, _ + 1, h => by simp [DnL] at h
  | _ :: _, [], _ + 1, h => by simp [DnL] at h
theorem DnL.drop {K : PySem.W.Frag} {F : Hp} : ∀ {vs : List V} {ds : List D} (n : Nat), DnL K F vs ds → DnL K F (vs.drop n) (ds.drop n)
  | _, _, 0, h => h
  | [], [], _ + 1, _ => by simp [DnL]
  | v :: vs, d :: ds, n + 1, h => by
    simp only [DnL] at h
    exact DnL.drop n h.2
  | [], _ :: _, _ + 1, h => by simp [DnL] at h
  | _ :: _, [], _ + 1, h => by simp [DnL] at h
theorem DnL.reverse {K : PySem.W.Frag} {F : Hp} : ∀ {vs : List V} {ds : List D}, DnL K F vs ds → DnL K F vs.reverse ds.reverse
  | [], [], _ => by simp [DnL]
  | v :: vs, d :: ds, h => by
    simp only [DnL] at h
    rw [List.reverse_cons, List.reverse_cons]
    exact (DnL.reverse h.2).append (DnL.one h.1)
  | [], _ :: _, h => by simp [DnL] at h
  | _ :: _, [], h => by simp [DnL] at h
theorem DnL.set {K : PySem.W.Frag} {F : Hp} {v : V} {d : D} (q : Dn K F v d) : ∀ {vs : List V} {ds : List D} (n : Nat), DnL K F vs ds → DnL K F (vs.set n v) (ds.set n d)
  | [], [], _, _ => by simp [DnL]
  | w :: vs, e :: ds, 0, h => by
    simp only [DnL] at h
    show Dn K F v d ∧ DnL K F vs ds
    exact ⟨q, h.2⟩
  | w :: vs, e :: ds, n + 1, h => by
    simp only [DnL] at h
    show Dn K F w e ∧ DnL K F (vs.set n v) (ds.set n d)
    exact ⟨h.1, DnL.set q n h.2⟩
  | [], _ :: _, _, h => by simp [DnL] at h
  | _ :: _, [], _, h => by simp [DnL] at h
theorem DnL.erase {K : PySem.W.Frag} {F : Hp} : ∀ {vs : List V} {ds : List D} (n : Nat), DnL K F vs ds → DnL K F (vs.eraseIdx n) (ds.eraseIdx n)
  | [], [], _, _ => by simp [DnL]
  | w :: vs, e :: ds, 0, h => by
    simp only [DnL] at h
    exact h.2
  | w :: vs, e :: ds, n + 1, h => by
    simp only [DnL] at h
    show Dn K F w e ∧ DnL K F (vs.eraseIdx n) (ds.eraseIdx n)
    exact ⟨h.1, DnL.erase n h.2⟩
  | [], _ :: _, _, h => by simp [DnL] at h
  | _ :: _, [], _, h => by simp [DnL] at h
theorem DnL.rep {K : PySem.W.Frag} {F : Hp} {vs : List V} {ds : List D} (h : DnL K F vs ds) : ∀ k : Nat, DnL K F (List.replicate k vs).flatten (List.replicate k ds).flatten
  | 0 => by simp [DnL]
  | k + 1 => by
    rw [List.replicate_succ, List.replicate_succ, List.flatten_cons, List.flatten_cons]
    exact h.append (DnL.rep h k)
theorem Dn.ints {K : PySem.W.Frag} {F : Hp} : ∀ (ns : List Int), DnL K F (ns.map V.int) (ns.map D.int)
  | [] => by simp [DnL]
  | n :: ns => by
    show Dn K F (.int n) (.int n) ∧ DnL K F (ns.map V.int) (ns.map D.int)
    exact ⟨by simp [Dn], Dn.ints ns⟩
theorem Dn.strs {K : PySem.W.Frag} {F : Hp} : ∀ (ns : List Str), DnL K F (ns.map V.str) (ns.map D.str)
  | [] => by simp [DnL]
  | n :: ns => by
    show Dn K F (.str n) (.str n) ∧ DnL K F (ns.map V.str) (ns.map D.str)
    exact ⟨by simp [Dn], Dn.strs ns⟩
/-- flat items' values are known -/
def intsOf : List D → Option (List Int)
  | [] => some []
  | .int i :: r => (intsOf r).map (i :: ·)
  | _ :: _ => none
def strsOf : List D → Option (List Str)
  | [] => some []
  | .str i :: r => (strsOf r).map (i :: ·)
  | _ :: _ => none
def blsOf : List D → Option (List Bool)
  | [] => some []
  | .bl i :: r => (blsOf r).map (i :: ·)
  | _ :: _ => none
@[simp] theorem intsOf_map (ns : List Int) : intsOf (ns.map D.int) = some ns := by
  induction ns with
  | nil => rfl
  | cons n ns ih => simp [intsOf, ih]
@[simp] theorem strsOf_map (ns : List Str) : strsOf (ns.map D.str) = some ns := by
  induction ns with
  | nil => rfl
  | cons n ns ih => simp [strsOf, ih]
@[simp] theorem blsOf_map (ns : List Bool) : blsOf (ns.map D.bl) = some ns := by
  induction ns with
  | nil => rfl
  | cons n ns ih => simp [blsOf, ih]
theorem DnL.intsOf {K : PySem.W.Frag} {F : Hp} : ∀ {ds : List D} {vs : List V} {ns : List Int}, DnL K F vs ds → DL.intsOf ds = some ns → vs = ns.map V.int
  | [], [], ns, _, e => by
    simp [DL.intsOf] at e; subst e; rfl
  | .int i :: ds, v :: vs, ns, h, e => by
    simp only [DnL, Dn] at h
    simp only [DL.intsOf, Option.map_eq_some_iff] at e
    obtain ⟨r, e1, rfl⟩ := e
    rw [h.1, DnL.intsOf h.2 e1]; rfl
  | .non :: _, _ :: _, _, _, e => by simp [DL.intsOf] at e
  | .bl _ :: _, _ :: _, _, _, e => by simp [DL.intsOf] at e
  | .str _ :: _, _ :: _, _, _, e => by simp [DL.intsOf] at e
  | .lst _ :: _, _ :: _, _, _, e => by simp [DL.intsOf] at e
  | .tup _ :: _, _ :: _, _, _, e => by simp [DL.intsOf] at e
  | .dic _ :: _, _ :: _, _, _, e => by simp [DL.intsOf] at e
  | .scr _ :: _, _ :: _, _, _, e => by simp [DL.intsOf] at e
  | .adr _ :: _, _ :: _, _, _, e => by simp [DL.intsOf] at e
  | _ :: _, [], _, h, _ => by simp [DnL] at h
  | [], _ :: _, _, h, _ => by simp [DnL] at h
theorem DnL.strsOf {K : PySem.W.Frag} {F : Hp} : ∀ {ds : List D} {vs : List V} {ns : List Str}, DnL K F vs ds → DL.strsOf ds = some ns → vs = ns.map V.str
  | [], [], ns, _, e => by
    simp [DL.strsOf] at e; subst e; rfl
  | .str i :: ds, v :: vs, ns, h, e => by
    simp only [DnL, Dn] at h
    simp only [DL.strsOf, Option.map_eq_some_iff] at e
    obtain ⟨r, e1, rfl⟩ := e
    rw [h.1, DnL.strsOf h.2 e1]; rfl
  | .non :: _, _ :: _, _, _, e => by simp [DL.strsOf] at e
  | .bl _ :: _, _ :: _, _, _, e => by simp [DL.strsOf] at e
  | .int _ :: _, _ :: _, _, _, e => by simp [DL.strsOf] at e
  | .lst _ :: _, _ :: _, _, _, e => by simp [DL.strsOf] at e
  | .tup _ :: _, _ :: _, _, _, e => by simp [DL.strsOf] at e
  | .dic _ :: _, _ :: _, _, _, e => by simp [DL.strsOf] at e
  | .scr _ :: _, _ :: _, _, _, e => by simp [DL.strsOf] at e
  | .adr _ :: _, _ :: _, _, _, e => by simp [DL.strsOf] at e
  | _ :: _, [], _, h, _ => by simp [DnL] at h
  | [], _ :: _, _, h, _ => by simp [DnL] at h
theorem DnL.blsOf {K : PySem.W.Frag} {F : Hp} : ∀ {ds : List D} {vs : List V} {ns : List Bool}, DnL K F vs ds → DL.blsOf ds = some ns → vs = ns.map V.bl
  | [], [], ns, _, e => by
    simp [DL.blsOf] at e; subst e; rfl
  | .bl i :: ds, v :: vs, ns, h, e => by
    simp only [DnL, Dn] at h
    simp only [DL.blsOf, Option.map_eq_some_iff] at e
    obtain ⟨r, e1, rfl⟩ := e
    rw [h.1, DnL.blsOf h.2 e1]; rfl
  | .non :: _, _ :: _, _, _, e => by simp [DL.blsOf] at e
  | .str _ :: _, _ :: _, _, _, e => by simp [DL.blsOf] at e
  | .int _ :: _, _ :: _, _, _, e => by simp [DL.blsOf] at e
  | .lst _ :: _, _ :: _, _, _, e => by simp [DL.blsOf] at e
  | .tup _ :: _, _ :: _, _, _, e => by simp [DL.blsOf] at e
  | .dic _ :: _, _ :: _, _, _, e => by simp [DL.blsOf] at e
  | .scr _ :: _, _ :: _, _, _, e => by simp [DL.blsOf] at e
  | .adr _ :: _, _ :: _, _, _, e => by simp [DL.blsOf] at e
  | _ :: _, [], _, h, _ => by simp [DnL] at h
  | [], _ :: _, _, h, _ => by simp [DnL] at h

/-! ### growth of the heaps: F what is frozen, H all that is tracked -/
structure Grow (F H F' H' : Hp) : Prop where
  ff : Same F F'
  hh : Same H H'
  sub : Same F' H'
  new : ∀ a o, F a = none → H a = some o → F' a = none
theorem Grow.refl {F H : Hp} (s : Same F H) : Grow F H F H := ⟨Same.refl _, Same.refl _, s, fun _ _ e _ => e⟩
theorem Grow.trans {F H F1 H1 F2 H2 : Hp} (a : Grow F H F1 H1) (b : Grow F1 H1 F2 H2) : Grow F H F2 H2 :=
  ⟨a.ff.trans b.ff, a.hh.trans b.hh, b.sub, fun c o e1 e2 => b.new c o (a.new c o e1 e2) (a.hh c o e2)⟩
theorem same_updN {H : Hp} {p : Addr} {o : HO} (h : H p = none) : Same H (upd H p o) := fun b x e => by
  rw [upd_ne (ne_of_none e h)]; exact e
/-- a new object, frozen at once -/
theorem Grow.put {F H : Hp} {p : Addr} {o : HO} (s : Same F H) (h : H p = none) : Grow F H (upd F p o) (upd H p o) := by
  have hF : F p = none := s.free h
  refine ⟨same_updN hF, same_updN h, fun b x e => ?_, fun a x e1 e2 => ?_⟩
  · by_cases hb : b = p
    · subst hb; rw [upd_same] at e ⊢; exact e
    · rw [upd_ne hb] at e ⊢; exact s b x e
  · rw [upd_ne (ne_of_none e2 h)]; exact e1
/-- a new object, not frozen -/
theorem Grow.lay {F H : Hp} {p : Addr} {o : HO} (s : Same F H) (h : H p = none) : Grow F H F (upd H p o) :=
  ⟨Same.refl _, same_updN h, s.trans (same_updN h), fun _ _ e _ => e⟩
/-- a new object is frozen later -/
theorem Grow.freeze {F H F1 H1 : Hp} {p : Addr} {o : HO} (g : Grow F H F1 H1) (h0 : H p = none) (h1 : F1 p = none) (h2 : H1 p = some o) : Grow F H (upd F1 p o) H1 := by
  refine ⟨g.ff.trans (same_updN h1), g.hh, fun b x e => ?_, fun a x e1 e2 => ?_⟩
  · by_cases hb : b = p
    · subst hb; rw [upd_same] at e; rw [h2]; exact e
    · rw [upd_ne hb] at e; exact g.sub b x e
  · rw [upd_ne (ne_of_none e2 h0)]; exact g.new a x e1 e2

/-! ### the slots -/
inductive Ent where
  | un | sh (d : D) | ow (ds : List D)
abbrev Env := List Ent
structure Sim (K : PySem.W.Frag) (F0 H0 : Hp) (r : Env) (σ : L2.St) (F H : Hp) : Prop where
  len : r.length = σ.length
  sub : Same F H
  f0 : Same F0 F
  h0 : Same H0 H
  new : ∀ a o, F0 a = none → H0 a = some o → F a = none
  sh : ∀ (i : Nat) d, r[i]? = some (.sh d) → ∃ v, σ[i]? = some (some v) ∧ Dn K F v d
  ow : ∀ (i : Nat) ds, r[i]? = some (.ow ds) → ∃ a vs, σ[i]? = some (some (.ref a)) ∧ H a = some (.lst vs) ∧ F a = none ∧ H0 a = none ∧ DnL K F vs ds
  sep : ∀ (i j : Nat) ds es a, r[i]? = some (.ow ds) → r[j]? = some (.ow es) → σ[i]? = some (some (.ref a)) → σ[j]? = some (some (.ref a)) → i = j
theorem Sim.grow {K : PySem.W.Frag} {F0 H0 F H F' H' : Hp} {r : Env} {σ : L2.St} (S : Sim K F0 H0 r σ F H) (g : Grow F H F' H') : Sim K F0 H0 r σ F' H' where
  len := S.len
  sub := g.sub
  f0 := S.f0.trans g.ff
  h0 := S.h0.trans g.hh
  new := fun a o e1 e2 => g.new a o (S.new a o e1 e2) (S.h0 a o e2)
  sh := fun i d e => by
    obtain ⟨v, h1, h2⟩ := S.sh i d e
    exact ⟨v, h1, h2.same g.ff d v⟩
  ow := fun i ds e => by
    obtain ⟨a, vs, h1, h2, h3, h4, h5⟩ := S.ow i ds e
    exact ⟨a, vs, h1, g.hh _ _ h2, g.new a _ h3 h2, h4, h5.same g.ff ds vs⟩
  sep := S.sep
/-- what may be read: a list's own object may be not frozen -/
def Pk (K : PySem.W.Frag) (F H : Hp) (v : V) (d : D) : Prop := match d with
  | .lst ds => ∃ a vs, v = .ref a ∧ H a = some (.lst vs) ∧ DnL K F vs ds
  | d => Dn K F v d
theorem Dn.pk {K : PySem.W.Frag} {F H : Hp} {v : V} {d : D} (s : Same F H) (h : Dn K F v d) : Pk K F H v d := by
  cases d with
  | lst ds =>
    simp only [Dn] at h
    obtain ⟨a, vs, e, h1, h2⟩ := h
    exact ⟨a, vs, e, s _ _ h1, h2⟩
  | _ => exact h
theorem Pk.grow {K : PySem.W.Frag} {F H F' H' : Hp} {v : V} {d : D} (g : Grow F H F' H') (h : Pk K F H v d) : Pk K F' H' v d := by
  cases d with
  | lst ds =>
    obtain ⟨a, vs, e, h1, h2⟩ := h
    exact ⟨a, vs, e, g.hh _ _ h1, h2.same g.ff ds vs⟩
  | _ => exact Dn.same g.ff _ v h

/-! ### the judgements -/
section
variable (X : Cx) (ca : Exn → Addr) (W : WX)
/-- an expression whose value is frozen -/
def ED (e : Expr) (f : Env → R D) : Prop := ∃ t : TE, PE X e t ∧ ∀ F0 H0 r σ F H Q, Sim X.K F0 H0 r σ F H →
  Wp (f r) (fun d => ∀ v F' H', Grow F H F' H' → Dn X.K F' v d → Q v H') (fun c => ∀ F' H', Grow F H F' H' → W (.ref (ca c)) none σ H') → t σ H Q
/-- an expression whose value is only read -/
def PD (e : Expr) (f : Env → R D) : Prop := ∃ t : TE, PE X e t ∧ ∀ F0 H0 r σ F H Q, Sim X.K F0 H0 r σ F H →
  Wp (f r) (fun d => ∀ v F' H', Grow F H F' H' → Pk X.K F' H' v d → Q v H') (fun c => ∀ F' H', Grow F H F' H' → W (.ref (ca c)) none σ H') → t σ H Q
/-- an expression that makes a new list -/
def FD (e : Expr) (f : Env → R (List D)) : Prop := ∃ t : TE, PE X e t ∧ ∀ F0 H0 r σ F H Q, Sim X.K F0 H0 r σ F H →
  Wp (f r) (fun ds => ∀ p vs F' H', Grow F H F' H' → H p = none → F' p = none → H' p = some (.lst vs) → DnL X.K F' vs ds → Q (.ref p) H') (fun c => ∀ F' H', Grow F H F' H' → W (.ref (ca c)) none σ H') → t σ H Q
/-- a test -/
def TD (e : Expr) (f : Env → R Bool) : Prop := ∃ t : TT, PT X e t ∧ ∀ F0 H0 r σ F H Q, Sim X.K F0 H0 r σ F H →
  Wp (f r) (fun b => ∀ F' H', Grow F H F' H' → Q b H') (fun c => ∀ F' H', Grow F H F' H' → W (.ref (ca c)) none σ H') → t σ H Q
/-- a chain of and, or -/
def WD (e : Expr) (f : Env → R Bool) : Prop := ∃ t : TT, PW X e t ∧ ∀ F0 H0 r σ F H Q, Sim X.K F0 H0 r σ F H →
  Wp (f r) (fun b => ∀ F' H', Grow F H F' H' → Q b H') (fun c => ∀ F' H', Grow F H F' H' → W (.ref (ca c)) none σ H') → t σ H Q
/-- arguments, frozen -/
def AD (es : List Expr) (f : Env → R (List D)) : Prop := ∃ t : TA, PA X es t ∧ ∀ F0 H0 r σ F H Q, Sim X.K F0 H0 r σ F H →
  Wp (f r) (fun ds => ∀ vs F' H', Grow F H F' H' → DnL X.K F' vs ds → Q vs H') (fun c => ∀ F' H', Grow F H F' H' → W (.ref (ca c)) none σ H') → t σ H Q
end
section
variable {X : Cx} {ca : Exn → Addr} {W : WX} {e : Expr} {f : Env → R D} {g : Env → R (List D)}
theorem pd_ed (h : ED X ca W e f) : PD X ca W e f := by
  obtain ⟨t, p, q⟩ := h
  exact ⟨t, p, fun F0 H0 r σ F H Q S w => q F0 H0 r σ F H Q S (w.mono (fun d k v F' H' G n => k v F' H' G (n.pk G.sub)) fun _ k => k)⟩
def mkL (r : R (List D)) : R D := r >>= fun ds => .ok (.lst ds)
theorem ed_fd (h : FD X ca W e g) : ED X ca W e (fun r => mkL (g r)) := by
  obtain ⟨t, p, q⟩ := h
  refine ⟨t, p, fun F0 H0 r σ F H Q S w => q F0 H0 r σ F H Q S (w.bind.mono (fun ds k p vs F' H' G n1 n2 hp hd => ?_) fun _ k => k)⟩
  have G' := G.freeze n1 n2 hp
  refine k (.ref p) _ H' G' ?_
  simp only [Dn]
  exact ⟨p, vs, rfl, upd_same, hd.same (same_updN n2) ds vs⟩
end
end DL

set_option Elab.async false
set_option linter.all false
set_option maxRecDepth 100000
set_option maxHeartbeats 2000000
/-! DL2: rules of expressions -/
namespace DL
open PySem PySem.Spec PyProof.Rows L2

def lift {α : Type} : Option α → R α
  | some a => .ok a
  | none => .no
@[simp] theorem lift_some {α : Type} (a : α) : lift (some a) = .ok a := rfl
@[simp] theorem lift_none {α : Type} : lift (none : Option α) = .no := rfl
theorem Wp.lift {α : Type} {o : Option α} {ok : α → Prop} {ex : Exn → Prop} (h : Wp (DL.lift o) ok ex) : ∃ a, o = some a ∧ ok a := by
  cases o with
  | none => exact False.elim h
  | some a => exact ⟨a, rfl, h⟩

/-! ### slots -/
def getSh (r : Env) (i : Nat) : R D := match r[i]? with
  | some (.sh d) => .ok d
  | _ => .no
def getPk (r : Env) (i : Nat) : R D := match r[i]? with
  | some (.sh d) => .ok d
  | some (.ow ds) => .ok (.lst ds)
  | _ => .no
section
variable {X : Cx} {ca : Exn → Addr} {W : WX}
/-- what is wanted of a frozen value -/
theorem ed_var (i : Nat) {x : Str} {pos : Pos} (hN : X.N[i]? = some x := by rfl) (hv : Vis X.env.scope x := by first | exact Or.inl rfl | exact Or.inr (Or.inl rfl) | exact Or.inr (Or.inr rfl)) (hd : (x == ("__debug__" : Str)) = false := by decide)
    (hcd : (x == ("__classdict__" : Str)) = false := by decide) : ED X ca W (.Name x pos) (fun r => getSh r i) := by
  refine ⟨tVar i, pe_var hN hv hd hcd, fun F0 H0 r σ F H Q S w => ?_⟩
  have w : Wp (getSh r i) _ _ := w
  unfold getSh at w
  cases h : r[i]? with
  | none => rw [h] at w; exact False.elim w
  | some e =>
    rw [h] at w
    cases e with
    | un => exact False.elim w
    | ow ds => exact False.elim w
    | sh d =>
      obtain ⟨v, h1, h2⟩ := S.sh i d h
      exact ⟨v, h1, w v F H (Grow.refl S.sub) h2⟩
theorem pd_var (i : Nat) {x : Str} {pos : Pos} (hN : X.N[i]? = some x := by rfl) (hv : Vis X.env.scope x := by first | exact Or.inl rfl | exact Or.inr (Or.inl rfl) | exact Or.inr (Or.inr rfl)) (hd : (x == ("__debug__" : Str)) = false := by decide)
    (hcd : (x == ("__classdict__" : Str)) = false := by decide) : PD X ca W (.Name x pos) (fun r => getPk r i) := by
  refine ⟨tVar i, pe_var hN hv hd hcd, fun F0 H0 r σ F H Q S w => ?_⟩
  have w : Wp (getPk r i) _ _ := w
  unfold getPk at w
  cases h : r[i]? with
  | none => rw [h] at w; exact False.elim w
  | some e =>
    rw [h] at w
    cases e with
    | un => exact False.elim w
    | ow ds =>
      obtain ⟨a, vs, h1, h2, h3, h4, h5⟩ := S.ow i ds h
      exact ⟨.ref a, h1, w (.ref a) F H (Grow.refl S.sub) ⟨a, vs, rfl, h2, h5⟩⟩
    | sh d =>
      obtain ⟨v, h1, h2⟩ := S.sh i d h
      exact ⟨v, h1, w v F H (Grow.refl S.sub) (h2.pk S.sub)⟩
/-! ### constants -/
theorem ed_c {e : Expr} {v : V} {d : D} (h : PE X e (tC v)) (hd : ∀ F, Dn X.K F v d) : ED X ca W e (fun _ => .ok d) :=
  ⟨tC v, h, fun F0 H0 r σ F H Q S w => w v F H (Grow.refl S.sub) (hd F)⟩
theorem ed_int {i : Int} {j pos} : ED X ca W (.Constant (.int i) j pos) (fun _ => .ok (.int i)) := ed_c pe_int fun _ => by simp [Dn]
theorem ed_bl {b : Bool} {j pos} : ED X ca W (.Constant (.bool b) j pos) (fun _ => .ok (.bl b)) := ed_c pe_bl fun _ => by simp [Dn]
theorem ed_non {j pos} : ED X ca W (.Constant .none j pos) (fun _ => .ok .non) := ed_c pe_non fun _ => by simp [Dn]
theorem ed_str {x : Str} {j pos} : ED X ca W (.Constant (.str x) j pos) (fun _ => .ok (.str x)) := ed_c pe_str fun _ => by simp [Dn]
/-- a module's constant -/
structure GV (X : Cx) (x : Str) (d : D) : Prop where
  ex : ∃ v u, X.mg x = some u ∧ RelV v u ∧ ∀ F, Dn X.K F v d
theorem ed_glob {x : Str} {d : D} {pos : Pos} (h : GV X x d) (hg : Gl X x := by rfl) (hd : (x == ("__debug__" : Str)) = false := by decide) : ED X ca W (.Name x pos) (fun _ => .ok d) := by
  obtain ⟨v, u, h1, h2, h3⟩ := h.ex
  exact ed_c (pe_glob hg h1 h2 hd) h3

/-! ### operators by values -/
def OpD (X : Cx) (fn : Value → Value → Sem Value) (g : D → D → Option D) : Prop := ∃ r : R2, OpR X fn r ∧ ∀ (F H : Hp) (x y : V) (d e z : D) (Q : VK), Same F H → Pk X.K F H x d → Pk X.K F H y e → g d e = some z →
  (∀ v F' H', Grow F H F' H' → Dn X.K F' v z → Q v H') → r x y H Q
theorem ed_op {a b : Expr} {op : Operator} {pos : Pos} {g : D → D → Option D} {fa fb : Env → R D} (ho : OpD X (binaryOp op) g) (ha : PD X ca W a fa) (hb : PD X ca W b fb) :
    ED X ca W (.BinOp a op b pos) (fun r => fa r >>= fun d => fb r >>= fun e => lift (g d e)) := by
  obtain ⟨rr, hr, hq⟩ := ho
  obtain ⟨ta, pa, qa⟩ := ha
  obtain ⟨tb, pb, qb⟩ := hb
  refine ⟨tOp rr ta tb, pe_op hr pa pb, fun F0 H0 r σ F H Q S w => ?_⟩
  show ta σ H fun x H1 => tb σ H1 fun y H2 => rr x y H2 Q
  refine qa _ _ _ _ _ _ _ S (w.bind.mono (fun d k x F1 H1 G1 p1 => ?_) fun c k => k)
  refine qb _ _ _ _ _ _ _ (S.grow G1) (k.bind.mono (fun e k2 y F2 H2 G2 p2 => ?_) fun c k F2 H2 G2 => k F2 H2 (G1.trans G2))
  obtain ⟨z, e1, k3⟩ := k2.lift
  exact hq F2 H2 x y d e z Q G2.sub (p1.grow G2) p2 e1 fun v F' H' G n => k3 v F' H' ((G1.trans G2).trans G) n
/-- comparisons as values and as tests -/
theorem ed_cmp {a b : Expr} {op : CmpOp} {pos : Pos} {g : D → D → Option D} {fa fb : Env → R D} (ho : OpD X (compareOp op) g) (ha : PD X ca W a fa) (hb : PD X ca W b fb) (hm : behindInMarks op b = false) :
    ED X ca W (.Compare a [op] [b] pos) (fun r => fa r >>= fun d => fb r >>= fun e => lift (g d e)) := by
  obtain ⟨rr, hr, hq⟩ := ho
  obtain ⟨ta, pa, qa⟩ := ha
  obtain ⟨tb, pb, qb⟩ := hb
  refine ⟨tOp rr ta tb, pe_cmpR hr pa pb hm, fun F0 H0 r σ F H Q S w => ?_⟩
  show ta σ H fun x H1 => tb σ H1 fun y H2 => rr x y H2 Q
  refine qa _ _ _ _ _ _ _ S (w.bind.mono (fun d k x F1 H1 G1 p1 => ?_) fun c k => k)
  refine qb _ _ _ _ _ _ _ (S.grow G1) (k.bind.mono (fun e k2 y F2 H2 G2 p2 => ?_) fun c k F2 H2 G2 => k F2 H2 (G1.trans G2))
  obtain ⟨z, e1, k3⟩ := k2.lift
  exact hq F2 H2 x y d e z Q G2.sub (p1.grow G2) p2 e1 fun v F' H' G n => k3 v F' H' ((G1.trans G2).trans G) n
def isB : D → Option Bool
  | .bl b => some b
  | _ => none
def testB (r : R D) : R Bool := r >>= fun d => lift (isB d)
@[simp] theorem testB_bl (b : Bool) : testB (.ok (.bl b)) = .ok b := rfl
theorem isB_dn {K : PySem.W.Frag} {F : Hp} {v : V} {d : D} {b : Bool} (h : isB d = some b) (n : Dn K F v d) : v = .bl b := by
  cases d <;> simp [isB] at h
  subst h
  simpa [Dn] using n
theorem td_cmp {a b : Expr} {op : CmpOp} {pos : Pos} {g : D → D → Option D} {fa fb : Env → R D} (ho : OpD X (compareOp op) g) (ha : PD X ca W a fa) (hb : PD X ca W b fb) (hm : behindInMarks op b = false) :
    TD X ca W (.Compare a [op] [b] pos) (fun r => testB (fa r >>= fun d => fb r >>= fun e => lift (g d e))) := by
  obtain ⟨rr, hr, hq⟩ := ho
  obtain ⟨ta, pa, qa⟩ := ha
  obtain ⟨tb, pb, qb⟩ := hb
  refine ⟨tTest (tOp rr ta tb), pt_cmpR hr pa pb hm, fun F0 H0 r σ F H Q S w => ?_⟩
  show ta σ H fun x H1 => tb σ H1 fun y H2 => rr x y H2 fun z H3 => ∃ k, z = .bl k ∧ Q k H3
  refine qa _ _ _ _ _ _ _ S (w.bind.bind.mono (fun d k x F1 H1 G1 p1 => ?_) fun c k => k)
  refine qb _ _ _ _ _ _ _ (S.grow G1) (k.bind.mono (fun e k2 y F2 H2 G2 p2 => ?_) fun c k F2 H2 G2 => k F2 H2 (G1.trans G2))
  obtain ⟨z, e1, k3⟩ := k2.lift
  obtain ⟨b, e2, k4⟩ := k3.lift
  exact hq F2 H2 x y d e z _ G2.sub (p1.grow G2) p2 e1 fun v F' H' G n => ⟨b, isB_dn e2 n, k4 F' H' ((G1.trans G2).trans G)⟩
/-- a < b < c -/
def chainD (g g' : D → D → Option D) (d e : D) (c : R D) : R D := lift (g d e) >>= fun z => lift (isB z) >>= fun k => if k = true then c >>= fun f => lift (g' e f) else .ok (.bl false)
theorem chain_go {g g' : D → D → Option D} {fa fb fc : Env → R D} {r r' : R2} {ta tb tc : TE}
    (hq : ∀ (F H : Hp) (x y : V) (d e z : D) (Q : VK), Same F H → Pk X.K F H x d → Pk X.K F H y e → g d e = some z → (∀ v F' H', Grow F H F' H' → Dn X.K F' v z → Q v H') → r x y H Q)
    (hq' : ∀ (F H : Hp) (x y : V) (d e z : D) (Q : VK), Same F H → Pk X.K F H x d → Pk X.K F H y e → g' d e = some z → (∀ v F' H', Grow F H F' H' → Dn X.K F' v z → Q v H') → r' x y H Q)
    (qa : ∀ F0 H0 ρ σ F H Q, Sim X.K F0 H0 ρ σ F H → Wp (fa ρ) (fun d => ∀ v F' H', Grow F H F' H' → Pk X.K F' H' v d → Q v H') (fun c => ∀ F' H', Grow F H F' H' → W (.ref (ca c)) none σ H') → ta σ H Q)
    (qb : ∀ F0 H0 ρ σ F H Q, Sim X.K F0 H0 ρ σ F H → Wp (fb ρ) (fun d => ∀ v F' H', Grow F H F' H' → Pk X.K F' H' v d → Q v H') (fun c => ∀ F' H', Grow F H F' H' → W (.ref (ca c)) none σ H') → tb σ H Q)
    (qc : ∀ F0 H0 ρ σ F H Q, Sim X.K F0 H0 ρ σ F H → Wp (fc ρ) (fun d => ∀ v F' H', Grow F H F' H' → Pk X.K F' H' v d → Q v H') (fun c => ∀ F' H', Grow F H F' H' → W (.ref (ca c)) none σ H') → tc σ H Q)
    {F0 H0 : Hp} {ρ : Env} {σ : L2.St} {F H : Hp} {Q : VK} (S : Sim X.K F0 H0 ρ σ F H)
    (w : Wp (fa ρ >>= fun d => fb ρ >>= fun e => chainD g g' d e (fc ρ)) (fun d => ∀ v F' H', Grow F H F' H' → Dn X.K F' v d → Q v H') (fun c => ∀ F' H', Grow F H F' H' → W (.ref (ca c)) none σ H')) :
    ta σ H fun x H1 => tb σ H1 fun y H2 => r x y H2 fun z H3 => ∃ k, z = .bl k ∧ if k = true then tc σ H3 fun z' H4 => r' y z' H4 Q else Q (.bl false) H3 := by
  refine qa _ _ _ _ _ _ _ S (w.bind.mono (fun d k x F1 H1 G1 p1 => ?_) fun c k => k)
  refine qb _ _ _ _ _ _ _ (S.grow G1) (k.bind.mono (fun e k2 y F2 H2 G2 p2 => ?_) fun c k F2 H2 G2 => k F2 H2 (G1.trans G2))
  obtain ⟨z, e1, k3⟩ := k2.bind.lift
  obtain ⟨b, e2, k4⟩ := k3.bind.lift
  refine hq F2 H2 x y d e z _ G2.sub (p1.grow G2) p2 e1 fun v F3 H3 G3 n => ⟨b, isB_dn e2 n, ?_⟩
  have G03 := (G1.trans G2).trans G3
  cases b with
  | false =>
    rw [if_neg Bool.false_ne_true]
    exact k4 (.bl false) F3 H3 G03 (by simp [Dn])
  | true =>
    rw [if_pos rfl]
    refine qc _ _ _ _ _ _ _ (S.grow G03) (k4.bind.mono (fun f k5 u F4 H4 G4 p4 => ?_) fun c k F4 H4 G4 => k F4 H4 (G03.trans G4))
    obtain ⟨z', e5, k6⟩ := k5.lift
    exact hq' F4 H4 y u e f z' Q G4.sub ((p2.grow G3).grow G4) p4 e5 fun v F' H' G n => k6 v F' H' ((G03.trans G4).trans G) n

theorem ed_chain {a b c : Expr} {op op' : CmpOp} {pos : Pos} {g g' : D → D → Option D} {fa fb fc : Env → R D} (ho : OpD X (compareOp op) g) (ho' : OpD X (compareOp op') g') (ha : PD X ca W a fa) (hb : PD X ca W b fb) (hc : PD X ca W c fc)
    (hm : lastMarks [op, op'] [b, c] = false := by with_unfolding_all rfl) : ED X ca W (.Compare a [op, op'] [b, c] pos) (fun r => fa r >>= fun d => fb r >>= fun e => chainD g g' d e (fc r)) := by
  obtain ⟨rr, hr, hq⟩ := ho
  obtain ⟨rr', hr', hq'⟩ := ho'
  obtain ⟨ta, pa, qa⟩ := ha
  obtain ⟨tb, pb, qb⟩ := hb
  obtain ⟨tc, pc, qc⟩ := hc
  exact ⟨tChain rr rr' ta tb tc, pe_chain hr hr' pa pb pc hm, fun F0 H0 r σ F H Q S w => chain_go hq hq' qa qb qc S w⟩
theorem td_chain {a b c : Expr} {op op' : CmpOp} {pos : Pos} {g g' : D → D → Option D} {fa fb fc : Env → R D} (ho : OpD X (compareOp op) g) (ho' : OpD X (compareOp op') g') (ha : PD X ca W a fa) (hb : PD X ca W b fb) (hc : PD X ca W c fc)
    (hm : lastMarks [op, op'] [b, c] = false := by with_unfolding_all rfl) : TD X ca W (.Compare a [op, op'] [b, c] pos) (fun r => testB (fa r >>= fun d => fb r >>= fun e => chainD g g' d e (fc r))) := by
  obtain ⟨rr, hr, hq⟩ := ho
  obtain ⟨rr', hr', hq'⟩ := ho'
  obtain ⟨ta, pa, qa⟩ := ha
  obtain ⟨tb, pb, qb⟩ := hb
  obtain ⟨tc, pc, qc⟩ := hc
  refine ⟨tTest (tChain rr rr' ta tb tc), pt_chain hr hr' pa pb pc hm, fun F0 H0 r σ F H Q S w => ?_⟩
  exact chain_go hq hq' qa qb qc S (w.bind.mono (fun d k v F' H' G n => by
    obtain ⟨b, e, k⟩ := k.lift
    exact ⟨b, isB_dn e n, k F' H' G⟩) fun _ k => k)
/-- a value as a test -/
theorem td_val {e : Expr} {f : Env → R D} (h : ED X ca W e f) (he : ∀ whole, isTrue e X.env whole = (do let v ← whole; standAt e.pos; holding [v] (truthy v)) := by intro _; rfl) : TD X ca W e (fun r => testB (f r)) := by
  obtain ⟨t, p, q⟩ := h
  refine ⟨tB t, pt_val p he, fun F0 H0 r σ F H Q S w => ?_⟩
  refine q _ _ _ _ _ _ _ S (w.bind.mono (fun d k v F' H' G n => ?_) fun _ k => k)
  obtain ⟨b, e, k⟩ := k.lift
  exact ⟨b, isB_dn e n, k F' H' G⟩

/-! ### and, or, not -/
theorem td_wd {e : Expr} {f : Env → R Bool} (h : WD X ca W e f) : TD X ca W e f := by
  obtain ⟨t, p, q⟩ := h
  exact ⟨t, p.pt, q⟩
theorem wd_and1 {a : Expr} {pos : Pos} {f : Env → R Bool} (h : TD X ca W a f) : WD X ca W (.BoolOp .And [a] pos) f := by
  obtain ⟨t, p, q⟩ := h
  exact ⟨t, pw_and1 p, q⟩
theorem wd_or1 {a : Expr} {pos : Pos} {f : Env → R Bool} (h : TD X ca W a f) : WD X ca W (.BoolOp .Or [a] pos) f := by
  obtain ⟨t, p, q⟩ := h
  exact ⟨t, pw_or1 p, q⟩
def andR (a b : R Bool) : R Bool := a >>= fun k => if k = true then b else .ok false
def orR (a b : R Bool) : R Bool := a >>= fun k => if k = true then .ok true else b
def notR (a : R Bool) : R Bool := a >>= fun k => .ok (!k)
@[simp] theorem andR_t (b : R Bool) : andR (.ok true) b = b := rfl
@[simp] theorem andR_f (b : R Bool) : andR (.ok false) b = .ok false := rfl
@[simp] theorem orR_t (b : R Bool) : orR (.ok true) b = .ok true := rfl
@[simp] theorem orR_f (b : R Bool) : orR (.ok false) b = b := rfl
@[simp] theorem notR_ok (b : Bool) : notR (.ok b) = .ok (!b) := rfl
theorem wd_and {a b : Expr} {rest : List Expr} {pos : Pos} {f g : Env → R Bool} (h : TD X ca W a f) (h' : WD X ca W (.BoolOp .And (b :: rest) pos) g) : WD X ca W (.BoolOp .And (a :: b :: rest) pos) (fun r => andR (f r) (g r)) := by
  obtain ⟨t, p, q⟩ := h
  obtain ⟨t', p', q'⟩ := h'
  refine ⟨tAnd t t', pw_and p p', fun F0 H0 r σ F H Q S w => ?_⟩
  refine q _ _ _ _ _ _ _ S (w.bind.mono (fun k k1 F1 H1 G1 => ?_) fun _ k => k)
  cases k with
  | true =>
    rw [if_pos rfl]
    exact q' _ _ _ _ _ _ _ (S.grow G1) (k1.mono (fun b k F2 H2 G2 => k F2 H2 (G1.trans G2)) fun c k F2 H2 G2 => k F2 H2 (G1.trans G2))
  | false =>
    rw [if_neg Bool.false_ne_true]
    exact k1 F1 H1 G1
theorem wd_or {a b : Expr} {rest : List Expr} {pos : Pos} {f g : Env → R Bool} (h : TD X ca W a f) (h' : WD X ca W (.BoolOp .Or (b :: rest) pos) g) : WD X ca W (.BoolOp .Or (a :: b :: rest) pos) (fun r => orR (f r) (g r)) := by
  obtain ⟨t, p, q⟩ := h
  obtain ⟨t', p', q'⟩ := h'
  refine ⟨tOr t t', pw_or p p', fun F0 H0 r σ F H Q S w => ?_⟩
  refine q _ _ _ _ _ _ _ S (w.bind.mono (fun k k1 F1 H1 G1 => ?_) fun _ k => k)
  cases k with
  | true =>
    rw [if_pos rfl]
    exact k1 F1 H1 G1
  | false =>
    rw [if_neg Bool.false_ne_true]
    exact q' _ _ _ _ _ _ _ (S.grow G1) (k1.mono (fun b k F2 H2 G2 => k F2 H2 (G1.trans G2)) fun c k F2 H2 G2 => k F2 H2 (G1.trans G2))
theorem td_not {a : Expr} {pos : Pos} {f : Env → R Bool} (h : TD X ca W a f) : TD X ca W (.UnaryOp .Not a pos) (fun r => notR (f r)) := by
  obtain ⟨t, p, q⟩ := h
  refine ⟨tNot t, pt_not p, fun F0 H0 r σ F H Q S w => ?_⟩
  exact q _ _ _ _ _ _ _ S (w.bind.mono (fun k k1 F1 H1 G1 => k1 F1 H1 G1) fun _ k => k)

def andV (a b : R D) : R D := a >>= fun d => lift (isB d) >>= fun k => if k = true then b else .ok (.bl false)
def orV (a b : R D) : R D := a >>= fun d => lift (isB d) >>= fun k => if k = true then .ok (.bl true) else b
def notV (a : R D) : R D := a >>= fun d => lift (isB d) >>= fun k => .ok (.bl (!k))
@[simp] theorem andV_t (b : R D) : andV (.ok (.bl true)) b = b := rfl
@[simp] theorem andV_f (b : R D) : andV (.ok (.bl false)) b = .ok (.bl false) := rfl
@[simp] theorem orV_t (b : R D) : orV (.ok (.bl true)) b = .ok (.bl true) := rfl
@[simp] theorem orV_f (b : R D) : orV (.ok (.bl false)) b = b := rfl
@[simp] theorem notV_ok (b : Bool) : notV (.ok (.bl b)) = .ok (.bl (!b)) := rfl
theorem ed_and1 {op : BoolOp} {a : Expr} {pos : Pos} {f : Env → R D} (h : ED X ca W a f) : ED X ca W (.BoolOp op [a] pos) f := by
  obtain ⟨t, p, q⟩ := h
  exact ⟨t, pe_one p, q⟩
theorem ed_and {a b : Expr} {rest : List Expr} {pos : Pos} {f g : Env → R D} (h : ED X ca W a f) (h' : ED X ca W (.BoolOp .And (b :: rest) pos) g) : ED X ca W (.BoolOp .And (a :: b :: rest) pos) (fun r => andV (f r) (g r)) := by
  obtain ⟨t, p, q⟩ := h
  obtain ⟨t', p', q'⟩ := h'
  refine ⟨tAndV t t', pe_and p p', fun F0 H0 r σ F H Q S w => ?_⟩
  refine q _ _ _ _ _ _ _ S (w.bind.mono (fun d k1 v F1 H1 G1 n => ?_) fun _ k => k)
  obtain ⟨k, e, k2⟩ := k1.bind.lift
  refine ⟨k, isB_dn e n, ?_⟩
  cases k with
  | true =>
    rw [if_pos rfl]
    exact q' _ _ _ _ _ _ _ (S.grow G1) (Wp.mono (r := g r) k2 (fun b k v F2 H2 G2 => k v F2 H2 (G1.trans G2)) fun c k F2 H2 G2 => k F2 H2 (G1.trans G2))
  | false =>
    rw [if_neg Bool.false_ne_true]
    exact k2 (.bl false) F1 H1 G1 (by simp [Dn])
theorem ed_or {a b : Expr} {rest : List Expr} {pos : Pos} {f g : Env → R D} (h : ED X ca W a f) (h' : ED X ca W (.BoolOp .Or (b :: rest) pos) g) : ED X ca W (.BoolOp .Or (a :: b :: rest) pos) (fun r => orV (f r) (g r)) := by
  obtain ⟨t, p, q⟩ := h
  obtain ⟨t', p', q'⟩ := h'
  refine ⟨tOrV t t', pe_or p p', fun F0 H0 r σ F H Q S w => ?_⟩
  refine q _ _ _ _ _ _ _ S (w.bind.mono (fun d k1 v F1 H1 G1 n => ?_) fun _ k => k)
  obtain ⟨k, e, k2⟩ := k1.bind.lift
  refine ⟨k, isB_dn e n, ?_⟩
  cases k with
  | false =>
    rw [if_neg Bool.false_ne_true]
    exact q' _ _ _ _ _ _ _ (S.grow G1) (Wp.mono (r := g r) k2 (fun b k v F2 H2 G2 => k v F2 H2 (G1.trans G2)) fun c k F2 H2 G2 => k F2 H2 (G1.trans G2))
  | true =>
    rw [if_pos rfl]
    exact k2 (.bl true) F1 H1 G1 (by simp [Dn])
theorem ed_not {a : Expr} {pos : Pos} {f : Env → R D} (h : ED X ca W a f) : ED X ca W (.UnaryOp .Not a pos) (fun r => notV (f r)) := by
  obtain ⟨t, p, q⟩ := h
  refine ⟨tNotV t, pe_not p, fun F0 H0 r σ F H Q S w => ?_⟩
  refine q _ _ _ _ _ _ _ S (w.bind.mono (fun d k1 v F1 H1 G1 n => ?_) fun _ k => k)
  obtain ⟨k, e, k2⟩ := k1.bind.lift
  exact ⟨k, isB_dn e n, k2 (.bl (!k)) F1 H1 G1 (by simp [Dn])⟩
end
end DL

set_option Elab.async false
set_option linter.all false
set_option maxRecDepth 100000
set_option maxHeartbeats 2000000
/-! DL3: operators, comparisons, subscripts, slices -/
namespace DL
open PySem PySem.Spec PyProof.Rows L2

/-! ### data as the library's -/
mutual
def toPd : D → PyData
  | .non => .none
  | .bl b => .bool b
  | .int i => .int i
  | .str x => .str x
  | .lst ds => .list (toPds ds)
  | .tup ds => .tuple (toPds ds)
  | .dic _ => .dict []
  | .scr _ => .dict []
  | .adr _ => .dict []
def toPds : List D → List PyData
  | [] => []
  | d :: ds => toPd d :: toPds ds
end
theorem toPds_map : ∀ ds : List D, toPds ds = ds.map toPd
  | [] => by simp [toPds]
  | d :: ds => by simp [toPds, toPds_map ds]
mutual
theorem Dn.dp {K : PySem.W.Frag} {F H : Hp} (s : Same F H) : ∀ (d : D) (v : V), Dn K F v d → (toPd d).canLay0 = true → Dp K H v (toPd d)
  | .non, v, h, _ => by simp only [Dn] at h; subst h; simp only [toPd]; exact .non
  | .bl _, v, h, _ => by simp only [Dn] at h; subst h; simp only [toPd]; exact .bl _
  | .int _, v, h, _ => by simp only [Dn] at h; subst h; simp only [toPd]; exact .int _
  | .str _, v, h, _ => by simp only [Dn] at h; subst h; simp only [toPd]; exact .str _
  | .lst ds, v, h, c => by
    simp only [Dn] at h
    obtain ⟨a, vs, rfl, h1, h2⟩ := h
    simp only [toPd, PyData.canLay0] at c ⊢
    exact .lst (.of (s _ _ h1)) (DnL.dp s ds vs h2 c)
  | .tup ds, v, h, c => by
    simp only [Dn] at h
    obtain ⟨a, vs, rfl, h1, h2⟩ := h
    simp only [toPd, PyData.canLay0] at c ⊢
    exact .tup (sameT s h1) (DnL.dp s ds vs h2 c)
  | .dic _, v, h, c => by simp [toPd, PyData.canLay0] at c
  | .scr _, v, h, c => by simp [toPd, PyData.canLay0] at c
  | .adr _, v, h, c => by simp [toPd, PyData.canLay0] at c
theorem DnL.dp {K : PySem.W.Frag} {F H : Hp} (s : Same F H) : ∀ (ds : List D) (vs : List V), DnL K F vs ds → PyData.canLayAll0 (toPds ds) = true → DpAll K H vs (toPds ds)
  | [], [], _, _ => by simp only [toPds]; exact .nil
  | d :: ds, v :: vs, h, c => by
    simp only [DnL] at h
    simp only [toPds, PyData.canLayAll0, Bool.and_eq_true] at c ⊢
    exact .cons (Dn.dp s d v h.1 c.1) (DnL.dp s ds vs h.2 c.2)
  | [], _ :: _, h, _ => by simp [DnL] at h
  | _ :: _, [], h, _ => by simp [DnL] at h
end
theorem Pk.dp {K : PySem.W.Frag} {F H : Hp} {d : D} {v : V} (s : Same F H) (h : Pk K F H v d) (c : (toPd d).canLay0 = true) : Dp K H v (toPd d) := by
  cases d with
  | lst ds =>
    obtain ⟨a, vs, rfl, h1, h2⟩ := h
    simp only [toPd, PyData.canLay0] at c ⊢
    exact .lst (.of h1) (DnL.dp s ds vs h2 c)
  | _ => exact Dn.dp s _ v h c

/-! ### new objects -/
theorem putL {K : PySem.W.Frag} {F H : Hp} {p : Addr} {vs : List V} {ds : List D} {Q : VK} (s : Same F H) (h : H p = none) (hd : DnL K F vs ds) (k : ∀ v F' H', Grow F H F' H' → Dn K F' v (.lst ds) → Q v H') : Q (.ref p) (upd H p (.lst vs)) := by
  refine k _ _ _ (Grow.put s h) ?_
  simp only [Dn]
  exact ⟨p, vs, rfl, upd_same, hd.same (same_updN (s.free h)) ds vs⟩
theorem putT {K : PySem.W.Frag} {F H : Hp} {p : Addr} {vs : List V} {ds : List D} {Q : VK} (s : Same F H) (h : H p = none) (hd : DnL K F vs ds) (k : ∀ v F' H', Grow F H F' H' → Dn K F' v (.tup ds) → Q v H') : Q (.ref p) (upd H p (.tup vs)) := by
  refine k _ _ _ (Grow.put s h) ?_
  simp only [Dn]
  exact ⟨p, vs, rfl, .of upd_same, hd.same (same_updN (s.free h)) ds vs⟩

/-! ### + - * // % -/
instance {i j : Int} : Decidable (CMul i j) := by unfold CMul; infer_instance
instance {i j : Int} : Decidable (CDiv i j) := by unfold CDiv; infer_instance
def addD : D → D → Option D
  | .int i, .int j => some (.int (i + j))
  | .str a, .str b => if a.length + b.length ≤ sizeLine then some (.str (a ++ b)) else none
  | .lst a, .lst b => if a.length + b.length ≤ sizeLine then some (.lst (a ++ b)) else none
  | .tup a, .tup b => if a.length + b.length ≤ sizeLine then some (.tup (a ++ b)) else none
  | _, _ => none
def subD : D → D → Option D
  | .int i, .int j => some (.int (i - j))
  | _, _ => none
def mulD : D → D → Option D
  | .int i, .int j => if CMul i j then some (.int (i * j)) else none
  | .lst a, .int k => if 0 ≤ k ∧ k < 2 ^ 63 ∧ a.length * k.toNat ≤ sizeLine then some (.lst (List.replicate k.toNat a).flatten) else none
  | .tup a, .int k => if a ≠ [] ∧ 2 ≤ k ∧ k ≤ 1000 ∧ a.length ≤ 1000 then some (.tup (List.replicate k.toNat a).flatten) else none
  | _, _ => none
def divD : D → D → Option D
  | .int i, .int j => if CDiv i j then some (.int (i / j)) else none
  | _, _ => none
def modD : D → D → Option D
  | .int i, .int j => if 0 < j then some (.int (i % j)) else none
  | _, _ => none
section
variable {X : Cx} {ca : Exn → Addr} {W : WX}
theorem opd_add : OpD X (binaryOp .Add) addD := by
  refine ⟨_, (op_add.or op_add_str).or (op_cat.or op_catA), fun F H x y d e z Q s hx hy hz k => ?_⟩
  cases d <;> cases e <;> simp only [addD] at hz <;> first | contradiction | skip
  · cases hz
    exact .inl (.inl ⟨_, _, hx, hy, k _ F H (Grow.refl s) (by simp [Dn])⟩)
  · split at hz
    · cases hz
      exact .inl (.inr ⟨_, _, hx, hy, by assumption, k _ F H (Grow.refl s) (by simp [Dn])⟩)
    · cases hz
  · split at hz
    · cases hz
      obtain ⟨a, vs, rfl, h1, h2⟩ := hx
      obtain ⟨b, ws, rfl, h3, h4⟩ := hy
      exact .inr (.inl ⟨a, b, vs, ws, rfl, rfl, h1, h3, by rw [h2.length, h4.length]; assumption, fun p hp => putL s hp (h2.append h4) k⟩)
    · cases hz
  · rename_i da db
    split at hz
    · cases hz
      have hx' := hx
      have hy' := hy
      simp only [Pk, Dn] at hx hy
      obtain ⟨a, vs, rfl, h1, h2⟩ := hx
      obtain ⟨b, ws, rfl, h3, h4⟩ := hy
      refine .inr (.inr ⟨a, b, vs, ws, rfl, rfl, sameT s h1, sameT s h3, by rw [h2.length, h4.length]; assumption, fun e => ?_, fun _ e => ?_, fun _ _ p hp => putT s hp (h2.append h4) k⟩)
      · have e1 : da = [] := by
          have := h2.length; rw [e] at this; exact List.eq_nil_of_length_eq_zero this.symm
        subst e1
        exact k _ F H (Grow.refl s) (by rw [List.nil_append]; exact hy')
      · have e1 : db = [] := by
          have := h4.length; rw [e] at this; exact List.eq_nil_of_length_eq_zero this.symm
        subst e1
        exact k _ F H (Grow.refl s) (by rw [List.append_nil]; exact hx')
    · cases hz
theorem opd_sub : OpD X (binaryOp .Sub) subD := by
  refine ⟨_, op_sub, fun F H x y d e z Q s hx hy hz k => ?_⟩
  cases d <;> cases e <;> simp only [subD] at hz <;> first | contradiction | skip
  cases hz
  exact ⟨_, _, hx, hy, k _ F H (Grow.refl s) (by simp [Dn])⟩
theorem opd_mul : OpD X (binaryOp .Mult) mulD := by
  refine ⟨_, op_mul.or (op_rep.or op_repT), fun F H x y d e z Q s hx hy hz k => ?_⟩
  cases d <;> cases e <;> simp only [mulD] at hz <;> first | contradiction | skip
  · split at hz
    · cases hz
      exact .inl ⟨_, _, hx, hy, by assumption, k _ F H (Grow.refl s) (by simp [Dn])⟩
    · cases hz
  · split at hz
    · rename_i hc
      cases hz
      obtain ⟨a, vs, rfl, h1, h2⟩ := hx
      exact .inr (.inl ⟨a, _, vs, rfl, hy, h1, by omega, hc.2.1, by rw [h2.length]; exact hc.2.2, fun p hp => putL s hp (h2.rep _) k⟩)
    · cases hz
  · rename_i da kk
    split at hz
    · rename_i hc
      cases hz
      simp only [Pk, Dn] at hx hy
      obtain ⟨a, vs, rfl, h1, h2⟩ := hx
      have hne : vs ≠ [] := fun e => hc.1 (by
        have := h2.length; rw [e] at this; exact List.eq_nil_of_length_eq_zero this.symm)
      exact .inr (.inr ⟨a, _, vs, rfl, hy, sameT s h1, hne, hc.2.1, hc.2.2.1, by rw [h2.length]; exact hc.2.2.2, fun p hp => putT s hp (h2.rep _) k⟩)
    · cases hz
theorem opd_div : OpD X (binaryOp .FloorDiv) divD := by
  refine ⟨_, op_fdiv, fun F H x y d e z Q s hx hy hz k => ?_⟩
  cases d <;> cases e <;> simp only [divD] at hz <;> first | contradiction | skip
  split at hz
  · cases hz
    exact ⟨_, _, hx, hy, by assumption, k _ F H (Grow.refl s) (by simp [Dn])⟩
  · cases hz
theorem opd_mod : OpD X (binaryOp .Mod) modD := by
  refine ⟨_, op_mod, fun F H x y d e z Q s hx hy hz k => ?_⟩
  cases d <;> cases e <;> simp only [modD] at hz <;> first | contradiction | skip
  split at hz
  · cases hz
    exact ⟨_, _, hx, hy, by assumption, k _ F H (Grow.refl s) (by simp [Dn])⟩
  · cases hz

/-! ### comparisons -/
def ltD : D → D → Option D
  | .int i, .int j => some (.bl (decide (i < j)))
  | _, _ => none
def leD : D → D → Option D
  | .int i, .int j => some (.bl (decide (i ≤ j)))
  | _, _ => none
def gtD : D → D → Option D
  | .int i, .int j => some (.bl (decide (j < i)))
  | _, _ => none
def geD : D → D → Option D
  | .int i, .int j => some (.bl (decide (j ≤ i)))
  | _, _ => none
theorem opd_lt : OpD X (compareOp .Lt) ltD := by
  refine ⟨_, op_lt, fun F H x y d e z Q s hx hy hz k => ?_⟩
  cases d <;> cases e <;> simp only [ltD] at hz <;> first | contradiction | skip
  cases hz
  exact ⟨_, _, hx, hy, k _ F H (Grow.refl s) (by simp [Dn])⟩
theorem opd_le : OpD X (compareOp .LtE) leD := by
  refine ⟨_, op_le, fun F H x y d e z Q s hx hy hz k => ?_⟩
  cases d <;> cases e <;> simp only [leD] at hz <;> first | contradiction | skip
  cases hz
  exact ⟨_, _, hx, hy, k _ F H (Grow.refl s) (by simp [Dn])⟩
theorem opd_gt : OpD X (compareOp .Gt) gtD := by
  refine ⟨_, op_gt, fun F H x y d e z Q s hx hy hz k => ?_⟩
  cases d <;> cases e <;> simp only [gtD] at hz <;> first | contradiction | skip
  cases hz
  exact ⟨_, _, hx, hy, k _ F H (Grow.refl s) (by simp [Dn])⟩
theorem opd_ge : OpD X (compareOp .GtE) geD := by
  refine ⟨_, op_ge, fun F H x y d e z Q s hx hy hz k => ?_⟩
  cases d <;> cases e <;> simp only [geD] at hz <;> first | contradiction | skip
  cases hz
  exact ⟨_, _, hx, hy, k _ F H (Grow.refl s) (by simp [Dn])⟩
/-- ==: texts of any signs; else what the library's data can be -/
def eqB : D → D → Option Bool
  | .str a, .str b => some (decide (a = b))
  | d, e => if SeqAt.shaped (toPd d) = true ∧ SeqAt.shaped (toPd e) = true then some (PyData.eqv (toPd d) (toPd e)) else none
def eqD (d e : D) : Option D := (eqB d e).map .bl
def neD (d e : D) : Option D := (eqB d e).map fun b => .bl (!b)
theorem eqB_deep {d e : D} {b : Bool} (h : eqB d e = some b) (n : ∀ x y, d = .str x → e = .str y → False) : SeqAt.shaped (toPd d) = true ∧ SeqAt.shaped (toPd e) = true ∧ b = PyData.eqv (toPd d) (toPd e) := by
  unfold eqB at h
  split at h
  · exact (n _ _ rfl rfl).elim
  · split at h
    · rename_i hc
      cases h
      exact ⟨hc.1, hc.2, rfl⟩
    · cases h
theorem opd_eq (hu : X.A.units + 64 < cLine) : OpD X (compareOp .Eq) eqD := by
  refine ⟨_, op_eq.or (op_eqD hu), fun F H x y d e z Q s hx hy hz k => ?_⟩
  simp only [eqD, Option.map_eq_some_iff] at hz
  obtain ⟨b, hb, rfl⟩ := hz
  by_cases n : ∀ x y, d = .str x → e = .str y → False
  · obtain ⟨s1, s2, rfl⟩ := eqB_deep hb n
    exact .inr ⟨_, _, hx.dp s (SeqAt.canLay_of_shaped s1), hy.dp s (SeqAt.canLay_of_shaped s2), s1, s2, k _ F H (Grow.refl s) (by simp [Dn])⟩
  · have : ∃ a b, d = .str a ∧ e = .str b := by
      cases d <;> cases e <;> first | exact ⟨_, _, rfl, rfl⟩ | (exfalso; apply n; intro _ _ h1 h2; cases h1; done) | (exfalso; apply n; intro _ _ h1 h2; cases h2; done)
    obtain ⟨a, c, rfl, rfl⟩ := this
    simp only [eqB, Option.some.injEq] at hb
    subst hb
    simp only [Pk, Dn] at hx hy
    subst hx; subst hy
    exact .inl ⟨rfl, k _ F H (Grow.refl s) (by simp [Dn])⟩
theorem opd_ne (hu : X.A.units + 64 < cLine) : OpD X (compareOp .NotEq) neD := by
  refine ⟨_, op_ne.or (op_neD hu), fun F H x y d e z Q s hx hy hz k => ?_⟩
  simp only [neD, Option.map_eq_some_iff] at hz
  obtain ⟨b, hb, rfl⟩ := hz
  by_cases n : ∀ x y, d = .str x → e = .str y → False
  · obtain ⟨s1, s2, rfl⟩ := eqB_deep hb n
    exact .inr ⟨_, _, hx.dp s (SeqAt.canLay_of_shaped s1), hy.dp s (SeqAt.canLay_of_shaped s2), s1, s2, k _ F H (Grow.refl s) (by simp [Dn])⟩
  · have : ∃ a b, d = .str a ∧ e = .str b := by
      cases d <;> cases e <;> first | exact ⟨_, _, rfl, rfl⟩ | (exfalso; apply n; intro _ _ h1 h2; cases h1; done) | (exfalso; apply n; intro _ _ h1 h2; cases h2; done)
    obtain ⟨a, c, rfl, rfl⟩ := this
    simp only [eqB, Option.some.injEq] at hb
    subst hb
    simp only [Pk, Dn] at hx hy
    subst hx; subst hy
    exact .inl ⟨rfl, k _ F H (Grow.refl s) (by simp [Dn])⟩
/-- is None -/
def isN : D → Bool
  | .non => true
  | _ => false
def isND (d e : D) : Option D := if isN e = true then some (.bl (isN d)) else none
def notND (d e : D) : Option D := if isN e = true then some (.bl (!isN d)) else none
theorem isN_pk {K : PySem.W.Frag} {F H : Hp} {x : V} {d : D} (h : Pk K F H x d) : decide (x = .non) = isN d := by
  cases d <;> simp only [Pk, Dn] at h <;> simp only [isN]
  · subst h; decide
  · subst h; exact decide_eq_false (by intro e; cases e)
  · subst h; exact decide_eq_false (by intro e; cases e)
  · subst h; exact decide_eq_false (by intro e; cases e)
  · obtain ⟨a, vs, rfl, _⟩ := h; exact decide_eq_false (by intro e; cases e)
  · obtain ⟨a, vs, rfl, _⟩ := h; exact decide_eq_false (by intro e; cases e)
  · obtain ⟨a, rfl, _⟩ := h; exact decide_eq_false (by intro e; cases e)
  · obtain ⟨a, rfl, _⟩ := h; exact decide_eq_false (by intro e; cases e)
  · subst h; exact decide_eq_false (by intro e; cases e)
theorem opd_isN : OpD X (compareOp .Is) isND := by
  refine ⟨_, op_isN, fun F H x y d e z Q s hx hy hz k => ?_⟩
  unfold isND at hz
  split at hz
  · rename_i he
    cases hz
    refine ⟨?_, ?_⟩
    · have := isN_pk hy
      rw [he] at this
      exact of_decide_eq_true this
    · rw [isN_pk hx]
      exact k _ F H (Grow.refl s) (by simp [Dn])
  · cases hz
theorem opd_notN : OpD X (compareOp .IsNot) notND := by
  refine ⟨_, op_notN, fun F H x y d e z Q s hx hy hz k => ?_⟩
  unfold notND at hz
  split at hz
  · rename_i he
    cases hz
    refine ⟨?_, ?_⟩
    · have := isN_pk hy
      rw [he] at this
      exact of_decide_eq_true this
    · rw [isN_pk hx]
      exact k _ F H (Grow.refl s) (by simp [Dn])
  · cases hz
/-! in, not in -/
def flatD : D → Option V
  | .non => some .non
  | .bl b => some (.bl b)
  | .int i => some (.int i)
  | .str x => some (.str x)
  | _ => none
def flatL : List D → Option (List V)
  | [] => some []
  | d :: ds => (flatD d).bind fun v => (flatL ds).map (v :: ·)
theorem flatD_dn {K : PySem.W.Frag} {F : Hp} {d : D} {v w : V} (h : flatD d = some v) (n : Dn K F w d) : w = v ∧ flatV v = true := by
  cases d <;> simp [flatD] at h <;> subst h <;> simp only [Dn] at n <;> exact ⟨n, rfl⟩
theorem flatL_dn {K : PySem.W.Frag} {F : Hp} : ∀ {ds : List D} {vs ws : List V}, flatL ds = some vs → DnL K F ws ds → ws = vs ∧ vs.all flatV = true
  | [], vs, [], h, _ => by simp [flatL] at h; subst h; simp
  | d :: ds, vs, w :: ws, h, n => by
    simp only [DnL] at n
    simp only [flatL, Option.bind_eq_some_iff, Option.map_eq_some_iff] at h
    obtain ⟨v, h1, vs', h2, rfl⟩ := h
    obtain ⟨e1, e2⟩ := flatD_dn h1 n.1
    obtain ⟨e3, e4⟩ := flatL_dn h2 n.2
    exact ⟨by rw [e1, e3], by rw [List.all_cons, e2, e4]; rfl⟩
  | [], _, _ :: _, _, n => by simp [DnL] at n
  | _ :: _, _, [], _, n => by simp [DnL] at n
def inB : D → D → Option Bool
  | .str x, .str z => match x.cps.toList with
    | [c] => some (decide (c ∈ z.cps.toList))
    | _ => none
  | d, .tup es => (flatD d).bind fun v => (flatL es).map fun vs => inV v vs
  | d, .lst es => if SeqAt.shaped (toPd d) = true ∧ SeqAt.shaped (.list (toPds es)) = true then some ((toPds es).any fun z => PyData.eqv z (toPd d)) else none
  | _, _ => none
def inD (d e : D) : Option D := (inB d e).map .bl
def ninD (d e : D) : Option D := (inB d e).map fun b => .bl (!b)
theorem one_sign {x : Str} {c : Nat} (h : x.cps.toList = [c]) : x = ⟨#[c]⟩ := by
  cases x with
  | mk a => congr 1; exact Array.toList_inj.mp (by simpa using h)
theorem opd_in (hu : X.A.units + 65 < cLine) : OpD X (compareOp .In) inD := by
  refine ⟨_, op_in_sign.or (op_in_seq.or (op_inD hu)), fun F H x y d e z Q s hx hy hz k => ?_⟩
  simp only [inD, Option.map_eq_some_iff] at hz
  obtain ⟨b, hb, rfl⟩ := hz
  unfold inB at hb
  split at hb
  · split at hb
    · rename_i c hc
      cases hb
      simp only [Pk, Dn] at hx hy
      subst hx; subst hy
      exact .inl ⟨c, _, by rw [one_sign hc], rfl, k _ F H (Grow.refl s) (by simp [Dn])⟩
    · cases hb
  · simp only [Option.bind_eq_some_iff, Option.map_eq_some_iff] at hb
    obtain ⟨v, h1, vs, h2, rfl⟩ := hb
    simp only [Pk, Dn] at hy
    obtain ⟨a, ws, rfl, h3, h4⟩ := hy
    obtain ⟨e3, e4⟩ := flatL_dn h2 h4
    subst e3
    have hx' : Dn X.K F x d := by cases d <;> first | exact hx | (simp [flatD] at h1)
    obtain ⟨e1, e2⟩ := flatD_dn h1 hx'
    subst e1
    exact .inr (.inl ⟨a, _, rfl, .inr (sameT s h3), e2, e4, k _ F H (Grow.refl s) (by simp [Dn])⟩)
  · split at hb
    · rename_i hc
      cases hb
      exact .inr (.inr ⟨_, _, hx.dp s (SeqAt.canLay_of_shaped hc.1), hy.dp s (SeqAt.canLay_of_shaped hc.2), hc.1, hc.2, k _ F H (Grow.refl s) (by simp [Dn])⟩)
    · cases hb
  · cases hb
theorem opd_nin (hu : X.A.units + 65 < cLine) : OpD X (compareOp .NotIn) ninD := by
  refine ⟨_, op_notIn_sign.or (op_notIn_seq.or (op_notInD hu)), fun F H x y d e z Q s hx hy hz k => ?_⟩
  simp only [ninD, Option.map_eq_some_iff] at hz
  obtain ⟨b, hb, rfl⟩ := hz
  unfold inB at hb
  split at hb
  · split at hb
    · rename_i c hc
      cases hb
      simp only [Pk, Dn] at hx hy
      subst hx; subst hy
      exact .inl ⟨c, _, by rw [one_sign hc], rfl, k _ F H (Grow.refl s) (by simp [Dn])⟩
    · cases hb
  · simp only [Option.bind_eq_some_iff, Option.map_eq_some_iff] at hb
    obtain ⟨v, h1, vs, h2, rfl⟩ := hb
    simp only [Pk, Dn] at hy
    obtain ⟨a, ws, rfl, h3, h4⟩ := hy
    obtain ⟨e3, e4⟩ := flatL_dn h2 h4
    subst e3
    have hx' : Dn X.K F x d := by cases d <;> first | exact hx | (simp [flatD] at h1)
    obtain ⟨e1, e2⟩ := flatD_dn h1 hx'
    subst e1
    exact .inr (.inl ⟨a, _, rfl, .inr (sameT s h3), e2, e4, k _ F H (Grow.refl s) (by simp [Dn])⟩)
  · split at hb
    · rename_i hc
      cases hb
      exact .inr (.inr ⟨_, _, hx.dp s (SeqAt.canLay_of_shaped hc.1), hy.dp s (SeqAt.canLay_of_shaped hc.2), hc.1, hc.2, k _ F H (Grow.refl s) (by simp [Dn])⟩)
    · cases hb
  · cases hb
end
end DL

set_option Elab.async false
set_option linter.all false
set_option maxRecDepth 100000
set_option maxHeartbeats 2000000
/-! DL4: subscripts, slices, calls of builtins, methods, displays -/
namespace DL
open PySem PySem.Spec PyProof.Rows L2

/-! ### a[i] -/
theorem DnL.atI {K : PySem.W.Frag} {F : Hp} {vs : List V} {ds : List D} {i : Int} {d : D} (h : DnL K F vs ds) (e : L2.atI ds i = some d) : ∃ v, L2.atI vs i = some v ∧ Dn K F v d := by
  unfold L2.atI at e ⊢
  rw [h.length]
  cases q : ixN ds.length i with
  | none => rw [q] at e; cases e
  | some j =>
    rw [q] at e
    exact h.get e
def ixD : D → D → Option D
  | .lst ds, .int i => atI ds i
  | .tup ds, .int i => atI ds i
  | .str z, .int i => if z.length ≤ sizeLine then (atI z.cps.toList i).map fun c => .str ⟨#[c]⟩ else none
  | .scr ns, .int i => (atI ns i).map .int
  | _, _ => none
theorem atI_map {α β : Type} (f : α → β) (l : List α) (i : Int) : atI (l.map f) i = (atI l i).map f := by
  unfold atI
  rw [List.length_map]
  cases ixN l.length i with
  | none => rfl
  | some j => simp
section
variable {X : Cx} {ca : Exn → Addr} {W : WX}
theorem ed_ix {a b : Expr} {pos : Pos} {fa fb : Env → R D} (ha : PD X ca W a fa) (hb : PD X ca W b fb) (hs : PlainIx b) :
    ED X ca W (.Subscript a b pos) (fun r => fa r >>= fun d => fb r >>= fun e => lift (ixD d e)) := by
  obtain ⟨ta, pa, qa⟩ := ha
  obtain ⟨tb, pb, qb⟩ := hb
  refine ⟨tOp (rIx X.K) ta tb, pe_ix ix_seq pa pb hs, fun F0 H0 r σ F H Q S w => ?_⟩
  show ta σ H fun x H1 => tb σ H1 fun y H2 => rIx X.K x y H2 Q
  refine qa _ _ _ _ _ _ _ S (w.bind.mono (fun d k x F1 H1 G1 p1 => ?_) fun c k => k)
  refine qb _ _ _ _ _ _ _ (S.grow G1) (k.bind.mono (fun e k2 y F2 H2 G2 p2 => ?_) fun c k F2 H2 G2 => k F2 H2 (G1.trans G2))
  obtain ⟨z, e1, k3⟩ := k2.lift
  have p1' := p1.grow G2
  have G := G1.trans G2
  cases d <;> cases e <;> simp only [ixD] at e1 <;> first | contradiction | skip
  · split at e1
    · simp only [Option.map_eq_some_iff] at e1
      obtain ⟨c, e2, rfl⟩ := e1
      exact .inr (.inr ⟨_, _, c, p1', p2, by assumption, e2, k3 _ F2 H2 G (by simp [Dn])⟩)
    · cases e1
  · obtain ⟨a', vs, rfl, h1, h2⟩ := p1'
    obtain ⟨v, h3, h4⟩ := h2.atI e1
    exact .inl ⟨a', vs, _, v, rfl, p2, .of h1, h3, k3 v F2 H2 G h4⟩
  · simp only [Pk, Dn] at p1'
    obtain ⟨a', vs, rfl, h1, h2⟩ := p1'
    obtain ⟨v, h3, h4⟩ := h2.atI e1
    exact .inr (.inl ⟨a', vs, _, v, rfl, p2, sameT G2.sub h1, h3, k3 v F2 H2 G h4⟩)
  · simp only [Pk, Dn] at p1'
    obtain ⟨a', rfl, h1⟩ := p1'
    simp only [Option.map_eq_some_iff] at e1
    obtain ⟨c, e2, rfl⟩ := e1
    refine .inl ⟨a', _, _, .int c, rfl, p2, G2.sub.seq h1, ?_, k3 (.int c) F2 H2 G (by simp [Dn])⟩
    rw [atI_map, e2]; rfl
/-- -1 and such -/
theorem ed_neg {a : Expr} {pos : Pos} {fa : Env → R D} (ha : PD X ca W a fa) : ED X ca W (.UnaryOp .USub a pos) (fun r => fa r >>= fun d => lift (subD (.int 0) d)) := by
  obtain ⟨ta, pa, qa⟩ := ha
  refine ⟨tUn (rU fun i => .int (-i)) ta, pe_un un_neg pa, fun F0 H0 r σ F H Q S w => ?_⟩
  refine qa _ _ _ _ _ _ _ S (w.bind.mono (fun d k x F1 H1 G1 p1 => ?_) fun c k => k)
  obtain ⟨z, e1, k3⟩ := k.lift
  cases d <;> simp only [subD] at e1 <;> first | contradiction | skip
  cases e1
  exact ⟨_, p1, k3 _ F1 H1 G1 (by simp [Dn])⟩

/-! ### slices -/
def OD (X : Cx) (ca : Exn → Addr) (W : WX) (e : Option Expr) (f : Env → R (Option Int)) : Prop := ∃ t : TO, PO X e t ∧ ∀ F0 H0 r σ F H Q, Sim X.K F0 H0 r σ F H →
  Wp (f r) (fun o => ∀ F' H', Grow F H F' H' → Q o H') (fun c => ∀ F' H', Grow F H F' H' → W (.ref (ca c)) none σ H') → t σ H Q
theorem od_none : OD X ca W none (fun _ => .ok none) := ⟨tNoPart, po_none, fun F0 H0 r σ F H Q S w => w F H (Grow.refl S.sub)⟩
def isI : D → Option Int
  | .int i => some i
  | _ => none
theorem od_some {e : Expr} {f : Env → R D} (h : PD X ca W e f) : OD X ca W (some e) (fun r => f r >>= fun d => lift ((isI d).map some)) := by
  obtain ⟨t, p, q⟩ := h
  refine ⟨tPart t, po_some p, fun F0 H0 r σ F H Q S w => ?_⟩
  refine q _ _ _ _ _ _ _ S (w.bind.mono (fun d k x F1 H1 G1 p1 => ?_) fun c k => k)
  obtain ⟨z, e1, k3⟩ := k.lift
  cases d <;> simp only [isI, Option.map_none, Option.map_some] at e1 <;> first | contradiction | skip
  cases e1
  exact ⟨_, p1, k3 F1 H1 G1⟩
def cut {α : Type} (xs : List α) (lo hi : Option Int) : List α := (xs.drop (HT.sIx xs.length 0 lo)).take (HT.sIx xs.length xs.length hi - HT.sIx xs.length 0 lo)
theorem cut_le {α : Type} (xs : List α) (lo hi : Option Int) : (cut xs lo hi).length ≤ xs.length := by
  unfold cut; rw [List.length_take, List.length_drop]; omega
theorem DnL.cut {K : PySem.W.Frag} {F : Hp} {vs : List V} {ds : List D} (lo hi : Option Int) (h : DnL K F vs ds) : DnL K F (cutV vs lo hi) (DL.cut ds lo hi) := by
  unfold cutV DL.cut
  rw [h.length]
  exact (h.drop _).take _
theorem cut_map {α β : Type} (f : α → β) (l : List α) (lo hi : Option Int) : DL.cut (l.map f) lo hi = (DL.cut l lo hi).map f := by
  unfold DL.cut
  rw [List.length_map, List.map_take, List.map_drop]
def slD : D → Option Int → Option Int → Option D
  | .lst ds, lo, hi => some (.lst (cut ds lo hi))
  | .tup ds, lo, hi => some (.tup (cut ds lo hi))
  | .str z, lo, hi => if z.length ≤ sizeLine then some (.str (cutS z lo hi)) else none
  | .scr ns, lo, hi => some (.lst ((cut ns lo hi).map .int))
  | _, _, _ => none
theorem cut_whole {α : Type} {ds : List α} {lo hi : Option Int} (h : HT.sIx ds.length 0 lo = 0 ∧ HT.sIx ds.length ds.length hi = ds.length) : cut ds lo hi = ds := by
  unfold cut
  rw [h.1, h.2, List.drop_zero, Nat.sub_zero, List.take_length]
theorem ed_sl {a : Expr} {lo hi : Option Expr} {pos p2 : Pos} {fa : Env → R D} {fl fh : Env → R (Option Int)} (ha : PD X ca W a fa) (hl : OD X ca W lo fl) (hh : OD X ca W hi fh) :
    ED X ca W (.Subscript a (.Slice lo hi none p2) pos) (fun r => fa r >>= fun d => fl r >>= fun l => fh r >>= fun h => lift (slD d l h)) := by
  obtain ⟨ta, pa, qa⟩ := ha
  obtain ⟨tl, pl, ql⟩ := hl
  obtain ⟨th, ph, qh⟩ := hh
  refine ⟨_, pe_slice (sl_list.or (sl_tupA.or sl_str)) pa pl ph, fun F0 H0 r σ F H Q S w => ?_⟩
  refine qa _ _ _ _ _ _ _ S (w.bind.mono (fun d k x F1 H1 G1 p1 => ?_) fun c k => k)
  refine ql _ _ _ _ _ _ _ (S.grow G1) (k.bind.mono (fun l k2 F2 H2 G2 => ?_) fun c k F2 H2 G2 => k F2 H2 (G1.trans G2))
  have G12 := G1.trans G2
  refine qh _ _ _ _ _ _ _ (S.grow G12) (k2.bind.mono (fun h k2 F3 H3 G3 => ?_) fun c k F2 H2 G2 => k F2 H2 (G12.trans G2))
  obtain ⟨z, e1, k3⟩ := k2.lift
  have p1' := (p1.grow G2).grow G3
  have G := G12.trans G3
  cases d <;> simp only [slD] at e1 <;> first | contradiction | skip
  · split at e1
    · cases e1
      exact .inr (.inr ⟨_, p1', by assumption, k3 _ F3 H3 G (by simp [Dn])⟩)
    · cases e1
  · cases e1
    obtain ⟨a', vs, rfl, h1, h2⟩ := p1'
    exact .inl ⟨a', vs, rfl, .of h1, fun p hp => putL G.sub hp (h2.cut l h) fun v F' H' G' n => k3 v F' H' (G.trans G') n⟩
  · cases e1
    have p1'' := p1'
    simp only [Pk, Dn] at p1'
    obtain ⟨a', vs, rfl, h1, h2⟩ := p1'
    refine .inr (.inl ⟨a', vs, rfl, sameT G.sub h1, fun e => ?_, fun _ p hp => putT G.sub hp (h2.cut l h) fun v F' H' G' n => k3 v F' H' (G.trans G') n⟩)
    rw [h2.length] at e
    exact k3 _ F3 H3 G (by rw [cut_whole e]; exact p1'')
  · cases e1
    simp only [Pk, Dn] at p1'
    obtain ⟨a', rfl, h1⟩ := p1'
    refine .inl ⟨a', _, rfl, G.sub.seq h1, fun p hp => putL (ds := (DL.cut _ l h).map .int) G.sub hp ?_ fun v F' H' G' n => k3 v F' H' (G.trans G') n⟩
    have e : ∀ ns : List Int, cutV (ns.map V.int) l h = (DL.cut ns l h).map V.int := fun ns => cut_map V.int ns l h
    rw [e]
    exact Dn.ints _

/-! ### arguments that are read -/
def PkL (K : PySem.W.Frag) (F H : Hp) : List V → List D → Prop
  | [], [] => True
  | v :: vs, d :: ds => Pk K F H v d ∧ PkL K F H vs ds
  | _, _ => False
theorem PkL.grow {K : PySem.W.Frag} {F H F' H' : Hp} (g : Grow F H F' H') : ∀ {vs : List V} {ds : List D}, PkL K F H vs ds → PkL K F' H' vs ds
  | [], [], _ => trivial
  | _ :: _, _ :: _, h => ⟨h.1.grow g, PkL.grow g h.2⟩
  | [], _ :: _, h => False.elim h
  | _ :: _, [], h => False.elim h
def APD (X : Cx) (ca : Exn → Addr) (W : WX) (es : List Expr) (f : Env → R (List D)) : Prop := ∃ t : TA, PA X es t ∧ ∀ F0 H0 r σ F H Q, Sim X.K F0 H0 r σ F H →
  Wp (f r) (fun ds => ∀ vs F' H', Grow F H F' H' → PkL X.K F' H' vs ds → Q vs H') (fun c => ∀ F' H', Grow F H F' H' → W (.ref (ca c)) none σ H') → t σ H Q
theorem apd_nil : APD X ca W [] (fun _ => .ok []) := ⟨tNil, pa_nil, fun F0 H0 r σ F H Q S w => w [] F H (Grow.refl S.sub) trivial⟩
theorem apd_cons {e : Expr} {es : List Expr} {f : Env → R D} {g : Env → R (List D)} (h : PD X ca W e f) (h' : APD X ca W es g) (hs : starEach (e :: es) X.env = (false, eval e X.env) :: starEach es X.env := by rfl) :
    APD X ca W (e :: es) (fun r => f r >>= fun d => g r >>= fun ds => .ok (d :: ds)) := by
  obtain ⟨t, p, q⟩ := h
  obtain ⟨t', p', q'⟩ := h'
  refine ⟨tCons t t', pa_cons p p' hs, fun F0 H0 r σ F H Q S w => ?_⟩
  refine q _ _ _ _ _ _ _ S (w.bind.mono (fun d k x F1 H1 G1 p1 => ?_) fun c k => k)
  exact q' _ _ _ _ _ _ _ (S.grow G1) (k.bind.mono (fun ds k2 vs F2 H2 G2 p2 => k2 (x :: vs) F2 H2 (G1.trans G2) ⟨p1.grow G2, p2⟩) fun c k F2 H2 G2 => k F2 H2 (G1.trans G2))
theorem ad_nil : AD X ca W [] (fun _ => .ok []) := ⟨tNil, pa_nil, fun F0 H0 r σ F H Q S w => w [] F H (Grow.refl S.sub) .nil⟩
theorem ad_cons {e : Expr} {es : List Expr} {f : Env → R D} {g : Env → R (List D)} (h : ED X ca W e f) (h' : AD X ca W es g) (hs : starEach (e :: es) X.env = (false, eval e X.env) :: starEach es X.env := by rfl) :
    AD X ca W (e :: es) (fun r => f r >>= fun d => g r >>= fun ds => .ok (d :: ds)) := by
  obtain ⟨t, p, q⟩ := h
  obtain ⟨t', p', q'⟩ := h'
  refine ⟨tCons t t', pa_cons p p' hs, fun F0 H0 r σ F H Q S w => ?_⟩
  refine q _ _ _ _ _ _ _ S (w.bind.mono (fun d k x F1 H1 G1 p1 => ?_) fun c k => k)
  exact q' _ _ _ _ _ _ _ (S.grow G1) (k.bind.mono (fun ds k2 vs F2 H2 G2 p2 => k2 (x :: vs) F2 H2 (G1.trans G2) (.cons (p1.same G2.ff d x) p2)) fun c k F2 H2 G2 => k F2 H2 (G1.trans G2))

/-! ### displays -/
theorem ed_tup {es : List Expr} {x1} {pos : Pos} {g : Env → R (List D)} (h : AD X ca W es g) : ED X ca W (.Tuple es x1 pos) (fun r => g r >>= fun ds => if ds.length ≤ sizeLine then .ok (.tup ds) else .no) := by
  obtain ⟨t, p, q⟩ := h
  refine ⟨tTup t, pe_tup p, fun F0 H0 r σ F H Q S w => ?_⟩
  refine q _ _ _ _ _ _ _ S (w.bind.mono (fun ds k vs F1 H1 G1 p1 => ?_) fun c k => k)
  by_cases hl : ds.length ≤ sizeLine
  · rw [if_pos hl] at k
    exact ⟨by rw [p1.length]; exact hl, fun a ha => putT G1.sub ha p1 fun v F' H' G n => k v F' H' (G1.trans G) n⟩
  · rw [if_neg hl] at k
    exact False.elim k
theorem fd_lst {es : List Expr} {pos : Pos} {g : Env → R (List D)} (h : AD X ca W es g) : FD X ca W (.List es pos) (fun r => g r >>= fun ds => if ds.length ≤ sizeLine then .ok ds else .no) := by
  obtain ⟨t, p, q⟩ := h
  refine ⟨tLst t, pe_lst p, fun F0 H0 r σ F H Q S w => ?_⟩
  refine q _ _ _ _ _ _ _ S (w.bind.mono (fun ds k vs F1 H1 G1 p1 => ?_) fun c k => k)
  by_cases hl : ds.length ≤ sizeLine
  · rw [if_pos hl] at k
    exact ⟨by rw [p1.length]; exact hl, fun a ha => k a vs F1 (upd H1 a (.lst vs)) (G1.trans (Grow.lay G1.sub ha)) (G1.hh.free ha) (G1.sub.free ha) upd_same p1⟩
  · rw [if_neg hl] at k
    exact False.elim k

/-! ### builtins by values -/
def CallD (X : Cx) (fn : Value) (g : List D → Option D) : Prop := ∃ r, CallR X fn r ∧ ∀ (F H : Hp) (vs : List V) (ds : List D) (z : D) (Q : VK), Same F H → PkL X.K F H vs ds → g ds = some z →
  (∀ v F' H', Grow F H F' H' → Dn X.K F' v z → Q v H') → r vs H Q
theorem ed_callB {x : Str} {id : String} {e : Expr} {es : List Expr} {p pos : Pos} {g : List D → Option D} {fs : Env → R (List D)} (hc : CallD X (.builtin id) g) (hm : X.mg x = none) (hv : bootBuiltins x = some (.builtin id)) (ha : APD X ca W (e :: es) fs)
    (hg : Gl X x := by rfl) (hn : x ≠ "__name__" := by decide) (hdb : (x == ("__debug__" : Str)) = false := by decide)
    (he : starEach (e :: es) X.env = (false, eval e X.env) :: starEach es X.env := by rfl) (hpl : (backTo pos (starEach es X.env)).any (·.1) = false := by rfl) :
    ED X ca W (.Call (.Name x p) (e :: es) [] pos) (fun r => fs r >>= fun ds => lift (g ds)) := by
  obtain ⟨rr, hr, hq⟩ := hc
  obtain ⟨t, pa, q⟩ := ha
  refine ⟨tCB rr t, pe_callB hr hg hm hv pa hn hdb he hpl, fun F0 H0 r σ F H Q S w => ?_⟩
  refine q _ _ _ _ _ _ _ S (w.bind.mono (fun ds k vs F1 H1 G1 p1 => ?_) fun c k => k)
  obtain ⟨z, e1, k3⟩ := k.lift
  exact hq F1 H1 vs ds z Q G1.sub p1 e1 fun v F' H' G n => k3 v F' H' (G1.trans G) n
theorem ed_callT {x : Str} {T : String} {e : Expr} {es : List Expr} {p pos : Pos} {g : List D → Option D} {fs : Env → R (List D)} (hc : CallD X (.type T) g) (hm : X.mg x = none) (hv : bootBuiltins x = some (.type T)) (ha : APD X ca W (e :: es) fs)
    (hg : Gl X x := by rfl) (hn : x ≠ "__name__" := by decide) (hdb : (x == ("__debug__" : Str)) = false := by decide)
    (he : starEach (e :: es) X.env = (false, eval e X.env) :: starEach es X.env := by rfl) (hpl : (backTo pos (starEach es X.env)).any (·.1) = false := by rfl) :
    ED X ca W (.Call (.Name x p) (e :: es) [] pos) (fun r => fs r >>= fun ds => lift (g ds)) := by
  obtain ⟨rr, hr, hq⟩ := hc
  obtain ⟨t, pa, q⟩ := ha
  refine ⟨tCB rr t, pe_callTy hr hg hm hv pa hn hdb he hpl, fun F0 H0 r σ F H Q S w => ?_⟩
  refine q _ _ _ _ _ _ _ S (w.bind.mono (fun ds k vs F1 H1 G1 p1 => ?_) fun c k => k)
  obtain ⟨z, e1, k3⟩ := k.lift
  exact hq F1 H1 vs ds z Q G1.sub p1 e1 fun v F' H' G n => k3 v F' H' (G1.trans G) n
theorem pkl1 {K : PySem.W.Frag} {F H : Hp} {vs : List V} {d : D} (h : PkL K F H vs [d]) : ∃ v, vs = [v] ∧ Pk K F H v d := by
  cases vs with
  | nil => exact False.elim h
  | cons v vs =>
    cases vs with
    | nil => exact ⟨v, rfl, h.1⟩
    | cons _ _ => exact False.elim h.2
theorem pkl2 {K : PySem.W.Frag} {F H : Hp} {vs : List V} {d e : D} (h : PkL K F H vs [d, e]) : ∃ v w, vs = [v, w] ∧ Pk K F H v d ∧ Pk K F H w e := by
  cases vs with
  | nil => exact False.elim h
  | cons v vs =>
    obtain ⟨w, rfl, q⟩ := pkl1 h.2
    exact ⟨v, w, rfl, h.1, q⟩
def lenD : List D → Option D
  | [.lst ds] => some (.int ds.length)
  | [.tup ds] => some (.int ds.length)
  | [.scr ns] => some (.int ns.length)
  | [.str z] => if z.length ≤ sizeLine then some (.int z.length) else none
  | _ => none
theorem cd_len : CallD X (.builtin "len") lenD := by
  refine ⟨_, call_len_seq.or call_len_str, fun F H vs ds z Q s hp hz k => ?_⟩
  unfold lenD at hz
  split at hz
  · obtain ⟨v, rfl, h⟩ := pkl1 hp
    cases hz
    obtain ⟨a, ws, rfl, h1, h2⟩ := h
    exact .inl ⟨a, ws, rfl, .inl (.of h1), k _ F H (Grow.refl s) (by simp [Dn, h2.length])⟩
  · obtain ⟨v, rfl, h⟩ := pkl1 hp
    cases hz
    simp only [Pk, Dn] at h
    obtain ⟨a, ws, rfl, h1, h2⟩ := h
    exact .inl ⟨a, ws, rfl, .inr (sameT s h1), k _ F H (Grow.refl s) (by simp [Dn, h2.length])⟩
  · obtain ⟨v, rfl, h⟩ := pkl1 hp
    cases hz
    simp only [Pk, Dn] at h
    obtain ⟨a, rfl, h1⟩ := h
    exact .inl ⟨a, _, rfl, .inl (s.seq h1), k _ F H (Grow.refl s) (by simp [Dn])⟩
  · split at hz
    · obtain ⟨v, rfl, h⟩ := pkl1 hp
      cases hz
      simp only [Pk, Dn] at h
      subst h
      exact .inr ⟨_, rfl, by assumption, k _ F H (Grow.refl s) (by simp [Dn])⟩
    · cases hz
  · cases hz
def ordD : List D → Option D
  | [.str z] => if z.length = 1 then some (.int (z.cps.getD 0 0 : Nat)) else none
  | _ => none
theorem cd_ord : CallD X (.builtin "ord") ordD := by
  refine ⟨_, call_ord, fun F H vs ds z Q s hp hz k => ?_⟩
  unfold ordD at hz
  split at hz
  · split at hz
    · obtain ⟨v, rfl, h⟩ := pkl1 hp
      cases hz
      simp only [Pk, Dn] at h
      subst h
      exact ⟨_, rfl, by assumption, k _ F H (Grow.refl s) (by simp [Dn])⟩
    · cases hz
  · cases hz
def min2D : List D → Option D
  | [.int i, .int j] => some (.int (if j < i then j else i))
  | _ => none
def max2D : List D → Option D
  | [.int i, .int j] => some (.int (if j > i then j else i))
  | _ => none
theorem cd_min2 (hc : X.calm = true) : CallD X (.builtin "min") min2D := by
  refine ⟨_, call_min2 hc, fun F H vs ds z Q s hp hz k => ?_⟩
  unfold min2D at hz
  split at hz
  · obtain ⟨v, w, rfl, h1, h2⟩ := pkl2 hp
    cases hz
    simp only [Pk, Dn] at h1 h2
    subst h1; subst h2
    exact ⟨_, _, rfl, k _ F H (Grow.refl s) (by simp [Dn])⟩
  · cases hz
theorem cd_max2 (hc : X.calm = true) : CallD X (.builtin "max") max2D := by
  refine ⟨_, call_max2 hc, fun F H vs ds z Q s hp hz k => ?_⟩
  unfold max2D at hz
  split at hz
  · obtain ⟨v, w, rfl, h1, h2⟩ := pkl2 hp
    cases hz
    simp only [Pk, Dn] at h1 h2
    subst h1; subst h2
    exact ⟨_, _, rfl, k _ F H (Grow.refl s) (by simp [Dn])⟩
  · cases hz
def allD : List D → Option D
  | [.lst ds] => (blsOf ds).map fun bs => .bl (bs.all id)
  | _ => none
theorem cd_all (hc : X.calm = true) : CallD X (.builtin "all") allD := by
  refine ⟨_, cr_all hc, fun F H vs ds z Q s hp hz k => ?_⟩
  unfold allD at hz
  split at hz
  · obtain ⟨v, rfl, h⟩ := pkl1 hp
    simp only [Option.map_eq_some_iff] at hz
    obtain ⟨bs, e, rfl⟩ := hz
    obtain ⟨a, ws, rfl, h1, h2⟩ := h
    have := h2.blsOf e
    subst this
    exact ⟨a, bs, rfl, .of h1, k _ F H (Grow.refl s) (by simp [Dn])⟩
  · cases hz
def sumD : List D → Option D
  | [.lst ds] => (intsOf ds).map fun ns => .int ns.sum
  | _ => none
theorem cd_sum (hc : X.calm = true) : CallD X (.builtin "sum") sumD := by
  refine ⟨_, cr_sum hc, fun F H vs ds z Q s hp hz k => ?_⟩
  unfold sumD at hz
  split at hz
  · obtain ⟨v, rfl, h⟩ := pkl1 hp
    simp only [Option.map_eq_some_iff] at hz
    obtain ⟨bs, e, rfl⟩ := hz
    obtain ⟨a, ws, rfl, h1, h2⟩ := h
    have := h2.intsOf e
    subst this
    exact ⟨a, bs, rfl, .of h1, k _ F H (Grow.refl s) (by simp [Dn])⟩
  · cases hz
def tupleD : List D → Option D
  | [.lst ds] => some (.tup ds)
  | [.tup ds] => some (.tup ds)
  | _ => none
theorem cd_tuple : CallD X (.type "tuple") tupleD := by
  refine ⟨_, call_tuple_of, fun F H vs ds z Q s hp hz k => ?_⟩
  unfold tupleD at hz
  split at hz
  · obtain ⟨v, rfl, h⟩ := pkl1 hp
    cases hz
    obtain ⟨a, ws, rfl, h1, h2⟩ := h
    exact ⟨a, ws, rfl, .inl ⟨.of h1, fun p hp => putT s hp h2 k⟩⟩
  · obtain ⟨v, rfl, h⟩ := pkl1 hp
    cases hz
    have h' := h
    simp only [Pk, Dn] at h
    obtain ⟨a, ws, rfl, h1, h2⟩ := h
    exact ⟨a, ws, rfl, .inr ⟨sameT s h1, k _ F H (Grow.refl s) h'⟩⟩
  · cases hz
def strD : List D → Option D
  | [.int i] => if i.natAbs.log2 < 1920 then some (.str (toString i)) else none
  | _ => none
theorem cd_str : CallD X (.type "str") strD := by
  refine ⟨_, call_str_int, fun F H vs ds z Q s hp hz k => ?_⟩
  unfold strD at hz
  split at hz
  · split at hz
    · obtain ⟨v, rfl, h⟩ := pkl1 hp
      cases hz
      simp only [Pk, Dn] at h
      subst h
      exact ⟨_, rfl, by assumption, k _ F H (Grow.refl s) (by simp [Dn])⟩
    · cases hz
  · cases hz
def intD : List D → Option D
  | [.int i] => some (.int i)
  | [.bl b] => some (.int (if b then 1 else 0))
  | [.str z] => if z.length ≤ 640 then (intText? z).map .int else none
  | _ => none
theorem cd_int : CallD X (.type "int") intD := by
  refine ⟨_, call_int1.or call_int_str, fun F H vs ds z Q s hp hz k => ?_⟩
  unfold intD at hz
  split at hz
  · obtain ⟨v, rfl, h⟩ := pkl1 hp
    cases hz
    simp only [Pk, Dn] at h
    subst h
    exact .inl (.inl ⟨_, rfl, k _ F H (Grow.refl s) (by simp [Dn])⟩)
  · obtain ⟨v, rfl, h⟩ := pkl1 hp
    cases hz
    simp only [Pk, Dn] at h
    subst h
    exact .inl (.inr ⟨_, rfl, k _ F H (Grow.refl s) (by simp [Dn])⟩)
  · split at hz
    · obtain ⟨v, rfl, h⟩ := pkl1 hp
      simp only [Option.map_eq_some_iff] at hz
      obtain ⟨n, e, rfl⟩ := hz
      simp only [Pk, Dn] at h
      subst h
      exact .inr ⟨_, n, rfl, e, by assumption, k _ F H (Grow.refl s) (by simp [Dn])⟩
    · cases hz
  · cases hz
/-- list(x): a new list -/
def listO : D → Option (List D)
  | .lst ds => some ds
  | .tup ds => some ds
  | _ => none
theorem fd_list {a : Expr} {p pos : Pos} {f : Env → R D} (hm : X.mg "list" = none) (ha : PD X ca W a f) (hg : Gl X "list" := by rfl)
    (he : starEach [a] X.env = (false, eval a X.env) :: starEach [] X.env := by rfl) (hpl : (backTo pos (starEach [] X.env)).any (·.1) = false := by rfl) :
    FD X ca W (.Call (.Name "list" p) [a] [] pos) (fun r => f r >>= fun d => lift (listO d)) := by
  obtain ⟨t, pa, q⟩ := ha
  refine ⟨tCB _ (tCons t tNil), pe_callTy call_list_of hg hm (by decide +kernel) (pa_cons pa pa_nil he) (by decide) (by decide) he hpl, fun F0 H0 r σ F H Q S w => ?_⟩
  refine q _ _ _ _ _ _ _ S (w.bind.mono (fun d k v F1 H1 G1 p1 => ?_) fun c k => k)
  obtain ⟨ds, e1, k3⟩ := k.lift
  unfold listO at e1
  split at e1
  · cases e1
    obtain ⟨a, ws, rfl, h1, h2⟩ := p1
    exact ⟨a, ws, rfl, .inl (.of h1), fun l hl => k3 l ws F1 _ (G1.trans (Grow.lay G1.sub hl)) (G1.hh.free hl) (G1.sub.free hl) upd_same h2⟩
  · cases e1
    simp only [Pk, Dn] at p1
    obtain ⟨a, ws, rfl, h1, h2⟩ := p1
    exact ⟨a, ws, rfl, .inr (sameT G1.sub h1), fun l hl => k3 l ws F1 _ (G1.trans (Grow.lay G1.sub hl)) (G1.hh.free hl) (G1.sub.free hl) upd_same h2⟩
  · cases e1
/-! new lists by + and * -/
def catO : D → D → Option (List D)
  | .lst a, .lst b => if a.length + b.length ≤ sizeLine then some (a ++ b) else none
  | _, _ => none
theorem fd_cat {a b : Expr} {pos : Pos} {fa fb : Env → R D} (ha : PD X ca W a fa) (hb : PD X ca W b fb) : FD X ca W (.BinOp a .Add b pos) (fun r => fa r >>= fun d => fb r >>= fun e => lift (catO d e)) := by
  obtain ⟨ta, pa, qa⟩ := ha
  obtain ⟨tb, pb, qb⟩ := hb
  refine ⟨tOp rCat ta tb, pe_op op_cat pa pb, fun F0 H0 r σ F H Q S w => ?_⟩
  refine qa _ _ _ _ _ _ _ S (w.bind.mono (fun d k x F1 H1 G1 p1 => ?_) fun c k => k)
  refine qb _ _ _ _ _ _ _ (S.grow G1) (k.bind.mono (fun e k2 y F2 H2 G2 p2 => ?_) fun c k F2 H2 G2 => k F2 H2 (G1.trans G2))
  obtain ⟨z, e1, k3⟩ := k2.lift
  have p1' := p1.grow G2
  have G := G1.trans G2
  cases d <;> cases e <;> simp only [catO] at e1 <;> first | contradiction | skip
  split at e1
  · cases e1
    obtain ⟨a, vs, rfl, h1, h2⟩ := p1'
    obtain ⟨b, ws, rfl, h3, h4⟩ := p2
    exact ⟨a, b, vs, ws, rfl, rfl, h1, h3, by rw [h2.length, h4.length]; assumption, fun l hl => k3 l _ F2 _ (G.trans (Grow.lay G.sub hl)) (G.hh.free hl) (G.sub.free hl) upd_same (h2.append h4)⟩
  · cases e1
def repO : D → D → Option (List D)
  | .lst a, .int k => if 0 ≤ k ∧ k < 2 ^ 63 ∧ a.length * k.toNat ≤ sizeLine then some (List.replicate k.toNat a).flatten else none
  | _, _ => none
theorem fd_rep {a b : Expr} {pos : Pos} {fa fb : Env → R D} (ha : PD X ca W a fa) (hb : PD X ca W b fb) : FD X ca W (.BinOp a .Mult b pos) (fun r => fa r >>= fun d => fb r >>= fun e => lift (repO d e)) := by
  obtain ⟨ta, pa, qa⟩ := ha
  obtain ⟨tb, pb, qb⟩ := hb
  refine ⟨tOp rRep ta tb, pe_op op_rep pa pb, fun F0 H0 r σ F H Q S w => ?_⟩
  refine qa _ _ _ _ _ _ _ S (w.bind.mono (fun d k x F1 H1 G1 p1 => ?_) fun c k => k)
  refine qb _ _ _ _ _ _ _ (S.grow G1) (k.bind.mono (fun e k2 y F2 H2 G2 p2 => ?_) fun c k F2 H2 G2 => k F2 H2 (G1.trans G2))
  obtain ⟨z, e1, k3⟩ := k2.lift
  have p1' := p1.grow G2
  have G := G1.trans G2
  cases d <;> cases e <;> simp only [repO] at e1 <;> first | contradiction | skip
  split at e1
  · rename_i hc
    cases e1
    obtain ⟨a, vs, rfl, h1, h2⟩ := p1'
    exact ⟨a, _, vs, rfl, p2, h1, by omega, hc.2.1, by rw [h2.length]; exact hc.2.2, fun l hl => k3 l _ F2 _ (G.trans (Grow.lay G.sub hl)) (G.hh.free hl) (G.sub.free hl) upd_same (h2.rep _)⟩
  · cases e1

/-! ### isinstance(x, T), T a built-in type -/
def tyN : D → String
  | .non => "NoneType"
  | .bl _ => "bool"
  | .int _ => "int"
  | .str _ => "str"
  | .lst _ => "list"
  | .tup _ => "tuple"
  | .dic _ => "dict"
  | .scr _ => "list"
  | .adr _ => "list"
theorem tyN_pk {K : PySem.W.Frag} {F H : Hp} {x : V} {d : D} (s : Same F H) (h : Pk K F H x d) (hd : ∀ a, d ≠ .adr a) : TyX K H x (.type (tyN d)) := by
  cases d with
  | non => cases (show x = .non by simpa [Pk, Dn] using h); exact .base .non
  | bl b => cases (show x = .bl b by simpa [Pk, Dn] using h); exact .base (.bl b)
  | int b => cases (show x = .int b by simpa [Pk, Dn] using h); exact .base (.int b)
  | str b => cases (show x = .str b by simpa [Pk, Dn] using h); exact .base (.str b)
  | lst ds =>
    obtain ⟨a, vs, rfl, h1, _⟩ := h
    exact .base (.lst h1)
  | tup ds =>
    simp only [Pk, Dn] at h
    obtain ⟨a, vs, rfl, h1, _⟩ := h
    rcases sameT s h1 with (h1 | ⟨o, h1⟩) | ⟨o, its, n, h1, h2, _⟩
    · exact .base (.tup h1)
    · exact .fTuple h1
    · exact .kTuple h1 h2
  | dic kvs =>
    simp only [Pk, Dn] at h
    obtain ⟨a, rfl, h1, _⟩ := h
    exact .base (.dK (s _ _ h1))
  | scr ns =>
    simp only [Pk, Dn] at h
    obtain ⟨a, rfl, h1⟩ := h
    rcases s.seq h1 with (h1 | ⟨o, h1⟩) | ⟨o, its, n, h1, h2, _⟩
    · exact .base (.lst h1)
    · exact .base (.frz h1)
    · exact .kList h1 h2
  | adr a => exact absurd rfl (hd a)
def isT (T : String) : D → Option D
  | .adr _ => none
  | d => (kitB (tyN d) T).map .bl
theorem isT_some {T : String} {d z : D} (h : isT T d = some z) : (∀ a, d ≠ .adr a) ∧ (kitB (tyN d) T).map .bl = some z := by
  cases d with
  | adr a => simp [isT] at h
  | _ => exact ⟨fun _ e => (by cases e), h⟩
theorem ed_isi {a : Expr} {x : Str} {T : String} {p p2 pos : Pos} {f : Env → R D} (hm : X.mg "isinstance" = none) (hm2 : X.mg x = none) (hv : bootBuiltins x = some (.type T)) (ha : PD X ca W a f) (hg : Gl X "isinstance" := by rfl) (hg2 : Gl X x := by rfl)
    (he : starEach [a, .Name x p2] X.env = (false, eval a X.env) :: starEach [.Name x p2] X.env := by rfl) (he2 : starEach [.Name x p2] X.env = (false, eval (.Name x p2) X.env) :: starEach [] X.env := by rfl) (hpl : (backTo pos (starEach [.Name x p2] X.env)).any (·.1) = false := by rfl)
    (hn : x ≠ "__name__" := by decide) (hdb : (x == ("__debug__" : Str)) = false := by decide) :
    ED X ca W (.Call (.Name "isinstance" p) [a, .Name x p2] [] pos) (fun r => f r >>= fun d => lift (isT T d)) := by
  obtain ⟨t, pa, q⟩ := ha
  refine ⟨_, pe_callB call_isi hg hm (by decide +kernel) (pa_cons pa (pa_cons (pe_bltn (v := .ty T) hg2 hm2 hv rfl hn hdb) pa_nil he2) he) (by decide) (by decide) he hpl, fun F0 H0 r σ F H Q S w => ?_⟩
  refine q _ _ _ _ _ _ _ S (w.bind.mono (fun d k v F1 H1 G1 p1 => ?_) fun c k => k)
  obtain ⟨z, e1, k3⟩ := k.lift
  obtain ⟨e0, e1⟩ := isT_some e1
  simp only [Option.map_eq_some_iff] at e1
  obtain ⟨b, e2, rfl⟩ := e1
  exact ⟨v, .ty T, _, .type T, b, rfl, .ty T, tyN_pk G1.sub p1 e0, kit_ty e2, k3 _ F1 H1 G1 (by simp [Dn])⟩

/-! ### methods of texts -/
def strO : D → Option Str
  | .str a => some a
  | _ => none
theorem strO_pk {K : PySem.W.Frag} {F H : Hp} {x : V} {d : D} {a : Str} (h : Pk K F H x d) (e : strO d = some a) : x = .str a := by
  cases d <;> simp [strO] at e
  subst e
  simpa [Pk, Dn] using h
def joinD (a : Str) : D → Option D
  | .lst ds => (strsOf ds).bind fun ys => if (ys.map (·.length)).sum + ys.length * a.length ≤ 16777216 then some (.str (Txt.join a ys)) else none
  | .tup ds => (strsOf ds).bind fun ys => if (ys.map (·.length)).sum + ys.length * a.length ≤ 16777216 then some (.str (Txt.join a ys)) else none
  | _ => none
theorem ed_join {o e : Expr} {apos pos : Pos} {fo fe : Env → R D} (ho : PD X ca W o fo) (he : PD X ca W e fe) (hs : starEach [e] X.env = [(false, eval e X.env)] := by rfl) (hbase : attributeBase o "join" X.env (eval o X.env) = eval o X.env := by rfl) (hline : (apos.endLine == pos.line) = true := by rfl) :
    ED X ca W (.Call (.Attribute o "join" apos) [e] [] pos) (fun r => fo r >>= fun d => lift (strO d) >>= fun a => fe r >>= fun e => lift (joinD a e)) := by
  obtain ⟨ta, pa, qa⟩ := ho
  obtain ⟨tb, pb, qb⟩ := he
  refine ⟨_, pe_join pa pb hs hbase hline, fun F0 H0 r σ F H Q S w => ?_⟩
  refine qa _ _ _ _ _ _ _ S (w.bind.mono (fun d k x F1 H1 G1 p1 => ?_) fun c k => k)
  obtain ⟨a, e0, k⟩ := k.bind.lift
  have ex := strO_pk p1 e0
  subst ex
  refine ⟨⟨a, rfl⟩, ?_⟩
  refine qb _ _ _ _ _ _ _ (S.grow G1) (k.bind.mono (fun e k2 y F2 H2 G2 p2 => ?_) fun c k F2 H2 G2 => k F2 H2 (G1.trans G2))
  obtain ⟨z, e1, k3⟩ := k2.lift
  have G := G1.trans G2
  unfold joinD at e1
  split at e1
  · simp only [Option.bind_eq_some_iff] at e1
    obtain ⟨ys, e2, e3⟩ := e1
    split at e3
    · cases e3
      obtain ⟨a', ws, rfl, h1, h2⟩ := p2
      have := h2.strsOf e2
      subst this
      exact ⟨a, a', ys, rfl, rfl, .inl (.of h1), by assumption, k3 _ F2 H2 G (by simp [Dn])⟩
    · cases e3
  · simp only [Option.bind_eq_some_iff] at e1
    obtain ⟨ys, e2, e3⟩ := e1
    split at e3
    · cases e3
      simp only [Pk, Dn] at p2
      obtain ⟨a', ws, rfl, h1, h2⟩ := p2
      have := h2.strsOf e2
      subst this
      exact ⟨a, a', ys, rfl, rfl, .inr (sameT G2.sub h1), by assumption, k3 _ F2 H2 G (by simp [Dn])⟩
    · cases e3
  · cases e1
/-- s.split(sep): a new list -/
def splitO (a : Str) : D → Option (List D)
  | .str b => if (b.length == 0) = false ∧ a.length + 2 ≤ sizeLine then some ((Txt.split a b).map .str) else none
  | _ => none
theorem fd_split {o e : Expr} {apos pos : Pos} {fo fe : Env → R D} (ho : PD X ca W o fo) (he : PD X ca W e fe) (hs : starEach [e] X.env = [(false, eval e X.env)] := by rfl) (hbase : attributeBase o "split" X.env (eval o X.env) = eval o X.env := by rfl) (hline : (apos.endLine == pos.line) = true := by rfl) :
    FD X ca W (.Call (.Attribute o "split" apos) [e] [] pos) (fun r => fo r >>= fun d => lift (strO d) >>= fun a => fe r >>= fun e => lift (splitO a e)) := by
  obtain ⟨ta, pa, qa⟩ := ho
  obtain ⟨tb, pb, qb⟩ := he
  refine ⟨_, pe_split pa pb hs hbase hline, fun F0 H0 r σ F H Q S w => ?_⟩
  refine qa _ _ _ _ _ _ _ S (w.bind.mono (fun d k x F1 H1 G1 p1 => ?_) fun c k => k)
  obtain ⟨a, e0, k⟩ := k.bind.lift
  have ex := strO_pk p1 e0
  subst ex
  refine ⟨⟨a, rfl⟩, ?_⟩
  refine qb _ _ _ _ _ _ _ (S.grow G1) (k.bind.mono (fun e k2 y F2 H2 G2 p2 => ?_) fun c k F2 H2 G2 => k F2 H2 (G1.trans G2))
  obtain ⟨z, e1, k3⟩ := k2.lift
  have G := G1.trans G2
  unfold splitO at e1
  split at e1
  · split at e1
    · rename_i hc
      cases e1
      simp only [Pk, Dn] at p2
      subst p2
      exact ⟨a, _, rfl, rfl, hc.1, hc.2, fun p hp => k3 p _ F2 _ (G.trans (Grow.lay G.sub hp)) (G.hh.free hp) (G.sub.free hp) upd_same (Dn.strs _)⟩
    · cases e1
  · cases e1
end
end DL

set_option Elab.async false
set_option linter.all false
set_option maxRecDepth 100000
set_option maxHeartbeats 2000000
/-! DL5: calls of defs, statements, loops, comprehensions -/
namespace DL
open PySem PySem.Spec PyProof.Rows L2

/-! ### a def's promise -/
def fun1 (f : D → R D) : List D → R D
  | [a] => f a
  | _ => .no
def fun2 (f : D → D → R D) : List D → R D
  | [a, b] => f a b
  | _ => .no
def fun3 (f : D → D → D → R D) : List D → R D
  | [a, b, c] => f a b c
  | _ => .no
def fun4 (f : D → D → D → D → R D) : List D → R D
  | [a, b, c, d] => f a b c d
  | _ => .no
def fun5 (f : D → D → D → D → D → R D) : List D → R D
  | [a, b, c, d, e] => f a b c d e
  | _ => .no
@[simp] theorem fun1_ok (f : D → R D) (a : D) : fun1 f [a] = f a := rfl
@[simp] theorem fun2_ok (f : D → D → R D) (a b : D) : fun2 f [a, b] = f a b := rfl
@[simp] theorem fun3_ok (f : D → D → D → R D) (a b c : D) : fun3 f [a, b, c] = f a b c := rfl
@[simp] theorem fun4_ok (f : D → D → D → D → R D) (a b c d : D) : fun4 f [a, b, c, d] = f a b c d := rfl
@[simp] theorem fun5_ok (f : D → D → D → D → D → R D) (a b c d e : D) : fun5 f [a, b, c, d, e] = f a b c d e := rfl
/-- so many arguments, else stuck -/
def Ar (n : Nat) (f : List D → R D) : Prop := ∀ ds, ds.length ≠ n → f ds = .no
theorem ar1 (f : D → R D) : Ar 1 (fun1 f) := fun ds h => by
  match ds with
  | [] => rfl
  | [_] => exact absurd rfl h
  | _ :: _ :: _ => rfl
theorem ar2 (f : D → D → R D) : Ar 2 (fun2 f) := fun ds h => by
  match ds with
  | [] => rfl
  | [_] => rfl
  | [_, _] => exact absurd rfl h
  | _ :: _ :: _ :: _ => rfl
theorem ar3 (f : D → D → D → R D) : Ar 3 (fun3 f) := fun ds h => by
  match ds with
  | [] => rfl
  | [_] => rfl
  | [_, _] => rfl
  | [_, _, _] => exact absurd rfl h
  | _ :: _ :: _ :: _ :: _ => rfl
theorem ar4 (f : D → D → D → D → R D) : Ar 4 (fun4 f) := fun ds h => by
  match ds with
  | [] => rfl
  | [_] => rfl
  | [_, _] => rfl
  | [_, _, _] => rfl
  | [_, _, _, _] => exact absurd rfl h
  | _ :: _ :: _ :: _ :: _ :: _ => rfl
theorem ar5 (f : D → D → D → D → D → R D) : Ar 5 (fun5 f) := fun ds h => by
  match ds with
  | [] => rfl
  | [_] => rfl
  | [_, _] => rfl
  | [_, _, _] => rfl
  | [_, _, _, _] => rfl
  | [_, _, _, _, _] => exact absurd rfl h
  | _ :: _ :: _ :: _ :: _ :: _ :: _ => rfl
def SpD (K : PySem.W.Frag) (ca : Exn → Addr) (f : List D → R D) : Sp := fun vs H Q E => ∃ F ds, Same F H ∧ DnL K F vs ds ∧
  Wp (f ds) (fun d => ∀ v F' H', Grow F H F' H' → Dn K F' v d → Q v H') (fun c => ∀ F' H', Grow F H F' H' → E (.ref (ca c)) none H')
/-- the def stands, and does as f says -/
structure DefD (P : Program) (w : World) (K : PySem.W.Frag) (mg : Str → Option Value) (base : Heap) (ca : Exn → Addr) (name : Str) (k : Nat) (f : List D → R D) : Prop where
  ex : ∃ (fa : Addr) (fd : FuncData) (ps : List Str), FnOk P w K mg base (L2.CX P w) k fa fd ps (SpD K ca f) ∧ mg name = some (.ref fa) ∧ PySem.W.keepIn K (.ref fa) = true ∧ Binds K fd ps []
theorem DefD.mono {P : Program} {w : World} {K : PySem.W.Frag} {mg : Str → Option Value} {base : Heap} {ca : Exn → Addr} {name : Str} {j k : Nat} {f : List D → R D} (h : DefD P w K mg base ca name j f) (le : j ≤ k) : DefD P w K mg base ca name k f := by
  obtain ⟨fa, fd, ps, F, a, b, c⟩ := h.ex
  exact ⟨fa, fd, ps, F.mono le, a, b, c⟩
section
variable {X : Cx} {ca : Exn → Addr} {W : WX}
theorem ed_call {name : Str} {k : Nat} {f : List D → R D} {e : Expr} {es : List Expr} {p pos : Pos} {fs : Env → R (List D)}
    (h : DefD X.prog X.w X.K X.mg X.base ca name k f) (hr : Room k X.A) (tk : Takes X W) (ha : AD X ca W (e :: es) fs) (hg : Gl X name := by rfl) (hdb : (name == ("__debug__" : Str)) = false := by decide)
    (he : starEach (e :: es) X.env = (false, eval e X.env) :: starEach es X.env := by rfl) (hpl : (backTo pos (starEach es X.env)).any (·.1) = false := by rfl) :
    ED X ca W (.Call (.Name name p) (e :: es) [] pos) (fun r => fs r >>= f) := by
  obtain ⟨fa, fd, ps, F, gm, kp, hb⟩ := h.ex
  obtain ⟨t, pa, q⟩ := ha
  refine ⟨tCallS (SpD X.K ca f) (WE W) t, pe_callS F hr hg gm kp hb (fun σ => passAt tk σ) pa hdb he hpl, fun F0 H0 r σ F H Q S w => ?_⟩
  show t σ H fun vs H1 => SpD X.K ca f vs H1 Q (WE W σ)
  refine q _ _ _ _ _ _ _ S (w.bind.mono (fun ds k vs F1 H1 G1 p1 => ?_) fun c k => k)
  exact ⟨F1, ds, G1.sub, p1, Wp.mono (r := f ds) k (fun d k v F' H' G n => k v F' H' (G1.trans G) n) fun c k F' H' G => k F' H' (G1.trans G)⟩

/-! ### the slots change -/
theorem get_set {α : Type} {l : List α} {i j : Nat} {x y : α} (h : (l.set i x)[j]? = some y) : (j = i ∧ y = x ∧ i < l.length) ∨ (j ≠ i ∧ l[j]? = some y) := by
  by_cases hj : i = j
  · subst hj
    by_cases hl : i < l.length
    · rw [List.getElem?_set_self hl] at h; cases h; exact .inl ⟨rfl, rfl, hl⟩
    · rw [List.getElem?_eq_none (by simpa using hl)] at h; cases h
  · rw [List.getElem?_set_ne hj] at h
    exact .inr ⟨Ne.symm hj, h⟩
theorem Sim.base {K : PySem.W.Frag} {F0 H0 F H : Hp} {r : Env} {σ : L2.St} (S : Sim K F0 H0 r σ F H) : Grow F0 H0 F H := ⟨S.f0, S.h0, S.sub, S.new⟩
theorem Sim.setSh {K : PySem.W.Frag} {F0 H0 F H : Hp} {r : Env} {σ : L2.St} {v : V} {d : D} (S : Sim K F0 H0 r σ F H) (i : Nat) (n : Dn K F v d) : Sim K F0 H0 (r.set i (.sh d)) (σ.set i (some v)) F H where
  len := by rw [List.length_set, List.length_set]; exact S.len
  sub := S.sub
  f0 := S.f0
  h0 := S.h0
  new := S.new
  sh := fun j d' e => by
    rcases get_set e with ⟨rfl, e2, hl⟩ | ⟨hj, e2⟩
    · cases e2
      exact ⟨v, by rw [List.getElem?_set_self (by rw [← S.len]; exact hl)], n⟩
    · obtain ⟨w, h1, h2⟩ := S.sh j d' e2
      exact ⟨w, by rw [List.getElem?_set_ne (Ne.symm hj)]; exact h1, h2⟩
  ow := fun j ds e => by
    rcases get_set e with ⟨rfl, e2, hl⟩ | ⟨hj, e2⟩
    · cases e2
    · obtain ⟨a, vs, h1, h2⟩ := S.ow j ds e2
      exact ⟨a, vs, by rw [List.getElem?_set_ne (Ne.symm hj)]; exact h1, h2⟩
  sep := fun j k ds es a e1 e2 e3 e4 => by
    rcases get_set e1 with ⟨_, z, _⟩ | ⟨hj, e1⟩
    · cases z
    · rcases get_set e2 with ⟨_, z, _⟩ | ⟨hk, e2⟩
      · cases z
      · rw [List.getElem?_set_ne (Ne.symm hj)] at e3
        rw [List.getElem?_set_ne (Ne.symm hk)] at e4
        exact S.sep j k ds es a e1 e2 e3 e4
theorem Sim.setOw {K : PySem.W.Frag} {F0 H0 F H : Hp} {r : Env} {σ : L2.St} {p : Addr} {vs : List V} {ds : List D} (S : Sim K F0 H0 r σ F H) (i : Nat) (hp : H p = some (.lst vs)) (hF : F p = none) (h0 : H0 p = none) (n : DnL K F vs ds)
    (sep : ∀ (j : Nat) es, r[j]? = some (.ow es) → σ[j]? ≠ some (some (.ref p))) : Sim K F0 H0 (r.set i (.ow ds)) (σ.set i (some (.ref p))) F H where
  len := by rw [List.length_set, List.length_set]; exact S.len
  sub := S.sub
  f0 := S.f0
  h0 := S.h0
  new := S.new
  sh := fun j d' e => by
    rcases get_set e with ⟨rfl, e2, hl⟩ | ⟨hj, e2⟩
    · cases e2
    · obtain ⟨w, h1, h2⟩ := S.sh j d' e2
      exact ⟨w, by rw [List.getElem?_set_ne (Ne.symm hj)]; exact h1, h2⟩
  ow := fun j es e => by
    rcases get_set e with ⟨rfl, e2, hl⟩ | ⟨hj, e2⟩
    · cases e2
      exact ⟨p, vs, by rw [List.getElem?_set_self (by rw [← S.len]; exact hl)], hp, hF, h0, n⟩
    · obtain ⟨a, ws, h1, h2⟩ := S.ow j es e2
      exact ⟨a, ws, by rw [List.getElem?_set_ne (Ne.symm hj)]; exact h1, h2⟩
  sep := fun j k es es' a e1 e2 e3 e4 => by
    rcases get_set e1 with ⟨rfl, z, hl⟩ | ⟨hj, e1'⟩
    · rcases get_set e2 with ⟨rfl, _, _⟩ | ⟨hk, e2⟩
      · rfl
      · rw [List.getElem?_set_self (by rw [← S.len]; exact hl)] at e3
        rw [List.getElem?_set_ne (Ne.symm hk)] at e4
        cases e3
        exact absurd e4 (sep k es' e2)
    · rcases get_set e2 with ⟨rfl, z, hl⟩ | ⟨hk, e2⟩
      · rw [List.getElem?_set_self (by rw [← S.len]; exact hl)] at e4
        rw [List.getElem?_set_ne (Ne.symm hj)] at e3
        cases e4
        exact absurd e3 (sep j es e1')
      · rw [List.getElem?_set_ne (Ne.symm hj)] at e3
        rw [List.getElem?_set_ne (Ne.symm hk)] at e4
        exact S.sep j k es es' a e1' e2 e3 e4
/-- a list of one's own is changed -/
theorem Sim.mut {K : PySem.W.Frag} {F0 H0 F H : Hp} {r : Env} {σ : L2.St} {a : Addr} {vs : List V} {ds ds0 : List D} {i : Nat} (S : Sim K F0 H0 r σ F H) (hr : r[i]? = some (.ow ds0)) (hs : σ[i]? = some (some (.ref a))) (n : DnL K F vs ds) :
    Sim K F0 H0 (r.set i (.ow ds)) σ F (upd H a (.lst vs)) := by
  obtain ⟨a', vs0, h1, h2, h3, h4, h5⟩ := S.ow i ds0 hr
  rw [hs] at h1
  cases h1
  refine ⟨by rw [List.length_set]; exact S.len, fun b o e => ?_, S.f0, fun b o e => ?_, S.new, fun j d e => ?_, fun j es e => ?_, fun j k es es' c e1 e2 e3 e4 => ?_⟩
  · rw [upd_ne (ne_of_none e h3)]; exact S.sub b o e
  · rw [upd_ne (ne_of_none e h4)]; exact S.h0 b o e
  · rcases get_set e with ⟨_, z, _⟩ | ⟨hj, e2⟩
    · cases z
    · exact S.sh j d e2
  · rcases get_set e with ⟨rfl, z, hl⟩ | ⟨hj, e2⟩
    · cases z
      exact ⟨a, vs, hs, upd_same, h3, h4, n⟩
    · obtain ⟨b, ws, k1, k2, k3, k4, k5⟩ := S.ow j es e2
      have : b ≠ a := fun z => by
        subst z
        exact hj (S.sep j i es ds0 b e2 hr k1 hs)
      exact ⟨b, ws, k1, by rw [upd_ne this]; exact k2, k3, k4, k5⟩
  · have old : ∀ (m : Nat) fs, (r.set i (.ow ds))[m]? = some (.ow fs) → ∃ gs, r[m]? = some (.ow gs) := fun m fs e => by
      rcases get_set e with ⟨rfl, _, _⟩ | ⟨_, e2⟩
      · exact ⟨_, hr⟩
      · exact ⟨_, e2⟩
    obtain ⟨g1, q1⟩ := old j es e1
    obtain ⟨g2, q2⟩ := old k es' e2
    exact S.sep j k g1 g2 c q1 q2 e3 e4
def fz (i : Nat) (r : Env) : Env := match r[i]? with
  | some (.ow ds) => r.set i (.sh (.lst ds))
  | _ => r
theorem Sim.fz {K : PySem.W.Frag} {F0 H0 F H : Hp} {r : Env} {σ : L2.St} (i : Nat) (S : Sim K F0 H0 r σ F H) : ∃ F', Same F F' ∧ Sim K F0 H0 (DL.fz i r) σ F' H := by
  unfold DL.fz
  split
  · rename_i ds hr
    obtain ⟨a, vs, h1, h2, h3, h4, h5⟩ := S.ow i ds hr
    have sF : Same F (upd F a (.lst vs)) := same_updN h3
    refine ⟨upd F a (.lst vs), sF, by rw [List.length_set]; exact S.len, fun b o e => ?_, S.f0.trans sF, S.h0, fun b o e1 e2 => ?_, fun j d e => ?_, fun j es e => ?_, fun j k es es' c e1 e2 e3 e4 => ?_⟩
    · by_cases hb : b = a
      · subst hb; rw [upd_same] at e; rw [h2]; exact e
      · rw [upd_ne hb] at e; exact S.sub b o e
    · rw [upd_ne (ne_of_none e2 h4)]; exact S.new b o e1 e2
    · rcases get_set e with ⟨rfl, z, hl⟩ | ⟨hj, e2⟩
      · cases z
        refine ⟨.ref a, h1, ?_⟩
        simp only [Dn]
        exact ⟨a, vs, rfl, upd_same, h5.same sF ds vs⟩
      · obtain ⟨v, k1, k2⟩ := S.sh j d e2
        exact ⟨v, k1, k2.same sF d v⟩
    · rcases get_set e with ⟨_, z, _⟩ | ⟨hj, e2⟩
      · cases z
      · obtain ⟨b, ws, k1, k2, k3, k4, k5⟩ := S.ow j es e2
        have : b ≠ a := fun z => by
          subst z
          exact hj (S.sep j i es ds b e2 hr k1 h1)
        exact ⟨b, ws, k1, k2, by rw [upd_ne this]; exact k3, k4, k5.same sF es ws⟩
    · rcases get_set e1 with ⟨_, z, _⟩ | ⟨_, e1⟩
      · cases z
      · rcases get_set e2 with ⟨_, z, _⟩ | ⟨_, e2⟩
        · cases z
        · exact S.sep j k es es' c e1 e2 e3 e4
  · exact ⟨F, Same.refl _, S⟩

/-! ### statements -/
inductive Out where
  | nx (r : Env) | rt (d : D)
def OutK (K : PySem.W.Frag) (F0 H0 F : Hp) (E : Ends) : Out → Prop
  | .nx r' => ∀ σ' F' H', Sim K F0 H0 r' σ' F' H' → Same F F' → E.nx σ' H'
  | .rt d => ∀ v F' H', Grow F0 H0 F' H' → Dn K F' v d → E.rt v H'
def ExK (ca : Exn → Addr) (W : WX) (F0 H0 : Hp) (c : Exn) : Prop := ∀ σ' F' H', Grow F0 H0 F' H' → W (.ref (ca c)) none σ' H'
def SD (X : Cx) (ca : Exn → Addr) (W : WX) (st : Stmt) (f : Env → R Out) : Prop := ∃ t : TS, PS X st t ∧ ∀ F0 H0 r σ F H (E : Ends), Sim X.K F0 H0 r σ F H → Wp (f r) (OutK X.K F0 H0 F E) (ExK ca W F0 H0) → t E σ H
def SDs (X : Cx) (ca : Exn → Addr) (W : WX) (st : List Stmt) (f : Env → R Out) : Prop := ∃ t : TS, PSs X st t ∧ ∀ F0 H0 r σ F H (E : Ends), Sim X.K F0 H0 r σ F H → Wp (f r) (OutK X.K F0 H0 F E) (ExK ca W F0 H0) → t E σ H
def seqO (a : R Out) (b : Env → R Out) : R Out := a >>= fun o => match o with
  | .nx r => b r
  | .rt d => .ok (.rt d)
@[simp] theorem seqO_nx (r : Env) (b : Env → R Out) : seqO (.ok (.nx r)) b = b r := rfl
@[simp] theorem seqO_rt (d : D) (b : Env → R Out) : seqO (.ok (.rt d)) b = .ok (.rt d) := rfl
@[simp] theorem seqO_ex (c : Exn) (b : Env → R Out) : seqO (.ex c) b = .ex c := rfl
@[simp] theorem seqO_no (b : Env → R Out) : seqO .no b = .no := rfl
theorem sds_nil : SDs X ca W [] (fun r => .ok (.nx r)) := ⟨tNext, pss_nil, fun F0 H0 r σ F H E S w => w σ F H S (Same.refl _)⟩
theorem sds_one {st : Stmt} {f : Env → R Out} (h : SD X ca W st f) : SDs X ca W [st] f := by
  obtain ⟨t, p, q⟩ := h
  exact ⟨t, pss_one p, q⟩
theorem sds_cons {st : Stmt} {rest : List Stmt} {f g : Env → R Out} (h : SD X ca W st f) (h' : SDs X ca W rest g) : SDs X ca W (st :: rest) (fun r => seqO (f r) g) := by
  obtain ⟨t, p, q⟩ := h
  obtain ⟨t', p', q'⟩ := h'
  refine ⟨tSeq t t', pss_cons p p', fun F0 H0 r σ F H E S w => ?_⟩
  refine q F0 H0 r σ F H _ S (Wp.bind (r := f r) w |>.mono (fun o k => ?_) fun _ k => k)
  cases o with
  | nx r1 =>
    intro σ1 F1 H1 S1 s1
    refine q' F0 H0 r1 σ1 F1 H1 E S1 (Wp.mono (r := g r1) k (fun o k => ?_) fun _ k => k)
    cases o with
    | nx r2 => exact fun σ2 F2 H2 S2 s2 => k σ2 F2 H2 S2 (s1.trans s2)
    | rt d => exact k
  | rt d => exact k
theorem OutK.same {K : PySem.W.Frag} {F0 H0 F F' : Hp} {E : Ends} {o : Out} (s : Same F F') (h : OutK K F0 H0 F E o) : OutK K F0 H0 F' E o := by
  cases o with
  | nx r => exact fun σ2 F2 H2 S2 s2 => h σ2 F2 H2 S2 (s.trans s2)
  | rt d => exact h
/-- a slot's list is frozen ahead of a statement -/
theorem sd_fz (i : Nat) {st : Stmt} {f : Env → R Out} (h : SD X ca W st f) : SD X ca W st (fun r => f (fz i r)) := by
  obtain ⟨t, p, q⟩ := h
  refine ⟨t, p, fun F0 H0 r σ F H E S w => ?_⟩
  obtain ⟨F', s, S'⟩ := S.fz i
  exact q F0 H0 _ σ F' H E S' (w.mono (fun o k => k.same s) fun _ k => k)
theorem sd_expr {e : Expr} {pos : Pos} {f : Env → R D} (h : ED X ca W e f) (hs : swapsWith e none pos.line X.env = pure false := by rfl) : SD X ca W (.Expr e pos) (fun r => f r >>= fun _ => .ok (.nx r)) := by
  obtain ⟨t, p, q⟩ := h
  refine ⟨tDrop t, ps_expr p hs, fun F0 H0 r σ F H E S w => ?_⟩
  exact q _ _ _ _ _ _ _ S (w.bind.mono (fun d k v F1 H1 G1 n => k σ F1 H1 (S.grow G1) G1.ff) fun c k F' H' G => k σ F' H' (S.grow G).base)
theorem sd_ret {e : Expr} {pos : Pos} {f : Env → R D} (h : ED X ca W e f) : SD X ca W (.Return (some e) pos) (fun r => f r >>= fun d => .ok (.rt d)) := by
  obtain ⟨t, p, q⟩ := h
  refine ⟨tRet t, ps_ret p, fun F0 H0 r σ F H E S w => ?_⟩
  exact q _ _ _ _ _ _ _ S (w.bind.mono (fun d k v F1 H1 G1 n => k v F1 H1 (S.grow G1).base n) fun c k F' H' G => k σ F' H' (S.grow G).base)
theorem sd_if {c : Expr} {a b : List Stmt} {pos : Pos} {f : Env → R Bool} {g h : Env → R Out} (hc : TD X ca W c f) (ha : SDs X ca W a g) (hb : SDs X ca W b h) : SD X ca W (.If c a b pos) (fun r => f r >>= fun k => if k = true then g r else h r) := by
  obtain ⟨t, p, q⟩ := hc
  obtain ⟨t1, p1, q1⟩ := ha
  obtain ⟨t2, p2, q2⟩ := hb
  refine ⟨tIfS t t1 t2, ps_if p p1 p2, fun F0 H0 r σ F H E S w => ?_⟩
  refine q _ _ _ _ _ _ _ S (w.bind.mono (fun k w F1 H1 G1 => ?_) fun c k F' H' G => k σ F' H' (S.grow G).base)
  cases k with
  | true =>
    rw [if_pos rfl]
    exact q1 F0 H0 r σ F1 H1 E (S.grow G1) (Wp.mono (r := g r) w (fun o k => k.same G1.ff) fun _ k => k)
  | false =>
    rw [if_neg Bool.false_ne_true]
    exact q2 F0 H0 r σ F1 H1 E (S.grow G1) (Wp.mono (r := h r) w (fun o k => k.same G1.ff) fun _ k => k)
theorem sd_set (i : Nat) {x : Str} {e : Expr} {pos pos' : Pos} {f : Env → R D} (hN : X.N.Nodup) (h : ED X ca W e f) (hi : X.N[i]? = some x := by rfl) (hx : Loc X.env.scope x := by first | exact Or.inl rfl | exact Or.inr rfl) (hs : swapsWith e (some (.Name x pos')) pos.line X.env = pure false := by rfl) (hf : X.fn x = true ∨ X.env.scope.names.lookup x = some .local := by first | exact .inl rfl | exact .inr rfl) :
    SD X ca W (.Assign [.Name x pos'] e pos) (fun r => f r >>= fun d => .ok (.nx (r.set i (.sh d)))) := by
  obtain ⟨t, p, q⟩ := h
  refine ⟨tAsg t (gName i), ps_set hN hi hx p hs hf, fun F0 H0 r σ F H E S w => ?_⟩
  exact q _ _ _ _ _ _ _ S (w.bind.mono (fun d k v F1 H1 G1 n => k _ F1 H1 ((S.grow G1).setSh i n) G1.ff) fun c k F' H' G => k σ F' H' (S.grow G).base)
theorem own_sep {K : PySem.W.Frag} {F0 H0 F H : Hp} {r : Env} {σ : L2.St} {p : Addr} (S : Sim K F0 H0 r σ F H) (h : H p = none) : ∀ (j : Nat) es, r[j]? = some (.ow es) → σ[j]? ≠ some (some (.ref p)) := fun j es e z => by
  obtain ⟨a, vs, h1, h2, _⟩ := S.ow j es e
  rw [z] at h1
  cases h1
  rw [h] at h2
  cases h2
theorem sd_own (i : Nat) {x : Str} {e : Expr} {pos pos' : Pos} {f : Env → R (List D)} (hN : X.N.Nodup) (h : FD X ca W e f) (hi : X.N[i]? = some x := by rfl) (hx : Loc X.env.scope x := by first | exact Or.inl rfl | exact Or.inr rfl) (hs : swapsWith e (some (.Name x pos')) pos.line X.env = pure false := by rfl) (hf : X.fn x = true ∨ X.env.scope.names.lookup x = some .local := by first | exact .inl rfl | exact .inr rfl) :
    SD X ca W (.Assign [.Name x pos'] e pos) (fun r => f r >>= fun ds => .ok (.nx (r.set i (.ow ds)))) := by
  obtain ⟨t, p, q⟩ := h
  refine ⟨tAsg t (gName i), ps_set hN hi hx p hs hf, fun F0 H0 r σ F H E S w => ?_⟩
  exact q _ _ _ _ _ _ _ S (w.bind.mono (fun d k p vs F1 H1 G1 n1 n2 n3 n4 => k _ F1 H1 ((S.grow G1).setOw i n3 n2 (S.h0.free n1) n4 (own_sep S n1)) G1.ff) fun c k F' H' G => k σ F' H' (S.grow G).base)
def owO (r : Env) (i : Nat) : Option (List D) := match r[i]? with
  | some (.ow ds) => some ds
  | _ => none
theorem owO_some {r : Env} {i : Nat} {ds : List D} (h : owO r i = some ds) : r[i]? = some (.ow ds) := by
  unfold owO at h
  split at h
  · cases h; assumption
  · cases h
/-- xs.append(e) -/
theorem sd_append (i : Nat) {x : Str} {e : Expr} {p2 apos cpos pos : Pos} {f : Env → R D} (h : ED X ca W e f) (hN : X.N[i]? = some x := by rfl) (hv : Vis X.env.scope x := by first | exact Or.inl rfl | exact Or.inr (Or.inl rfl) | exact Or.inr (Or.inr rfl)) (hd : (x == ("__debug__" : Str)) = false := by decide)
    (hcd : (x == ("__classdict__" : Str)) = false := by decide) (hbase : attributeBase (.Name x p2) "append" X.env (eval (.Name x p2) X.env) = eval (.Name x p2) X.env := by rfl)
    (hfew : ((backTo cpos (starEach [e] X.env)).all (fun x => !x.1) && (backToKw cpos (keywordEach [] X.env)).all (fun x => x.1.isSome)
      && decide (([e] : List Expr).length + ([] : List Keyword).length + (if ([] : List Keyword).isEmpty then 0 else 1) < 30)) = true := by rfl)
    (hline : (apos.endLine == cpos.line) = true := by rfl) (hs : starEach [e] X.env = (false, eval e X.env) :: starEach [] X.env := by rfl) (hplain : (backTo cpos (starEach [] X.env)).any (·.1) = false := by rfl)
    (hsw : swapsWith (.Call (.Attribute (.Name x p2) "append" apos) [e] [] cpos) none pos.line X.env = pure false := by rfl) :
    SD X ca W (.Expr (.Call (.Attribute (.Name x p2) "append" apos) [e] [] cpos) pos) (fun r => lift (owO r i) >>= fun ds => f r >>= fun d => if ds.length < sizeLine then .ok (.nx (r.set i (.ow (ds ++ [d])))) else .no) := by
  obtain ⟨t, p, q⟩ := h
  refine ⟨_, ps_expr (pe_bm PySem.F.plainAttrs_list PySem.F.slot_list_append PySem.F.type_list_append mt_append (pe_var hN hv hd hcd) (pa_cons p pa_nil hs) hbase hfew hline hs hplain) hsw, fun F0 H0 r σ F H E S w => ?_⟩
  obtain ⟨ds, e1, w⟩ := w.bind.lift
  have hr := owO_some e1
  obtain ⟨a, vs, h1, h2, h3, h4, h5⟩ := S.ow i ds hr
  refine ⟨.ref a, h1, .inl ⟨rfl, vs, .of h2⟩, ?_⟩
  refine q _ _ _ _ _ _ _ S (w.bind.mono (fun d k v F1 H1 G1 n => ?_) fun c k F' H' G => k σ F' H' (S.grow G).base)
  split at k
  · have h5' := h5.same G1.ff
    exact ⟨a, vs, v, rfl, rfl, G1.hh _ _ h2, by rw [h5.length]; assumption, k σ F1 _ ((S.grow G1).mut hr h1 (h5'.append (.one n))) G1.ff⟩
  · exact False.elim k
/-- xs[k] = e -/
theorem sd_put (i : Nat) {x : Str} {k e : Expr} {p2 pos pos' : Pos} {f g : Env → R D} (h : ED X ca W e f) (hk : ED X ca W k g) (hN : X.N[i]? = some x := by rfl) (hv : Vis X.env.scope x := by first | exact Or.inl rfl | exact Or.inr (Or.inl rfl) | exact Or.inr (Or.inr rfl)) (hd : (x == ("__debug__" : Str)) = false := by decide)
    (hcd : (x == ("__classdict__" : Str)) = false := by decide) (hs : swapsWithSole [.Subscript (.Name x p2) k pos'] e pos.line X.env = pure false := by rfl) (hw : swappedStores [.Subscript (.Name x p2) k pos'] e X.env = pure none := by rfl)
    (h1 : (assignEach [.Subscript (.Name x p2) k pos'] X.env).map (·.2) = [assign (.Subscript (.Name x p2) k pos') X.env] := by rfl)
    (ha : ∀ v, assign (.Subscript (.Name x p2) k pos') X.env v = (do
      let ov ← holding [v] (eval (.Name x p2) X.env)
      let iv ← holding [v, ov] (eval k X.env)
      standAt pos'
      holding [v, ov, iv] (setItem ov iv v)
      release [v, ov, iv] []) := by intro _; rfl) :
    SD X ca W (.Assign [.Subscript (.Name x p2) k pos'] e pos) (fun r => f r >>= fun d => lift (owO r i) >>= fun ds => g r >>= fun kk => lift ((isI kk).bind (ixN ds.length)) >>= fun j => .ok (.nx (r.set i (.ow (ds.set j d))))) := by
  obtain ⟨t, p, q⟩ := h
  obtain ⟨t', p', q'⟩ := hk
  refine ⟨_, ps_asg p (pg_sub (pe_var hN hv hd hcd) p' set_list ha) hs hw h1, fun F0 H0 r σ F H E S w => ?_⟩
  refine q _ _ _ _ _ _ _ S (w.bind.mono (fun d w v F1 H1 G1 n => ?_) fun c k F' H' G => k σ F' H' (S.grow G).base)
  obtain ⟨ds, e1, w⟩ := w.bind.lift
  have hr := owO_some e1
  obtain ⟨a, vs, h1, h2, h3, h4, h5⟩ := (S.grow G1).ow i ds hr
  refine ⟨.ref a, h1, ?_⟩
  refine q' _ _ _ _ _ _ _ (S.grow G1) (w.bind.mono (fun kk w u F2 H2 G2 n2 => ?_) fun c k F' H' G => k σ F' H' (S.grow (G1.trans G)).base)
  obtain ⟨j, e2, wj⟩ := w.bind.lift
  have e2' : ∃ z, kk = .int z ∧ ixN ds.length z = some j := by
    cases kk <;> simp [isI] at e2
    exact ⟨_, rfl, e2⟩
  obtain ⟨z, rfl, e3⟩ := e2'
  simp only [Dn] at n2
  subst n2
  have S2 := (S.grow G1).grow G2
  exact ⟨a, vs, z, j, rfl, rfl, G2.hh _ _ h2, by rw [h5.length]; exact e3, wj σ F2 _ (S2.mut hr h1 ((h5.same G2.ff ds vs).set (n.same G2.ff d v) j)) (G1.ff.trans G2.ff)⟩
end
end DL

set_option Elab.async false
set_option linter.all false
set_option maxRecDepth 100000
set_option maxHeartbeats 2000000
/-! DL6: insert, raise, loops, comprehensions, a def by its body -/
namespace DL
open PySem PySem.Spec PyProof.Rows L2
section
variable {X : Cx} {ca : Exn → Addr} {W : WX}
/-- xs.insert(k, e) -/
theorem sd_insert (i : Nat) {x : Str} {k e : Expr} {p2 apos cpos pos : Pos} {f g : Env → R D} (hk : ED X ca W k g) (h : ED X ca W e f) (hN : X.N[i]? = some x := by rfl) (hv : Vis X.env.scope x := by first | exact Or.inl rfl | exact Or.inr (Or.inl rfl) | exact Or.inr (Or.inr rfl)) (hd : (x == ("__debug__" : Str)) = false := by decide)
    (hcd : (x == ("__classdict__" : Str)) = false := by decide) (hbase : attributeBase (.Name x p2) "insert" X.env (eval (.Name x p2) X.env) = eval (.Name x p2) X.env := by rfl)
    (hfew : ((backTo cpos (starEach [k, e] X.env)).all (fun x => !x.1) && (backToKw cpos (keywordEach [] X.env)).all (fun x => x.1.isSome)
      && decide (([k, e] : List Expr).length + ([] : List Keyword).length + (if ([] : List Keyword).isEmpty then 0 else 1) < 30)) = true := by rfl)
    (hline : (apos.endLine == cpos.line) = true := by rfl) (hs : starEach [k, e] X.env = (false, eval k X.env) :: starEach [e] X.env := by rfl) (hs2 : starEach [e] X.env = (false, eval e X.env) :: starEach [] X.env := by rfl) (hplain : (backTo cpos (starEach [e] X.env)).any (·.1) = false := by rfl)
    (hsw : swapsWith (.Call (.Attribute (.Name x p2) "insert" apos) [k, e] [] cpos) none pos.line X.env = pure false := by rfl) :
    SD X ca W (.Expr (.Call (.Attribute (.Name x p2) "insert" apos) [k, e] [] cpos) pos) (fun r => lift (owO r i) >>= fun ds => g r >>= fun kk => f r >>= fun d => lift (isI kk) >>= fun j => if ds.length < sizeLine ∧ 0 ≤ j ∧ j < 2 ^ 63 then .ok (.nx (r.set i (.ow (ds.take j.toNat ++ [d] ++ ds.drop j.toNat)))) else .no) := by
  obtain ⟨t, p, q⟩ := h
  obtain ⟨t', p', q'⟩ := hk
  refine ⟨_, ps_expr (pe_bm PySem.F.plainAttrs_list PySem.F.slot_list_insert PySem.F.type_list_insert mt_insert (pe_var hN hv hd hcd) (pa_cons p' (pa_cons p pa_nil hs2) hs) hbase hfew hline hs hplain) hsw, fun F0 H0 r σ F H E S w => ?_⟩
  obtain ⟨ds, e1, w⟩ := w.bind.lift
  have hr := owO_some e1
  obtain ⟨a, vs, h1, h2, h3, h4, h5⟩ := S.ow i ds hr
  refine ⟨.ref a, h1, .inl ⟨rfl, vs, .of h2⟩, ?_⟩
  refine q' _ _ _ _ _ _ _ S (w.bind.mono (fun kk w u F1 H1 G1 n1 => ?_) fun c k F' H' G => k σ F' H' (S.grow G).base)
  refine q _ _ _ _ _ _ _ (S.grow G1) (w.bind.mono (fun d w v F2 H2 G2 n2 => ?_) fun c k F' H' G => k σ F' H' (S.grow (G1.trans G)).base)
  obtain ⟨j, e2, wj⟩ := w.bind.lift
  have e2' : kk = .int j := by
    cases kk <;> simp [isI] at e2
    subst e2; rfl
  subst e2'
  simp only [Dn] at n1
  subst n1
  split at wj
  · rename_i hc
    have G := G1.trans G2
    have h5' := h5.same G.ff
    exact ⟨a, vs, j, v, rfl, rfl, G.hh _ _ h2, by rw [h5.length]; exact hc.1, hc.2.1, hc.2.2, wj σ F2 _ ((S.grow G).mut hr h1 (((h5'.take _).append (.one n2)).append (h5'.drop _))) G.ff⟩
  · exact False.elim wj

/-! ### raise X("..") -/
structure ExcF (X : Cx) (ca : Exn → Addr) (x : Str) (c : Exn) : Prop where
  q : PySem.W.excIn X.K (ca c) [.type "ValueError", .type "Exception", .type "BaseException", .type "object"] "ValueError.__new__" = true
  g : X.mg x = some (.ref (ca c))
  k : PySem.W.keepIn X.K (.ref (ca c)) = true
  b : PySem.W.subIn X.K (.ref (ca c)) (.type "BaseException") = some true
  t : PySem.W.typeIn X.K (.ref (ca c)) = some (.type "type")
theorem sd_raise {x m : Str} {j : Nat} {p p2 p3 pos : Pos} {c : Exn} (hc : X.calm = true) (tk : Takes X W) (e : ExcF X ca x c) (hg : Gl X x := by rfl) (hdb : (x == ("__debug__" : Str)) = false := by decide) :
    SD X ca W (.Raise (some (.Call (.Name x p) [.Constant (.str m) j p2] [] p3)) none pos) (fun _ => .ex c) := by
  refine ⟨_, ps_raise hc tk (pmk_own PySem.F.excBase_ValueError e.q e.g e.k (raises_own e.b e.t) hg hdb), fun F0 H0 r σ F H E S w => ?_⟩
  exact w σ F H S.base

/-! ### targets -/
theorem wipe_get (σ : L2.St) (j : Nat) : ∀ vs : List Nat, (wipe σ vs)[j]? = if j ∈ vs ∧ j < σ.length then some none else σ[j]?
  | [] => by simp [wipe]
  | v :: vs => by
    show ((wipe σ vs).set v none)[j]? = _
    by_cases hj : v = j
    · subst hj
      by_cases hl : v < σ.length
      · rw [List.getElem?_set_self (by rw [wipe_length]; exact hl), if_pos ⟨by simp, hl⟩]
      · rw [List.getElem?_eq_none (by simp [wipe_length]; omega), if_neg (by simp [hl]), List.getElem?_eq_none (by omega)]
    · rw [List.getElem?_set_ne hj, wipe_get σ j vs]
      have : (j ∈ v :: vs) ↔ j ∈ vs := by simp [Ne.symm hj]
      simp only [this]
theorem wipe_set {σ : L2.St} {i : Nat} {o : Option V} {vs : List Nat} (h : i ∈ vs) : wipe (σ.set i o) vs = wipe σ vs := by
  apply List.ext_getElem?
  intro j
  rw [wipe_get, wipe_get, List.length_set]
  by_cases hj : j = i
  · subst hj
    by_cases hl : j < σ.length
    · rw [if_pos ⟨h, hl⟩, if_pos ⟨h, hl⟩]
    · rw [if_neg (fun z => hl z.2), if_neg (fun z => hl z.2), List.getElem?_eq_none (by simp; omega), List.getElem?_eq_none (by omega)]
  · rw [List.getElem?_set_ne (Ne.symm hj)]
def wipeE (r : Env) : List Nat → Env
  | [] => r
  | v :: vs => (wipeE r vs).set v .un
theorem wipeE_length (r : Env) : ∀ vs : List Nat, (wipeE r vs).length = r.length
  | [] => rfl
  | v :: vs => by unfold wipeE; rw [List.length_set, wipeE_length r vs]
theorem Sim.unset {K : PySem.W.Frag} {F0 H0 F H : Hp} {r : Env} {σ : L2.St} (S : Sim K F0 H0 r σ F H) (i : Nat) (o : Option V) : Sim K F0 H0 (r.set i .un) (σ.set i o) F H where
  len := by rw [List.length_set, List.length_set]; exact S.len
  sub := S.sub
  f0 := S.f0
  h0 := S.h0
  new := S.new
  sh := fun j d' e => by
    rcases get_set e with ⟨rfl, e2, hl⟩ | ⟨hj, e2⟩
    · cases e2
    · obtain ⟨w, h1, h2⟩ := S.sh j d' e2
      exact ⟨w, by rw [List.getElem?_set_ne (Ne.symm hj)]; exact h1, h2⟩
  ow := fun j ds e => by
    rcases get_set e with ⟨rfl, e2, hl⟩ | ⟨hj, e2⟩
    · cases e2
    · obtain ⟨a, vs, h1, h2⟩ := S.ow j ds e2
      exact ⟨a, vs, by rw [List.getElem?_set_ne (Ne.symm hj)]; exact h1, h2⟩
  sep := fun j k ds es a e1 e2 e3 e4 => by
    rcases get_set e1 with ⟨_, z, _⟩ | ⟨hj, e1⟩
    · cases z
    · rcases get_set e2 with ⟨_, z, _⟩ | ⟨hk, e2⟩
      · cases z
      · rw [List.getElem?_set_ne (Ne.symm hj)] at e3
        rw [List.getElem?_set_ne (Ne.symm hk)] at e4
        exact S.sep j k ds es a e1 e2 e3 e4
theorem Sim.wipe {K : PySem.W.Frag} {F0 H0 F H : Hp} {r : Env} {σ : L2.St} (S : Sim K F0 H0 r σ F H) : ∀ vs : List Nat, Sim K F0 H0 (wipeE r vs) (L2.wipe σ vs) F H
  | [] => S
  | v :: vs => (Sim.wipe S vs).unset v none
def GD (X : Cx) (tg : Expr) (sl : List Nat) (f : D → Env → Option Env) : Prop := ∃ g : TG, PG X tg g ∧ ∀ F0 H0 r r' σ F H v d (Q : L2.St → Hp → Prop), Sim X.K F0 H0 r σ F H → Dn X.K F v d → f d r = some r' →
  (∀ σ', Sim X.K F0 H0 r' σ' F H → (∀ vs : List Nat, (∀ i ∈ sl, i ∈ vs) → wipe σ' vs = wipe σ vs) → Q σ' H) → g v σ H Q
def tgt1 (i : Nat) : D → Env → Option Env := fun d r => some (r.set i (.sh d))
theorem gd_name (i : Nat) {x : Str} {pos : Pos} (hN : X.N.Nodup) (hi : X.N[i]? = some x := by rfl) (hx : Loc X.env.scope x := by first | exact Or.inl rfl | exact Or.inr rfl) (hf : X.fn x = true ∨ X.env.scope.names.lookup x = some .local := by first | exact .inl rfl | exact .inr rfl) : GD X (.Name x pos) [i] (tgt1 i) := by
  refine ⟨gName i, pg_name hN hi hx hf, fun F0 H0 r r' σ F H v d Q S n e w => ?_⟩
  cases e
  exact w _ (S.setSh i n) fun vs h => wipe_set (h i (by simp))
/-- several names, from the left -/
def GDs (X : Cx) (ts : List Expr) (sl : List Nat) (f : List D → Env → Option Env) : Prop := ∃ g : TGs, PGs X ts g ∧ ∀ F0 H0 r r' σ F H vs ds (Q : L2.St → Hp → Prop), Sim X.K F0 H0 r σ F H → DnL X.K F vs ds → f ds r = some r' →
  (∀ σ', Sim X.K F0 H0 r' σ' F H → (∀ vs : List Nat, (∀ i ∈ sl, i ∈ vs) → wipe σ' vs = wipe σ vs) → Q σ' H) → g vs σ H Q
def tgtN : List Nat → List D → Env → Option Env
  | [], [], r => some r
  | i :: is, d :: ds, r => tgtN is ds (r.set i (.sh d))
  | _, _, _ => none
theorem gds_nil : GDs X [] [] (tgtN []) := by
  refine ⟨gNil, pgs_nil, fun F0 H0 r r' σ F H vs ds Q S n e w => ?_⟩
  cases ds with
  | cons d ds => simp [tgtN] at e
  | nil =>
    cases vs with
    | cons v vs => simp [DnL] at n
    | nil =>
      cases e
      exact ⟨rfl, w σ S fun _ _ => rfl⟩
theorem gds_cons {e : Expr} {es : List Expr} {i : Nat} {is : List Nat} (h : GD X e [i] (tgt1 i)) (h' : GDs X es is (tgtN is)) (hs : (assignEach (e :: es) X.env).map (·.2) = assign e X.env :: (assignEach es X.env).map (·.2) := by rfl) : GDs X (e :: es) (i :: is) (tgtN (i :: is)) := by
  obtain ⟨g, p, q⟩ := h
  obtain ⟨g', p', q'⟩ := h'
  refine ⟨gCons g g', pgs_cons p p' hs, fun F0 H0 r r' σ F H vs ds Q S n e w => ?_⟩
  cases ds with
  | nil => simp [tgtN] at e
  | cons d ds =>
    cases vs with
    | nil => simp [DnL] at n
    | cons v vs =>
      simp only [DnL] at n
      refine ⟨v, vs, rfl, q F0 H0 r _ σ F H v d _ S n.1 rfl fun σ1 S1 k1 => ?_⟩
      refine q' F0 H0 _ r' σ1 F H vs ds Q S1 n.2 e fun σ' S' k2 => w σ' S' fun vs hv => ?_
      rw [k2 vs fun j hj => hv j (List.mem_cons_of_mem _ hj), k1 vs fun j hj => by
        have e : j = i := by simpa using hj
        subst e
        exact hv j (by simp)]
def tgtT (is : List Nat) : D → Env → Option Env := fun d r => match d with
  | .tup ds => if ds.length = is.length then tgtN is ds r else none
  | _ => none
theorem gd_tup {es : List Expr} {k : Nat} {pos : Pos} {is : List Nat} (hc : X.calm = true) (h : GDs X es is (tgtN is)) (hn : (assignEach es X.env).length = is.length := by rfl) (hst : (assignEach es X.env).findIdx? (·.1) = none := by rfl) : GD X (.Tuple es k pos) is (tgtT is) := by
  obtain ⟨g, p, q⟩ := h
  refine ⟨_, pg_tup hc p hn hst, fun F0 H0 r r' σ F H v d Q S n e w => ?_⟩
  unfold tgtT at e
  split at e
  · split at e
    · simp only [Dn] at n
      obtain ⟨a, vs, rfl, h1, h2⟩ := n
      exact ⟨a, vs, rfl, sameT S.sub h1, by rw [h2.length]; assumption, q F0 H0 r r' σ F H vs _ Q S h2 e w⟩
    · cases e
  · cases e

/-! ### what is walked -/
structure Items (K : PySem.W.Frag) (F : Hp) (J : It) (ds : List D) : Prop where
  stop : ∀ F2 H2, Same F F2 → Same F2 H2 → J.stop ds.length H2
  go : ∀ i F2 H2, i < ds.length → Same F F2 → Same F2 H2 → J.go i H2
  yld : ∀ (i : Nat) F2 H2 x H3 d, ds[i]? = some d → Same F F2 → Same F2 H2 → J.yld i H2 x H3 → H3 = H2 ∧ Dn K F2 x d
def ID (X : Cx) (ca : Exn → Addr) (W : WX) (tg iter : Expr) (f : Env → R (List D)) : Prop := ∃ wi : TI, PI X tg iter wi ∧ ∀ F0 H0 r σ F H (Rr : It → Hp → Prop), Sim X.K F0 H0 r σ F H →
  Wp (f r) (fun ds => ∀ J F' H', Grow F H F' H' → Items X.K F' J ds → Rr J H') (fun c => ∀ F' H', Grow F H F' H' → W (.ref (ca c)) none σ H') → wi σ H Rr
def seqItems : D → Option (List D)
  | .lst ds => some ds
  | .scr ns => some (ns.map .int)
  | _ => none
def tupItems : D → Option (List D)
  | .tup ds => some ds
  | _ => none
def strItems : D → Option (List D)
  | .str z => some (z.cps.toList.map fun c => .str ⟨#[c]⟩)
  | _ => none
theorem id_list {tg e : Expr} {f : Env → R D} (h : ED X ca W e f) : ID X ca W tg e (fun r => f r >>= fun d => lift (seqItems d)) := by
  obtain ⟨t, p, q⟩ := h
  refine ⟨_, pi_list p, fun F0 H0 r σ F H Rr S w => ?_⟩
  refine q _ _ _ _ _ _ _ S (w.bind.mono (fun d w v F1 H1 G1 n => ?_) fun c k => k)
  obtain ⟨ds, e1, k⟩ := w.lift
  have go : ∀ (a : Addr) (vs : List V), v = .ref a → SqL X.K F1 a vs → DnL X.K F1 vs ds → (∃ a, v = .ref a ∧ (∃ xs, SqL X.K H1 a xs) ∧ Rr (Itl X.K a) H1) := fun a vs ev h1 h2 => by
    refine ⟨a, ev, ⟨vs, G1.sub.seq h1⟩, k _ F1 H1 G1 ⟨fun F2 H2 s1 s2 => ⟨vs, s2.seq (s1.seq h1), by rw [h2.length]; exact Nat.le_refl _⟩, fun i F2 H2 hi s1 s2 => ?_, fun i F2 H2 x H3 d hd s1 s2 y => ?_⟩⟩
    · obtain ⟨v', k1, _⟩ := h2.get (i := i) (d := ds[i]) (by simp [hi])
      exact ⟨vs, v', s2.seq (s1.seq h1), k1⟩
    · obtain ⟨e, y⟩ := y
      obtain ⟨v', k1, k2⟩ := h2.get hd
      have := y vs (s2.seq (s1.seq h1))
      rw [k1] at this
      cases this
      exact ⟨e, k2.same s1 d _⟩
  unfold seqItems at e1
  split at e1
  · cases e1
    simp only [Dn] at n
    obtain ⟨a, vs, rfl, h1, h2⟩ := n
    exact go a vs rfl (.of h1) h2
  · cases e1
    simp only [Dn] at n
    obtain ⟨a, rfl, h1⟩ := n
    exact go a _ rfl h1 (Dn.ints _)
  · cases e1
theorem id_tup {tg e : Expr} {f : Env → R D} (h : ED X ca W e f) : ID X ca W tg e (fun r => f r >>= fun d => lift (tupItems d)) := by
  obtain ⟨t, p, q⟩ := h
  refine ⟨_, pi_tup p, fun F0 H0 r σ F H Rr S w => ?_⟩
  refine q _ _ _ _ _ _ _ S (w.bind.mono (fun d w v F1 H1 G1 n => ?_) fun c k => k)
  obtain ⟨ds, e1, k⟩ := w.lift
  unfold tupItems at e1
  split at e1
  · cases e1
    simp only [Dn] at n
    obtain ⟨a, vs, rfl, h1, h2⟩ := n
    refine ⟨a, rfl, ⟨vs, sameT G1.sub h1⟩, k _ F1 H1 G1 ⟨fun F2 H2 s1 s2 => ⟨vs, sameT s2 (sameT s1 h1), by rw [h2.length]; exact Nat.le_refl _⟩, fun i F2 H2 hi s1 s2 => ?_, fun i F2 H2 x H3 d hd s1 s2 y => ?_⟩⟩
    · obtain ⟨v', k1, _⟩ := h2.get (i := i) (List.getElem?_eq_getElem hi)
      exact ⟨vs, v', sameT s2 (sameT s1 h1), k1⟩
    · obtain ⟨e, y⟩ := y
      obtain ⟨v', k1, k2⟩ := h2.get hd
      have := y vs (sameT s2 (sameT s1 h1))
      rw [k1] at this
      cases this
      exact ⟨e, k2.same s1 d _⟩
  · cases e1
theorem id_str {tg e : Expr} {f : Env → R D} (h : PD X ca W e f) : ID X ca W tg e (fun r => f r >>= fun d => lift (strItems d)) := by
  obtain ⟨t, p, q⟩ := h
  refine ⟨_, pi_str p, fun F0 H0 r σ F H Rr S w => ?_⟩
  refine q _ _ _ _ _ _ _ S (w.bind.mono (fun d w v F1 H1 G1 n => ?_) fun c k => k)
  obtain ⟨ds, e1, k⟩ := w.lift
  unfold strItems at e1
  split at e1
  · rename_i z
    cases e1
    simp only [Pk, Dn] at n
    subst n
    refine ⟨z, rfl, k _ F1 H1 G1 ⟨fun F2 H2 s1 s2 => ?_, fun i F2 H2 hi s1 s2 => ?_, fun i F2 H2 x H3 d hd s1 s2 y => ?_⟩⟩
    · show z.cps.size ≤ _
      simp
    · show i < z.cps.size
      simpa using hi
    · obtain ⟨e, c, hc, rfl⟩ := y
      refine ⟨e, ?_⟩
      rw [List.getElem?_map, Array.getElem?_toList, hc] at hd
      cases hd
      simp [Dn]
  · cases e1
def rngItems (lo : Int) (n : Nat) : List D := (List.range n).map fun (i : Nat) => .int (lo + i)
theorem items_rng {K : PySem.W.Frag} {F : Hp} (lo : Int) (n : Nat) : Items K F (Itr lo n) (rngItems lo n) := by
  refine ⟨fun F2 H2 s1 s2 => ?_, fun i F2 H2 hi s1 s2 => ?_, fun i F2 H2 x H3 d hd s1 s2 y => ?_⟩
  · show n ≤ _
    simp [rngItems]
  · show i < n
    simpa [rngItems] using hi
  · obtain ⟨e, rfl⟩ := y
    refine ⟨e, ?_⟩
    unfold rngItems at hd
    rw [List.getElem?_map] at hd
    cases hh : (List.range n)[i]? with
    | none => rw [hh] at hd; cases hd
    | some j =>
      rw [hh] at hd
      cases hd
      have : j = i := by
        have h2 := List.getElem?_eq_some_iff.mp hh
        obtain ⟨h3, h4⟩ := h2
        simpa using h4.symm
      subst this
      simp [Dn]
noncomputable def rng1 : D → Option (List D)
  | .int j => @ite _ (-(2 ^ 62) ≤ j ∧ j < 2 ^ 62) (Classical.propDecidable _) (some (rngItems 0 j.toNat)) none
  | _ => none
theorem id_range1 {tg a : Expr} {p pos : Pos} {f : Env → R D} (hm : X.mg "range" = none) (h : PD X ca W a f) (hg : Gl X "range" := by rfl) (hs : starEach [a] X.env = [(false, eval a X.env)] := by rfl) (hs1 : starEach [a] X.env = (false, eval a X.env) :: starEach [] X.env := by rfl) :
    ID X ca W tg (.Call (.Name "range" p) [a] [] pos) (fun r => f r >>= fun d => lift (rng1 d)) := by
  obtain ⟨t, p, q⟩ := h
  refine ⟨_, pi_range1 hg hm (pa_cons p pa_nil hs1) hs, fun F0 H0 r σ F H Rr S w => ?_⟩
  refine q _ _ _ _ _ _ _ S (w.bind.mono (fun d w v F1 H1 G1 n => ?_) fun c k => k)
  obtain ⟨ds, e1, k⟩ := w.lift
  unfold rng1 at e1
  split at e1
  · split at e1
    · rename_i hc
      cases e1
      simp only [Pk, Dn] at n
      subst n
      exact ⟨_, rfl, hc.1, hc.2, k _ F1 H1 G1 (items_rng _ _)⟩
    · cases e1
  · cases e1
noncomputable def rng2 : D → D → Option (List D)
  | .int i, .int j => @ite _ (-(2 ^ 62) ≤ i ∧ i < 2 ^ 62 ∧ -(2 ^ 62) ≤ j ∧ j < 2 ^ 62) (Classical.propDecidable _) (some (rngItems i (j - i).toNat)) none
  | _, _ => none
theorem id_range2 {tg a b : Expr} {p pos : Pos} {f g : Env → R D} (hm : X.mg "range" = none) (h : PD X ca W a f) (h' : PD X ca W b g) (hg : Gl X "range" := by rfl) (hs : starEach [a, b] X.env = [(false, eval a X.env), (false, eval b X.env)] := by rfl) (hs2 : starEach [b] X.env = [(false, eval b X.env)] := by rfl)
    (hs1 : starEach [a, b] X.env = (false, eval a X.env) :: starEach [b] X.env := by rfl) (hs3 : starEach [b] X.env = (false, eval b X.env) :: starEach [] X.env := by rfl) :
    ID X ca W tg (.Call (.Name "range" p) [a, b] [] pos) (fun r => f r >>= fun d => g r >>= fun e => lift (rng2 d e)) := by
  obtain ⟨t, p, q⟩ := h
  obtain ⟨t', p', q'⟩ := h'
  refine ⟨_, pi_range2 hg hm (pa_cons p (pa_cons p' pa_nil hs3) hs1) hs hs2, fun F0 H0 r σ F H Rr S w => ?_⟩
  refine q _ _ _ _ _ _ _ S (w.bind.mono (fun d w v F1 H1 G1 n => ?_) fun c k => k)
  refine q' _ _ _ _ _ _ _ (S.grow G1) (w.bind.mono (fun e w u F2 H2 G2 n2 => ?_) fun c k F2 H2 G2 => k F2 H2 (G1.trans G2))
  obtain ⟨ds, e1, k⟩ := w.lift
  unfold rng2 at e1
  split at e1
  · split at e1
    · rename_i hc
      cases e1
      simp only [Pk, Dn] at n n2
      subst n; subst n2
      exact ⟨_, _, rfl, hc, k _ F2 H2 (G1.trans G2) (items_rng _ _)⟩
    · cases e1
  · cases e1
/-- reversed(xs) walked, xs a list -/
def revItems : D → Option (List D)
  | .lst ds => some ds.reverse
  | _ => none
theorem id_rev {tg a : Expr} {p pos : Pos} {f : Env → R D} (hm : X.mg "reversed" = none) (h : ED X ca W a f) (hg : Gl X "reversed" := by rfl) (hs : starEach [a] X.env = [(false, eval a X.env)] := by rfl) (hs1 : starEach [a] X.env = (false, eval a X.env) :: starEach [] X.env := by rfl) :
    ID X ca W tg (.Call (.Name "reversed" p) [a] [] pos) (fun r => f r >>= fun d => lift (revItems d)) := by
  obtain ⟨t, p, q⟩ := h
  refine ⟨_, pi_reversed hg hm (pa_cons p pa_nil hs1) hs, fun F0 H0 r σ F H Rr S w => ?_⟩
  refine q _ _ _ _ _ _ _ S (w.bind.mono (fun d w v F1 H1 G1 n => ?_) fun c k => k)
  obtain ⟨es, e1, k⟩ := w.lift
  unfold revItems at e1
  split at e1
  · cases e1
    simp only [Dn] at n
    obtain ⟨a, vs, rfl, h1, h2⟩ := n
    have hl := h2.length
    refine ⟨a, vs, rfl, .of (G1.sub _ _ h1), k _ F1 H1 G1 ⟨fun F2 H2 s1 s2 => ?_, fun i F2 H2 hi s1 s2 => ?_, fun i F2 H2 x H3 d hd s1 s2 y => ?_⟩⟩
    · show vs.length ≤ _
      simp [hl]
    · have hi' : i < vs.length := by simpa [hl] using hi
      refine ⟨hi', vs, vs[vs.length - 1 - i], .of (s2 _ _ (s1 _ _ h1)), ?_⟩
      exact List.getElem?_eq_getElem (by omega)
    · obtain ⟨e, y⟩ := y
      have y := y vs (.of (s2 _ _ (s1 _ _ h1)))
      refine ⟨e, ?_⟩
      have hi' : i < vs.length := by
        have := (List.getElem?_eq_some_iff.mp hd).1
        simpa [hl] using this
      rw [List.getElem?_reverse (by rw [← hl]; exact hi'), ← hl] at hd
      obtain ⟨v', k1, k2⟩ := h2.get hd
      rw [k1] at y
      cases y
      exact k2.same s1 d _
  · cases e1

/-! ### for -/
def forR (tgt : D → Env → Option Env) (body : Env → R Out) : List D → Env → R Out
  | [], r => .ok (.nx r)
  | d :: ds, r => lift (tgt d r) >>= fun r1 => seqO (body r1) (forR tgt body ds)
theorem sd_for {tg iter : Expr} {body : List Stmt} {pos : Pos} {sl : List Nat} {fi : Env → R (List D)} {tgt : D → Env → Option Env} {f : Env → R Out} (hp : PassesOwn (model X.prog X.w) X.A X.env X.xe) (hc : X.calm = true) (hi : ID X ca W tg iter fi) (hg : GD X tg sl tgt) (hb : SDs X ca W body f)
    (hs : ∀ x, foldedSetIterable iter X.env x = pure x := by intro _; rfl) : SD X ca W (.For tg iter body [] pos) (fun r => fi r >>= fun ds => forR tgt f ds r) := by
  obtain ⟨wi, p1, q1⟩ := hi
  obtain ⟨g, p2, q2⟩ := hg
  obtain ⟨t, p3, q3⟩ := hb
  refine ⟨tFor wi g t, ps_for hp hc p1 p2 p3 hs, fun F0 H0 r σ F H E S w => ?_⟩
  refine q1 _ _ _ _ _ _ _ S (w.bind.mono (fun ds w J F1 H1 G1 it => ?_) fun c k F' H' G => k σ F' H' (S.grow G).base)
  refine ⟨fun i m σ H => m = ds.length - i ∧ i ≤ ds.length ∧ ∃ r F2, Sim X.K F0 H0 r σ F2 H ∧ Same F1 F2 ∧ Wp (forR tgt f (ds.drop i) r) (OutK X.K F0 H0 F2 E) (ExK ca W F0 H0), ⟨ds.length, rfl, Nat.zero_le _, r, F1, S.grow G1, Same.refl _, ?_⟩, ?_⟩
  · rw [List.drop_zero]
    exact Wp.mono (r := forR tgt f ds r) w (fun o k => k.same G1.ff) fun _ k => k
  · rintro i m σ H ⟨rfl, hi, r, F2, S2, s2, w⟩
    by_cases hlt : i < ds.length
    · refine .inr ⟨it.go i F2 H hlt s2 S2.sub, fun σ' H' => ∃ r F3, Sim X.K F0 H0 r σ' F3 H' ∧ Same F1 F3 ∧ Wp (forR tgt f (ds.drop (i + 1)) r) (OutK X.K F0 H0 F3 E) (ExK ca W F0 H0), fun σ' H' ⟨r, F3, a, b, c⟩ => ⟨ds.length - (i + 1), by omega, rfl, hlt, r, F3, a, b, c⟩, fun x H' y => ?_⟩
      have hd : ds[i]? = some ds[i] := List.getElem?_eq_getElem hlt
      obtain ⟨rfl, n⟩ := it.yld i F2 H x H' _ hd s2 S2.sub y
      rw [List.drop_eq_getElem_cons hlt] at w
      have w : Wp (lift (tgt ds[i] r) >>= fun r1 => seqO (f r1) (forR tgt f (ds.drop (i + 1)))) (OutK X.K F0 H0 F2 E) (ExK ca W F0 H0) := w
      obtain ⟨r1, hh, w⟩ := w.bind.lift
      refine q2 F0 H0 r r1 σ F2 H' x _ _ S2 n hh fun σ1 S1 _ => ?_
      refine q3 F0 H0 r1 σ1 F2 H' _ S1 (Wp.bind (r := f r1) w |>.mono (fun o k => ?_) fun _ k => k)
      cases o with
      | nx r3 => exact fun σ3 F3 H3 S3 s3 => ⟨r3, F3, S3, s2.trans s3, Wp.mono (r := forR tgt f (ds.drop (i + 1)) r3) k (fun o k => k.same s3) fun _ k => k⟩
      | rt d => exact k
    · have e : i = ds.length := by omega
      subst e
      rw [List.drop_length] at w
      exact .inl ⟨it.stop F2 H s2 S2.sub, w σ F2 H S2 (Same.refl _)⟩

/-! ### while -/
def whileR (c : Env → R Bool) (b : Env → R Out) : Nat → Env → R Out
  | 0, _ => .no
  | n + 1, r => c r >>= fun k => if k = true then seqO (b r) (whileR c b n) else .ok (.nx r)
theorem sd_while (fuel : Nat) {c : Expr} {body : List Stmt} {pos : Pos} {fc : Env → R Bool} {f : Env → R Out} (hp : PassesOwn (model X.prog X.w) X.A X.env X.xe) (hc : TD X ca W c fc) (hb : SDs X ca W body f) : SD X ca W (.While c body [] pos) (whileR fc f fuel) := by
  obtain ⟨t, p, q⟩ := hc
  obtain ⟨tb, pb, qb⟩ := hb
  refine ⟨tWhile t tb, ps_while hp p pb, fun F0 H0 r σ F H E S w => ?_⟩
  refine ⟨fun m σ H => ∃ r F2, Sim X.K F0 H0 r σ F2 H ∧ Same F F2 ∧ Wp (whileR fc f m r) (OutK X.K F0 H0 F2 E) (ExK ca W F0 H0), ⟨fuel, r, F, S, Same.refl _, w⟩, ?_⟩
  rintro m σ H ⟨r, F2, S2, s2, w⟩
  cases m with
  | zero => exact False.elim w
  | succ m =>
    have w : Wp (fc r >>= fun k => if k = true then seqO (f r) (whileR fc f m) else .ok (.nx r)) (OutK X.K F0 H0 F2 E) (ExK ca W F0 H0) := w
    refine q _ _ _ _ _ _ _ S2 (w.bind.mono (fun k w F3 H3 G3 => ?_) fun c k F' H' G => k σ F' H' (S2.grow G).base)
    cases k with
    | false =>
      rw [if_neg Bool.false_ne_true] at w ⊢
      exact w σ F3 H3 (S2.grow G3) G3.ff
    | true =>
      rw [if_pos rfl] at w ⊢
      refine ⟨fun σ' H' => ∃ r F4, Sim X.K F0 H0 r σ' F4 H' ∧ Same F F4 ∧ Wp (whileR fc f m r) (OutK X.K F0 H0 F4 E) (ExK ca W F0 H0), fun σ' H' z => ⟨m, Nat.lt_succ_self m, z⟩, ?_⟩
      refine qb F0 H0 r σ F3 H3 _ (S2.grow G3) (Wp.bind (r := f r) w |>.mono (fun o k => ?_) fun _ k => k)
      cases o with
      | nx r4 => exact fun σ4 F4 H4 S4 s4 => ⟨r4, F4, S4, (s2.trans G3.ff).trans s4, Wp.mono (r := whileR fc f m r4) k (fun o k => k.same (G3.ff.trans s4)) fun _ k => k⟩
      | rt d => exact k
end
end DL

set_option Elab.async false
set_option linter.all false
set_option maxRecDepth 100000
set_option maxHeartbeats 2000000
/-! DL7: comprehensions, a def by its body, the law's end -/
namespace DL
open PySem PySem.Spec PyProof.Rows L2

/-! ### one reading for all the blocks -/
section
variable {ι : Type} {Xc : ι → Cx} {K : PySem.W.Frag} {ca : Exn → Addr} {W : WX}
theorem ED.all {e : Expr} {f : Env → R D} (hK : ∀ c, (Xc c).K = K) (h : ∀ c, ED (Xc c) ca W e f) : ∃ t : TE, (∀ c, PE (Xc c) e t) ∧ ∀ F0 H0 r σ F H Q, Sim K F0 H0 r σ F H →
    Wp (f r) (fun d => ∀ v F' H', Grow F H F' H' → Dn K F' v d → Q v H') (fun x => ∀ F' H', Grow F H F' H' → W (.ref (ca x)) none σ H') → t σ H Q := by
  refine ⟨fun σ H Q => ∀ c pins s, Inv (Xc c) pins σ H s → wpAny (model (Xc c).prog (Xc c).w) (Xc c).A (eval e (Xc c).env) (EP (Xc c) pins σ Q) (Xc c).xe s, fun c => ⟨fun pins s σ H Q I q => q c pins s I⟩, fun F0 H0 r σ F H Q S w c pins s I => ?_⟩
  obtain ⟨t, p, q⟩ := h c
  rw [hK c] at q
  exact p.run pins s σ H Q I (q F0 H0 r σ F H Q S w)
/-- the tests of a comprehension -/
def TsD (X : Cx) (ca : Exn → Addr) (W : WX) (ifs : List Expr) (f : Env → R Bool) : Prop := ∃ t : TT, PTs X ifs t ∧ ∀ F0 H0 r σ F H Q, Sim X.K F0 H0 r σ F H →
  Wp (f r) (fun b => ∀ F' H', Grow F H F' H' → Q b H') (fun c => ∀ F' H', Grow F H F' H' → W (.ref (ca c)) none σ H') → t σ H Q
theorem tsd_nil {X : Cx} : TsD X ca W [] (fun _ => .ok true) := ⟨tYes, pts_nil, fun F0 H0 r σ F H Q S w => w F H (Grow.refl S.sub)⟩
theorem tsd_one {X : Cx} {c : Expr} {f : Env → R Bool} (h : TD X ca W c f) : TsD X ca W [c] f := by
  obtain ⟨t, p, q⟩ := h
  exact ⟨t, pts_one p, q⟩
theorem TsD.all {ifs : List Expr} {f : Env → R Bool} (hK : ∀ c, (Xc c).K = K) (h : ∀ c, TsD (Xc c) ca W ifs f) : ∃ t : TT, (∀ c, PTs (Xc c) ifs t) ∧ ∀ F0 H0 r σ F H Q, Sim K F0 H0 r σ F H →
    Wp (f r) (fun b => ∀ F' H', Grow F H F' H' → Q b H') (fun x => ∀ F' H', Grow F H F' H' → W (.ref (ca x)) none σ H') → t σ H Q := by
  refine ⟨fun σ H Q => ∀ c pins s, Inv (Xc c) pins σ H s → wpAny (model (Xc c).prog (Xc c).w) (Xc c).A (forIn ifs true fun x r => if r = true then do let ok ← isTrue x (Xc c).env (eval x (Xc c).env); pure (ForInStep.yield ok) else pure (ForInStep.yield r)) (TP (Xc c) pins σ Q) (Xc c).xe s, fun c => ⟨fun pins s σ H Q I q => q c pins s I⟩, fun F0 H0 r σ F H Q S w c pins s I => ?_⟩
  obtain ⟨t, p, q⟩ := h c
  rw [hK c] at q
  exact p.run pins s σ H Q I (q F0 H0 r σ F H Q S w)
theorem GD.all {tg : Expr} {sl : List Nat} {f : D → Env → Option Env} (hK : ∀ c, (Xc c).K = K) (h : ∀ c, GD (Xc c) tg sl f) : ∃ g : TG, (∀ c, PG (Xc c) tg g) ∧ ∀ F0 H0 r r' σ F H v d (Q : L2.St → Hp → Prop), Sim K F0 H0 r σ F H → Dn K F v d → f d r = some r' →
    (∀ σ', Sim K F0 H0 r' σ' F H → (∀ vs : List Nat, (∀ i ∈ sl, i ∈ vs) → wipe σ' vs = wipe σ vs) → Q σ' H) → g v σ H Q := by
  refine ⟨fun v σ H Q => ∀ c pins s u, Inv (Xc c) pins σ H s → RelV v u → wpAny (model (Xc c).prog (Xc c).w) (Xc c).A (assign tg (Xc c).env u) (fun _ s' => ∃ σ' H', Inv (Xc c) pins σ' H' s' ∧ Q σ' H') (Xc c).xe s, fun c => ⟨fun pins s σ H v u Q I r q => q c pins s u I r⟩, fun F0 H0 r r' σ F H v d Q S n e w c pins s u I rv => ?_⟩
  obtain ⟨g, p, q⟩ := h c
  rw [hK c] at q
  exact p.run pins s σ H v u Q I rv (q F0 H0 r r' σ F H v d Q S n e w)
end

/-! ### comprehensions -/
def nox {α : Type} : R α → R α
  | .ok a => .ok a
  | _ => .no
@[simp] theorem nox_ok {α : Type} (a : α) : nox (.ok a) = .ok a := rfl
@[simp] theorem nox_no {α : Type} : nox (.no : R α) = .no := rfl
theorem Wp.nox {α : Type} {r : R α} {ok : α → Prop} {ex ex' : Exn → Prop} (h : Wp (DL.nox r) ok ex) : Wp r ok ex' := by
  cases r with
  | ok a => exact h
  | ex c => exact False.elim h
  | no => exact False.elim h
def compR (own : List Nat) (tgt : D → Env → Option Env) (tst : Env → R Bool) (el : Env → R D) (r : Env) : List D → R (List D)
  | [] => .ok []
  | d :: ds => lift (tgt d (wipeE r own)) >>= fun r1 => nox (tst r1) >>= fun b => if b = true then nox (el r1) >>= fun x => compR own tgt tst el r ds >>= fun xs => .ok (x :: xs) else compR own tgt tst el r ds
def W0 : WX := fun _ _ _ _ => False
theorem Sim.other {K : PySem.W.Frag} {F0 H0 F H : Hp} {r : Env} {σ : L2.St} {D : Addr} {o : HO} (S : Sim K F0 H0 r σ F H) (hF : F D = none) (h0 : H0 D = none) (sep : ∀ (j : Nat) es, r[j]? = some (.ow es) → σ[j]? ≠ some (some (.ref D))) : Sim K F0 H0 r σ F (upd H D o) where
  len := S.len
  sub := fun b u e => by rw [upd_ne (ne_of_none e hF)]; exact S.sub b u e
  f0 := S.f0
  h0 := fun b u e => by rw [upd_ne (ne_of_none e h0)]; exact S.h0 b u e
  new := S.new
  sh := S.sh
  ow := fun j es e => by
    obtain ⟨a, vs, h1, h2, h3⟩ := S.ow j es e
    have : a ≠ D := fun z => by subst z; exact sep j es e h1
    exact ⟨a, vs, h1, by rw [upd_ne this]; exact h2, h3⟩
  sep := S.sep
section
variable {X : Cx} {ca : Exn → Addr} {W : WX}
theorem lc_read {wi : TI} {g : TG} {tt : TT} {te : TE} {vs sl : List Nat} {K : PySem.W.Frag} {tgt : D → Env → Option Env} {tst : Env → R Bool} {el : Env → R D} {fi : Env → R (List D)} (hsl : ∀ i ∈ sl, i ∈ vs)
    (q1 : ∀ F0 H0 r σ F H (Rr : It → Hp → Prop), Sim K F0 H0 r σ F H → Wp (fi r) (fun ds => ∀ J F' H', Grow F H F' H' → Items K F' J ds → Rr J H') (fun c => ∀ F' H', Grow F H F' H' → W (.ref (ca c)) none σ H') → wi σ H Rr)
    (q2 : ∀ F0 H0 r r' σ F H v d (Q : L2.St → Hp → Prop), Sim K F0 H0 r σ F H → Dn K F v d → tgt d r = some r' → (∀ σ', Sim K F0 H0 r' σ' F H → (∀ vs : List Nat, (∀ i ∈ sl, i ∈ vs) → wipe σ' vs = wipe σ vs) → Q σ' H) → g v σ H Q)
    (q3 : ∀ F0 H0 r σ F H Q, Sim K F0 H0 r σ F H → Wp (tst r) (fun b => ∀ F' H', Grow F H F' H' → Q b H') (fun x => ∀ F' H', Grow F H F' H' → W0 (.ref (ca x)) none σ H') → tt σ H Q)
    (q4 : ∀ F0 H0 r σ F H Q, Sim K F0 H0 r σ F H → Wp (el r) (fun d => ∀ v F' H', Grow F H F' H' → Dn K F' v d → Q v H') (fun x => ∀ F' H', Grow F H F' H' → W0 (.ref (ca x)) none σ H') → te σ H Q)
    {F0 H0 : Hp} {r : Env} {σ : L2.St} {F H : Hp} {Q : VK} (S : Sim K F0 H0 r σ F H)
    (w : Wp (fi r >>= fun items => if items.length ≤ sizeLine then compR vs tgt tst el r items else .no) (fun ds => ∀ p ws F' H', Grow F H F' H' → H p = none → F' p = none → H' p = some (.lst ws) → DnL K F' ws ds → Q (.ref p) H') (fun c => ∀ F' H', Grow F H F' H' → W (.ref (ca c)) none σ H')) :
    tLc wi g tt te vs σ H Q := by
  refine q1 _ _ _ _ _ _ _ S (w.bind.mono (fun items w J F1 H1 G1 it => ?_) fun c k => k)
  by_cases hlen : items.length ≤ sizeLine
  case neg => rw [if_neg hlen] at w; exact False.elim w
  rw [if_pos hlen] at w
  intro D hD
  have S1 := S.grow G1
  have sep := own_sep S1 hD
  have hDo : H D = none := G1.hh.free hD
  have hD0 : H0 D = none := S1.h0.free hD
  have hDF : F1 D = none := S1.sub.free hD
  refine ⟨fun i m Hc => m = items.length - i ∧ i ≤ items.length ∧ ∃ F2 acc ads, Same F1 F2 ∧ Sim K F0 H0 r σ F2 Hc ∧ Grow F H F2 Hc ∧ Hc D = some (.lst acc) ∧ F2 D = none ∧ DnL K F2 acc ads ∧ ads.length ≤ i ∧
    Wp (compR vs tgt tst el r (items.drop i)) (fun rest => ∀ p ws F' H', Grow F H F' H' → H p = none → F' p = none → H' p = some (.lst ws) → DnL K F' ws (ads ++ rest) → Q (.ref p) H') (fun c => ∀ F' H', Grow F H F' H' → W (.ref (ca c)) none σ H'),
    ⟨items.length, rfl, Nat.zero_le _, F1, [], [], Same.refl _, S1.other hDF hD0 sep, G1.trans (Grow.lay G1.sub hD), upd_same, hDF, .nil, Nat.le_refl _, ?_⟩, ?_⟩
  · rw [List.drop_zero]
    exact Wp.mono (r := compR vs tgt tst el r items) w (fun o k => k) fun _ k => k
  · rintro i m Hc ⟨rfl, hi, F2, acc, ads, s2, S2, G2, hA, hF2, hn, hl, w⟩
    by_cases hlt : i < items.length
    · refine .inr ⟨it.go i F2 Hc hlt s2 S2.sub, fun Hc => ∃ F2 acc ads, Same F1 F2 ∧ Sim K F0 H0 r σ F2 Hc ∧ Grow F H F2 Hc ∧ Hc D = some (.lst acc) ∧ F2 D = none ∧ DnL K F2 acc ads ∧ ads.length ≤ i + 1 ∧
          Wp (compR vs tgt tst el r (items.drop (i + 1))) (fun rest => ∀ p ws F' H', Grow F H F' H' → H p = none → F' p = none → H' p = some (.lst ws) → DnL K F' ws (ads ++ rest) → Q (.ref p) H') (fun c => ∀ F' H', Grow F H F' H' → W (.ref (ca c)) none σ H'),
        fun H' z => ⟨items.length - (i + 1), by omega, rfl, hlt, z⟩, fun x H' y => ?_⟩
      have hd : items[i]? = some items[i] := List.getElem?_eq_getElem hlt
      obtain ⟨rfl, n⟩ := it.yld i F2 Hc x H' _ hd s2 S2.sub y
      rw [List.drop_eq_getElem_cons hlt] at w
      have w : Wp (lift (tgt items[i] (wipeE r vs)) >>= fun r1 => nox (tst r1) >>= fun b => if b = true then nox (el r1) >>= fun x => compR vs tgt tst el r (items.drop (i + 1)) >>= fun xs => .ok (x :: xs) else compR vs tgt tst el r (items.drop (i + 1))) _ _ := w
      obtain ⟨r1, hh, w⟩ := w.bind.lift
      refine q2 F0 H0 _ r1 _ F2 H' x _ _ (S2.wipe vs) n hh fun σ1 S3 k1 => ?_
      refine ⟨by rw [k1 vs hsl]; exact (List.ext_getElem? fun j => by rw [wipe_get, wipe_get, wipe_length]; split <;> first | rfl | (rename_i hc; rw [wipe_get, if_neg hc])), ?_⟩
      refine q3 _ _ _ _ _ _ _ S3 (w.bind.nox.mono (fun b w F3 H3 G3 => ?_) fun _ k => k)
      cases b with
      | false =>
        rw [if_neg Bool.false_ne_true] at w ⊢
        exact ⟨F3, acc, ads, s2.trans G3.ff, S2.grow G3, G2.trans G3, G3.hh _ _ hA, G3.new _ _ hF2 hA, hn.same G3.ff _ _, by omega, w⟩
      | true =>
        rw [if_pos rfl] at w ⊢
        refine q4 _ _ _ _ _ _ _ (S3.grow G3) (w.bind.nox.mono (fun d w v F4 H4 G4 n4 => ?_) fun _ k => k)
        have G34 := G3.trans G4
        have hA4 := G34.hh _ _ hA
        have hF4 := G34.new _ _ hF2 hA
        have hn4 := hn.same G34.ff _ _
        have hln := hn.length
        refine ⟨acc, hA4, by omega, F4, acc ++ [v], ads ++ [d], s2.trans G34.ff, (S2.grow G34).other hF4 hD0 sep, ⟨G2.ff.trans G34.ff, fun b u e => ?_, fun b u e => ?_, fun b u e1 e2 => (G2.trans G34).new b u e1 e2⟩, upd_same, hF4, hn4.append (.one n4), by simp; omega, ?_⟩
        · rw [upd_ne (ne_of_none e hDo)]; exact (G2.hh.trans G34.hh) b u e
        · rw [upd_ne (ne_of_none e hF4)]; exact G34.sub b u e
        · refine (Wp.bind (r := compR vs tgt tst el r (items.drop (i + 1))) w).mono (fun rest k p ws F' H' G h1 h2 h3 h4 => k p ws F' H' G h1 h2 h3 ?_) fun _ k => k
          rw [List.append_assoc] at h4
          exact h4
    · have e : i = items.length := by omega
      subst e
      rw [List.drop_length] at w
      refine .inl ⟨it.stop F2 Hc s2 S2.sub, w D acc F2 Hc G2 hDo hF2 hA ?_⟩
      rw [List.append_nil]; exact hn
theorem fd_comp {elt tg iter : Expr} {ifs : List Expr} {scope : Scope} {own : List (Str × Nat)} {pos : Pos} {sl : List Nat} {tgt : D → Env → Option Env} {tst : Env → R Bool} {el : Env → R D} {fi : Env → R (List D)} (hc : X.calm = true) (hN : X.N.Nodup) (hi : ID X ca W tg iter fi) (ok : BlkOk X.N X.env.scope scope own)
    (hg : ∀ (s : Shared) (H : Hp) (C : Addr) (cl : List (Str × Addr)) (fp : List Addr), GD (X.blk s H scope (compEnvC scope cl C X.env) fp) tg sl tgt) (ht : ∀ (s : Shared) (H : Hp) (C : Addr) (cl : List (Str × Addr)) (fp : List Addr), TsD (X.blk s H scope (compEnvC scope cl C X.env) fp) ca W0 ifs tst)
    (he : ∀ (s : Shared) (H : Hp) (C : Addr) (cl : List (Str × Addr)) (fp : List Addr), ED (X.blk s H scope (compEnvC scope cl C X.env) fp) ca W0 elt el) (hsl : (sl.all fun i => (own.map (·.2)).contains i) = true := by decide) (hs : ∀ x, foldedSetIterable iter X.env x = pure x := by intro _; rfl) :
    FD X ca W (.ListComp elt [⟨tg, iter, ifs, 0⟩] scope pos) (fun r => fi r >>= fun items => if items.length ≤ sizeLine then compR (own.map (·.2)) tgt tst el r items else .no) := by
  obtain ⟨wi, p1, q1⟩ := hi
  obtain ⟨g, p2, q2⟩ := GD.all (ι := Shared × Hp × Addr × List (Str × Addr) × List Addr) (Xc := fun c => X.blk c.1 c.2.1 scope (compEnvC scope c.2.2.2.1 c.2.2.1 X.env) c.2.2.2.2) (K := X.K) (fun _ => rfl) fun c => hg c.1 c.2.1 c.2.2.1 c.2.2.2.1 c.2.2.2.2
  obtain ⟨tt, p3, q3⟩ := TsD.all (ι := Shared × Hp × Addr × List (Str × Addr) × List Addr) (Xc := fun c => X.blk c.1 c.2.1 scope (compEnvC scope c.2.2.2.1 c.2.2.1 X.env) c.2.2.2.2) (K := X.K) (fun _ => rfl) fun c => ht c.1 c.2.1 c.2.2.1 c.2.2.2.1 c.2.2.2.2
  obtain ⟨te, p4, q4⟩ := ED.all (ι := Shared × Hp × Addr × List (Str × Addr) × List Addr) (Xc := fun c => X.blk c.1 c.2.1 scope (compEnvC scope c.2.2.2.1 c.2.2.1 X.env) c.2.2.2.2) (K := X.K) (fun _ => rfl) fun c => he c.1 c.2.1 c.2.2.1 c.2.2.2.1 c.2.2.2.2
  refine ⟨tLc wi g tt te (own.map (·.2)), pe_lc hc hN p1 ok (fun s H C cl fp => p2 (s, H, C, cl, fp)) (fun s H C cl fp => p3 (s, H, C, cl, fp)) (fun s H C cl fp => p4 (s, H, C, cl, fp)) hs, fun F0 H0 r σ F H Q S w => ?_⟩
  exact lc_read (fun i hi => by have := List.all_eq_true.mp hsl i hi; simpa using this) q1 q2 q3 q4 S w
/-- y = [..] on one line, y a local -/
theorem sd_comp (own' : Bool) (i : Nat) {y : Str} {py : Pos} {elt tg iter : Expr} {ifs : List Expr} {scope : Scope} {own : List (Str × Nat)} {pos spos : Pos} {sl : List Nat} {tgt : D → Env → Option Env} {tst : Env → R Bool} {el : Env → R D} {fi : Env → R (List D)} (hc : X.calm = true) (hN : X.N.Nodup) (hi : ID X ca W tg iter fi) (ok : BlkOk X.N X.env.scope scope own)
    (hg : ∀ (s : Shared) (H : Hp) (C : Addr) (cl : List (Str × Addr)) (fp : List Addr), GD (X.blk s H scope (compEnvC scope cl C X.env) fp) tg sl tgt) (ht : ∀ (s : Shared) (H : Hp) (C : Addr) (cl : List (Str × Addr)) (fp : List Addr), TsD (X.blk s H scope (compEnvC scope cl C X.env) fp) ca W0 ifs tst)
    (he : ∀ (s : Shared) (H : Hp) (C : Addr) (cl : List (Str × Addr)) (fp : List Addr), ED (X.blk s H scope (compEnvC scope cl C X.env) fp) ca W0 elt el) (hsw : swapsWith (.ListComp elt [⟨tg, iter, ifs, 0⟩] scope pos) (some (.Name y py)) spos.line X.env = pure true) (hy : X.N[i]? = some y := by rfl) (hyl : X.env.scope.names.lookup y = some .local := by rfl)
    (hsl : (sl.all fun i => (own.map (·.2)).contains i) = true := by decide) (hs : ∀ x, foldedSetIterable iter X.env x = pure x := by intro _; rfl) :
    SD X ca W (.Assign [.Name y py] (.ListComp elt [⟨tg, iter, ifs, 0⟩] scope pos) spos) (fun r => (fi r >>= fun items => if items.length ≤ sizeLine then compR (own.map (·.2)) tgt tst el r items else .no) >>= fun ds => .ok (.nx (r.set i (if own' = true then .ow ds else .sh (.lst ds))))) := by
  obtain ⟨wi, p1, q1⟩ := hi
  obtain ⟨g, p2, q2⟩ := GD.all (ι := Shared × Hp × Addr × List (Str × Addr) × List Addr) (Xc := fun c => X.blk c.1 c.2.1 scope (compEnvC scope c.2.2.2.1 c.2.2.1 X.env) c.2.2.2.2) (K := X.K) (fun _ => rfl) fun c => hg c.1 c.2.1 c.2.2.1 c.2.2.2.1 c.2.2.2.2
  obtain ⟨tt, p3, q3⟩ := TsD.all (ι := Shared × Hp × Addr × List (Str × Addr) × List Addr) (Xc := fun c => X.blk c.1 c.2.1 scope (compEnvC scope c.2.2.2.1 c.2.2.1 X.env) c.2.2.2.2) (K := X.K) (fun _ => rfl) fun c => ht c.1 c.2.1 c.2.2.1 c.2.2.2.1 c.2.2.2.2
  obtain ⟨te, p4, q4⟩ := ED.all (ι := Shared × Hp × Addr × List (Str × Addr) × List Addr) (Xc := fun c => X.blk c.1 c.2.1 scope (compEnvC scope c.2.2.2.1 c.2.2.1 X.env) c.2.2.2.2) (K := X.K) (fun _ => rfl) fun c => he c.1 c.2.1 c.2.2.1 c.2.2.2.1 c.2.2.2.2
  refine ⟨_, ps_setLc hc hN hy hyl hsw p1 ok (fun s H C cl fp => p2 (s, H, C, cl, fp)) (fun s H C cl fp => p3 (s, H, C, cl, fp)) (fun s H C cl fp => p4 (s, H, C, cl, fp)) hs, fun F0 H0 r σ F H E S w => ?_⟩
  show tLc wi g tt te (own.map (·.2)) σ H fun x H1 => E.nx (σ.set i (some x)) H1
  refine lc_read (fun i hi => by have := List.all_eq_true.mp hsl i hi; simpa using this) q1 q2 q3 q4 S (w.bind.mono (fun ds k p vs F1 H1 G1 n1 n2 n3 n4 => ?_) fun c k F' H' G => k σ F' H' (S.grow G).base)
  cases own' with
  | true => exact k _ F1 H1 ((S.grow G1).setOw i n3 n2 (S.h0.free n1) n4 (own_sep S n1)) G1.ff
  | false =>
    have G := G1.freeze n1 n2 n3
    refine k _ _ H1 ((S.grow G).setSh i ?_) G.ff
    simp only [Dn]
    exact ⟨p, vs, rfl, upd_same, n4.same (same_updN n2) ds vs⟩
end

/-! ### a def by its body -/
def startE (n : Nat) (ds : List D) : Env := ds.map .sh ++ List.replicate (n - ds.length) .un
def bodyR (r : R Out) : R D := r >>= fun o => match o with
  | .nx _ => .ok .non
  | .rt d => .ok d
@[simp] theorem bodyR_rt (d : D) : bodyR (.ok (.rt d)) = .ok d := rfl
@[simp] theorem bodyR_nx (r : Env) : bodyR (.ok (.nx r)) = .ok .non := rfl
@[simp] theorem bodyR_ex (c : Exn) : bodyR (.ex c) = .ex c := rfl
theorem Sim.start {K : PySem.W.Frag} {F H : Hp} {N : List Str} {vs : List V} {ds : List D} (s : Same F H) (n : DnL K F vs ds) : Sim K F H (startE N.length ds) (L2.start N vs) F H where
  len := by simp [startE, L2.start, n.length]
  sub := s
  f0 := Same.refl _
  h0 := Same.refl _
  new := fun _ _ e _ => e
  sh := fun i d e => by
    have hl := n.length
    unfold startE at e
    by_cases hi : i < ds.length
    · rw [List.getElem?_append_left (by simpa using hi), List.getElem?_map] at e
      cases h : ds[i]? with
      | none => rw [h] at e; cases e
      | some d' =>
        rw [h] at e
        cases e
        obtain ⟨v, h1, h2⟩ := n.get h
        refine ⟨v, ?_, h2⟩
        unfold L2.start
        rw [List.getElem?_append_left (by simp [hl, hi]), List.getElem?_map, h1]
        rfl
    · rw [List.getElem?_append_right (by simpa using hi), List.getElem?_replicate] at e
      split at e <;> cases e
  ow := fun i ds' e => by
    unfold startE at e
    by_cases hi : i < ds.length
    · rw [List.getElem?_append_left (by simpa using hi), List.getElem?_map] at e
      cases h : ds[i]? with
      | none => rw [h] at e; cases e
      | some d' => rw [h] at e; cases e
    · rw [List.getElem?_append_right (by simpa using hi), List.getElem?_replicate] at e
      split at e <;> cases e
  sep := fun i j ds' es a e1 => by
    exfalso
    unfold startE at e1
    by_cases hi : i < ds.length
    · rw [List.getElem?_append_left (by simpa using hi), List.getElem?_map] at e1
      cases h : ds[i]? with
      | none => rw [h] at e1; cases e1
      | some d' => rw [h] at e1; cases e1
    · rw [List.getElem?_append_right (by simpa using hi), List.getElem?_replicate] at e1
      split at e1 <;> cases e1
section
variable {P : Program} {w : World} {K : PySem.W.Frag} {mg : Str → Option Value} {base : Heap} {ca : Exn → Addr}
theorem def_ok {x qual : Str} {st : Stmt} {fa : Addr} {fd : FuncData} {N ps : List Str} {k : Nat} {f : List D → R D} {body : Env → R Out} (F : Fun K x qual st fa fd) (S : FnScope N ps (defScope st)) (ar : Ar ps.length f) (hm : mg x = some (.ref fa)) (hb : Binds K fd ps [])
    (hf : ∀ ds, ds.length = ps.length → f ds = bodyR (body (startE N.length ds)))
    (h : ∀ (cdv : Value) (A : Around) (outer : List PySem.Env) (s : Shared) (H : Hp) (E : XK), Room k (A.deeper (envOfC qual (defScope st) s.heap.objs.size fa cdv)) →
      SDs (cxOf (L2.CX P w) P w K mg base N qual (defScope st) fa cdv A outer s H E) ca (fun cls d _ H => E cls d H) (defBody st) body) :
    DefD P w K mg base ca x (k + 1) f := by
  refine ⟨fa, fd, ps, F.okX S (fun vs H Q E sp => ?_) (fun cdv A outer s H vs Q E hr sp => ?_), hm, F.kp, hb⟩
  · obtain ⟨Fz, ds, s, n, w⟩ := sp
    rw [n.length]
    refine Classical.byContradiction fun hne => ?_
    rw [ar ds hne] at w
    exact w
  · obtain ⟨Fz, ds, s', n, wp⟩ := sp
    obtain ⟨t, p, q⟩ := h cdv A outer s H E hr
    refine ⟨t, p, ?_⟩
    have hl : ds.length = ps.length := Classical.byContradiction fun hne => by
      rw [ar ds hne] at wp
      exact wp
    rw [hf ds hl] at wp
    refine q Fz H _ _ Fz H _ (Sim.start s' n) ((Wp.bind (r := body (startE N.length ds)) wp).mono (fun o k => ?_) fun c k σ' F' H' G => k F' H' G)
    cases o with
    | nx r => exact fun σ' F' H' S' _ => k .non F' H' S'.base (by simp [Dn])
    | rt d => exact fun v F' H' G n => k v F' H' G n
end
end DL

set_option Elab.async false
set_option linter.all false
set_option maxRecDepth 100000
set_option maxHeartbeats 2000000
/-! DL8: the rules in named forms (what mk.py prints) -/
namespace DL
open PySem PySem.Spec PyProof.Rows L2

@[simp] def xSh (i : Nat) (r : Env) : R D := getSh r i
@[simp] def xPk (i : Nat) (r : Env) : R D := getPk r i
@[simp] def xC (d : D) (_ : Env) : R D := .ok d
@[simp] def xOp (g : D → D → Option D) (fa fb : Env → R D) (r : Env) : R D := fa r >>= fun d => fb r >>= fun e => lift (g d e)
@[simp] def xChain (g g' : D → D → Option D) (fa fb fc : Env → R D) (r : Env) : R D := fa r >>= fun d => fb r >>= fun e => chainD g g' d e (fc r)
@[simp] def xAnd (f g : Env → R D) (r : Env) : R D := andV (f r) (g r)
@[simp] def xOr (f g : Env → R D) (r : Env) : R D := orV (f r) (g r)
@[simp] def xNot (f : Env → R D) (r : Env) : R D := notV (f r)
@[simp] def tB (f : Env → R D) (r : Env) : R Bool := testB (f r)
@[simp] def tAnd (f g : Env → R Bool) (r : Env) : R Bool := andR (f r) (g r)
@[simp] def tOr (f g : Env → R Bool) (r : Env) : R Bool := orR (f r) (g r)
@[simp] def tNot (f : Env → R Bool) (r : Env) : R Bool := notR (f r)
@[simp] def xIx (fa fb : Env → R D) (r : Env) : R D := fa r >>= fun d => fb r >>= fun e => lift (ixD d e)
@[simp] def xNeg (fa : Env → R D) (r : Env) : R D := fa r >>= fun d => lift (subD (.int 0) d)
@[simp] def oNone (_ : Env) : R (Option Int) := .ok none
@[simp] def oSome (f : Env → R D) (r : Env) : R (Option Int) := f r >>= fun d => lift ((isI d).map some)
@[simp] def xSl (fa : Env → R D) (fl fh : Env → R (Option Int)) (r : Env) : R D := fa r >>= fun d => fl r >>= fun l => fh r >>= fun h => lift (slD d l h)
@[simp] def aNil (_ : Env) : R (List D) := .ok []
@[simp] def aCons (f : Env → R D) (g : Env → R (List D)) (r : Env) : R (List D) := f r >>= fun d => g r >>= fun ds => .ok (d :: ds)
@[simp] def xTup (g : Env → R (List D)) (r : Env) : R D := g r >>= fun ds => if ds.length ≤ sizeLine then .ok (.tup ds) else .no
@[simp] def lLst (g : Env → R (List D)) (r : Env) : R (List D) := g r >>= fun ds => if ds.length ≤ sizeLine then .ok ds else .no
@[simp] def xB (g : List D → Option D) (fs : Env → R (List D)) (r : Env) : R D := fs r >>= fun ds => lift (g ds)
@[simp] def xIsi (T : String) (f : Env → R D) (r : Env) : R D := f r >>= fun d => lift (isT T d)
@[simp] def xJoin (fo fe : Env → R D) (r : Env) : R D := fo r >>= fun d => lift (strO d) >>= fun a => fe r >>= fun e => lift (joinD a e)
@[simp] def lSplit (fo fe : Env → R D) (r : Env) : R (List D) := fo r >>= fun d => lift (strO d) >>= fun a => fe r >>= fun e => lift (splitO a e)
@[simp] def lList (f : Env → R D) (r : Env) : R (List D) := f r >>= fun d => lift (listO d)
@[simp] def lCat (fa fb : Env → R D) (r : Env) : R (List D) := fa r >>= fun d => fb r >>= fun e => lift (catO d e)
@[simp] def lRep (fa fb : Env → R D) (r : Env) : R (List D) := fa r >>= fun d => fb r >>= fun e => lift (repO d e)
@[simp] def xL (g : Env → R (List D)) (r : Env) : R D := mkL (g r)
@[simp] def xCall (f : List D → R D) (fs : Env → R (List D)) (r : Env) : R D := fs r >>= f
@[simp] def lComp (own : List Nat) (tgt : D → Env → Option Env) (tst : Env → R Bool) (el : Env → R D) (fi : Env → R (List D)) (r : Env) : R (List D) := fi r >>= fun items => if items.length ≤ sizeLine then compR own tgt tst el r items else .no
@[simp] def tYes (_ : Env) : R Bool := .ok true
@[simp] def sNil (r : Env) : R Out := .ok (.nx r)
@[simp] def sSeq (f g : Env → R Out) (r : Env) : R Out := seqO (f r) g
@[simp] def sFz (i : Nat) (f : Env → R Out) (r : Env) : R Out := f (fz i r)
@[simp] def sExpr (f : Env → R D) (r : Env) : R Out := f r >>= fun _ => .ok (.nx r)
@[simp] def sRet (f : Env → R D) (r : Env) : R Out := f r >>= fun d => .ok (.rt d)
@[simp] def sIf (f : Env → R Bool) (g h : Env → R Out) (r : Env) : R Out := f r >>= fun k => if k = true then g r else h r
@[simp] def sSet (i : Nat) (f : Env → R D) (r : Env) : R Out := f r >>= fun d => .ok (.nx (r.set i (.sh d)))
@[simp] def sOwn (i : Nat) (f : Env → R (List D)) (r : Env) : R Out := f r >>= fun ds => .ok (.nx (r.set i (.ow ds)))
@[simp] def sApp (i : Nat) (f : Env → R D) (r : Env) : R Out := lift (owO r i) >>= fun ds => f r >>= fun d => if ds.length < sizeLine then .ok (.nx (r.set i (.ow (ds ++ [d])))) else .no
@[simp] def sPut (i : Nat) (f g : Env → R D) (r : Env) : R Out := f r >>= fun d => lift (owO r i) >>= fun ds => g r >>= fun kk => lift ((isI kk).bind (ixN ds.length)) >>= fun j => .ok (.nx (r.set i (.ow (ds.set j d))))
@[simp] def sIns (i : Nat) (g f : Env → R D) (r : Env) : R Out := lift (owO r i) >>= fun ds => g r >>= fun kk => f r >>= fun d => lift (isI kk) >>= fun j => if ds.length < sizeLine ∧ 0 ≤ j ∧ j < 2 ^ 63 then .ok (.nx (r.set i (.ow (ds.take j.toNat ++ [d] ++ ds.drop j.toNat)))) else .no
@[simp] def sRaise (c : Exn) (_ : Env) : R Out := .ex c
@[simp] def sFor (fi : Env → R (List D)) (tgt : D → Env → Option Env) (f : Env → R Out) (r : Env) : R Out := fi r >>= fun ds => forR tgt f ds r
@[simp] def sComp (own' : Bool) (i : Nat) (f : Env → R (List D)) (r : Env) : R Out := f r >>= fun ds => .ok (.nx (r.set i (if own' = true then .ow ds else .sh (.lst ds))))
@[simp] def iList (f : Env → R D) (r : Env) : R (List D) := f r >>= fun d => lift (seqItems d)
@[simp] def iTup (f : Env → R D) (r : Env) : R (List D) := f r >>= fun d => lift (tupItems d)
@[simp] def iStr (f : Env → R D) (r : Env) : R (List D) := f r >>= fun d => lift (strItems d)
@[simp] noncomputable def iR1 (f : Env → R D) (r : Env) : R (List D) := f r >>= fun d => lift (rng1 d)
@[simp] noncomputable def iR2 (f g : Env → R D) (r : Env) : R (List D) := f r >>= fun d => g r >>= fun e => lift (rng2 d e)
@[simp] def iRev (f : Env → R D) (r : Env) : R (List D) := f r >>= fun d => lift (revItems d)

/-! what a module's name holds -/
structure GVK (K : PySem.W.Frag) (mg : Str → Option Value) (x : Str) (d : D) : Prop where
  ex : ∃ v u, mg x = some u ∧ RelV v u ∧ ∀ F, Dn K F v d
structure ExcK (K : PySem.W.Frag) (mg : Str → Option Value) (ca : Exn → Addr) (x : Str) (c : Exn) : Prop where
  q : PySem.W.excIn K (ca c) [.type "ValueError", .type "Exception", .type "BaseException", .type "object"] "ValueError.__new__" = true
  g : mg x = some (.ref (ca c))
  k : PySem.W.keepIn K (.ref (ca c)) = true
  b : PySem.W.subIn K (.ref (ca c)) (.type "BaseException") = some true
  t : PySem.W.typeIn K (.ref (ca c)) = some (.type "type")
theorem gvk_int {K : PySem.W.Frag} {mg : Str → Option Value} {x : Str} {i : Int} {t : Tok} (h : mg x = some (.int i t)) : GVK K mg x (.int i) := ⟨.int i, _, h, ⟨t, rfl⟩, fun _ => by simp [Dn]⟩
theorem gvk_str {K : PySem.W.Frag} {mg : Str → Option Value} {x z : Str} {t : Tok} (h : mg x = some (.str z t)) : GVK K mg x (.str z) := ⟨.str z, _, h, ⟨t, rfl⟩, fun _ => by simp [Dn]⟩
section
variable {X : Cx} {ca : Exn → Addr} {W : WX}
theorem q_var (i : Nat) {x : Str} {pos : Pos} (hN : X.N[i]? = some x := by rfl) (hv : Vis X.env.scope x := by first | exact Or.inl rfl | exact Or.inr (Or.inl rfl) | exact Or.inr (Or.inr rfl)) (hd : (x == ("__debug__" : Str)) = false := by decide)
    (hcd : (x == ("__classdict__" : Str)) = false := by decide) : ED X ca W (.Name x pos) (xSh i) := ed_var i hN hv hd hcd
theorem q_pvar (i : Nat) {x : Str} {pos : Pos} (hN : X.N[i]? = some x := by rfl) (hv : Vis X.env.scope x := by first | exact Or.inl rfl | exact Or.inr (Or.inl rfl) | exact Or.inr (Or.inr rfl)) (hd : (x == ("__debug__" : Str)) = false := by decide)
    (hcd : (x == ("__classdict__" : Str)) = false := by decide) : PD X ca W (.Name x pos) (xPk i) := pd_var i hN hv hd hcd
theorem q_int {i : Int} {j pos} : ED X ca W (.Constant (.int i) j pos) (xC (.int i)) := ed_int
theorem q_bl {b : Bool} {j pos} : ED X ca W (.Constant (.bool b) j pos) (xC (.bl b)) := ed_bl
theorem q_non {j pos} : ED X ca W (.Constant .none j pos) (xC .non) := ed_non
theorem q_str {x : Str} {j pos} : ED X ca W (.Constant (.str x) j pos) (xC (.str x)) := ed_str
theorem q_glob {x : Str} {d : D} {pos : Pos} (h : GVK X.K X.mg x d) (hg : Gl X x := by rfl) (hd : (x == ("__debug__" : Str)) = false := by decide) : ED X ca W (.Name x pos) (xC d) := ed_glob ⟨h.ex⟩ hg hd
theorem q_op {a b : Expr} {op : Operator} {pos : Pos} {g : D → D → Option D} {fa fb : Env → R D} (ho : OpD X (binaryOp op) g) (ha : PD X ca W a fa) (hb : PD X ca W b fb) : ED X ca W (.BinOp a op b pos) (xOp g fa fb) := ed_op ho ha hb
theorem q_cmp {a b : Expr} {op : CmpOp} {pos : Pos} {g : D → D → Option D} {fa fb : Env → R D} (ho : OpD X (compareOp op) g) (ha : PD X ca W a fa) (hb : PD X ca W b fb) (hm : behindInMarks op b = false) : ED X ca W (.Compare a [op] [b] pos) (xOp g fa fb) := ed_cmp ho ha hb hm
theorem q_tcmp {a b : Expr} {op : CmpOp} {pos : Pos} {g : D → D → Option D} {fa fb : Env → R D} (ho : OpD X (compareOp op) g) (ha : PD X ca W a fa) (hb : PD X ca W b fb) (hm : behindInMarks op b = false) : TD X ca W (.Compare a [op] [b] pos) (tB (xOp g fa fb)) := td_cmp ho ha hb hm
theorem q_chain {a b c : Expr} {op op' : CmpOp} {pos : Pos} {g g' : D → D → Option D} {fa fb fc : Env → R D} (ho : OpD X (compareOp op) g) (ho' : OpD X (compareOp op') g') (ha : PD X ca W a fa) (hb : PD X ca W b fb) (hc : PD X ca W c fc)
    (hm : lastMarks [op, op'] [b, c] = false := by with_unfolding_all rfl) : ED X ca W (.Compare a [op, op'] [b, c] pos) (xChain g g' fa fb fc) := ed_chain ho ho' ha hb hc hm
theorem q_tchain {a b c : Expr} {op op' : CmpOp} {pos : Pos} {g g' : D → D → Option D} {fa fb fc : Env → R D} (ho : OpD X (compareOp op) g) (ho' : OpD X (compareOp op') g') (ha : PD X ca W a fa) (hb : PD X ca W b fb) (hc : PD X ca W c fc)
    (hm : lastMarks [op, op'] [b, c] = false := by with_unfolding_all rfl) : TD X ca W (.Compare a [op, op'] [b, c] pos) (tB (xChain g g' fa fb fc)) := td_chain ho ho' ha hb hc hm
theorem q_tval {e : Expr} {f : Env → R D} (h : ED X ca W e f) (he : ∀ whole, isTrue e X.env whole = (do let v ← whole; standAt e.pos; holding [v] (truthy v)) := by intro _; rfl) : TD X ca W e (tB f) := td_val h he
theorem q_twd {e : Expr} {f : Env → R Bool} (h : WD X ca W e f) : TD X ca W e f := td_wd h
theorem q_wand1 {a : Expr} {pos : Pos} {f : Env → R Bool} (h : TD X ca W a f) : WD X ca W (.BoolOp .And [a] pos) f := wd_and1 h
theorem q_wor1 {a : Expr} {pos : Pos} {f : Env → R Bool} (h : TD X ca W a f) : WD X ca W (.BoolOp .Or [a] pos) f := wd_or1 h
theorem q_wand {a b : Expr} {rest : List Expr} {pos : Pos} {f g : Env → R Bool} (h : TD X ca W a f) (h' : WD X ca W (.BoolOp .And (b :: rest) pos) g) : WD X ca W (.BoolOp .And (a :: b :: rest) pos) (tAnd f g) := wd_and h h'
theorem q_wor {a b : Expr} {rest : List Expr} {pos : Pos} {f g : Env → R Bool} (h : TD X ca W a f) (h' : WD X ca W (.BoolOp .Or (b :: rest) pos) g) : WD X ca W (.BoolOp .Or (a :: b :: rest) pos) (tOr f g) := wd_or h h'
theorem q_tnot {a : Expr} {pos : Pos} {f : Env → R Bool} (h : TD X ca W a f) : TD X ca W (.UnaryOp .Not a pos) (tNot f) := td_not h
theorem q_bool1 {op : BoolOp} {a : Expr} {pos : Pos} {f : Env → R D} (h : ED X ca W a f) : ED X ca W (.BoolOp op [a] pos) f := ed_and1 h
theorem q_and {a b : Expr} {rest : List Expr} {pos : Pos} {f g : Env → R D} (h : ED X ca W a f) (h' : ED X ca W (.BoolOp .And (b :: rest) pos) g) : ED X ca W (.BoolOp .And (a :: b :: rest) pos) (xAnd f g) := ed_and h h'
theorem q_or {a b : Expr} {rest : List Expr} {pos : Pos} {f g : Env → R D} (h : ED X ca W a f) (h' : ED X ca W (.BoolOp .Or (b :: rest) pos) g) : ED X ca W (.BoolOp .Or (a :: b :: rest) pos) (xOr f g) := ed_or h h'
theorem q_not {a : Expr} {pos : Pos} {f : Env → R D} (h : ED X ca W a f) : ED X ca W (.UnaryOp .Not a pos) (xNot f) := ed_not h
theorem q_ix {a b : Expr} {pos : Pos} {fa fb : Env → R D} (ha : PD X ca W a fa) (hb : PD X ca W b fb) (hs : PlainIx b) : ED X ca W (.Subscript a b pos) (xIx fa fb) := ed_ix ha hb hs
theorem q_neg {a : Expr} {pos : Pos} {fa : Env → R D} (ha : PD X ca W a fa) : ED X ca W (.UnaryOp .USub a pos) (xNeg fa) := ed_neg ha
theorem q_onone : OD X ca W none oNone := od_none
theorem q_osome {e : Expr} {f : Env → R D} (h : PD X ca W e f) : OD X ca W (some e) (oSome f) := od_some h
theorem q_sl {a : Expr} {lo hi : Option Expr} {pos p2 : Pos} {fa : Env → R D} {fl fh : Env → R (Option Int)} (ha : PD X ca W a fa) (hl : OD X ca W lo fl) (hh : OD X ca W hi fh) : ED X ca W (.Subscript a (.Slice lo hi none p2) pos) (xSl fa fl fh) := ed_sl ha hl hh
theorem q_pnil : APD X ca W [] aNil := apd_nil
theorem q_pcons {e : Expr} {es : List Expr} {f : Env → R D} {g : Env → R (List D)} (h : PD X ca W e f) (h' : APD X ca W es g) (hs : starEach (e :: es) X.env = (false, eval e X.env) :: starEach es X.env := by rfl) : APD X ca W (e :: es) (aCons f g) := apd_cons h h' hs
theorem q_anil : AD X ca W [] aNil := ad_nil
theorem q_acons {e : Expr} {es : List Expr} {f : Env → R D} {g : Env → R (List D)} (h : ED X ca W e f) (h' : AD X ca W es g) (hs : starEach (e :: es) X.env = (false, eval e X.env) :: starEach es X.env := by rfl) : AD X ca W (e :: es) (aCons f g) := ad_cons h h' hs
theorem q_tup {es : List Expr} {x1} {pos : Pos} {g : Env → R (List D)} (h : AD X ca W es g) : ED X ca W (.Tuple es x1 pos) (xTup g) := ed_tup h
theorem q_lst {es : List Expr} {pos : Pos} {g : Env → R (List D)} (h : AD X ca W es g) : FD X ca W (.List es pos) (lLst g) := fd_lst h
theorem q_callB {x : Str} {id : String} {e : Expr} {es : List Expr} {p pos : Pos} {g : List D → Option D} {fs : Env → R (List D)} (hc : CallD X (.builtin id) g) (hm : X.mg x = none) (ha : APD X ca W (e :: es) fs) (hv : bootBuiltins x = some (.builtin id) := by decide +kernel)
    (hg : Gl X x := by rfl) (hn : x ≠ "__name__" := by decide) (hdb : (x == ("__debug__" : Str)) = false := by decide)
    (he : starEach (e :: es) X.env = (false, eval e X.env) :: starEach es X.env := by rfl) (hpl : (backTo pos (starEach es X.env)).any (·.1) = false := by rfl) : ED X ca W (.Call (.Name x p) (e :: es) [] pos) (xB g fs) := ed_callB hc hm hv ha hg hn hdb he hpl
theorem q_callT {x : Str} {T : String} {e : Expr} {es : List Expr} {p pos : Pos} {g : List D → Option D} {fs : Env → R (List D)} (hc : CallD X (.type T) g) (hm : X.mg x = none) (ha : APD X ca W (e :: es) fs) (hv : bootBuiltins x = some (.type T) := by decide +kernel)
    (hg : Gl X x := by rfl) (hn : x ≠ "__name__" := by decide) (hdb : (x == ("__debug__" : Str)) = false := by decide)
    (he : starEach (e :: es) X.env = (false, eval e X.env) :: starEach es X.env := by rfl) (hpl : (backTo pos (starEach es X.env)).any (·.1) = false := by rfl) : ED X ca W (.Call (.Name x p) (e :: es) [] pos) (xB g fs) := ed_callT hc hm hv ha hg hn hdb he hpl
theorem q_isi {a : Expr} {x : Str} {T : String} {p p2 pos : Pos} {f : Env → R D} (hm : X.mg "isinstance" = none) (hm2 : X.mg x = none) (ha : PD X ca W a f) (hv : bootBuiltins x = some (.type T) := by decide +kernel) (hg : Gl X "isinstance" := by rfl) (hg2 : Gl X x := by rfl)
    (he : starEach [a, .Name x p2] X.env = (false, eval a X.env) :: starEach [.Name x p2] X.env := by rfl) (he2 : starEach [.Name x p2] X.env = (false, eval (.Name x p2) X.env) :: starEach [] X.env := by rfl) (hpl : (backTo pos (starEach [.Name x p2] X.env)).any (·.1) = false := by rfl)
    (hn : x ≠ "__name__" := by decide) (hdb : (x == ("__debug__" : Str)) = false := by decide) : ED X ca W (.Call (.Name "isinstance" p) [a, .Name x p2] [] pos) (xIsi T f) := ed_isi hm hm2 hv ha hg hg2 he he2 hpl hn hdb
theorem q_join {o e : Expr} {apos pos : Pos} {fo fe : Env → R D} (ho : PD X ca W o fo) (he : PD X ca W e fe) (hs : starEach [e] X.env = [(false, eval e X.env)] := by rfl) (hbase : attributeBase o "join" X.env (eval o X.env) = eval o X.env := by rfl) (hline : (apos.endLine == pos.line) = true := by rfl) :
    ED X ca W (.Call (.Attribute o "join" apos) [e] [] pos) (xJoin fo fe) := ed_join ho he hs hbase hline
theorem q_split {o e : Expr} {apos pos : Pos} {fo fe : Env → R D} (ho : PD X ca W o fo) (he : PD X ca W e fe) (hs : starEach [e] X.env = [(false, eval e X.env)] := by rfl) (hbase : attributeBase o "split" X.env (eval o X.env) = eval o X.env := by rfl) (hline : (apos.endLine == pos.line) = true := by rfl) :
    FD X ca W (.Call (.Attribute o "split" apos) [e] [] pos) (lSplit fo fe) := fd_split ho he hs hbase hline
theorem q_list {a : Expr} {p pos : Pos} {f : Env → R D} (hm : X.mg "list" = none) (ha : PD X ca W a f) (hg : Gl X "list" := by rfl)
    (he : starEach [a] X.env = (false, eval a X.env) :: starEach [] X.env := by rfl) (hpl : (backTo pos (starEach [] X.env)).any (·.1) = false := by rfl) : FD X ca W (.Call (.Name "list" p) [a] [] pos) (lList f) := fd_list hm ha hg he hpl
theorem q_cat {a b : Expr} {pos : Pos} {fa fb : Env → R D} (ha : PD X ca W a fa) (hb : PD X ca W b fb) : FD X ca W (.BinOp a .Add b pos) (lCat fa fb) := fd_cat ha hb
theorem q_rep {a b : Expr} {pos : Pos} {fa fb : Env → R D} (ha : PD X ca W a fa) (hb : PD X ca W b fb) : FD X ca W (.BinOp a .Mult b pos) (lRep fa fb) := fd_rep ha hb
theorem q_fd {e : Expr} {g : Env → R (List D)} (h : FD X ca W e g) : ED X ca W e (xL g) := ed_fd h
theorem q_pd {e : Expr} {f : Env → R D} (h : ED X ca W e f) : PD X ca W e f := pd_ed h
theorem q_call {name : Str} {k : Nat} {f : List D → R D} {e : Expr} {es : List Expr} {p pos : Pos} {fs : Env → R (List D)}
    (h : DefD X.prog X.w X.K X.mg X.base ca name k f) (hr : Room k X.A) (tk : Takes X W) (ha : AD X ca W (e :: es) fs) (hg : Gl X name := by rfl) (hdb : (name == ("__debug__" : Str)) = false := by decide)
    (he : starEach (e :: es) X.env = (false, eval e X.env) :: starEach es X.env := by rfl) (hpl : (backTo pos (starEach es X.env)).any (·.1) = false := by rfl) : ED X ca W (.Call (.Name name p) (e :: es) [] pos) (xCall f fs) := ed_call h hr tk ha hg hdb he hpl
theorem q_ilist {tg e : Expr} {f : Env → R D} (h : ED X ca W e f) : ID X ca W tg e (iList f) := id_list h
theorem q_itup {tg e : Expr} {f : Env → R D} (h : ED X ca W e f) : ID X ca W tg e (iTup f) := id_tup h
theorem q_istr {tg e : Expr} {f : Env → R D} (h : PD X ca W e f) : ID X ca W tg e (iStr f) := id_str h
theorem q_r1 {tg a : Expr} {p pos : Pos} {f : Env → R D} (hm : X.mg "range" = none) (h : PD X ca W a f) (hg : Gl X "range" := by rfl) (hs : starEach [a] X.env = [(false, eval a X.env)] := by rfl) (hs1 : starEach [a] X.env = (false, eval a X.env) :: starEach [] X.env := by rfl) :
    ID X ca W tg (.Call (.Name "range" p) [a] [] pos) (iR1 f) := id_range1 hm h hg hs hs1
theorem q_r2 {tg a b : Expr} {p pos : Pos} {f g : Env → R D} (hm : X.mg "range" = none) (h : PD X ca W a f) (h' : PD X ca W b g) (hg : Gl X "range" := by rfl) (hs : starEach [a, b] X.env = [(false, eval a X.env), (false, eval b X.env)] := by rfl) (hs2 : starEach [b] X.env = [(false, eval b X.env)] := by rfl)
    (hs1 : starEach [a, b] X.env = (false, eval a X.env) :: starEach [b] X.env := by rfl) (hs3 : starEach [b] X.env = (false, eval b X.env) :: starEach [] X.env := by rfl) :
    ID X ca W tg (.Call (.Name "range" p) [a, b] [] pos) (iR2 f g) := id_range2 hm h h' hg hs hs2 hs1 hs3
theorem q_rev {tg a : Expr} {p pos : Pos} {f : Env → R D} (hm : X.mg "reversed" = none) (h : ED X ca W a f) (hg : Gl X "reversed" := by rfl) (hs : starEach [a] X.env = [(false, eval a X.env)] := by rfl) (hs1 : starEach [a] X.env = (false, eval a X.env) :: starEach [] X.env := by rfl) :
    ID X ca W tg (.Call (.Name "reversed" p) [a] [] pos) (iRev f) := id_rev hm h hg hs hs1
theorem q_nil : SDs X ca W [] sNil := sds_nil
theorem q_one {st : Stmt} {f : Env → R Out} (h : SD X ca W st f) : SDs X ca W [st] f := sds_one h
theorem q_seq {st : Stmt} {rest : List Stmt} {f g : Env → R Out} (h : SD X ca W st f) (h' : SDs X ca W rest g) : SDs X ca W (st :: rest) (sSeq f g) := sds_cons h h'
theorem q_fz (i : Nat) {st : Stmt} {f : Env → R Out} (h : SD X ca W st f) : SD X ca W st (sFz i f) := sd_fz i h
theorem q_expr {e : Expr} {pos : Pos} {f : Env → R D} (h : ED X ca W e f) (hs : swapsWith e none pos.line X.env = pure false := by rfl) : SD X ca W (.Expr e pos) (sExpr f) := sd_expr h hs
theorem q_ret {e : Expr} {pos : Pos} {f : Env → R D} (h : ED X ca W e f) : SD X ca W (.Return (some e) pos) (sRet f) := sd_ret h
theorem q_if {c : Expr} {a b : List Stmt} {pos : Pos} {f : Env → R Bool} {g h : Env → R Out} (hc : TD X ca W c f) (ha : SDs X ca W a g) (hb : SDs X ca W b h) : SD X ca W (.If c a b pos) (sIf f g h) := sd_if hc ha hb
theorem q_set (i : Nat) {x : Str} {e : Expr} {pos pos' : Pos} {f : Env → R D} (hN : X.N.Nodup) (h : ED X ca W e f) (hi : X.N[i]? = some x := by rfl) (hx : Loc X.env.scope x := by first | exact Or.inl rfl | exact Or.inr rfl) (hs : swapsWith e (some (.Name x pos')) pos.line X.env = pure false := by rfl) (hf : X.fn x = true ∨ X.env.scope.names.lookup x = some .local := by first | exact .inl rfl | exact .inr rfl) :
    SD X ca W (.Assign [.Name x pos'] e pos) (sSet i f) := sd_set i hN h hi hx hs hf
theorem q_own (i : Nat) {x : Str} {e : Expr} {pos pos' : Pos} {f : Env → R (List D)} (hN : X.N.Nodup) (h : FD X ca W e f) (hi : X.N[i]? = some x := by rfl) (hx : Loc X.env.scope x := by first | exact Or.inl rfl | exact Or.inr rfl) (hs : swapsWith e (some (.Name x pos')) pos.line X.env = pure false := by rfl) (hf : X.fn x = true ∨ X.env.scope.names.lookup x = some .local := by first | exact .inl rfl | exact .inr rfl) :
    SD X ca W (.Assign [.Name x pos'] e pos) (sOwn i f) := sd_own i hN h hi hx hs hf
theorem q_app (i : Nat) {x : Str} {e : Expr} {p2 apos cpos pos : Pos} {f : Env → R D} (h : ED X ca W e f) (hN : X.N[i]? = some x := by rfl) (hv : Vis X.env.scope x := by first | exact Or.inl rfl | exact Or.inr (Or.inl rfl) | exact Or.inr (Or.inr rfl)) (hd : (x == ("__debug__" : Str)) = false := by decide)
    (hcd : (x == ("__classdict__" : Str)) = false := by decide) (hbase : attributeBase (.Name x p2) "append" X.env (eval (.Name x p2) X.env) = eval (.Name x p2) X.env := by rfl)
    (hfew : ((backTo cpos (starEach [e] X.env)).all (fun x => !x.1) && (backToKw cpos (keywordEach [] X.env)).all (fun x => x.1.isSome)
      && decide (([e] : List Expr).length + ([] : List Keyword).length + (if ([] : List Keyword).isEmpty then 0 else 1) < 30)) = true := by rfl)
    (hline : (apos.endLine == cpos.line) = true := by rfl) (hs : starEach [e] X.env = (false, eval e X.env) :: starEach [] X.env := by rfl) (hplain : (backTo cpos (starEach [] X.env)).any (·.1) = false := by rfl)
    (hsw : swapsWith (.Call (.Attribute (.Name x p2) "append" apos) [e] [] cpos) none pos.line X.env = pure false := by rfl) :
    SD X ca W (.Expr (.Call (.Attribute (.Name x p2) "append" apos) [e] [] cpos) pos) (sApp i f) := sd_append i h hN hv hd hcd hbase hfew hline hs hplain hsw
theorem q_put (i : Nat) {x : Str} {k e : Expr} {p2 pos pos' : Pos} {f g : Env → R D} (h : ED X ca W e f) (hk : ED X ca W k g) (hN : X.N[i]? = some x := by rfl) (hv : Vis X.env.scope x := by first | exact Or.inl rfl | exact Or.inr (Or.inl rfl) | exact Or.inr (Or.inr rfl)) (hd : (x == ("__debug__" : Str)) = false := by decide)
    (hcd : (x == ("__classdict__" : Str)) = false := by decide) (hs : swapsWithSole [.Subscript (.Name x p2) k pos'] e pos.line X.env = pure false := by rfl) (hw : swappedStores [.Subscript (.Name x p2) k pos'] e X.env = pure none := by rfl)
    (h1 : (assignEach [.Subscript (.Name x p2) k pos'] X.env).map (·.2) = [assign (.Subscript (.Name x p2) k pos') X.env] := by rfl)
    (ha : ∀ v, assign (.Subscript (.Name x p2) k pos') X.env v = (do
      let ov ← holding [v] (eval (.Name x p2) X.env)
      let iv ← holding [v, ov] (eval k X.env)
      standAt pos'
      holding [v, ov, iv] (setItem ov iv v)
      release [v, ov, iv] []) := by intro _; rfl) : SD X ca W (.Assign [.Subscript (.Name x p2) k pos'] e pos) (sPut i f g) := sd_put i h hk hN hv hd hcd hs hw h1 ha
theorem q_ins (i : Nat) {x : Str} {k e : Expr} {p2 apos cpos pos : Pos} {f g : Env → R D} (hk : ED X ca W k g) (h : ED X ca W e f) (hN : X.N[i]? = some x := by rfl) (hv : Vis X.env.scope x := by first | exact Or.inl rfl | exact Or.inr (Or.inl rfl) | exact Or.inr (Or.inr rfl)) (hd : (x == ("__debug__" : Str)) = false := by decide)
    (hcd : (x == ("__classdict__" : Str)) = false := by decide) (hbase : attributeBase (.Name x p2) "insert" X.env (eval (.Name x p2) X.env) = eval (.Name x p2) X.env := by rfl)
    (hfew : ((backTo cpos (starEach [k, e] X.env)).all (fun x => !x.1) && (backToKw cpos (keywordEach [] X.env)).all (fun x => x.1.isSome)
      && decide (([k, e] : List Expr).length + ([] : List Keyword).length + (if ([] : List Keyword).isEmpty then 0 else 1) < 30)) = true := by rfl)
    (hline : (apos.endLine == cpos.line) = true := by rfl) (hs : starEach [k, e] X.env = (false, eval k X.env) :: starEach [e] X.env := by rfl) (hs2 : starEach [e] X.env = (false, eval e X.env) :: starEach [] X.env := by rfl) (hplain : (backTo cpos (starEach [e] X.env)).any (·.1) = false := by rfl)
    (hsw : swapsWith (.Call (.Attribute (.Name x p2) "insert" apos) [k, e] [] cpos) none pos.line X.env = pure false := by rfl) :
    SD X ca W (.Expr (.Call (.Attribute (.Name x p2) "insert" apos) [k, e] [] cpos) pos) (sIns i g f) := sd_insert i hk h hN hv hd hcd hbase hfew hline hs hs2 hplain hsw
theorem q_raise {x m : Str} {j : Nat} {p p2 p3 pos : Pos} {c : Exn} (hc : X.calm = true) (tk : Takes X W) (e : ExcK X.K X.mg ca x c) (hg : Gl X x := by rfl) (hdb : (x == ("__debug__" : Str)) = false := by decide) :
    SD X ca W (.Raise (some (.Call (.Name x p) [.Constant (.str m) j p2] [] p3)) none pos) (sRaise c) := sd_raise hc tk ⟨e.q, e.g, e.k, e.b, e.t⟩ hg hdb
theorem q_for {tg iter : Expr} {body : List Stmt} {pos : Pos} {sl : List Nat} {fi : Env → R (List D)} {tgt : D → Env → Option Env} {f : Env → R Out} (hp : PassesOwn (model X.prog X.w) X.A X.env X.xe) (hc : X.calm = true) (hi : ID X ca W tg iter fi) (hg : GD X tg sl tgt) (hb : SDs X ca W body f)
    (hs : ∀ x, foldedSetIterable iter X.env x = pure x := by intro _; rfl) : SD X ca W (.For tg iter body [] pos) (sFor fi tgt f) := sd_for hp hc hi hg hb hs
theorem q_while (fuel : Nat) {c : Expr} {body : List Stmt} {pos : Pos} {fc : Env → R Bool} {f : Env → R Out} (hp : PassesOwn (model X.prog X.w) X.A X.env X.xe) (hc : TD X ca W c fc) (hb : SDs X ca W body f) : SD X ca W (.While c body [] pos) (whileR fc f fuel) := sd_while fuel hp hc hb
theorem q_comp {elt tg iter : Expr} {ifs : List Expr} {scope : Scope} (own : List (Str × Nat)) {pos : Pos} {sl : List Nat} {tgt : D → Env → Option Env} {tst : Env → R Bool} {el : Env → R D} {fi : Env → R (List D)} (hc : X.calm = true) (hN : X.N.Nodup) (hi : ID X ca W tg iter fi) (ok : BlkOk X.N X.env.scope scope own)
    (hg : ∀ (s : Shared) (H : Hp) (C : Addr) (cl : List (Str × Addr)) (fp : List Addr), GD (X.blk s H scope (compEnvC scope cl C X.env) fp) tg sl tgt) (ht : ∀ (s : Shared) (H : Hp) (C : Addr) (cl : List (Str × Addr)) (fp : List Addr), TsD (X.blk s H scope (compEnvC scope cl C X.env) fp) ca W0 ifs tst)
    (he : ∀ (s : Shared) (H : Hp) (C : Addr) (cl : List (Str × Addr)) (fp : List Addr), ED (X.blk s H scope (compEnvC scope cl C X.env) fp) ca W0 elt el) (hsl : (sl.all fun i => (own.map (·.2)).contains i) = true := by decide) (hs : ∀ x, foldedSetIterable iter X.env x = pure x := by intro _; rfl) :
    FD X ca W (.ListComp elt [⟨tg, iter, ifs, 0⟩] scope pos) (lComp (own.map (·.2)) tgt tst el fi) := fd_comp hc hN hi ok hg ht he hsl hs
theorem q_scomp (own' : Bool) (i : Nat) {y : Str} {py : Pos} {elt tg iter : Expr} {ifs : List Expr} {scope : Scope} (own : List (Str × Nat)) {pos spos : Pos} {sl : List Nat} {tgt : D → Env → Option Env} {tst : Env → R Bool} {el : Env → R D} {fi : Env → R (List D)} (hc : X.calm = true) (hN : X.N.Nodup) (hi : ID X ca W tg iter fi) (ok : BlkOk X.N X.env.scope scope own)
    (hg : ∀ (s : Shared) (H : Hp) (C : Addr) (cl : List (Str × Addr)) (fp : List Addr), GD (X.blk s H scope (compEnvC scope cl C X.env) fp) tg sl tgt) (ht : ∀ (s : Shared) (H : Hp) (C : Addr) (cl : List (Str × Addr)) (fp : List Addr), TsD (X.blk s H scope (compEnvC scope cl C X.env) fp) ca W0 ifs tst)
    (he : ∀ (s : Shared) (H : Hp) (C : Addr) (cl : List (Str × Addr)) (fp : List Addr), ED (X.blk s H scope (compEnvC scope cl C X.env) fp) ca W0 elt el) (hsw : swapsWith (.ListComp elt [⟨tg, iter, ifs, 0⟩] scope pos) (some (.Name y py)) spos.line X.env = pure true) (hy : X.N[i]? = some y := by rfl) (hyl : X.env.scope.names.lookup y = some .local := by rfl)
    (hsl : (sl.all fun i => (own.map (·.2)).contains i) = true := by decide) (hs : ∀ x, foldedSetIterable iter X.env x = pure x := by intro _; rfl) :
    SD X ca W (.Assign [.Name y py] (.ListComp elt [⟨tg, iter, ifs, 0⟩] scope pos) spos) (sComp own' i (lComp (own.map (·.2)) tgt tst el fi)) := sd_comp own' i hc hN hi ok hg ht he hsw hy hyl hsl hs
theorem u64 {k : Nat} {A : Around} (hr : Room k A) : A.units + 64 < cLine := hr.units
theorem u65 {k : Nat} {A : Around} (hr : Room k A) : A.units + 65 < cLine := by have := hr.un; omega
end
/-! ### the law's end -/
section
variable {P : Program} {w : World} {K : PySem.W.Frag} {mg : Str → Option Value} {base : Heap} {ca : Exn → Addr}
theorem def_fn {x qual : Str} {st : Stmt} {fa : Addr} {fd : FuncData} {N ps : List Str} {k : Nat} {f : List D → R D} {body : Env → R Out} (F : Fun K x qual st fa fd) (S : FnScope N ps (defScope st)) (ar : Ar ps.length f)
    (hf : ∀ ds, ds.length = ps.length → f ds = bodyR (body (startE N.length ds)))
    (h : ∀ (cdv : Value) (A : Around) (outer : List PySem.Env) (s : Shared) (H : Hp) (E : XK), Room k (A.deeper (envOfC qual (defScope st) s.heap.objs.size fa cdv)) →
      SDs (cxOf (L2.CX P w) P w K mg base N qual (defScope st) fa cdv A outer s H E) ca (fun cls d _ H => E cls d H) (defBody st) body) :
    FnOk P w K mg base (L2.CX P w) (k + 1) fa fd ps (SpD K ca f) := by
  refine F.okX S (fun vs H Q E sp => ?_) (fun cdv A outer s H vs Q E hr sp => ?_)
  · obtain ⟨Fz, ds, s, n, w⟩ := sp
    rw [n.length]
    refine Classical.byContradiction fun hne => ?_
    rw [ar ds hne] at w
    exact w
  · obtain ⟨Fz, ds, s', n, wp⟩ := sp
    obtain ⟨t, p, q⟩ := h cdv A outer s H E hr
    refine ⟨t, p, ?_⟩
    have hl : ds.length = ps.length := Classical.byContradiction fun hne => by
      rw [ar ds hne] at wp
      exact wp
    rw [hf ds hl] at wp
    refine q Fz H _ _ Fz H _ (Sim.start s' n) ((Wp.bind (r := body (startE N.length ds)) wp).mono (fun o k => ?_) fun c k σ' F' H' G => k F' H' G)
    cases o with
    | nx r => exact fun σ' F' H' S' _ => k .non F' H' S'.base (by simp [Dn])
    | rt d => exact fun v F' H' G n => k v F' H' G n
theorem law_sp {f : D → R D} {H : Hp} {a : Addr} {ns : List Int} (h : f (.scr ns) = .ok (.bl true)) (hs : SqL K H a (ns.map V.int)) : SpD K ca (fun1 f) [.ref a] H (fun v _ => v = .bl true) fun _ _ _ => False := by
  refine ⟨H, [.scr ns], Same.refl _, ?_, ?_⟩
  · simp only [DnL, Dn]
    exact ⟨⟨a, rfl, hs⟩, trivial⟩
  · rw [fun1_ok, h]
    intro v F' H' G n
    simpa [Dn] using n
theorem cxl_end {H : Hp} {s : Shared} {e : Value} {s' : Shared} (h : L2.CX P w [] H s (fun _ _ _ => False) e s') : False := by
  obtain ⟨_, _, _, _, _, _, _, _, _, _, _, _, z⟩ := h
  exact z.elim
end
end DL

set_option Elab.async false
set_option linter.all false
set_option maxRecDepth 100000
set_option maxHeartbeats 2000000
/-! DL9: the rest of the words; the law's end -/
namespace DL
open PySem PySem.Spec PyProof.Rows L2

theorem sqt_k {K : PySem.W.Frag} {F : Hp} {a : Addr} {o : Obj} {xs : List Str} {us : Array Value} {n : Nat} (hl : K.lookup a = some o) (hc : o.cls = .type "tuple") (hd : o.data = .seq us n) (hz : us.size ≤ sizeLine) (hv : Vals (xs.map V.str) us.toList) : SqT K F a (xs.map V.str) :=
  .inr ⟨o, us, n, hl, hc, hd, hz, hv⟩
/-- a tuple of texts of the top -/
theorem gvk_tup {K : PySem.W.Frag} {mg : Str → Option Value} {x : Str} {xs : List Str} {v : Addr} {o : Obj} {us : Array Value} {n : Nat} (h : mg x = some (.ref v)) (hl : K.lookup v = some o) (hc : o.cls = .type "tuple") (hd : o.data = .seq us n) (hz : us.size ≤ sizeLine) (hv : Vals (xs.map V.str) us.toList) : GVK K mg x (.tup (xs.map D.str)) :=
  ⟨.ref v, _, h, rfl, fun F => by
    simp only [Dn]
    exact ⟨v, _, rfl, sqt_k hl hc hd hz hv, Dn.strs xs⟩⟩

theorem tk_of {P : Program} {w : World} {K : PySem.W.Frag} {mg : Str → Option Value} {base : Heap} {N : List Str} {qual : Str} {sc : Scope} {f : Addr} {cd : Value} {A : Around} {outer : List PySem.Env} {s : Shared} {H : Hp} {E : XK} :
    Takes (cxOf (L2.CX P w) P w K mg base N qual sc f cd A outer s H E) (fun cls d _ H => E cls d H) := takes_of rfl rfl rfl rfl
theorem hp_of {P : Program} {w : World} {K : PySem.W.Frag} {mg : Str → Option Value} {base : Heap} {N : List Str} {qual : Str} {sc : Scope} {f : Addr} {cd : Value} {A : Around} {outer : List PySem.Env} {s : Shared} {H : Hp} {E : XK} :
    PassesOwn (model (cxOf (L2.CX P w) P w K mg base N qual sc f cd A outer s H E).prog (cxOf (L2.CX P w) P w K mg base N qual sc f cd A outer s H E).w) (cxOf (L2.CX P w) P w K mg base N qual sc f cd A outer s H E).A (cxOf (L2.CX P w) P w K mg base N qual sc f cd A outer s H E).env (cxOf (L2.CX P w) P w K mg base N qual sc f cd A outer s H E).xe := passes_of (X := cxOf (L2.CX P w) P w K mg base N qual sc f cd A outer s H E) rfl

/-- the goal that k_head leaves, from the law's function -/
theorem walk_d {l : PySem.W.OpenLaw} {n k : Nat} {q : Program} {loose : List Str} {XP : (Str → Option Value) → Heap → Prop} {YP : World → Heap → Prop} {d : DefRec} {K : Params → PySem.W.Frag} {x : Str} {f : D → R D}
    (hn : l.most = some n) (hn2 : n ≤ sizeLine) (hdf : d.params.defaults = []) (hr : Room k callerA)
    (hY : ∀ (w : World) (h : Heap), YP w h → (K w.params).In h)
    (F : ∀ (w : World) (mg : Str → Option Value) (fa : Addr) (h : Heap), (K w.params).In h → h.Ns mainGlobals mg → mg d.name = some (.ref fa) →
      ∃ fd : FuncData, (∀ (s : Shared) (u : Value), BindsTo s fd ⟨[u], []⟩ [(x, u)]) ∧
        ∀ base : Heap, (K w.params).In base → base.Ns mainGlobals mg → ∃ ca : Exn → Addr, FnOk l.prog w (K w.params) mg base (L2.CX l.prog w) k fa fd [x] (SpD (K w.params) ca (fun1 f)))
    (ok : ∀ ns : List Int, ns.length ≤ n → f (.scr ns) = .ok (.bl true)) :
    PySem.W.WalkO q loose XP YP l.row.toRowW d [] (fun f vs => PySem.call f vs) := by
  refine L2.walk_of (K := K) (CX := fun w => L2.CX l.prog w) (sp := fun w vs H Q E => ∀ ca, SpD (K w.params) ca (fun1 f) vs H Q E) (x := x) hn hn2 hdf hr hY (fun w mg fa h a b c => ?_) (fun w H a ns hl _ hs ca => law_sp (ok ns hl) hs) (fun w H s e s' h => cxl_end h)
  obtain ⟨fd, h1, h2⟩ := F w mg fa h a b c
  refine ⟨fd, h1, fun base x1 x2 => ?_⟩
  obtain ⟨ca, h3⟩ := h2 base x1 x2
  exact h3.imp fun vs H Q E z => z ca

/-! ### words whose rules stand further on -/
def revO : D → Option (List D)
  | .lst ds => some ds.reverse
  | .str z => if z.length ≤ sizeLine then some (z.cps.toList.reverse.map fun c => .str ⟨#[c]⟩) else none
  | _ => none
@[simp] def lRev (f : Env → R D) (r : Env) : R (List D) := f r >>= fun d => lift (revO d)
def minLD : List D → Option D
  | [.lst ds] => (intsOf ds).bind fun ns => match ns with
    | [] => none
    | n :: ns => some (.int (ns.foldl min n))
  | _ => none
end DL

set_option Elab.async false
set_option linter.all false
set_option maxRecDepth 100000
set_option maxHeartbeats 2000000
/-! DL10: list(reversed(a list or a text)) -/
namespace DLR
open PySem PySem.Spec PyProof.Rows L2

/-! ### reversed(text) -/
theorem norev_str : typeLookup (.type "str") "__reversed__" = pure none := by rw [typeLookup_type, builtinLookup_eq_fast]; kernel_rfl
theorem sub_str_dict : isSubtype (.type "str") (.type "dict") = pure false := by rw [isSubtype_type]; kernel_rfl
theorem nolen_rt : typeLookup (.type "reversed") "__len__" = pure none := by rw [typeLookup_type, builtinLookup_eq_fast]; kernel_rfl
theorem slot_rt_hint : Slot "reversed" "__length_hint__" "reversed.__length_hint__" :=
  .of (owner := "reversed") (n := "__length_hint__") (by rw [typeLookup_type, builtinLookup_eq_fast]; kernel_rfl) (by decide +kernel) (by decide +kernel) (by decide +kernel)
    (by first | exact .inl (by decide +kernel) | exact .inr (by decide +kernel)) (by rw [isSubtype_type]; kernel_rfl)
theorem entry_rt_hint : entryFor table "reversed.__length_hint__" = some Builtin.«reversed.__length_hint__» := entryFor_of_tree (by kernel_rfl)
theorem args_rt_hint (a : Value) : argsOk "reversed.__length_hint__" ⟨[a], []⟩ := by
  unfold argsOk; rw [signature?_of (id := "reversed.__length_hint__") (n := ['_', '_', 't', 'n', 'i', 'h', '_', 'h', 't', 'g', 'n', 'e', 'l', '_', '_']) (o := ['d', 'e', 's', 'r', 'e', 'v', 'e', 'r']) (by kernel_rfl) RT.owner_rt]; kernel_rfl

def rsObj (x : Str) (t : Tok) (i : Int) : Obj := { cls := .type "reversed", data := .fields #[.str x t, rawInt i] }
/-- reversed(x), the next place i -/
def IsRs (h : Heap) (a : Addr) (x : Str) (t : Tok) (i : Int) : Prop := ∃ o, h.get? a = some o ∧ o.cls = .type "reversed" ∧ o.data = .fields #[.str x t, rawInt i]
theorem IsRs.at {h h' : Heap} {a : Addr} {x : Str} {t : Tok} {i : Int} (y : IsRs h a x t i) (e : ∀ o, h.get? a = some o → h'.get? a = some o) : IsRs h' a x t i := let ⟨o, ho, r⟩ := y; ⟨o, e _ ho, r⟩
section
variable {prog : Program} {w : World} {A : Around} {E : Value → Shared → Prop} {s : Shared}
theorem IsRs.typeIs {a : Addr} {x : Str} {t : Tok} {i : Int} (y : IsRs s.heap a x t i) : s.TypeIs (.ref a) "reversed" := let ⟨o, ho, hc, _⟩ := y; ⟨o, ho, hc⟩

theorem code_reversed_str {x : Str} {t : Tok} {Q₁ : Value → Shared → Prop} (hx : x.length ≤ sizeLine)
    (h : Q₁ (.ref s.heap.objs.size) { s with heap := s.heap.push (rsObj x t ((x.length : Int) - 1)), toks := s.toks + 1 + 1 }) :
    codeAny (model prog w) A (.call (.builtin "reversed.__new__") ⟨[.type "reversed", .str x t], []⟩) (wants Q₁ E) s := by
  have hT : s.TypeIs (.str x t) "str" := typeIs_str s x t
  have hn := line63
  refine codeAny_of_tree ?_
  show wpAny _ A.in1 (do checkBuiltinCall "reversed.__new__" ⟨[.type "reversed", .str x t], []⟩; again (.builtin "reversed.__new__" ⟨[.type "reversed", .str x t], []⟩)) _ _ s
  refine wpAny_bind (wpAny_of_eq (F.newCall_reversed_1 _) (wpAny_pure ⟨plainId_quiet F.plain_reversed_new _, codeAny_builtin F.entry_reversed_new ?_⟩))
  rw [Around.under_plainId F.plain_reversed_new _]
  unfold Builtin.«reversed.__new__»
  refine wpAny_bind (wpAny_of_eq (newClass_reversed _) ?_)
  try dsimp only
  refine wpAny_bind (wpAny_of_eq (a := ()) (by first | rfl | kernel_rfl) ?_)
  try dsimp only
  refine wpAny_bind (wpAny_of_eq (a := ()) (by first | rfl | kernel_rfl) ?_)
  try dsimp only
  refine wpAny_bind (wpAny_specialOf hT norev_str ?_)
  try dsimp only
  refine wpAny_bind ?_
  wp_delta
  refine wpAny_bind (wpAny_isInstance (T := "str") (U := "dict") (b := false) hT sub_str_dict ?_)
  try dsimp only
  try rw [if_neg Bool.false_ne_true]
  try dsimp only
  refine wpAny_bind (wpAny_specialOf hT F.slot_str_getitem.lookup ?_)
  try dsimp only
  try rw [if_pos (by decide +kernel)]
  refine wpAny_pure ?_
  try dsimp only
  try rw [if_neg (by decide)]
  try dsimp only
  refine wpAny_bind (len_str (by omega) ?_)
  refine wpAny_bind (wpAny_of_eq (a := some ((x.length : Nat) : Int)) rfl ?_)
  try dsimp only
  refine wpAny_bind ?_
  show wpAny _ _ (newObj (.type "reversed") (.fields #[.str x t, rawInt ((x.length : Int) - 1)])) _ _ _
  refine wpAny_newObj_type ?_
  exact wpAny_pure h

theorem call_reversed_str {x : Str} {t : Tok} {Q : Value → Shared → Prop} (hx : x.length ≤ sizeLine)
    (h : Q (.ref s.heap.objs.size) { s with heap := s.heap.push (rsObj x t ((x.length : Int) - 1)), toks := s.toks + 1 + 1 }) : wpAny (model prog w) A (call (.type "reversed") [.str x t]) Q E s := by
  refine callType_codes (Q₁ := fun obj s₁ => s₁.TypeIs obj "reversed" ∧ Q obj s₁) RT.called_rt (F.typeCall_reversed_1 _) F.entry_object_init
    (code_reversed_str (A := A.in1) hx ⟨⟨_, Heap.get?_push_size _ rfl, rfl⟩, h⟩) fun obj s₁ h₁ => ?_
  exact ⟨h₁.1, F.args_object_init_2 obj _, object_init_meets RT.called_rt.init.lookup RT.called_rt.made (by decide) prog w A.in1 _ s₁ ⟨h₁.1, rfl, h₁.2⟩⟩

theorem next_rs_item {it : Addr} {x : Str} {t : Tok} {i : Nat} {c : Nat} {Q : Option Value → Shared → Prop} (hit : IsRs s.heap it x t (i : Int)) (hx : x.cps[i]? = some c) (hsz : x.length ≤ sizeLine)
    (hQ : ∀ h' u tk, IsRs h' it x t ((i : Int) - 1) → Heap.SameBut it s.heap h' → Q (some (.str ⟨#[c]⟩ u)) { s with heap := h', toks := tk }) : wpAny (model prog w) A (pyNext (.ref it)) Q E s := by
  obtain ⟨o, ho, hc, hd⟩ := id hit
  have hi : i < x.cps.size := (Array.getElem?_eq_some_iff.mp hx).1
  have hl : x.length = x.cps.size := rfl
  have hT : s.TypeIs (.str x t) "str" := typeIs_str s x t
  have hn := line63
  unfold pyNext
  refine wpAny_bind (wpAny_attempt (wpAny_callSpecial?_slot (name := Str.ofString "__next__") hit.typeIs RT.slot_rt_next
    (wpAny_call_entry RT.slot_rt_next hit.typeIs RT.entry_rt_next ?_ (RT.args_rt_next _))))
  unfold Builtin.«reversed.__next__»
  refine wpAny_bind (wpAny_of_eq (a := (Value.ref it, [])) rfl ?_)
  try dsimp only
  refine wpAny_bind (wpAny_field ho hd (x := .str x t) rfl ?_)
  try dsimp only
  refine wpAny_bind (wpAny_field ho hd (x := rawInt (i : Int)) rfl ?_)
  show wpAny _ _ (if (i : Int) < 0 then _ else _) _ _ s
  rw [if_neg (by omega)]
  try dsimp only
  refine wpAny_bind (wpAny_specialOf hT F.slot_str_getitem.lookup ?_)
  try dsimp only
  try rw [if_neg (by decide)]
  try dsimp only
  refine wpAny_bind (wpAny_mkInt ?_)
  refine wpAny_bind (wpAny_attempt ?_)
  have fin : seqIndex? (i : Int) x.length = some i := seqIndex_of (by omega) (by omega)
  refine getItem_str (s := { s with toks := s.toks + 1 }) (c := c) (by simp; omega) (by rw [fin]; simpa using hx) ?_
  try dsimp only
  refine wpAny_bind (wpAny_field (s := { s with toks := s.toks + 1 + 1 }) ho hd (x := rawInt (i : Int)) rfl ?_)
  try dsimp only
  refine wpAny_bind (wpAny_setField (s := { s with toks := s.toks + 1 + 1 }) ho hd (by simp) ?_)
  first
  | refine wpAny_pure ⟨_, rfl, wpAny_pure (hQ _ _ _ ?_ (Heap.SameBut.update ..))⟩
  | refine wpAny_bind (wpAny_pure (wpAny_pure ⟨_, rfl, wpAny_pure (hQ _ _ _ ?_ (Heap.SameBut.update ..))⟩))
  exact ⟨_, Heap.get?_update_self _ ho (Obj.isFreed_of_fields (Obj.data_mapFields hd _)), (Obj.cls_mapFields ..).trans hc, by
    rw [Obj.data_mapFields hd]; simp⟩

theorem next_rs_end {it : Addr} {x : Str} {t : Tok} {Q : Option Value → Shared → Prop} (hh : A.handled = none) (hit : IsRs s.heap it x t (-1))
    (hQ : ∀ h', Heap.ExtBut it s.heap h' → Q none { s with heap := h' }) : wpAny (model prog w) A (pyNext (.ref it)) Q E s := by
  obtain ⟨o, ho, hc, hd⟩ := id hit
  unfold pyNext
  refine wpAny_bind (wpAny_attempt (wpAny_callSpecial?_slot (name := Str.ofString "__next__") hit.typeIs RT.slot_rt_next
    (wpAny_call_entry RT.slot_rt_next hit.typeIs RT.entry_rt_next ?_ (RT.args_rt_next _))))
  unfold Builtin.«reversed.__next__»
  refine wpAny_bind (wpAny_of_eq (a := (Value.ref it, [])) rfl ?_)
  try dsimp only
  refine wpAny_bind (wpAny_field ho hd (x := .str x t) rfl ?_)
  try dsimp only
  refine wpAny_bind (wpAny_field ho hd (x := rawInt (-1)) rfl ?_)
  show wpAny _ _ (if (-1 : Int) < 0 then _ else _) _ _ s
  rw [if_pos (by decide)]
  try dsimp only
  refine wpAny_bind (wpAny_rule ?_)
  refine wpAny_bind ?_
  wp_delta
  refine wpAny_bind (wpAny_setField ho hd (by simp) ?_)
  have ho2 := Heap.get?_update_self (Obj.mapFields (·.setIfInBounds 1 (rawInt (-1)))) ho (Obj.isFreed_of_fields (Obj.data_mapFields hd _))
  refine wpAny_setField (s := { s with heap := s.heap.update it (Obj.mapFields (·.setIfInBounds 1 (rawInt (-1)))) }) ho2 (Obj.data_mapFields hd _) (by simp) ?_
  try dsimp only
  first
  | show wpAny _ _ (newExc (.type "StopIteration") [] >>= _) _ _ _
  | (refine wpAny_bind ?_; show wpAny _ _ (newExc (.type "StopIteration") [] >>= _) _ _ _)
  | (refine wpAny_bind ?_; wp_delta; show wpAny _ _ (newExc (.type "StopIteration") [] >>= _) _ _ _)
  refine wpAny_bind ?_
  simp only [newExc, newTuple]
  refine wpAny_bind (wpAny_newObj_type ?_ (by size_fits))
  refine wpAny_bind (m := firstArgMember _ _) (wpAny_of_eq (a := Value.none) (by first | rfl | (simp only [firstArgMember]; rfl)) ?_)
  refine wpAny_newObj_type ?_ (by size_fits)
  simp only [raiseNew]
  refine wpAny_bind (wpAny_handled ?_)
  first | rw [show A.in1.handled = none from hh] | rw [hh]
  refine wpAny_bind (wpAny_pure (wpAny_throw ?_))
  refine wpAny_bind (wpAny_isInstance (T := "StopIteration") (b := true) ⟨_, Heap.get?_push_size _ rfl, rfl⟩ isSubtype_stop ?_)
  refine wpAny_pure (hQ _ ?_)
  refine ((?_ : Heap.ExtBut it s.heap _).push _).push _
  exact fun b ob hb e => (Heap.get?_update_other _ _ (Ne.symm hb)).trans ((Heap.get?_update_other _ _ (Ne.symm hb)).trans e)

theorem iter_rs {it : Addr} {x : Str} {t : Tok} {i : Int} {Q : Value → Shared → Prop} (hit : IsRs s.heap it x t i) (h : Q (.ref it) s) : wpAny (model prog w) A (pyIter (.ref it)) Q E s := by
  refine wpAny_pyIter_slot hit.typeIs RT.slot_rt_iter (wpAny_call_entry RT.slot_rt_iter hit.typeIs RT.entry_rt_iter ?_ (RT.args_rt_iter _))
  show wpAny _ _ (ret (.ref it)) _ _ s
  exact wpAny_pure ⟨_, rfl, "reversed", _, hit.typeIs, RT.slot_rt_next.lookup, h⟩
end
theorem Walks.strRev {prog : Program} {w : World} {A : Around} (hh : A.handled = none) (I : Addr) (x : Str) (t : Tok) (hx : x.length ≤ sizeLine) :
    Walks prog w A I [I] [I] x.cps.size (fun i v => SignAt x (x.cps.size - 1 - i) v) (fun i h => i ≤ x.cps.size ∧ IsRs h I x t ((x.cps.size : Int) - 1 - (i : Int))) where
  sub := fun b hb => hb
  frame := fun _ _ _ y hk => ⟨y.1, y.2.at fun o e => hk I (by simp) o e⟩
  item := fun i s Q E hi y hQ => by
    have e : (x.cps.size : Int) - 1 - (i : Int) = ((x.cps.size - 1 - i : Nat) : Int) := by omega
    have hit := y.2
    rw [e] at hit
    have hc : x.cps[x.cps.size - 1 - i]? = some (x.cps[x.cps.size - 1 - i]'(by omega)) := Array.getElem?_eq_getElem (by omega)
    refine next_rs_item hit hc hx fun h' u tk hit' hs' => ?_
    have e2 : ((x.cps.size - 1 - i : Nat) : Int) - 1 = (x.cps.size : Int) - 1 - ((i + 1 : Nat) : Int) := by omega
    rw [e2] at hit'
    exact hQ _ h' tk ⟨_, u, hc, rfl⟩ ⟨hi, hit'⟩ fun b o hb eo => hs'.extBut b o (fun h => hb (by simp [h])) eo
  done := fun s Q E y hQ => by
    have e : (x.cps.size : Int) - 1 - (x.cps.size : Int) = -1 := by omega
    have hit := y.2
    rw [e] at hit
    exact next_rs_end hh hit fun h' he' => hQ h' s.toks fun b o hb eo => he' b o (fun h => hb (by simp [h])) eo
  self := fun _ _ _ _ y hQ => iter_rs y.2 hQ

/-! ### list(an iterator) -/
section
variable {prog : Program} {w : World} {A : Around} {s : Shared} {R : Result → Shared → Prop}
variable {I : Addr} {fp wr : List Addr} {n : Nat} {P : Nat → Value → Prop} {St : Nat → Heap → Prop}
def HintOk (prog : Program) (w : World) (I : Addr) (St : Nat → Heap → Prop) : Prop :=
  ∀ (A : Around) (s : Shared) (Q : Bool → Shared → Prop) (E : Value → Shared → Prop), St 0 s.heap → (∀ (b : Bool) (tk : Nat), Q b { s with toks := tk }) → wpAny (model prog w) A (Builtin.List.listLengthHint (.ref I)) Q E s
theorem extend_it {T : String} (W : Walks prog w A.in1 I fp wr n P St) (hT : ∀ i h, St i h → ∃ o, h.get? I = some o ∧ o.cls = .type T) (h2 : (Value.type T == Value.type "list") = false) (h3 : (Value.type T == Value.type "tuple") = false)
    (hint : HintOk prog w I St) (S : Addr) (res : Value) (c₀ : Nat) (hst : St 0 s.heap) (hSf : S ∉ fp) (hI : I ∈ fp)
    (hS : s.heap.get? S = some { cls := .type "list", data := .seq #[] c₀ })
    (hR : ∀ h' tk acc' c', (∀ b o, b ≠ S → b ∉ wr → s.heap.get? b = some o → h'.get? b = some o) → h'.get? S = some { cls := .type "list", dict := none, data := .seq acc' c', slots := #[] } → ItemsOf P acc' n → R (.ok (.ret res)) { s with heap := h', toks := tk }) (hn : n ≤ sizeLine) :
    wpAny (model prog w) A.in1 (Builtin.List.listExtendWith (.ref S) (.ref I) res)
      (fun fin s' => match fin with | .done f => R (.ok f) s' | .again c' => c'.quiet = true ∧ codeAny (model prog w) A c' R s') (fun e s' => R (.error e) s') s := by
  have hSI : S ≠ I := fun e => hSf (e ▸ hI)
  have hTs : s.TypeIs (.ref I) T := hT 0 _ hst
  have key : ∀ (h1 : Heap) (tk c1 : Nat), h1.get? S = some { cls := .type "list", dict := none, data := .seq #[] c1, slots := #[] } → (∀ b o, b ≠ S → s.heap.get? b = some o → h1.get? b = some o) →
      codeAny (model prog w) A (.builtin "list.extend.loop" ⟨[.ref S, .ref I, res], []⟩) R { s with heap := h1, toks := tk } := fun h1 tk c1 e1 e2 => by
    refine codeAny_extend_loopS W.toS hn _ hSf _ n 0 _ _ _ rfl (Nat.zero_le _) (W.frame 0 _ _ hst fun b hb o e => e2 b o (fun h => hSf (h ▸ hb)) e) e1 (ItemsOf.nil P) fun s' acc' c' hm hS' hacc => ?_
    rw [Moved.eq_with hm]
    exact hR s'.heap s'.toks acc' c' (fun b o hb hw e => hm.heap b o (fun hmem => (List.mem_cons.mp hmem).elim hb hw) (e2 b o hb e)) hS' hacc
  unfold Builtin.List.listExtendWith
  refine wpAny_bind (wpAny_typeOf hTs ?_)
  have h1 : Builtin.List.listSameRef (.ref S) (.ref I) = false := by simp [Builtin.List.listSameRef, hSI]
  simp only [h1, h2, h3, Bool.or_false, Bool.false_eq_true, if_false]
  refine wpAny_bind (W.self 0 _ _ _ hst ?_)
  refine wpAny_bind (wpAny_holding (hint _ _ _ _ hst fun b tk => ?_))
  refine wpAny_ite_split (fun _ => ?_) (fun _ => wpAny_pure ⟨plainId_quiet F.plain_extend_loop _, key _ _ _ hS fun b o _ e => e⟩)
  refine wpAny_bind (wpAny_rule ?_)
  refine wpAny_bind ?_
  show wpAny _ _ (updateSeq S (·.push .none) >>= fun _ => updateSeq S (·.pop)) _ _ _
  refine wpAny_bind (wpAny_updateSeq (s := { s with toks := tk }) hS rfl ?_)
  have hS₂ := Heap.get?_update_self (Obj.mapSeq (·.push Value.none)) hS rfl
  refine wpAny_updateSeq (s := { s with heap := s.heap.update S (Obj.mapSeq (·.push Value.none)), toks := tk }) (hz := by seq_fits) hS₂ rfl ?_
  have hS₃ := Heap.get?_update_self (Obj.mapSeq (·.pop)) hS₂ rfl
  refine wpAny_pure ⟨plainId_quiet F.plain_extend_loop _, key _ _ _ hS₃ fun b o hb e => ?_⟩
  exact (Heap.get?_update_other _ _ (Ne.symm hb)).trans ((Heap.get?_update_other _ _ (Ne.symm hb)).trans e)

theorem list_init_it {T : String} (W : Walks prog w A.in1 I fp wr n P St) (hT : ∀ i h, St i h → ∃ o, h.get? I = some o ∧ o.cls = .type T) (h2 : (Value.type T == Value.type "list") = false) (h3 : (Value.type T == Value.type "tuple") = false)
    (hint : HintOk prog w I St) (S : Addr) (hst : St 0 s.heap) (hSf : S ∉ fp) (hI : I ∈ fp)
    (hS : s.heap.get? S = some { cls := .type "list", data := .seq #[] })
    (hR : ∀ h' tk acc' c', (∀ b o, b ≠ S → b ∉ wr → s.heap.get? b = some o → h'.get? b = some o) → h'.get? S = some { cls := .type "list", dict := none, data := .seq acc' c', slots := #[] } → ItemsOf P acc' n → R (.ok (.ret .none)) { s with heap := h', toks := tk }) (hn : n ≤ sizeLine) :
    wpAny (model prog w) A.in1 (Builtin.«list.__init__» ⟨[.ref S, .ref I], []⟩)
      (fun fin s' => match fin with | .done f => R (.ok f) s' | .again c' => c'.quiet = true ∧ codeAny (model prog w) A c' R s') (fun e s' => R (.error e) s') s := by
  show wpAny _ A.in1 (do let old ← Builtin.List.listItems (.ref S); Builtin.List.listUpdate (.ref S) (fun _ => #[]); letGo old.toList.reverse; Builtin.List.listExtendWith (.ref S) (.ref I) .none) _ _ s
  refine wpAny_bind ?_
  unfold Builtin.List.listItems
  refine wpAny_bind (wpAny_seqItems hS rfl (wpAny_pure ?_))
  show wpAny _ A.in1 (updateSeq S (fun _ => #[]) >>= fun _ => letGo (#[] : Array Value).toList.reverse >>= fun _ => Builtin.List.listExtendWith (.ref S) (.ref I) .none) _ _ s
  refine wpAny_bind (wpAny_updateSeq hS rfl ?_)
  have hS₂ := Heap.get?_update_self (Obj.mapSeq (fun _ => (#[] : Array Value))) hS rfl
  have oth : ∀ b o, b ≠ S → s.heap.get? b = some o → (s.heap.update S (Obj.mapSeq (fun _ => (#[] : Array Value)))).get? b = some o :=
    fun b o hb e => (Heap.get?_update_other _ _ (Ne.symm hb)).trans e
  refine wpAny_bind (wpAny_letGo ?_)
  refine extend_it (s := { s with heap := s.heap.update S (Obj.mapSeq (fun _ => (#[] : Array Value))) }) (hn := hn) W hT h2 h3 hint S .none _ (W.frame 0 _ _ hst fun b hb o e => oth b o (fun h => hSf (h ▸ hb)) e) hSf hI hS₂ fun h' tk acc' c' hk hS' hacc => ?_
  exact hR h' tk acc' c' (fun b o hb hw e => hk b o hb hw (oth b o hb e)) hS' hacc

theorem call_list_it {E : Value → Shared → Prop} {Q : Value → Shared → Prop} {T : String} (W : Walks prog w A.in1.in1 I fp wr n P St) (hT : ∀ i h, St i h → ∃ o, h.get? I = some o ∧ o.cls = .type T) (h2 : (Value.type T == Value.type "list") = false) (h3 : (Value.type T == Value.type "tuple") = false)
    (hint : HintOk prog w I St) (hst : St 0 s.heap) (hfp : ∀ b ∈ fp, b < s.heap.objs.size) (hI : I ∈ fp)
    (hQ : ∀ h' tk acc' c', (∀ b o, b ∉ wr → s.heap.get? b = some o → h'.get? b = some o) →
      h'.get? s.heap.objs.size = some { cls := .type "list", dict := none, data := .seq acc' c', slots := #[] } → ItemsOf P acc' n → Q (.ref s.heap.objs.size) { s with heap := h', toks := tk }) (hn : n ≤ sizeLine) :
    wpAny (model prog w) A (call (.type "list") [.ref I]) Q E s := by
  have hSf : s.heap.objs.size ∉ fp := fun hm => Nat.lt_irrefl _ (hfp _ hm)
  refine callType_codes (Q₁ := fun obj s₁ => obj = .ref s.heap.objs.size ∧ s₁ = { s with heap := s.heap.push { cls := .type "list", data := .seq #[] } }) F.called_list (F.typeCall_list_1 _) F.entry_list_init
    (code_list_new _ ⟨rfl, rfl⟩) fun obj s₁ h₁ => ?_
  obtain ⟨rfl, rfl⟩ := h₁
  have hS : (s.heap.push { cls := .type "list", data := .seq #[] }).get? s.heap.objs.size = some { cls := .type "list", data := .seq #[] } := Heap.get?_push_size _ rfl
  refine ⟨⟨_, hS, rfl⟩, F.args_list_init_2 _ _, list_init_it (A := A.in1) (s := { s with heap := s.heap.push { cls := .type "list", data := .seq #[] } }) (hn := hn) W hT h2 h3 hint _ (W.frame 0 _ _ hst fun b hb o e => Heap.get?_push_of_some _ e) hSf hI hS fun h' tk acc' c' hk hS' hacc => ?_⟩
  exact ⟨rfl, hQ h' tk acc' c' (fun b o hw e => hk b o (Nat.ne_of_lt (Heap.lt_size e)) hw (Heap.get?_push_of_some _ e)) hS' hacc⟩
end

/-! ### how long it may be -/
theorem hint_list {prog : Program} {w : World} {I l : Addr} {items : Array Value} : HintOk prog w I (fun i h => i ≤ items.size ∧ h.IsRevIter I l ((items.size : Int) - 1 - (i : Int)) ∧ h.IsList l items) := by
  intro A s Q E st k
  have hT : s.TypeIs (.ref I) "list_reverseiterator" := st.2.1.typeIs
  unfold Builtin.List.listLengthHint
  refine wpAny_bind (wpAny_specialOf hT RT.nolen_lri ?_)
  show wpAny _ A (specialOf (Value.ref I) (Str.ofString "__length_hint__") >>= _) _ _ _
  refine wpAny_bind (wpAny_specialOf hT RT.hint_lri ?_)
  generalize hid : ("list_reverseiterator.__length_hint__" : String) = id0
  wp_delta
  rw [show splitId id0 = some ("list_reverseiterator", "__length_hint__") from by subst hid; decide +kernel]
  subst hid
  refine wpAny_bind (wpAny_isInstance (b := true) hT (by rw [isSubtype_type]; kernel_rfl) ?_)
  refine wpAny_pure ?_
  exact k false s.toks
theorem hint_str {prog : Program} {w : World} {I : Addr} {x : Str} {t : Tok} (hx : x.length ≤ sizeLine) : HintOk prog w I (fun i h => i ≤ x.cps.size ∧ IsRs h I x t ((x.cps.size : Int) - 1 - (i : Int))) := by
  intro A s Q E st k
  have hit := st.2
  have hT : s.TypeIs (.ref I) "reversed" := hit.typeIs
  obtain ⟨o, ho, hc, hd⟩ := id hit
  have hn := line63
  have hl : x.length = x.cps.size := rfl
  unfold Builtin.List.listLengthHint
  refine wpAny_bind (wpAny_specialOf hT nolen_rt ?_)
  show wpAny _ A (specialOf (Value.ref I) (Str.ofString "__length_hint__") >>= _) _ _ _
  refine wpAny_bind (wpAny_specialOf hT slot_rt_hint.lookup ?_)
  generalize hid : ("reversed.__length_hint__" : String) = id0
  wp_delta
  rw [show splitId id0 = some ("reversed", "__length_hint__") from by subst hid; decide +kernel]
  subst hid
  refine wpAny_bind (wpAny_isInstance (b := true) hT (by rw [isSubtype_type]; kernel_rfl) ?_)
  rw [if_neg (by decide)]
  rw [if_neg (by decide +kernel)]
  refine wpAny_bind (wpAny_rule ?_)
  refine wpAny_bind (wpAny_of_eq (slot_rt_hint.bind _) ?_)
  try dsimp only
  refine wpAny_bind (wpAny_attempt ?_)
  refine wpAny_call_entry slot_rt_hint hit.typeIs entry_rt_hint ?_ (args_rt_hint _)
  unfold Builtin.«reversed.__length_hint__»
  refine wpAny_bind (wpAny_of_eq (a := Value.ref I) rfl ?_)
  try dsimp only
  refine wpAny_bind (wpAny_field ho hd (x := .str x t) rfl ?_)
  try dsimp only
  rw [if_neg (show ¬ (Value.str x t == Value.none) = true from Bool.false_ne_true)]
  refine wpAny_bind (len_str (by omega) ?_)
  refine wpAny_bind (wpAny_of_eq (a := some ((x.length : Nat) : Int)) rfl ?_)
  try dsimp only
  refine wpAny_bind (wpAny_field (s := { s with toks := s.toks + 1 + 1 }) ho hd (x := rawInt _) rfl ?_)
  show wpAny _ _ (if (x.length : Int) < ((x.cps.size : Int) - 1 - ((0 : Nat) : Int)) + 1 then _ else _) _ _ _
  have e9 : ¬ (x.length : Int) < ((x.cps.size : Int) - 1 - ((0 : Nat) : Int)) + 1 := by rw [hl]; omega
  rw [if_neg e9]
  have e0 : ((x.cps.size : Int) - 1 - ((0 : Nat) : Int)) + 1 = (x.length : Int) := by omega
  show wpAny _ _ (mkInt (((x.cps.size : Int) - 1 - ((0 : Nat) : Int)) + 1) >>= fun v => ret v) _ _ _
  rw [e0]
  refine wpAny_bind (wpAny_mkInt ?_)
  refine wpAny_pure ⟨_, rfl, ?_⟩
  try dsimp only
  have e4 : ∀ (z : Int) (tk : Tok), asInt? (Value.int z tk) = pure (some z) := fun _ _ => rfl
  rw [e4]
  refine wpAny_bind ?_
  refine wpAny_pure ?_
  try dsimp only
  have hs := sizeLine_eq
  have f1 : Builtin.List.listFitsIndex (x.length : Int) = true := by
    unfold Builtin.List.listFitsIndex
    rw [Bool.and_eq_true]
    exact ⟨decide_eq_true (by omega), decide_eq_true (by omega)⟩
  have f2 : Builtin.List.listTooLong ((x.length : Int).toNat) = false := decide_eq_false (by omega)
  rw [f1, f2, if_neg (by decide), if_neg (by omega), if_neg (by decide)]
  exact wpAny_pure (k _ _)
end DLR
namespace DL
open PySem PySem.Spec PyProof.Rows L2 DLR
/-- list(reversed(x)), x a list or a text: a new list -/
def tListRev (K : PySem.W.Frag) (te : TE) : TE := fun σ H Q => te σ H fun v H1 => ∃ ys : List V, ((∃ a xs, v = .ref a ∧ SqL K H1 a xs ∧ ys = xs.reverse) ∨ (∃ z : Str, v = .str z ∧ z.length ≤ sizeLine ∧ ys = z.cps.toList.reverse.map fun c => V.str ⟨#[c]⟩)) ∧ ∀ l, H1 l = none → Q (.ref l) (upd H1 l (.lst ys))
theorem vals_at : ∀ {xs : List V} {us : List Value}, xs.length = us.length → (∀ (j : Nat) (x : V) (u : Value), xs[j]? = some x → us[j]? = some u → RelV x u) → Vals xs us
  | [], [], _, _ => .nil
  | [], _ :: _, h, _ => by simp at h
  | _ :: _, [], h, _ => by simp at h
  | x :: xs, u :: us, h, f => .cons (f 0 x u rfl rfl) (vals_at (by simpa using h) fun j y w h1 h2 => f (j + 1) y w (by simpa using h1) (by simpa using h2))
theorem dnL_chars {K : PySem.W.Frag} {F : Hp} : ∀ l : List Nat, DnL K F (l.map fun c => V.str ⟨#[c]⟩) (l.map fun c => D.str ⟨#[c]⟩)
  | [] => by simp [DnL]
  | c :: l => by
    rw [List.map_cons, List.map_cons]
    exact ⟨by simp [Dn], dnL_chars l⟩
theorem vals_revS {x : Str} {acc : Array Value} (h : ItemsOf (fun i v => SignAt x (x.cps.size - 1 - i) v) acc x.cps.size) : Vals (x.cps.toList.reverse.map fun c => V.str ⟨#[c]⟩) acc.toList := by
  refine vals_at (by rw [List.length_map, List.length_reverse, Array.length_toList, Array.length_toList, h.1]) fun j y u h1 h2 => ?_
  have hj : j < acc.toList.length := (List.getElem?_eq_some_iff.mp h2).1
  rw [Array.length_toList, h.1] at hj
  obtain ⟨c, u1, e1, e2⟩ := h.2 j u (by rw [← Array.getElem?_toList]; exact h2)
  rw [List.getElem?_map, List.getElem?_reverse (by rw [Array.length_toList]; exact hj), Array.length_toList, Array.getElem?_toList, e1] at h1
  cases h1
  exact ⟨u1, e2⟩
section
variable {X : Cx}
theorem pe_listRev {e : Expr} {te : TE} {p p2 pos pos2 : Pos} (hc : X.calm = true) (hg : Gl X "list") (hm : X.mg "list" = none) (hg2 : Gl X "reversed") (hm2 : X.mg "reversed" = none) (he : PE X e te)
    (hs : starEach [e] X.env = (false, eval e X.env) :: starEach [] X.env := by rfl)
    (hs2 : starEach [.Call (.Name "reversed" p2) [e] [] pos2] X.env = (false, eval (.Call (.Name "reversed" p2) [e] [] pos2) X.env) :: starEach [] X.env := by rfl) :
    PE X (.Call (.Name "list" p) [.Call (.Name "reversed" p2) [e] [] pos2] [] pos) (tListRev X.K te) := by
  refine ⟨fun pins s σ H Q I h => ?_⟩
  refine Call_ (ld_blt I hg hm PyProof.Rows.boot_list (PyProof.Rows.callWith_type1 (args_cons (Call_ (ld_blt I hg2 hm2 PyProof.Rows.boot_reversed (PyProof.Rows.callWith_type1 (args_cons (thn (he.run pins s σ H _ I h) fun u s1 ⟨v, H1, I1, r1, q1⟩ => args_nil ?_) hs) hs rfl))) hs2) hs2 rfl))
  obtain ⟨ys, h1, q⟩ := q1
  have hh : X.A.handled = none := I1.ok.hd hc
  have hh2 : X.A.in1.in1.handled = none := hh
  rcases h1 with ⟨a, xs, ev, hq, rfl⟩ | ⟨z, ev, hz, rfl⟩
  · subst ev
    obtain rfl : u = Value.ref a := r1
    obtain ⟨its, rv, p', hz⟩ := I1.list hq
    have hl := p'.isList
    obtain ⟨ol, hol, _⟩ := id hl
    have hla : a < s1.heap.objs.size := Heap.lt_size hol
    refine call_reversed_list hl (args_nil ?_)
    have hn : its.toArray.size ≤ sizeLine := by rw [List.size_toArray, ← rv.length]; exact hz
    have hps : (s1.heap.push (revObj a ((its.toArray.size : Int) - 1))).objs.size = s1.heap.objs.size + 1 := by simp [Heap.push]
    refine call_list_it (s := { s1 with heap := s1.heap.push (revObj a ((its.toArray.size : Int) - 1)) }) (T := "list_reverseiterator") (PySem.Walks.listRev (prog := X.prog) (w := X.w) hh2 s1.heap.objs.size a (Nat.ne_of_lt hla) its.toArray)
      (fun i h st => let ⟨o, ho, hc, _⟩ := st.2.1; ⟨o, ho, hc⟩) (by decide) (by decide) hint_list ⟨Nat.zero_le _, ⟨_, Heap.get?_push_size _ rfl, rfl, by show _ = Data.fields #[.ref a, rawInt (((its.toArray.size : Nat) : Int) - 1 - ((0 : Nat) : Int))]; rw [show ((its.toArray.size : Nat) : Int) - 1 - ((0 : Nat) : Int) = (its.toArray.size : Int) - 1 by omega]; rfl⟩, hl.push _⟩
      (fun b hb => ?_) (by simp) (fun h' tk acc' c' kp e hi => ?_) hn
    · rw [hps]
      simp only [List.mem_cons, List.not_mem_nil, or_false] at hb
      rcases hb with rfl | rfl
      · exact Nat.lt_succ_self _
      · exact Nat.lt_succ_of_lt hla
    · have kp1 : ∀ b o, s1.heap.get? b = some o → h'.get? b = some o := fun b o e => kp b o (by simp only [List.mem_singleton]; exact Nat.ne_of_lt (Heap.lt_size e)) (Heap.get?_push_of_some _ e)
      refine ⟨.ref _, _, I1.laid (t' := tk) kp1 (by rw [hps]; exact Nat.le_succ _) (show ObjOk X.prog X.w _ h' _ (.lst xs.reverse) from ⟨by rw [List.length_reverse]; exact hz, acc'.toList, c', RT.vals_rev rv hi, by rw [Array.toArray_toList]; exact e⟩), rfl, q _ (I1.hok.fresh (by rw [hps]; exact Nat.le_succ _))⟩
  · subst ev
    obtain ⟨t, rfl⟩ : ∃ t, u = Value.str z t := r1
    refine call_reversed_str hz (args_nil ?_)
    have hps : (s1.heap.push (rsObj z t ((z.length : Int) - 1))).objs.size = s1.heap.objs.size + 1 := by simp [Heap.push]
    have hlz : z.length = z.cps.size := rfl
    refine call_list_it (s := { s1 with heap := s1.heap.push (rsObj z t ((z.length : Int) - 1)), toks := s1.toks + 1 + 1 }) (T := "reversed") (DLR.Walks.strRev (prog := X.prog) (w := X.w) hh2 s1.heap.objs.size z t hz)
      (fun i h st => let ⟨o, ho, hc, _⟩ := st.2; ⟨o, ho, hc⟩) (by decide) (by decide) (hint_str hz) ⟨Nat.zero_le _, ⟨_, Heap.get?_push_size _ rfl, rfl, by show _ = Data.fields #[.str z t, rawInt (((z.cps.size : Nat) : Int) - 1 - ((0 : Nat) : Int))]; rw [show ((z.cps.size : Nat) : Int) - 1 - ((0 : Nat) : Int) = (z.length : Int) - 1 by omega]; rfl⟩⟩
      (fun b hb => ?_) (by simp) (fun h' tk acc' c' kp e hi => ?_) hz
    · rw [hps]
      simp only [List.mem_cons, List.not_mem_nil, or_false] at hb
      subst hb
      exact Nat.lt_succ_self _
    · have kp1 : ∀ b o, s1.heap.get? b = some o → h'.get? b = some o := fun b o e => kp b o (by simp only [List.mem_singleton]; exact Nat.ne_of_lt (Heap.lt_size e)) (Heap.get?_push_of_some _ e)
      refine ⟨.ref _, _, I1.laid (t' := tk) kp1 (by rw [hps]; exact Nat.le_succ _) (show ObjOk X.prog X.w _ h' _ (.lst _) from ⟨by rw [List.length_map, List.length_reverse, Array.length_toList]; exact hz, acc'.toList, c', vals_revS hi, by rw [Array.toArray_toList]; exact e⟩), rfl, q _ (I1.hok.fresh (by rw [hps]; exact Nat.le_succ _))⟩
end
section
variable {X : Cx} {ca : Exn → Addr} {W : WX}
theorem q_lrev {a : Expr} {p p2 pos pos2 : Pos} {f : Env → R D} (hc : X.calm = true) (hm : X.mg "list" = none) (hm2 : X.mg "reversed" = none) (ha : PD X ca W a f) (hg : Gl X "list" := by rfl) (hg2 : Gl X "reversed" := by rfl)
    (hs : starEach [a] X.env = (false, eval a X.env) :: starEach [] X.env := by rfl)
    (hs2 : starEach [.Call (.Name "reversed" p2) [a] [] pos2] X.env = (false, eval (.Call (.Name "reversed" p2) [a] [] pos2) X.env) :: starEach [] X.env := by rfl) :
    FD X ca W (.Call (.Name "list" p) [.Call (.Name "reversed" p2) [a] [] pos2] [] pos) (lRev f) := by
  obtain ⟨t, pa, q⟩ := ha
  refine ⟨tListRev X.K t, pe_listRev hc hg hm hg2 hm2 pa hs hs2, fun F0 H0 r σ F H Q S w => ?_⟩
  refine q _ _ _ _ _ _ _ S (w.bind.mono (fun d k v F1 H1 G1 p1 => ?_) fun c k => k)
  obtain ⟨ds, e1, k3⟩ := k.lift
  unfold revO at e1
  split at e1
  · cases e1
    obtain ⟨a, ws, rfl, h1, h2⟩ := p1
    exact ⟨ws.reverse, .inl ⟨a, ws, rfl, .of h1, rfl⟩, fun l hl => k3 l _ F1 _ (G1.trans (Grow.lay G1.sub hl)) (G1.hh.free hl) (G1.sub.free hl) upd_same h2.reverse⟩
  · split at e1
    · rename_i z hz
      cases e1
      have p2 : v = .str z := p1
      refine ⟨_, .inr ⟨z, p2, hz, rfl⟩, fun l hl => k3 l _ F1 _ (G1.trans (Grow.lay G1.sub hl)) (G1.hh.free hl) (G1.sub.free hl) upd_same ?_⟩
      exact dnL_chars _
    · cases e1
  · cases e1
end
end DL

set_option Elab.async false
set_option linter.all false
set_option maxRecDepth 100000
set_option maxHeartbeats 2000000
/-! DL11: a written table asked at once -/
namespace DL
open PySem PySem.Spec PyProof.Rows L2

def tabKV (tab : List (Str × Str)) : List (Key × V) := tab.map fun kv => (.inr kv.1, .str kv.2)
def dgetT (tab : List (Str × Str)) (d : D) : Option D := match d with
  | .str k => match valV (mergeK [] (tabKV tab)) (.inr k) with
    | some (.str z) => some (.str z)
    | _ => none
  | _ => none
@[simp] def xDget (tab : List (Str × Str)) (f : Env → R D) (r : Env) : R D := f r >>= fun d => lift (dgetT tab d)
theorem upd_twice {H : Hp} {p : Addr} {a b : HO} : upd (upd H p a) p b = upd H p b := by
  funext c
  by_cases h : c = p
  · subst h; rw [upd_same, upd_same]
  · rw [upd_ne h, upd_ne h, upd_ne h]
theorem tPairs_c {σ : L2.St} : ∀ (tab : List (Str × Str)) (H : Hp) (Q : List (V × V) → Hp → Prop), Q (tab.map fun kv => (V.str kv.1, V.str kv.2)) H → tPairs (tab.map fun kv => (tC (.str kv.1), tC (.str kv.2))) σ H Q
  | [], H, Q, h => h
  | kv :: tab, H, Q, h => tPairs_c tab H (fun ps H' => Q ((V.str kv.1, V.str kv.2) :: ps) H') h
section
variable {X : Cx} {ca : Exn → Addr} {W : WX}
theorem q_dget {keys : List (Option Expr)} {values : List Expr} {dpos pos : Pos} {b : Expr} {f : Env → R D} (tab : List (Str × Str)) (hu : X.A.units + 64 < cLine) (h : PPs X dpos keys values (tab.map fun kv => (tC (.str kv.1), tC (.str kv.2)))) (hb : PD X ca W b f)
    (hall : keys.all (·.isSome) = true := by rfl) (hl : keys.length = values.length := by rfl) (h0 : keys ≠ [] := by exact List.cons_ne_nil _ _) (h15 : keys.length ≤ 15 := by decide) (ht : tab.length ≤ 15 := by decide) (hs : NoSl b := by exact fun _ _ => rfl) :
    ED X ca W (.Subscript (.Dict keys values dpos) b pos) (xDget tab f) := by
  obtain ⟨t, pb, q⟩ := hb
  refine ⟨tDGet (tDisp (tab.map fun kv => (tC (.str kv.1), tC (.str kv.2)))) t, pe_dget (by omega) (pe_disp h hall hl h0 h15) pb hs, fun F0 H0 r σ F H Q S w => ?_⟩
  intro p hp
  refine tPairs_c tab _ _ ⟨upd_same, tabKV tab, by unfold tabKV; rw [List.map_map]; rfl, by unfold tabKV; rw [List.length_map]; exact ht, ?_⟩
  rw [upd_twice]
  have G0 : Grow F H F (upd H p (.dK (mergeK [] (tabKV tab)))) := Grow.lay S.sub hp
  refine q _ _ _ _ _ _ _ (S.grow G0) (w.bind.mono (fun d k v F1 H1 G1 p1 => ?_) fun c k F2 H2 G2 => k F2 H2 (G0.trans G2))
  obtain ⟨z, e1, k3⟩ := k.lift
  unfold dgetT at e1
  split at e1
  · split at e1
    · rename_i k0 x0 z0 e2
      cases e1
      have pv : v = .str k0 := p1
      subst pv
      have hH1 : H1 p = some (.dK (mergeK [] (tabKV tab))) := G1.hh _ _ upd_same
      refine ⟨p, .str z0, rfl, ?_, k3 _ F1 H1 (G0.trans G1) (by simp [Dn])⟩
      rw [← e2]
      exact DGet.k (k := .inr k0) hH1
    · cases e1
  · cases e1
end
end DL

set_option Elab.async false
set_option linter.all false
set_option maxRecDepth 100000
set_option maxHeartbeats 2000000
/-! DL12: a place in a tuple or text of the top -/
namespace DL
open PySem PySem.Spec PyProof.Rows L2

/-- a tuple of texts of the top, where it stands -/
structure TupC (K : PySem.W.Frag) (mg : Str → Option Value) (x : Str) (xs : List Str) : Prop where
  ex : ∃ (v : Addr) (o : Obj) (us : Array Value) (n : Nat), mg x = some (.ref v) ∧ K.lookup v = some o ∧ o.cls = .type "tuple" ∧ o.dict = none ∧ o.data = .seq us n ∧ us.size ≤ sizeLine ∧ Vals (xs.map V.str) us.toList
def tindexS (xs : List Str) (d : D) : Option D := match d with
  | .str k => if k ∈ xs then some (.int (xs.idxOf k : Nat)) else none
  | _ => none
@[simp] def xTindex (xs : List Str) (f : Env → R D) (r : Env) : R D := f r >>= fun d => lift (tindexS xs d)
def sindexS (s : Str) (d : D) : Option D := match d with
  | .str x => match Builtin.Str.occurrences s x 0 s.length 1 with
    | i :: _ => some (.int (i : Nat))
    | [] => none
  | _ => none
@[simp] def xSindex (s : Str) (f : Env → R D) (r : Env) : R D := f r >>= fun d => lift (sindexS s d)
section
variable {X : Cx} {ca : Exn → Addr} {W : WX}
theorem mt_tidx : MtR X "tuple.index" (fun x xs H Q => ∃ (p : Addr) (ys : List Str) (k : Str), x = .ref p ∧ xs = [.str k] ∧ SqT X.K H p (ys.map V.str) ∧ k ∈ ys ∧ Q (.int (ys.idxOf k : Nat)) H) := by
  intro pins s σ H x xs v us Q I rx rs h
  obtain ⟨p, ys, k, rfl, rfl, hq, hk, q⟩ := h
  cases rx
  cases rs with
  | cons r1 rs =>
    cases rs
    obtain ⟨t, rfl⟩ := r1
    obtain ⟨its, rv, p', hz⟩ := I.tuple hq
    have hl : s.heap.IsTuple p its.toArray := p'
    exact SeqAt.tuple_index_strs hl (Vals.strs rv) hk ⟨.int (ys.idxOf k : Nat), H, I.tok _, ⟨_, rfl⟩, q⟩
theorem mt_sidx : MtR X "str.index" (fun x xs H Q => ∃ (a b : Str) (i : Nat) (rest : List Nat), x = .str a ∧ xs = [.str b] ∧ Builtin.Str.occurrences a b 0 a.length 1 = i :: rest ∧ Q (.int (i : Nat)) H) := by
  intro pins s σ H x xs v us Q I rx rs h
  obtain ⟨a, b, i, rest, rfl, rfl, hq, q⟩ := h
  obtain ⟨t, rfl⟩ := rx
  cases rs with
  | cons r1 rs =>
    cases rs
    obtain ⟨u, rfl⟩ := r1
    exact PySem.SC.index hq ⟨.int (i : Nat), H, I.tok _, ⟨_, rfl⟩, q⟩
theorem q_tindex {x : Str} {xs : List Str} {e : Expr} {p apos cpos : Pos} {f : Env → R D} (h : TupC X.K X.mg x xs) (he : ED X ca W e f) (hg : Gl X x := by rfl) (hd : (x == ("__debug__" : Str)) = false := by decide)
    (hbase : attributeBase (.Name x p) "index" X.env (eval (.Name x p) X.env) = eval (.Name x p) X.env := by rfl)
    (hfew : ((backTo cpos (starEach [e] X.env)).all (fun x => !x.1) && (backToKw cpos (keywordEach [] X.env)).all (fun x => x.1.isSome)
      && decide (([e] : List Expr).length + ([] : List Keyword).length + (if ([] : List Keyword).isEmpty then 0 else 1) < 30)) = true := by rfl)
    (hline : (apos.endLine == cpos.line) = true := by rfl) (hs : starEach [e] X.env = (false, eval e X.env) :: starEach [] X.env := by rfl) (hplain : (backTo cpos (starEach [] X.env)).any (·.1) = false := by rfl) :
    ED X ca W (.Call (.Attribute (.Name x p) "index" apos) [e] [] cpos) (xTindex xs f) := by
  obtain ⟨v, o, us, n, h1, h2, h3, h4, h5, h6, h7⟩ := h.ex
  obtain ⟨t, pa, q⟩ := he
  refine ⟨_, pe_bmS PySem.F.plainAttrs_tuple PySem.F.slot_tuple_index PySem.F.type_tuple_index (MtR.toS mt_tidx) (pe_glob (v := .ref v) hg h1 rfl hd) (pa_cons pa pa_nil hs) hbase hfew hline hs hplain, fun F0 H0 r σ F H Q S w => ?_⟩
  refine ⟨.inr (.inl ⟨rfl, o, h2, h3, h4⟩), ?_⟩
  refine q _ _ _ _ _ _ _ S (w.bind.mono (fun d k v' F1 H1 G1 p1 => ?_) fun c k => k)
  obtain ⟨z, e1, k3⟩ := k.lift
  unfold tindexS at e1
  split at e1
  · rename_i k0
    split at e1
    · rename_i hm
      cases e1
      have pv : v' = .str k0 := by simpa [Dn] using p1
      subst pv
      exact ⟨v, xs, k0, rfl, rfl, .inr ⟨o, us, n, h2, h3, h5, h6, h7⟩, hm, k3 _ F1 H1 G1 (by simp [Dn])⟩
    · cases e1
  · cases e1
theorem q_sindex {x z : Str} {e : Expr} {p apos cpos : Pos} {f : Env → R D} (h : GVK X.K X.mg x (.str z)) (he : ED X ca W e f) (hg : Gl X x := by rfl) (hd : (x == ("__debug__" : Str)) = false := by decide)
    (hbase : attributeBase (.Name x p) "index" X.env (eval (.Name x p) X.env) = eval (.Name x p) X.env := by rfl)
    (hline : (apos.endLine == cpos.line) = true := by rfl) (hs : starEach [e] X.env = [(false, eval e X.env)] := by rfl) :
    ED X ca W (.Call (.Attribute (.Name x p) "index" apos) [e] [] cpos) (xSindex z f) := by
  obtain ⟨v, u, h1, h2, h3⟩ := h.ex
  have hv : v = .str z := by simpa [Dn] using h3 (fun _ => none)
  subst hv
  obtain ⟨t, pa, q⟩ := he
  refine ⟨_, pe_m1 F.slot_str_index F.type_str_index mt_sidx (pe_glob hg h1 h2 hd) pa hs hbase hline, fun F0 H0 r σ F H Q S w => ?_⟩
  refine ⟨⟨z, rfl⟩, ?_⟩
  refine q _ _ _ _ _ _ _ S (w.bind.mono (fun d k v' F1 H1 G1 p1 => ?_) fun c k => k)
  obtain ⟨y, e1, k3⟩ := k.lift
  unfold sindexS at e1
  split at e1
  · rename_i k0
    split at e1
    · rename_i i rest hm
      cases e1
      have pv : v' = .str k0 := by simpa [Dn] using p1
      subst pv
      exact ⟨z, k0, i, rest, rfl, rfl, hm, k3 _ F1 H1 G1 (by simp [Dn])⟩
    · cases e1
  · cases e1
end
end DL

set_option Elab.async false
set_option linter.all false
set_option maxRecDepth 100000
set_option maxHeartbeats 2000000
/-! DL13: sorted, of pairs with distinct numbers ahead -/
namespace DLS
open PySem PySem.Spec PyProof.Rows PySem.W

/-- a pair: a number and something that stands somewhere -/
def HeadI (h : Heap) (v : Value) (n : Int) : Prop := ∃ (a : Addr) (o : Obj) (t : Tok) (b : Addr) (k : Nat), v = .ref a ∧ h.get? a = some o ∧ o.cls = .type "tuple" ∧ o.data = .seq #[.int n t, .ref b] k
theorem HeadI.keeps {h h' : Heap} {v : Value} {n : Int} (x : HeadI h v n) (k : ∀ b o, h.get? b = some o → o.cls = .type "tuple" → h'.get? b = some o) : HeadI h' v n := by
  obtain ⟨a, o, t, b, j, e, ho, hc, hd⟩ := x
  exact ⟨a, o, t, b, j, e, k _ _ ho hc, hc, hd⟩
def headOf (h : Heap) (v : Value) : Int := match v with
  | .ref a => match h.get? a with
    | some o => match o.data with
      | .seq xs _ => match xs.toList with
        | .int n _ :: _ => n
        | _ => 0
      | _ => 0
    | none => 0
  | _ => 0
theorem HeadI.head {h : Heap} {v : Value} {n : Int} (x : HeadI h v n) : headOf h v = n := by
  obtain ⟨a, o, t, b, j, rfl, ho, hc, hd⟩ := x
  simp only [headOf, ho, hd]
theorem firsts {h : Heap} : ∀ {vs : List Value}, (∀ v ∈ vs, ∃ n, HeadI h v n) → ∃ fs : List Value, KatTups h vs fs ∧ fs.length = vs.length ∧ ∀ f ∈ fs, ∃ x t, f = Value.int x t
  | [], _ => ⟨[], KatTups.nil, rfl, fun _ hm => by simp at hm⟩
  | v :: vs, hp => by
    obtain ⟨fs, h1, h2, h3⟩ := firsts (vs := vs) fun v' hm => hp v' (List.mem_cons_of_mem _ hm)
    obtain ⟨n, a, o, t, b, k, e, ho, hc, hd⟩ := hp v (List.mem_cons_self ..)
    subst e
    refine ⟨.int n t :: fs, KatTups.cons ho hc hd rfl h1, by rw [List.length_cons, List.length_cons, h2], fun f hm => ?_⟩
    rcases List.mem_cons.mp hm with rfl | hm
    · exact ⟨n, t, rfl⟩
    · exact h3 f hm
section
variable {prog : Program} {w : World} {A : Around} {E : Value → Shared → Prop} {s : Shared}
theorem eqBool_self {b : Addr} {Q : Bool → Shared → Prop} (h : Q true s) : wpAny (model prog w) A (eqBool (.ref b) (.ref b)) Q E s := by
  unfold eqBool
  refine wpAny_holding ?_
  have e : ((Value.ref b == Value.ref b) = true) := by simp
  rw [if_pos e]
  refine wpAny_bind (wpAny_rule ?_)
  exact wpAny_pure h
theorem kind_heads {vs : List Value} (h2 : 2 ≤ vs.length) (x : ∀ v ∈ vs, ∃ n, HeadI s.heap v n) (inj : ∀ u ∈ vs, ∀ v ∈ vs, ∀ n, HeadI s.heap u n → HeadI s.heap v n → u = v) (r : Value → Int) (hr : ∀ v ∈ vs, ∀ n, HeadI s.heap v n → r v = n) (Q : SortKind → Shared → Prop)
    (h : ∀ κ, TS.Cmp prog w A s κ (pairsOf vs) r → Q κ s) : wpAny (model prog w) A (keyKind' vs.toArray) Q E s := by
  obtain ⟨fs, k, hl, hi⟩ := firsts x
  refine kat_kind (T := Value.type "int") k (by omega) (fun f hf => ?_) rfl (h _ ?_)
  · obtain ⟨n, t, rfl⟩ := hi f hf
    exact Looks.of_pure rfl
  · intro p q hp hq Q' E' hQ
    rw [pairsOf_toList] at hp hq
    have mp := (mem_zip_self hp).2
    have mq := (mem_zip_self hq).2
    obtain ⟨n, tp⟩ := x _ mp
    obtain ⟨m, tq⟩ := x _ mq
    have ep := hr _ mp _ tp
    have eq2 := hr _ mq _ tq
    rw [ep, eq2] at hQ
    have hsame : n = m → p.1 = q.1 := fun e => inj _ mp _ mq n tp (by rw [e]; exact tq)
    obtain ⟨a, o, t, b, j, e1, ho, hc, hd⟩ := tp
    obtain ⟨a', o', t', b', j', e2, ho', hc', hd'⟩ := tq
    rw [e1, e2] at hsame ⊢
    refine kat_lt ho hd ho' hd' ?_
    show KatLex prog w A _ (decide (2 < 2)) _ [(.int n t, .int m t'), (.ref b, .ref b')] 0 s
    refine kat_cons (wpAny_eqBool_int ?_)
    by_cases e : n = m
    · have e3 := hsame e
      cases e3
      rw [ho] at ho'
      cases ho'
      rw [hd] at hd'
      injection hd' with g1 g2
      have g3 : b = b' := by
        have := congrArg (fun l : Array Value => l[1]?) g1
        simpa using this
      subst e g3
      rw [beq_self_eq_true]
      refine kat_yes (kat_cons (eqBool_self (kat_yes (kat_nil ?_))))
      rw [show decide (n < n) = false from decide_eq_false (Int.lt_irrefl _)] at hQ
      exact hQ
    · rw [show (n == m) = false from beq_eq_false_iff_ne.mpr e]
      exact kat_no (TS.oneLt_ints _ hQ)
theorem sort_heads {a : Addr} {vs : List Value} {n : Nat} {P : PySem.Fin → Shared → Prop} (ho : s.heap.get? a = some (seqObj "list" vs.toArray n)) (h64 : vs.length < 64) (x : ∀ v ∈ vs, ∃ n, HeadI s.heap v n) (inj : ∀ u ∈ vs, ∀ v ∈ vs, ∀ n, HeadI s.heap u n → HeadI s.heap v n → u = v)
    (r : Value → Int) (hr : ∀ v ∈ vs, ∀ n, HeadI s.heap v n → r v = n)
    (h : ∀ out : Array Value, out.toList.Perm vs → out.toList.Pairwise (fun u v => r u ≤ r v) → P (.done (.ret .none)) { s with heap := sortedHeap s.heap a vs out }) :
    wpAny (model prog w) A (Builtin.«list.sort» ⟨[.ref a], []⟩) P E s := by
  have keep : ∀ b o, s.heap.get? b = some o → o.cls = .type "tuple" → (TS.midHeap s.heap a vs).get? b = some o := fun b o e hc => by
    refine TS.midHeap_old ?_ e
    rintro rfl
    rw [ho] at e
    have e' : seqObj "list" vs.toArray n = o := Option.some.inj e
    rw [← e'] at hc
    have c' : Value.type "list" = Value.type "tuple" := hc
    injection c' with c''
    exact absurd c'' (by decide)
  have back : ∀ v ∈ vs, ∀ n, HeadI (TS.midHeap s.heap a vs) v n → HeadI s.heap v n := fun v hv n hn => by
    obtain ⟨m, hm⟩ := x v hv
    have := (hm.keeps keep).head.symm.trans hn.head
    rw [← this]; exact hm
  refine SK.plain_sort (r := r) ho h64 (fun h2 Q hQ => ?_) fun ps out h1 h2 h3 => ?_
  · refine kind_heads (s := { s with heap := TS.midHeap s.heap a vs }) h2 (fun v hv => let ⟨n, hn⟩ := x v hv; ⟨n, hn.keeps keep⟩) (fun u hu v hv n a1 a2 => inj u hu v hv n (back u hu n a1) (back v hv n a2)) r (fun v hv n hn => hr v hv n (back v hv n hn)) Q hQ
  · obtain ⟨p, o⟩ := TS.out_rank h1 h2 h3
    exact h out p o
theorem sorted_heads {l : Addr} {vs : List Value} {Q : Value → Shared → Prop} (hl : s.heap.IsList l vs.toArray) (h64 : vs.length < 64) (x : ∀ v ∈ vs, ∃ n, HeadI s.heap v n) (inj : ∀ u ∈ vs, ∀ v ∈ vs, ∀ n, HeadI s.heap u n → HeadI s.heap v n → u = v)
    (h : ∀ out : Array Value, out.toList.Perm vs → out.toList.Pairwise (fun u v => headOf s.heap u ≤ headOf s.heap v) → Q (.ref (s.heap.objs.size + 1)) { s with heap := sortedAll s.heap vs out }) :
    wpAny (model prog w) A (call (.builtin "sorted") [.ref l]) Q E s := by
  refine Calls.call_function_entry kind_sorted plain_sorted entry_sorted (args_sorted1 _) ?_
  unfold Builtin.«sorted»
  refine wpAny_bind (m := checkCount "sorted" 1 1 _) (wpAny_pure ?_)
  refine wpAny_bind (collect_list hl ?_ (by rw [sizeLine_eq]; omega))
  refine wpAny_bind (wpAny_newList ?_ (by rw [sizeLine_eq]; omega))
  have hsz : ((s.heap.push (seqObj "list" #[] 0)).update s.heap.objs.size (Obj.mapSeq (· ++ vs.toArray))).objs.size = s.heap.objs.size + 1 := by
    rw [Heap.size_update, size_push']
  have hoL : (((s.heap.push (seqObj "list" #[] 0)).update s.heap.objs.size (Obj.mapSeq (· ++ vs.toArray))).push (seqObj "list" vs.toArray 0)).get? (s.heap.objs.size + 1) = some (seqObj "list" vs.toArray 0) := by
    rw [← hsz]; exact Heap.get?_push_size _ rfl
  have keep : ∀ b o, s.heap.get? b = some o → o.cls = .type "tuple" → (((s.heap.push (seqObj "list" #[] 0)).update s.heap.objs.size (Obj.mapSeq (· ++ vs.toArray))).push (seqObj "list" vs.toArray 0)).get? b = some o := fun b o q _ => by
    have hlt : b < s.heap.objs.size := Heap.lt_size q
    rw [Heap.get?_push_ne _ _ _ (by rw [hsz]; exact Nat.ne_of_lt (Nat.lt_succ_of_lt hlt)), Heap.get?_update_ne _ _ _ _ (Nat.ne_of_lt hlt), Heap.get?_push_ne _ _ _ (Nat.ne_of_lt hlt)]
    exact q
  show wpAny _ _ _ _ _ { s with heap := ((s.heap.push (seqObj "list" #[] 0)).update s.heap.objs.size (Obj.mapSeq (· ++ vs.toArray))).push (seqObj "list" vs.toArray 0) }
  rw [hsz]
  have back : ∀ v ∈ vs, ∀ n, HeadI (((s.heap.push (seqObj "list" #[] 0)).update s.heap.objs.size (Obj.mapSeq (· ++ vs.toArray))).push (seqObj "list" vs.toArray 0)) v n → HeadI s.heap v n := fun v hv n hn => by
    obtain ⟨m, hm⟩ := x v hv
    have := (hm.keeps keep).head.symm.trans hn.head
    rw [← this]; exact hm
  refine wpAny_bind (wpAny_holding (wpAny_call_entry slot_list_sort ⟨_, hoL, rfl⟩ entry_list_sort (sort_heads hoL h64 (fun v hv => let ⟨n, hn⟩ := x v hv; ⟨n, hn.keeps keep⟩) (fun u hu v hv n a1 a2 => inj u hu v hv n (back u hu n a1) (back v hv n a2)) (fun v => headOf s.heap v) (fun v hv n hn => (back v hv n hn).head) fun out a1 a2 => ⟨_, rfl, ?_⟩) (args_list_sort _)))
  exact wpAny_pure ⟨_, rfl, h out a1 a2⟩
end
end DLS

namespace DL
open PySem PySem.Spec PyProof.Rows L2

/-! ### sorted, by values -/
def HdV (K : PySem.W.Frag) (H : Hp) (x : V) (n : Int) : Prop := ∃ t b, x = V.ref t ∧ SqT K H t [.int n, .ref b]
def rSortH (K : PySem.W.Frag) : List V → Hp → VK → Prop := fun vs H Q => ∃ (a : Addr) (xs : List V) (ns : List Int), vs = [V.ref a] ∧ SqL K H a xs ∧ xs.length < 64 ∧ Paired (HdV K H) xs ns ∧ ns.Nodup ∧
  ∀ (ys : List V) (ms : List Int) (p : Addr), ys.length = ms.length → (ys.zip ms).Perm (xs.zip ns) → ms.Pairwise (· ≤ ·) → H p = none → Q (.ref p) (upd H p (.lst ys))
theorem nodup_inj {g : Value → Int} : ∀ {l : List Value}, (l.map g).Nodup → ∀ u ∈ l, ∀ v ∈ l, g u = g v → u = v
  | w :: l, hn, u, hu, v, hv, e => by
    rw [List.map_cons, List.nodup_cons] at hn
    rcases List.mem_cons.mp hu with eu | hu'
    · rcases List.mem_cons.mp hv with ev | hv'
      · rw [eu, ev]
      · have hm : g w ∈ l.map g := by rw [← eu, e]; exact List.mem_map.mpr ⟨v, hv', rfl⟩
        exact absurd hm hn.1
    · rcases List.mem_cons.mp hv with ev | hv'
      · have hm : g w ∈ l.map g := by rw [← ev, ← e]; exact List.mem_map.mpr ⟨u, hu', rfl⟩
        exact absurd hm hn.1
      · exact nodup_inj hn.2 u hu' v hv' e
theorem zip_of {α β γ : Type} (f : α → β) (g : α → γ) : ∀ l : List α, (l.map f).zip (l.map g) = l.map fun x => (f x, g x)
  | [] => rfl
  | a :: l => by rw [List.map_cons, List.map_cons, List.zip_cons_cons, zip_of f g l, List.map_cons]
theorem head_raw {X : Cx} {pins : List (Addr × Obj)} {σ : L2.St} {H : Hp} {s : Shared} (I : Inv X pins σ H s) {t b : Addr} {n : Int} (h : SqT X.K H t [.int n, .ref b]) : DLS.HeadI s.heap (.ref t) n := by
  obtain ⟨its, rv, ⟨o, ho, hc, k, hd⟩, _⟩ := I.tuple h
  cases rv with
  | cons r1 rv =>
    cases rv with
    | cons r2 rv =>
      cases rv
      obtain ⟨tk, rfl⟩ := r1
      cases r2
      exact ⟨t, o, tk, b, k, rfl, ho, hc, hd⟩
theorem heads_are {X : Cx} {pins : List (Addr × Obj)} {σ : L2.St} {H : Hp} {s : Shared} (I : Inv X pins σ H s) : ∀ {its : List Value} {ns : List Int}, Paired (HdV X.K H) (its.map bkV) ns → ns = its.map (DLS.headOf s.heap) ∧ ∀ u ∈ its, ∃ n, DLS.HeadI s.heap u n
  | [], _, h => by
    cases h
    exact ⟨rfl, fun u hu => absurd hu (by simp)⟩
  | u :: its, _, h => by
    rw [List.map_cons] at h
    cases h with
    | cons r t =>
      obtain ⟨a, b, e, hq⟩ := r
      have eu := bkV_ref e
      have hd := head_raw I hq
      rw [← eu] at hd
      obtain ⟨h1, h2⟩ := heads_are I t
      refine ⟨by rw [List.map_cons, ← hd.head, ← h1], fun v hv => ?_⟩
      rcases List.mem_cons.mp hv with rfl | hv
      · exact ⟨_, hd⟩
      · exact h2 v hv
theorem cr_sortedH {X : Cx} : CallR X (.builtin "sorted") (rSortH X.K) := by
  intro pins s σ H vs us Q I r h
  obtain ⟨a, xs, ns, rfl, hs, h64, hx, hnd, q⟩ := h
  obtain ⟨its, rv, hl, hz⟩ := I.list hs
  rw [Vals.ref1 r]
  have refs : ∀ {xs : List V} {ns : List Int}, Paired (HdV X.K H) xs ns → ∀ x ∈ xs, ∃ t, x = V.ref t := fun h => by
    induction h with
    | nil => intro x hx; exact absurd hx (by simp)
    | cons r _ ih =>
      intro x hx
      rcases List.mem_cons.mp hx with rfl | hx
      · obtain ⟨t, b, e, _⟩ := r
        exact ⟨t, e⟩
      · exact ih x hx
  obtain ⟨e1, e2⟩ := bkV_refs rv (refs hx)
  rw [e1] at hx
  obtain ⟨h5, h6⟩ := heads_are I hx
  rw [h5] at hnd
  refine DLS.sorted_heads hl.isList (by rw [← rv.length]; exact h64) h6 (fun u hu v hv n h1 h2 => nodup_inj hnd u hu v hv (h1.head.trans h2.head.symm)) fun out h1 h2 => ?_
  obtain ⟨ep, he'⟩ := PyProof.Rows.sortedAll_at s.heap its out
  have h3 : ∀ u ∈ out.toList, ∃ a, u = Value.ref a := fun u hu => e2 u (h1.mem_iff.mp hu)
  have hp : (out.toList.map bkV).Perm xs := by
    rw [e1]
    exact h1.map bkV
  have hlen : (out.toList.map bkV).length ≤ sizeLine := by
    rw [hp.length_eq]
    exact hz
  refine ⟨.ref _, upd H (s.heap.objs.size + 1) (.lst (out.toList.map bkV)), I.laid (t' := s.toks) (fun _ _ => PyProof.Rows.sortedAll_old) (Nat.le_succ _) ⟨hlen, out.toList, ep, bkV_vals h3, he'⟩, rfl, q _ (out.toList.map (DLS.headOf s.heap)) _ (by simp) ?_ ?_ (I.hok.fresh (Nat.le_succ _))⟩
  · rw [zip_of, e1, h5, zip_of]
    exact h1.map _
  · rw [List.pairwise_map]
    exact h2
def headP : List D → Option (List (Int × D))
  | [] => some []
  | .tup [.int n, .tup es] :: ds => (headP ds).map ((n, .tup [.int n, .tup es]) :: ·)
  | _ => none
def insP (p : Int × D) : List (Int × D) → List (Int × D)
  | [] => [p]
  | q :: l => if p.1 ≤ q.1 then p :: q :: l else q :: insP p l
def sortP : List (Int × D) → List (Int × D)
  | [] => []
  | p :: l => insP p (sortP l)
def sortedD : D → Option (List D)
  | .lst ds => (headP ds).bind fun ps => if (ps.map (·.1)).Nodup ∧ ds.length < 64 then some ((sortP ps).map (·.2)) else none
  | _ => none
@[simp] def lSorted (f : Env → R D) (r : Env) : R (List D) := f r >>= fun d => lift (sortedD d)
theorem insP_perm (p : Int × D) : ∀ l, (insP p l).Perm (p :: l)
  | [] => List.Perm.refl _
  | q :: l => by
    unfold insP
    split
    · exact List.Perm.refl _
    · exact ((insP_perm p l).cons q).trans (List.Perm.swap p q l)
theorem sortP_perm : ∀ l, (sortP l).Perm l
  | [] => List.Perm.refl _
  | p :: l => (insP_perm p _).trans ((sortP_perm l).cons p)
theorem insP_up (p : Int × D) : ∀ l, l.Pairwise (fun a b : Int × D => a.1 ≤ b.1) → (insP p l).Pairwise (fun a b : Int × D => a.1 ≤ b.1)
  | [], _ => by simp [insP]
  | q :: l, h => by
    rw [List.pairwise_cons] at h
    unfold insP
    split
    · rename_i hpq
      refine List.pairwise_cons.mpr ⟨fun x hx => ?_, List.pairwise_cons.mpr h⟩
      rcases List.mem_cons.mp hx with rfl | hx
      · exact hpq
      · exact Int.le_trans hpq (h.1 x hx)
    · rename_i hpq
      refine List.pairwise_cons.mpr ⟨fun x hx => ?_, insP_up p l h.2⟩
      rcases List.mem_cons.mp ((insP_perm p l).mem_iff.mp hx) with rfl | hx
      · omega
      · exact h.1 x hx
theorem sortP_up : ∀ l, (sortP l).Pairwise (fun a b : Int × D => a.1 ≤ b.1)
  | [] => List.Pairwise.nil
  | p :: l => insP_up p _ (sortP_up l)
theorem same_of_fst : ∀ {l : List (Int × D)}, (l.map (·.1)).Nodup → ∀ a ∈ l, ∀ b ∈ l, a.1 = b.1 → a = b
  | p :: l, hn, a, ha, b, hb, e => by
    rw [List.map_cons, List.nodup_cons] at hn
    rcases List.mem_cons.mp ha with ea | ha'
    · rcases List.mem_cons.mp hb with eb | hb'
      · rw [ea, eb]
      · have hm : p.1 ∈ l.map (·.1) := by rw [← ea]; exact List.mem_map.mpr ⟨b, hb', e.symm⟩
        exact absurd hm hn.1
    · rcases List.mem_cons.mp hb with eb | hb'
      · have hm : p.1 ∈ l.map (·.1) := by rw [← eb]; exact List.mem_map.mpr ⟨a, ha', e⟩
        exact absurd hm hn.1
      · exact same_of_fst hn.2 a ha' b hb' e
theorem sort_one : ∀ {l m : List (Int × D)}, l.Perm m → l.Pairwise (fun a b : Int × D => a.1 ≤ b.1) → m.Pairwise (fun a b : Int × D => a.1 ≤ b.1) → (l.map (·.1)).Nodup → l = m
  | [], m, h, _, _, _ => by rw [List.nil_perm.mp h]
  | a :: l, [], h, _, _, _ => absurd (List.perm_nil.mp h) (by simp)
  | a :: l, b :: m, h, hl, hm, hn => by
    have hl' := List.pairwise_cons.mp hl
    have hm' := List.pairwise_cons.mp hm
    have ha : a ∈ b :: m := h.mem_iff.mp (by simp)
    have hb : b ∈ a :: l := h.mem_iff.mpr (by simp)
    have e : a = b := by
      refine same_of_fst hn a (by simp) b hb ?_
      have h1 : b.1 ≤ a.1 := by
        rcases List.mem_cons.mp ha with e | ha
        · rw [e]; exact Int.le_refl _
        · exact hm'.1 a ha
      have h2 : a.1 ≤ b.1 := by
        rcases List.mem_cons.mp hb with e | hb
        · rw [e]; exact Int.le_refl _
        · exact hl'.1 b hb
      omega
    subst e
    rw [List.map_cons, List.nodup_cons] at hn
    rw [sort_one (h.cons_inv) hl'.2 hm'.2 hn.2]
/-- a pair seen: its value and what it means -/
def HeadV (K : PySem.W.Frag) (F : Hp) (v : V) (p : Int × D) : Prop := Dn K F v p.2 ∧ ∃ t b, v = .ref t ∧ SqT K F t [.int p.1, .ref b]
theorem headP_all {K : PySem.W.Frag} {F : Hp} : ∀ {ds : List D} {vs : List V} {ps : List (Int × D)}, headP ds = some ps → DnL K F vs ds → ps.map (·.2) = ds ∧ Paired (HeadV K F) vs ps
  | [], [], ps, e, _ => by
    simp only [headP] at e
    cases e
    exact ⟨rfl, .nil⟩
  | .tup [.int n, .tup es] :: ds, v :: vs, ps, e, h => by
    simp only [headP, Option.map_eq_some_iff] at e
    obtain ⟨qs, e1, rfl⟩ := e
    simp only [DnL] at h
    obtain ⟨h1, h2⟩ := headP_all e1 h.2
    refine ⟨by rw [List.map_cons, h1], .cons ⟨h.1, ?_⟩ h2⟩
    have h3 := h.1
    simp only [Dn] at h3
    obtain ⟨a, ws, rfl, h4, h5⟩ := h3
    have hl : ws.length = 2 := h5.length
    obtain ⟨w1, w2, rfl⟩ : ∃ w1 w2, ws = [w1, w2] := by
      match ws, hl with
      | [w1, w2], _ => exact ⟨w1, w2, rfl⟩
    simp only [DnL, Dn] at h5
    obtain ⟨rfl, ⟨b, us, rfl, _, _⟩, _⟩ := h5
    exact ⟨a, b, rfl, h4⟩
theorem Paired.perm {α β : Type} {R : α → β → Prop} : ∀ {xs : List α} {ps : List β} {ys : List α}, Paired R xs ps → ys.Perm xs → ∃ qs, qs.Perm ps ∧ Paired R ys qs := by
  intro xs ps ys h hp
  induction hp generalizing ps with
  | nil => cases h; exact ⟨[], List.Perm.nil, .nil⟩
  | cons x _ ih =>
    cases h with
    | cons r t =>
      obtain ⟨qs, h1, h2⟩ := ih t
      exact ⟨_ :: qs, h1.cons _, .cons r h2⟩
  | swap x y l =>
    cases h with
    | cons r t =>
      cases t with
      | cons r2 t => exact ⟨_ :: _ :: _, List.Perm.swap _ _ _, .cons r2 (.cons r t)⟩
  | trans _ _ ih1 ih2 =>
    obtain ⟨q1, h1, h2⟩ := ih2 h
    obtain ⟨q2, h3, h4⟩ := ih1 h2
    exact ⟨q2, h3.trans h1, h4⟩
theorem Paired.memL {α β : Type} {R : α → β → Prop} : ∀ {xs : List α} {ps : List β}, Paired R xs ps → ∀ x ∈ xs, ∃ p ∈ ps, R x p
  | _, _, .nil, x, hx => absurd hx (by simp)
  | _, _, .cons r t, x, hx => by
    rcases List.mem_cons.mp hx with rfl | hx
    · exact ⟨_, by simp, r⟩
    · obtain ⟨p, hp, h⟩ := Paired.memL t x hx
      exact ⟨p, by simp [hp], h⟩
theorem paired_len {α β : Type} {R : α → β → Prop} : ∀ {xs : List α} {ps : List β}, Paired R xs ps → xs.length = ps.length
  | _, _, .nil => rfl
  | _, _, .cons _ t => by simp [paired_len t]
theorem paired_dn {K : PySem.W.Frag} {F : Hp} : ∀ {vs : List V} {ps : List (Int × D)}, Paired (HeadV K F) vs ps → DnL K F vs (ps.map (·.2))
  | _, _, .nil => by simp [DnL]
  | _, _, .cons r t => by
    rw [List.map_cons]
    exact ⟨r.1, paired_dn t⟩
theorem heads_hd {K : PySem.W.Frag} {F H : Hp} (g : Same F H) : ∀ {vs : List V} {ps : List (Int × D)}, Paired (HeadV K F) vs ps → Paired (HdV K H) vs (ps.map (·.1)) ∧ Paired (fun (x : V × Int) (p : Int × D) => HeadV K F x.1 p ∧ x.2 = p.1) (vs.zip (ps.map (·.1))) ps
  | _, _, .nil => ⟨.nil, .nil⟩
  | _, _, .cons r t => by
    obtain ⟨h1, h2⟩ := heads_hd g t
    obtain ⟨a, b, e, hq⟩ := r.2
    exact ⟨.cons ⟨a, b, e, sameT g hq⟩ h1, .cons ⟨r, rfl⟩ h2⟩
theorem unzip_p {K : PySem.W.Frag} {F : Hp} : ∀ {ys : List V} {ms : List Int} {qs : List (Int × D)}, ys.length = ms.length → Paired (fun (x : V × Int) (p : Int × D) => HeadV K F x.1 p ∧ x.2 = p.1) (ys.zip ms) qs → DnL K F ys (qs.map (·.2)) ∧ qs.map (·.1) = ms
  | [], [], _, _, h => by
    cases h
    exact ⟨by simp [DnL], rfl⟩
  | y :: ys, m :: ms, _, hl, h => by
    rw [List.zip_cons_cons] at h
    cases h with
    | cons r t =>
      obtain ⟨h1, h2⟩ := unzip_p (by simpa using hl) t
      rw [List.map_cons, List.map_cons, h2, ← r.2]
      exact ⟨⟨r.1.1, h1⟩, rfl⟩
section
variable {X : Cx} {ca : Exn → Addr} {W : WX}
theorem q_sorted {a : Expr} {p pos : Pos} {f : Env → R D} (hm : X.mg "sorted" = none) (ha : PD X ca W a f) (hg : Gl X "sorted" := by rfl)
    (he : starEach [a] X.env = (false, eval a X.env) :: starEach [] X.env := by rfl) (hpl : (backTo pos (starEach [] X.env)).any (·.1) = false := by rfl) :
    FD X ca W (.Call (.Name "sorted" p) [a] [] pos) (lSorted f) := by
  obtain ⟨t, pa, q⟩ := ha
  refine ⟨tCB _ (tCons t tNil), pe_callB cr_sortedH hg hm (by decide +kernel) (pa_cons pa pa_nil he) (by decide) (by decide) he hpl, fun F0 H0 r σ F H Q S w => ?_⟩
  refine q _ _ _ _ _ _ _ S (w.bind.mono (fun d k v F1 H1 G1 p1 => ?_) fun c k => k)
  obtain ⟨ds, e1, k3⟩ := k.lift
  unfold sortedD at e1
  split at e1
  · rw [Option.bind_eq_some_iff] at e1
    obtain ⟨ps, e2, e3⟩ := e1
    split at e3
    · rename_i hc
      cases e3
      obtain ⟨a, ws, rfl, h1, h2⟩ := p1
      obtain ⟨m1, m2⟩ := headP_all e2 h2
      obtain ⟨n1, n2⟩ := heads_hd G1.sub m2
      refine ⟨a, ws, ps.map (·.1), rfl, .of h1, by rw [h2.length]; exact hc.2, n1, hc.1, fun ys ms l hyl hperm hup hl => ?_⟩
      obtain ⟨qs, g1, g2⟩ := Paired.perm n2 hperm
      obtain ⟨g3, g4⟩ := unzip_p hyl g2
      have hq : qs.Pairwise (fun a b : Int × D => a.1 ≤ b.1) := by
        rw [← List.pairwise_map (f := fun p : Int × D => p.1) (R := (· ≤ ·)), g4]
        exact hup
      have hnd : (qs.map (·.1)).Nodup := ((g1.map (·.1)).nodup_iff).mpr hc.1
      have e := sort_one (g1.trans (sortP_perm ps).symm) hq (sortP_up ps) hnd
      rw [e] at g3
      exact k3 l ys F1 _ (G1.trans (Grow.lay G1.sub hl)) (G1.hh.free hl) (G1.sub.free hl) upd_same g3
    · cases e3
  · cases e1
end
end DL

set_option Elab.async false
set_option linter.all false
set_option maxRecDepth 100000
set_option maxHeartbeats 2000000
/-! DL14: try .. except X, one statement in the body -/
namespace DL
open PySem PySem.Spec PyProof.Rows L2
/-- the clauses, in their order -/
def hrun : List ((Exn → Option Bool) × (Env → R Out)) → Exn → Env → R Out
  | [], c, _ => .ex c
  | h :: rest, c, r => match h.1 c with
    | some true => nox (h.2 r)
    | some false => hrun rest c r
    | none => .no
def sTry (f : Env → R Out) (l : List ((Exn → Option Bool) × (Env → R Out))) (r : Env) : R Out := match f r with
  | .ok o => .ok o
  | .ex c => hrun l c r
  | .no => .no
section
variable {X : Cx} {ca : Exn → Addr} {W : WX}
/-- statements that raise, if so, with the slots as they were -/
def SX (X : Cx) (ca : Exn → Addr) (W : WX) (st : List Stmt) (f : Env → R Out) : Prop := ∃ t : TS, PSs X st t ∧ ∀ F0 H0 r σ F H (E : Ends), Sim X.K F0 H0 r σ F H → Wp (f r) (OutK X.K F0 H0 F E) (fun c => ∀ F' H', Grow F H F' H' → W (.ref (ca c)) none σ H') → t E σ H
theorem q_xexpr {e : Expr} {pos : Pos} {f : Env → R D} (h : ED X ca W e f) (hs : swapsWith e none pos.line X.env = pure false := by rfl) : SX X ca W [.Expr e pos] (sExpr f) := by
  obtain ⟨t, p, q⟩ := h
  refine ⟨tDrop t, pss_one (ps_expr p hs), fun F0 H0 r σ F H E S w => ?_⟩
  exact q _ _ _ _ _ _ _ S (w.bind.mono (fun d k v F1 H1 G1 n => k σ F1 H1 (S.grow G1) G1.ff) fun c k => k)
theorem q_xset (i : Nat) {x : Str} {e : Expr} {pos pos' : Pos} {f : Env → R D} (hN : X.N.Nodup) (h : ED X ca W e f) (hi : X.N[i]? = some x := by rfl) (hx : Loc X.env.scope x := by first | exact Or.inl rfl | exact Or.inr rfl) (hs : swapsWith e (some (.Name x pos')) pos.line X.env = pure false := by rfl) (hf : X.fn x = true ∨ X.env.scope.names.lookup x = some .local := by first | exact .inl rfl | exact .inr rfl) :
    SX X ca W [.Assign [.Name x pos'] e pos] (sSet i f) := by
  obtain ⟨t, p, q⟩ := h
  refine ⟨tAsg t (gName i), pss_one (ps_set hN hi hx p hs hf), fun F0 H0 r σ F H E S w => ?_⟩
  exact q _ _ _ _ _ _ _ S (w.bind.mono (fun d k v F1 H1 G1 n => k _ F1 H1 ((S.grow G1).setSh i n) G1.ff) fun c k => k)
inductive HD (X : Cx) (ca : Exn → Addr) : List ExceptHandler → List ((Exn → Option Bool) × (Env → R Out)) → Prop
  | nil : HD X ca [] []
  | cons {x : Str} {c : Value} {m : Exn → Option Bool} {g : Env → R Out} {b₀ : Stmt} {suite : List Stmt} {np pos' : Pos} {hds : List ExceptHandler} {l : List ((Exn → Option Bool) × (Env → R Out))} (hc : Names X x c) (hm : ∀ k b, m k = some b → PySem.W.exmOne X.K (.ref (ca k)) c = some b)
      (hs : ∀ (a : Addr) (pn : List (Addr × Obj)), SDs (X.suite a pn) ca W0 (b₀ :: suite) g) (r : HD X ca hds l) : HD X ca (.ExceptHandler (some (.Name x np)) none (b₀ :: suite) pos' :: hds) ((m, g) :: l)
theorem hd_ok {hds : List ExceptHandler} {l : List ((Exn → Option Bool) × (Env → R Out))} (h : HD X ca hds l) : ∃ l' : List (Value × (Addr → Value → Option Addr → TS)), HdsOk X hds l' ∧
    ∀ (Wout : WX) F0 H0 r σ F H (E : Ends) c, Sim X.K F0 H0 r σ F H → Wp (hrun l c r) (OutK X.K F0 H0 F E) (fun c => Wout (.ref (ca c)) none σ H) → wMany X.K Wout E l' (.ref (ca c)) none σ H := by
  induction h with
  | nil => exact ⟨[], .nil, fun Wout F0 H0 r σ F H E c S w => w⟩
  | @cons x c m g b₀ suite np pos' hds l hc hm hs r ih =>
    obtain ⟨l', h1, h2⟩ := ih
    refine ⟨(c, fun a cls d E σ H => ∀ pn, Classical.choose (hs a pn) E σ H) :: l', .cons hc (fun a oe cls d pn hz hf => ?_) h1, fun Wout F0 H0 r σ F H E k S w => ?_⟩
    · have p := (Classical.choose_spec (hs a ((a, oe) :: pn))).1
      exact ⟨fun pins s σ H D I h => p.run pins s σ H D I (h _)⟩
    · unfold hrun at w
      cases hmk : m k with
      | none =>
        simp only [hmk] at w
        exact False.elim w
      | some b =>
        simp only [hmk] at w
        refine ⟨b, hm k b hmk, fun hb a ha pn => ?_, fun hb => ?_⟩
        · subst hb
          refine (Classical.choose_spec (hs a pn)).2 F0 H0 r σ F H E S ?_
          exact Wp.nox w
        · subst hb
          exact h2 Wout F0 H0 r σ F H E k S w
theorem q_try {body : List Stmt} {h₀ : ExceptHandler} {hds : List ExceptHandler} {l : List ((Exn → Option Bool) × (Env → R Out))} {pos : Pos} {f : Env → R Out} (tk : Takes X W)
    (hb : ∀ (W' : WX) (pn : List (Addr × Obj)) (xe : Value → Shared → Prop), Takes (X.tr pn xe) W' → PassesOwn (model X.prog X.w) X.A X.env xe → SX (X.tr pn xe) ca W' body f)
    (hh : HD X ca (h₀ :: hds) l) (hs : X.stack = X.env :: X.outer := by rfl) (hf : X.env.frame = some X.env.locals := by rfl) : SD X ca W (.Try body (h₀ :: hds) [] [] pos) (sTry f l) := by
  obtain ⟨l', h1, h2⟩ := hd_ok hh
  refine ⟨_, ps_try_many (tb := fun W' E σ H => ∀ pn xe (tk' : Takes (X.tr pn xe) W') (po : PassesOwn (model X.prog X.w) X.A X.env xe), Classical.choose (hb W' pn xe tk' po) E σ H) hs hf tk (fun W' pn xe tk' po => ?_) h1, fun F0 H0 r σ F H E S w => ?_⟩
  · have p := (Classical.choose_spec (hb W' pn xe tk' po)).1
    exact ⟨fun pins s σ H D I h => p.run pins s σ H D I (h pn xe tk' po)⟩
  · intro pn xe tk' po
    refine (Classical.choose_spec (hb (wMany X.K W E l') pn xe tk' po)).2 F0 H0 r σ F H E S ?_
    unfold sTry at w
    cases hfr : f r with
    | ok o => rw [hfr] at w; exact w
    | no => rw [hfr] at w; exact w
    | ex c =>
      rw [hfr] at w
      intro F' H' G
      refine h2 W F0 H0 r σ F' H' E c (S.grow G) (Wp.mono (r := hrun l c r) w (fun o k => k.same G.ff) fun c k => k σ F' H' (S.grow G).base)
theorem names_own {x : Str} {a : Addr} (h : X.mg x = some (.ref a)) (hg : Gl X x := by rfl) (hd : (x == ("__debug__" : Str)) = false := by decide) : Names X x (.ref a) := ⟨hg, hd, .inl h⟩
/-- which of the program's errors a clause takes -/
def mC (used : List Exn) (c : Exn) : Exn → Option Bool := fun k => if k ∈ used then some (decide (k = c)) else none
def mAll (used : List Exn) : Exn → Option Bool := fun k => if k ∈ used then some true else none
theorem hd_own {c : Exn} {x : Str} {g : Env → R Out} {used : List Exn} {b₀ : Stmt} {suite : List Stmt} {np pos' : Pos} {hds : List ExceptHandler} {l : List ((Exn → Option Bool) × (Env → R Out))} (hx : X.mg x = some (.ref (ca c))) (hm : ∀ k ∈ used, PySem.W.exmOne X.K (.ref (ca k)) (.ref (ca c)) = some (decide (k = c)))
    (hs : ∀ (a : Addr) (pn : List (Addr × Obj)), SDs (X.suite a pn) ca W0 (b₀ :: suite) g) (r : HD X ca hds l) (hg : Gl X x := by rfl) (hd : (x == ("__debug__" : Str)) = false := by decide) : HD X ca (.ExceptHandler (some (.Name x np)) none (b₀ :: suite) pos' :: hds) ((mC used c, g) :: l) :=
  .cons (names_own hx hg hd) (fun k b h => by
    unfold mC at h
    split at h
    · rename_i hk
      cases h
      exact hm k hk
    · cases h) hs r
end
end DL
namespace DL
open PySem PySem.Spec PyProof.Rows L2
theorem foldl_min_mem : ∀ (ns : List Int) (n : Int), ns.foldl min n = n ∨ ns.foldl min n ∈ ns
  | [], n => .inl rfl
  | m :: ns, n => by
    rw [List.foldl_cons]
    rcases foldl_min_mem ns (min n m) with h | h
    · rw [h]
      rcases Int.le_total n m with e | e
      · exact .inl (Int.min_eq_left e)
      · exact .inr (by rw [Int.min_eq_right e]; simp)
    · exact .inr (List.mem_cons_of_mem _ h)
theorem foldl_min_le : ∀ (ns : List Int) (n : Int), ns.foldl min n ≤ n ∧ ∀ m ∈ ns, ns.foldl min n ≤ m
  | [], n => ⟨Int.le_refl _, fun _ h => by cases h⟩
  | m :: ns, n => by
    rw [List.foldl_cons]
    obtain ⟨h1, h2⟩ := foldl_min_le ns (min n m)
    refine ⟨by omega, fun x hx => ?_⟩
    rcases List.mem_cons.mp hx with rfl | hx
    · omega
    · exact h2 x hx
theorem cd_minL {X : Cx} (hc : X.calm = true) : CallD X (.builtin "min") minLD := by
  refine ⟨_, cr_min hc, fun F H vs ds z Q s hp hz k => ?_⟩
  unfold minLD at hz
  split at hz
  · obtain ⟨v, rfl, h⟩ := pkl1 hp
    simp only [Option.bind_eq_some_iff] at hz
    obtain ⟨bs, e, hz⟩ := hz
    obtain ⟨a, ws, rfl, h1, h2⟩ := h
    have := h2.intsOf e
    subst this
    cases bs with
    | nil => cases hz
    | cons n ns =>
      cases hz
      refine ⟨a, n :: ns, rfl, .of h1, by simp, fun M hM hle => ?_⟩
      have hm := foldl_min_mem ns n
      have hl := foldl_min_le ns n
      have hMe : M = ns.foldl min n := by
        apply Int.le_antisymm
        · rcases hm with h | h
          · rw [h]; exact hle n (by simp)
          · exact hle _ (by simp [h])
        · rcases List.mem_cons.mp hM with e | e
          · rw [e]; exact hl.1
          · exact hl.2 M e
      rw [hMe]
      exact k _ F H (Grow.refl s) (by simp [Dn])
  · cases hz
end DL

set_option Elab.async false
set_option linter.all false
set_option maxRecDepth 100000
set_option maxHeartbeats 2000000
/-! DL15: except X as e; written dicts -/
namespace DL
open PySem PySem.Spec PyProof.Rows L2
def unAs (i : Nat) : Out → Out
  | .nx r => .nx (r.set i .un)
  | .rt d => .rt d
def sTryAs (f : Env → R Out) (m : Exn → Option Bool) (i : Nat) (g : Exn → Env → R Out) (r : Env) : R Out := match f r with
  | .ok o => .ok o
  | .no => .no
  | .ex c => match m c with
    | some true => if i < r.length then nox (g c (r.set i .un)) >>= fun o => .ok (unAs i o) else .no
    | some false => .ex c
    | none => .no
section
variable {X : Cx} {ca : Exn → Addr} {W : WX}
/-- a suite that has the exception's object a in slot i -/
def SAs (X : Cx) (ca : Exn → Addr) (i : Nat) (a : Addr) (st : List Stmt) (f : Env → R Out) : Prop := ∃ t : TS, PSs X st t ∧ ∀ F0 H0 r σ F H (E : Ends), Sim X.K F0 H0 r σ F H → σ[i]? = some (some (.ref a)) → Wp (f r) (OutK X.K F0 H0 F E) (fun _ => False) → t E σ H
theorem q_try_as {body : List Stmt} {x n : Str} {c : Value} {i : Nat} {m : Exn → Option Bool} {f : Env → R Out} {g : Exn → Env → R Out} {b₀ : Stmt} {suite : List Stmt} {np pos pos' : Pos} (tk : Takes X W)
    (hb : ∀ (W' : WX) (pn : List (Addr × Obj)) (xe : Value → Shared → Prop), Takes (X.tr pn xe) W' → PassesOwn (model X.prog X.w) X.A X.env xe → SX (X.tr pn xe) ca W' body f)
    (hN : X.N.Nodup) (hc : Names X x c) (hm : ∀ k b, m k = some b → PySem.W.exmOne X.K (.ref (ca k)) c = some b)
    (hsu : ∀ k, m k = some true → ∀ (a : Addr) (oe : Obj) (pn : List (Addr × Obj)), Zc (.ref (ca k)) none oe → (∃ vs, oe.data = .fields vs) → SAs (X.suite a ((a, oe) :: pn)) ca i a (b₀ :: suite) (g k))
    (hi : X.N[i]? = some n := by rfl) (hln : X.env.kindOf n = some .local := by rfl) (hs : X.stack = X.env :: X.outer := by rfl) (hf : X.env.frame = some X.env.locals := by rfl) :
    SD X ca W (.Try body [.ExceptHandler (some (.Name x np)) (some n) (b₀ :: suite) pos'] [] [] pos) (sTryAs f m i g) := by
  refine ⟨_, ps_try_as (c := c) (tb := fun W' E σ H => ∀ pn xe (tk' : Takes (X.tr pn xe) W') (po : PassesOwn (model X.prog X.w) X.A X.env xe), Classical.choose (hb W' pn xe tk' po) E σ H)
    (ts := fun a cls d E σ H => ∃ (k : Exn) (h : m k = some true) (_ : cls = .ref (ca k)) (_ : d = none), ∀ oe pn (hz : Zc (.ref (ca k)) none oe) (hv : ∃ vs, oe.data = .fields vs), Classical.choose (hsu k h a oe pn hz hv) E σ H)
    hs hf hN hi hln hc tk (fun W' pn xe tk' po => ?_) (fun a oe cls d pn hz hv => ?_), fun F0 H0 r σ F H E S w => ?_⟩
  · have p := (Classical.choose_spec (hb W' pn xe tk' po)).1
    exact ⟨fun pins s σ H D I h => p.run pins s σ H D I (h pn xe tk' po)⟩
  · refine ⟨fun pins s σ H D I h => ?_⟩
    obtain ⟨k, hk, rfl, rfl, h⟩ := h
    exact (Classical.choose_spec (hsu k hk a oe pn hz hv)).1.run pins s σ H D I (h oe pn hz hv)
  · intro pn xe tk' po
    refine (Classical.choose_spec (hb _ pn xe tk' po)).2 F0 H0 r σ F H E S ?_
    unfold sTryAs at w
    cases hfr : f r with
    | ok o => rw [hfr] at w; exact w
    | no => rw [hfr] at w; exact w
    | ex k =>
      simp only [hfr] at w
      intro F' H' G
      cases hmk : m k with
      | none =>
        simp only [hmk] at w
        exact False.elim w
      | some b =>
        simp only [hmk] at w
        refine ⟨b, hm k b hmk, fun hb a ha => ?_, fun hb => ?_⟩
        · subst hb
          simp only at w
          by_cases hlt : i < r.length
          case neg => rw [if_neg hlt] at w; exact False.elim w
          rw [if_pos hlt] at w
          refine ⟨k, hmk, rfl, rfl, fun oe pn hz hv => ?_⟩
          have S' := (S.grow G).unset i (some (.ref a))
          refine (Classical.choose_spec (hsu k hmk a oe pn hz hv)).2 F0 H0 (r.set i .un) _ F' H' _ S' (List.getElem?_set_self (by rw [← S.len]; exact hlt)) ?_
          have w' := w.bind
          cases hg : g k (r.set i .un) with
          | ok o =>
            rw [hg] at w'
            have w'' : OutK X.K F0 H0 F E (unAs i o) := w'
            cases o with
            | nx r1 => exact fun σ2 F2 H2 S2 s2 => w'' _ F2 H2 (S2.unset i none) (G.ff.trans s2)
            | rt d => exact w''
          | ex c => rw [hg] at w'; exact False.elim w'
          | no => rw [hg] at w'; exact False.elim w'
        · subst hb
          exact w σ F' H' (S.grow G).base
/-- return isinstance(e, T), T a built-in class -/
theorem sa_isi {i : Nat} {a : Addr} {D : Addr} {oe : Obj} {pn : List (Addr × Obj)} {n x : Str} {T : String} {p p1 p2 p3 p4 : Pos} {b : Bool} (C : ExcC X.K D) (hz : Zc (.ref D) none oe) (hv : ∃ vs, oe.data = .fields vs) (hk : PySem.W.kitOne X.K (.ref D) (.type T) = some b)
    (hm : X.mg "isinstance" = none) (hm2 : X.mg x = none) (hbt : bootBuiltins x = some (.type T) := by decide +kernel) (hg : Gl X "isinstance" := by rfl) (hg2 : Gl X x := by rfl) (hN : X.N[i]? = some n := by rfl) (hvs : Vis X.env.scope n := by first | exact Or.inl rfl | exact Or.inr (Or.inl rfl) | exact Or.inr (Or.inr rfl))
    (hd : (n == ("__debug__" : Str)) = false := by decide) (hcd : (n == ("__classdict__" : Str)) = false := by decide) (hn : x ≠ "__name__" := by decide) (hdb : (x == ("__debug__" : Str)) = false := by decide)
    (he : starEach [.Name n p1, .Name x p2] X.env = (false, eval (.Name n p1) X.env) :: starEach [.Name x p2] X.env := by rfl) (he2 : starEach [.Name x p2] X.env = (false, eval (.Name x p2) X.env) :: starEach [] X.env := by rfl) (hpl : (backTo p3 (starEach [.Name x p2] X.env)).any (·.1) = false := by rfl) :
    SAs (X.suite a ((a, oe) :: pn)) ca i a [.Return (some (.Call (.Name "isinstance" p) [.Name n p1, .Name x p2] [] p3)) p4] (fun _ => .ok (.rt (.bl b))) := by
  refine ⟨_, pss_one (ps_ret (pe_callB (X := X.suite a ((a, oe) :: pn)) (call_isE C hz hv) hg hm (by decide +kernel) (pa_cons (pe_var hN hvs hd hcd) (pa_cons (pe_bltn (v := .ty T) hg2 hm2 hbt rfl hn hdb) pa_nil he2) he) (by decide) (by decide) he hpl)), fun F0 H0 r σ F H E S hσ w => ?_⟩
  refine ⟨.ref a, hσ, ?_⟩
  exact ⟨.ty T, .type T, b, rfl, fun u q => q, hk, w _ F H S.base (by simp [Dn])⟩

/-! ### written dicts -/
theorem q_dempty {pos : Pos} : ED X ca W (.Dict [] [] pos) (xC (.dic [])) := by
  refine ⟨_, pe_dnewK, fun F0 H0 r σ F H Q S w p hp => ?_⟩
  refine w _ _ _ (Grow.put S.sub hp) ?_
  simp only [Dn]
  exact ⟨p, rfl, upd_same, fun _ h => by cases h⟩
theorem tPairs_kv {σ : L2.St} : ∀ (tab : List (Key × V)) (H : Hp) (Q : List (V × V) → Hp → Prop), Q (tab.map fun kv => (kV kv.1, kv.2)) H → tPairs (tab.map fun kv => (tC (kV kv.1), tC kv.2)) σ H Q
  | [], H, Q, h => h
  | kv :: tab, H, Q, h => tPairs_kv tab H (fun ps H' => Q ((kV kv.1, kv.2) :: ps) H') h
theorem q_ddisp {keys : List (Option Expr)} {values : List Expr} {dpos : Pos} (tab : List (Key × V)) (hu : X.A.units + 64 < cLine) (h : PPs X dpos keys values (tab.map fun kv => (tC (kV kv.1), tC kv.2))) (hfl : ∀ p ∈ mergeK [] tab, flatV p.2 = true)
    (hall : keys.all (·.isSome) = true := by rfl) (hl : keys.length = values.length := by rfl) (h0 : keys ≠ [] := by exact List.cons_ne_nil _ _) (h15 : keys.length ≤ 15 := by decide) (ht : tab.length ≤ 15 := by decide) :
    ED X ca W (.Dict keys values dpos) (xC (.dic (mergeK [] tab))) := by
  refine ⟨_, pe_disp h hall hl h0 h15, fun F0 H0 r σ F H Q S w p hp => ?_⟩
  refine tPairs_kv tab _ _ ⟨upd_same, tab, rfl, ht, ?_⟩
  rw [upd_twice]
  refine w _ _ _ (Grow.put S.sub hp) ?_
  simp only [Dn]
  exact ⟨p, rfl, upd_same, hfl⟩
def keyD : D → Option Key
  | .str k => some (.inr k)
  | .int i => some (.inl i)
  | _ => none
def flatBack : V → Option D
  | .str z => some (.str z)
  | .int i => some (.int i)
  | _ => none
theorem keyD_pk {K : PySem.W.Frag} {F H : Hp} {x : V} {d : D} {k : Key} (h : Pk K F H x d) (e : keyD d = some k) : x = kV k := by
  cases d with
  | int i =>
    simp only [keyD, Option.some.injEq] at e
    subst e
    have h' : x = V.int i := by simpa [Pk, Dn] using h
    exact h'
  | str z =>
    simp only [keyD, Option.some.injEq] at e
    subst e
    have h' : x = V.str z := by simpa [Pk, Dn] using h
    exact h'
  | _ => simp [keyD] at e
def dinB : D → D → Option Bool
  | d, .dic kvs => (keyD d).map fun k => (valV kvs k).isSome
  | _, _ => none
def dinD (d e : D) : Option D := (dinB d e).map .bl
def dninD (d e : D) : Option D := (dinB d e).map fun b => .bl (!b)
def dixD : D → D → Option D
  | .dic kvs, d => (keyD d).bind fun k => (valV kvs k).bind flatBack
  | _, _ => none
@[simp] def xDix (fa fb : Env → R D) (r : Env) : R D := fa r >>= fun d => fb r >>= fun e => lift (dixD d e)
theorem opd_din (hu : X.A.units + 64 < cLine) : OpD X (compareOp .In) dinD := by
  refine ⟨fun x y H Q => ∃ a o, y = .ref a ∧ DGet H a x o ∧ Q (.bl o.isSome) H, fun pins s σ H x y v u Q I rx ry h => ?_, fun F H x y d e z Q s hx hy hz k => ?_⟩
  · obtain ⟨a, o, rfl, g, q⟩ := h
    cases (show u = Value.ref a from ry)
    exact d_in (by omega) I g rx fun s3 I3 => ⟨.bl o.isSome, H, I3, rfl, q⟩
  · simp only [dinD, Option.map_eq_some_iff] at hz
    obtain ⟨b, hb, rfl⟩ := hz
    unfold dinB at hb
    split at hb
    · simp only [Option.map_eq_some_iff] at hb
      obtain ⟨key, e1, rfl⟩ := hb
      have ex := keyD_pk hx e1
      subst ex
      simp only [Pk, Dn] at hy
      obtain ⟨a, rfl, h1, _⟩ := hy
      exact ⟨a, _, rfl, DGet.k (s _ _ h1), k _ F H (Grow.refl s) (by simp [Dn])⟩
    · cases hb
theorem opd_dnin (hu : X.A.units + 64 < cLine) : OpD X (compareOp .NotIn) dninD := by
  refine ⟨fun x y H Q => ∃ a o, y = .ref a ∧ DGet H a x o ∧ Q (.bl (!o.isSome)) H, fun pins s σ H x y v u Q I rx ry h => ?_, fun F H x y d e z Q s hx hy hz k => ?_⟩
  · obtain ⟨a, o, rfl, g, q⟩ := h
    cases (show u = Value.ref a from ry)
    exact d_notIn (by omega) I g rx fun s3 I3 => ⟨.bl (!o.isSome), H, I3, rfl, q⟩
  · simp only [dninD, Option.map_eq_some_iff] at hz
    obtain ⟨b, hb, rfl⟩ := hz
    unfold dinB at hb
    split at hb
    · simp only [Option.map_eq_some_iff] at hb
      obtain ⟨key, e1, rfl⟩ := hb
      have ex := keyD_pk hx e1
      subst ex
      simp only [Pk, Dn] at hy
      obtain ⟨a, rfl, h1, _⟩ := hy
      exact ⟨a, _, rfl, DGet.k (s _ _ h1), k _ F H (Grow.refl s) (by simp [Dn])⟩
    · cases hb
theorem flatBack_dn {K : PySem.W.Frag} {F : Hp} {v : V} {d : D} (h : flatBack v = some d) : Dn K F v d := by
  cases v <;> simp [flatBack] at h
  · subst h; simp [Dn]
  · subst h; simp [Dn]
theorem q_dix {a b : Expr} {pos : Pos} {fa fb : Env → R D} (hu : X.A.units + 64 < cLine) (ha : PD X ca W a fa) (hb : PD X ca W b fb) (hs : NoSl b := by exact fun _ _ => rfl) : ED X ca W (.Subscript a b pos) (xDix fa fb) := by
  obtain ⟨t, p, q⟩ := ha
  obtain ⟨t', p', q'⟩ := hb
  refine ⟨tDGet t t', pe_dget (by omega) p p' hs, fun F0 H0 r σ F H Q S w => ?_⟩
  refine q _ _ _ _ _ _ _ S (w.bind.mono (fun d k x F1 H1 G1 p1 => ?_) fun c k => k)
  refine q' _ _ _ _ _ _ _ (S.grow G1) (k.bind.mono (fun e k2 y F2 H2 G2 p2 => ?_) fun c k F2 H2 G2 => k F2 H2 (G1.trans G2))
  obtain ⟨z, e1, k3⟩ := k2.lift
  unfold dixD at e1
  split at e1
  · simp only [Option.bind_eq_some_iff] at e1
    obtain ⟨key, e2, v, e3, e4⟩ := e1
    have ex := keyD_pk p2 e2
    subst ex
    have p1' := p1.grow G2
    simp only [Pk, Dn] at p1'
    obtain ⟨a, rfl, h1, _⟩ := p1'
    refine ⟨a, v, rfl, ?_, k3 v F2 H2 (G1.trans G2) (flatBack_dn e4)⟩
    rw [← e3]
    exact DGet.k (G2.sub _ _ h1)
  · cases e1
end
end DL
namespace DL
open PySem PySem.Spec PyProof.Rows L2
theorem mAll_ok {K : PySem.W.Frag} {ca : Exn → Addr} {c : Value} {used : List Exn} (h : ∀ k ∈ used, PySem.W.exmOne K (.ref (ca k)) c = some true) : ∀ k b, mAll used k = some b → PySem.W.exmOne K (.ref (ca k)) c = some b := fun k b e => by
  unfold mAll at e
  split at e
  · rename_i hk
    cases e
    exact h k hk
  · cases e
theorem mAll_mem {used : List Exn} {k : Exn} (h : mAll used k = some true) : k ∈ used := by
  unfold mAll at h
  split at h
  · assumption
  · cases h
theorem kit_ve {K : PySem.W.Frag} {x : Addr} (h : PySem.W.subIn K (.ref x) (.type "ValueError") = some true) : PySem.W.kitOne K (.ref x) (.type "ValueError") = some true := by
  unfold PySem.W.kitOne
  rw [if_neg (show ¬ ((Value.ref x == Value.type "ValueError") = true) from by simp)]
  show (if PySem.W.kitMeta "ValueError" = true then PySem.W.subIn K (.ref x) (.type "ValueError") else none) = some true
  rw [if_pos (by decide +kernel)]
  exact h
end DL

set_option Elab.async false
set_option linter.all false
set_option maxRecDepth 100000
set_option maxHeartbeats 2000000
/-! DL16: a text times a number -/
namespace DL
open PySem PySem.Spec PyProof.Rows L2
def smulD : D → D → Option D
  | .str a, .int k => if 2 ≤ k ∧ k ≤ 1000 ∧ 1 ≤ a.length ∧ a.length ≤ 1000 then some (.str ⟨(List.replicate k.toNat a.cps.toList).flatten.toArray⟩) else none
  | _, _ => none
theorem foldl_cps (x : Array Nat) : ∀ (n : Nat) (acc : Array Nat), ((List.replicate n x).foldl (· ++ ·) acc) = acc ++ (List.replicate n x.toList).flatten.toArray
  | 0, acc => by simp
  | n + 1, acc => by
    rw [List.replicate_succ, List.foldl_cons, foldl_cps x n (acc ++ x), List.replicate_succ, List.flatten_cons]
    apply Array.toList_inj.mp
    simp
theorem opd_smul {X : Cx} : OpD X (binaryOp .Mult) smulD := by
  refine ⟨fun x y H Q => ∃ (a : Str) (k : Int), x = .str a ∧ y = .int k ∧ 2 ≤ k ∧ k ≤ 1000 ∧ 1 ≤ a.length ∧ a.length ≤ 1000 ∧ Q (.str ⟨(List.replicate k.toNat a.cps.toList).flatten.toArray⟩) H, fun pins s σ H x y v u Q I rx ry h => ?_, fun F H x y d e z Q s hx hy hz k => ?_⟩
  · obtain ⟨a, k, rfl, rfl, h1, h2, h3, h4, q⟩ := h
    obtain ⟨t, rfl⟩ := rx
    obtain ⟨t2, rfl⟩ := ry
    have hs : sizeLine = 16777216 := sizeLine_eq
    have n1 : ¬ k < 1 := by omega
    have n2 : (k == 1 || a.length == 0) = false := by
      have e1 : (k == 1) = false := by simp; omega
      have e2 : (a.length == 0) = false := by simp; omega
      rw [e1, e2]; rfl
    have hlen : a.length * k.toNat ≤ 1000000 := by
      have : a.length * k.toNat ≤ 1000 * 1000 := Nat.mul_le_mul h4 (by omega)
      omega
    have hdiv : ¬ ((a.length : Int) > (2 ^ 63 - 1) / k) := by
      have : (1000 : Int) ≤ (2 ^ 63 - 1) / k := by
        apply Int.le_ediv_of_mul_le (by omega)
        omega
      omega
    refine PySem.P.mul_str (by
      have h5 : ¬ k < -(2 ^ 63 : Int) := by omega
      have h6 : ¬ k ≥ 2 ^ 63 := by omega
      rw [decide_eq_false h5, decide_eq_false h6]; rfl) (fun _ _ => hdiv) (fun _ _ => by unfold PySem.Builtin.Str.tooLong; simp; omega) ?_
    rw [if_neg n1, n2, if_neg (by decide), foldl_cps]
    have e : (#[] : Array Nat) ++ (List.replicate k.toNat a.cps.toList).flatten.toArray = (List.replicate k.toNat a.cps.toList).flatten.toArray := by simp
    rw [e]
    refine ⟨?_, ⟨.str _, H, I.tok _, ⟨_, rfl⟩, q⟩⟩
    have hl2 : (⟨(List.replicate k.toNat a.cps.toList).flatten.toArray⟩ : Str).length = k.toNat * a.length := by
      simp [Str.length]
    rw [hl2, Nat.mul_comm]; omega
  · cases d <;> cases e <;> simp only [smulD] at hz <;> first | contradiction | skip
    split at hz
    · rename_i hc
      cases hz
      exact ⟨_, _, hx, hy, hc.1, hc.2.1, hc.2.2.1, hc.2.2.2, k _ F H (Grow.refl s) (by simp [Dn])⟩
    · cases hz
end DL

set_option Elab.async false
set_option linter.all false
set_option maxRecDepth 100000
set_option maxHeartbeats 2000000
/-! DL17: objects that are changed, held in the base heap -/
namespace DL
open PySem PySem.Spec PyProof.Rows L2
/-- the base heap, with the objects at L as they stand -/
def ext (H0 H : Hp) (L : List Addr) : Hp := fun x => if x ∈ L then H x else H0 x
theorem ext_in {H0 H : Hp} {L : List Addr} {b : Addr} (h : b ∈ L) : ext H0 H L b = H b := if_pos h
theorem ext_out {H0 H : Hp} {L : List Addr} {b : Addr} (h : b ∉ L) : ext H0 H L b = H0 b := if_neg h
structure Held (K : PySem.W.Frag) (F0 H0 : Hp) (r : Env) (σ : L2.St) (F H : Hp) (L : List Addr) : Prop where
  sim : Sim K F0 (ext H0 H L) r σ F H
  fr : ∀ b ∈ L, F b = none ∧ H0 b = none ∧ ∃ o, H b = some o
section
variable {K : PySem.W.Frag} {F0 H0 : Hp} {r : Env} {σ : L2.St} {F H : Hp} {L : List Addr}
theorem Held.same {r' : Env} {σ' : L2.St} {F' H' : Hp} (h : Held K F0 H0 r σ F H L) (S' : Sim K F0 (ext H0 H L) r' σ' F' H') (s : Same F F') : Held K F0 H0 r' σ' F' H' L ∧ ∀ b ∈ L, H' b = H b := by
  have e : ∀ b ∈ L, H' b = H b := fun b hb => by
    obtain ⟨_, _, o, ho⟩ := h.fr b hb
    have := S'.h0 b o (by rw [ext_in hb]; exact ho)
    rw [this, ho]
  have ee : ext H0 H' L = ext H0 H L := funext fun x => by
    by_cases hx : x ∈ L
    · rw [ext_in hx, ext_in hx, e x hx]
    · rw [ext_out hx, ext_out hx]
  refine ⟨⟨by rw [ee]; exact S', fun b hb => ?_⟩, e⟩
  obtain ⟨h1, h2, o, ho⟩ := h.fr b hb
  exact ⟨S'.new b o (h.sim.f0.free h1) (by rw [ext_in hb]; exact ho), h2, o, by rw [e b hb]; exact ho⟩
theorem Held.grow {F' H' : Hp} (h : Held K F0 H0 r σ F H L) (G : Grow F H F' H') : Held K F0 H0 r σ F' H' L ∧ ∀ b ∈ L, H' b = H b := h.same (h.sim.grow G) G.ff
theorem Held.base {F' H' : Hp} (h : Held K F0 H0 r σ F H L) (G : Grow F0 (ext H0 H L) F' H') : Grow F0 H0 F' H' := by
  have hin : ∀ x o, H0 x = some o → ext H0 H L x = some o := fun x o e => by
    by_cases hx : x ∈ L
    · rw [(h.fr x hx).2.1] at e; cases e
    · rw [ext_out hx]; exact e
  exact ⟨G.ff, fun x o e => G.hh x o (hin x o e), G.sub, fun a o e1 e2 => G.new a o e1 (hin a o e2)⟩
theorem Held.mut {b : Addr} {o : HO} (h : Held K F0 H0 r σ F H L) (hb : b ∈ L) : Held K F0 H0 r σ F (upd H b o) L := by
  have S := h.sim
  refine ⟨⟨S.len, fun x u e => ?_, S.f0, fun x u e => ?_, fun a u e1 e2 => ?_, S.sh, fun i ds e => ?_, S.sep⟩, fun c hc => ?_⟩
  · rw [upd_ne (ne_of_none e (h.fr b hb).1)]; exact S.sub x u e
  · by_cases hx : x ∈ L
    · rw [ext_in hx] at e; exact e
    · rw [ext_out hx] at e
      have hxb : x ≠ b := fun z => hx (z ▸ hb)
      rw [upd_ne hxb]
      exact S.h0 x u (by rw [ext_out hx]; exact e)
  · by_cases hx : a ∈ L
    · exact (h.fr a hx).1
    · rw [ext_out hx] at e2
      exact S.new a u e1 (by rw [ext_out hx]; exact e2)
  · obtain ⟨a, vs, h1, h2, h3, h4, h5⟩ := S.ow i ds e
    have hx : a ∉ L := fun hm => by rw [ext_in hm, h2] at h4; cases h4
    have hab : a ≠ b := fun z => hx (z ▸ hb)
    exact ⟨a, vs, h1, by rw [upd_ne hab]; exact h2, h3, by rw [ext_out hx] at h4 ⊢; exact h4, h5⟩
  · obtain ⟨h1, h2, u, h3⟩ := h.fr c hc
    refine ⟨h1, h2, ?_⟩
    by_cases hcb : c = b
    · subst hcb; exact ⟨o, upd_same⟩
    · exact ⟨u, by rw [upd_ne hcb]; exact h3⟩
theorem Sim.hold (S : Sim K F0 H0 r σ F H) (hL : ∀ b ∈ L, F b = none ∧ H0 b = none ∧ ∃ o, H b = some o) (hno : ∀ b ∈ L, ∀ (j : Nat) ds, r[j]? = some (.ow ds) → σ[j]? ≠ some (some (.ref b))) : Held K F0 H0 r σ F H L := by
  refine ⟨⟨S.len, S.sub, S.f0, fun x u e => ?_, fun a u e1 e2 => ?_, S.sh, fun i ds e => ?_, S.sep⟩, hL⟩
  · by_cases hx : x ∈ L
    · rw [ext_in hx] at e; exact e
    · rw [ext_out hx] at e; exact S.h0 x u e
  · by_cases hx : a ∈ L
    · exact (hL a hx).1
    · rw [ext_out hx] at e2; exact S.new a u e1 e2
  · obtain ⟨a, vs, h1, h2, h3, h4, h5⟩ := S.ow i ds e
    have hx : a ∉ L := fun hm => hno a hm i ds e h1
    exact ⟨a, vs, h1, h2, h3, by rw [ext_out hx]; exact h4, h5⟩
theorem Held.drop (h : Held K F0 H0 r σ F H L) : Sim K F0 H0 r σ F H := by
  have S := h.sim
  have hin : ∀ x o, H0 x = some o → ext H0 H L x = some o := fun x o e => by
    by_cases hx : x ∈ L
    · rw [(h.fr x hx).2.1] at e; cases e
    · rw [ext_out hx]; exact e
  refine ⟨S.len, S.sub, S.f0, fun x u e => S.h0 x u (hin x u e), fun a u e1 e2 => S.new a u e1 (hin a u e2), S.sh, fun i ds e => ?_, S.sep⟩
  obtain ⟨a, vs, h1, h2, h3, h4, h5⟩ := S.ow i ds e
  have hx : a ∉ L := fun hm => by rw [ext_in hm, h2] at h4; cases h4
  exact ⟨a, vs, h1, h2, h3, by rw [ext_out hx] at h4; exact h4, h5⟩
/-- F grows by objects that nothing needs -/
theorem Sim.frz {b : Addr} {o : HO} (S : Sim K F0 H0 r σ F H) (h1 : F b = none) (h2 : H b = some o) (h0 : H0 b = none) (hno : ∀ (j : Nat) ds, r[j]? = some (.ow ds) → σ[j]? ≠ some (some (.ref b))) : Sim K F0 H0 r σ (upd F b o) H := by
  have sF : Same F (upd F b o) := same_updN h1
  refine ⟨S.len, fun x u e => ?_, S.f0.trans sF, S.h0, fun a u e1 e2 => ?_, fun i d e => ?_, fun i ds e => ?_, S.sep⟩
  · by_cases hx : x = b
    · subst hx; rw [upd_same] at e; rw [h2]; exact e
    · rw [upd_ne hx] at e; exact S.sub x u e
  · rw [upd_ne (ne_of_none e2 h0)]; exact S.new a u e1 e2
  · obtain ⟨v, k1, k2⟩ := S.sh i d e
    exact ⟨v, k1, k2.same sF d v⟩
  · obtain ⟨a, vs, k1, k2, k3, k4, k5⟩ := S.ow i ds e
    have hx : a ≠ b := fun z => by subst z; exact hno i ds e k1
    exact ⟨a, vs, k1, k2, by rw [upd_ne hx]; exact k3, k4, k5.same sF ds vs⟩
end
section
variable {X : Cx} {ca : Exn → Addr} {W : WX}
/-- how a statement ends, the objects at L held -/
def OutH (K : PySem.W.Frag) (F0 H0 F H : Hp) (L : List Addr) (E : Ends) : Out → Prop
  | .nx r' => ∀ σ' F' H', Held K F0 H0 r' σ' F' H' L → (∀ b ∈ L, H' b = H b) → Same F F' → E.nx σ' H'
  | .rt d => ∀ v F' H', Grow F0 H0 F' H' → Dn K F' v d → E.rt v H'
theorem heldSD {f : Env → R Out} {t : TS} (q : ∀ F0 H0 r σ F H (E : Ends), Sim X.K F0 H0 r σ F H → Wp (f r) (OutK X.K F0 H0 F E) (ExK ca W F0 H0) → t E σ H) {F0 H0 : Hp} {r : Env} {σ : L2.St} {F H : Hp} {L : List Addr} {E : Ends} (h : Held X.K F0 H0 r σ F H L)
    (w : Wp (f r) (OutH X.K F0 H0 F H L E) (ExK ca W F0 H0)) : t E σ H := by
  refine q F0 (ext H0 H L) r σ F H E h.sim (w.mono (fun o k => ?_) fun c k σ' F' H' G => k σ' F' H' (h.base G))
  cases o with
  | nx r' => exact fun σ' F' H' S' s => (fun z => k σ' F' H' z.1 z.2 s) (h.same S' s)
  | rt d => exact fun v F' H' G n => k v F' H' (h.base G) n
/-- o.append(e), o an object that is held -/
theorem held_append {o e : Expr} {apos cpos pos : Pos} {fo fe : Env → R D} (ho : ED X ca W o fo) (he : ED X ca W e fe) (hbase : attributeBase o "append" X.env (eval o X.env) = eval o X.env := by rfl)
    (hfew : ((backTo cpos (starEach [e] X.env)).all (fun x => !x.1) && (backToKw cpos (keywordEach [] X.env)).all (fun x => x.1.isSome)
      && decide (([e] : List Expr).length + ([] : List Keyword).length + (if ([] : List Keyword).isEmpty then 0 else 1) < 30)) = true := by rfl)
    (hline : (apos.endLine == cpos.line) = true := by rfl) (hs : starEach [e] X.env = (false, eval e X.env) :: starEach [] X.env := by rfl) (hplain : (backTo cpos (starEach [] X.env)).any (·.1) = false := by rfl)
    (hsw : swapsWith (.Call (.Attribute o "append" apos) [e] [] cpos) none pos.line X.env = pure false := by rfl) :
    ∃ t : TS, PS X (.Expr (.Call (.Attribute o "append" apos) [e] [] cpos) pos) t ∧ ∀ F0 H0 r σ F H L (E : Ends) b x vs ds, Held X.K F0 H0 r σ F H L → fo r = .ok (.adr b) → fe r = .ok x → b ∈ L → H b = some (.lst vs) → DnL X.K F vs ds → ds.length < sizeLine →
      (∀ F' H' vs', Held X.K F0 H0 r σ F' H' L → Same F F' → H' b = some (.lst vs') → DnL X.K F' vs' (ds ++ [x]) → (∀ c ∈ L, c ≠ b → H' c = H c) → E.nx σ H') → t E σ H := by
  obtain ⟨to, po, qo⟩ := ho
  obtain ⟨te, pe, qe⟩ := he
  refine ⟨_, ps_expr (pe_bm PySem.F.plainAttrs_list PySem.F.slot_list_append PySem.F.type_list_append mt_append po (pa_cons pe pa_nil hs) hbase hfew hline hs hplain) hsw, fun F0 H0 r σ F H L E b x vs ds h h1 h2 hb hH hn hlt k => ?_⟩
  refine qo _ _ _ _ _ _ _ h.sim ?_
  rw [h1]
  intro v F1 H1 G1 n1
  simp only [Dn] at n1
  subst n1
  obtain ⟨hh1, e1⟩ := h.grow G1
  have hH1 : H1 b = some (.lst vs) := by rw [e1 b hb]; exact hH
  refine ⟨.inl ⟨rfl, vs, .of hH1⟩, ?_⟩
  refine qe _ _ _ _ _ _ _ hh1.sim ?_
  rw [h2]
  intro u F2 H2 G2 n2
  obtain ⟨hh2, e2⟩ := hh1.grow G2
  have hH2 : H2 b = some (.lst vs) := by rw [e2 b hb]; exact hH1
  refine ⟨b, vs, u, rfl, rfl, hH2, by rw [hn.length]; exact hlt, ?_⟩
  refine k F2 _ _ (hh2.mut hb) (G1.ff.trans G2.ff) upd_same (((hn.same G1.ff _ _).same G2.ff _ _).append (.one n2)) fun c hc hne => ?_
  rw [upd_ne hne, e2 c hc, e1 c hc]
/-- x = [[], []] -/
theorem gap_new (i : Nat) {x : Str} {p1 p2 p3 pos pos' : Pos} (hN : X.N.Nodup) (hi : X.N[i]? = some x := by rfl) (hx : Loc X.env.scope x := by first | exact Or.inl rfl | exact Or.inr rfl) (hs : swapsWith (.List [.List [] p1, .List [] p2] p3) (some (.Name x pos')) pos.line X.env = pure false := by rfl) (hf : X.fn x = true ∨ X.env.scope.names.lookup x = some .local := by first | exact .inl rfl | exact .inr rfl)
    (h1 : starEach [.List [] p1, .List [] p2] X.env = (false, eval (.List [] p1) X.env) :: starEach [.List [] p2] X.env := by rfl) (h2 : starEach [.List [] p2] X.env = (false, eval (.List [] p2) X.env) :: starEach [] X.env := by rfl) :
    ∃ t : TS, PS X (.Assign [.Name x pos'] (.List [.List [] p1, .List [] p2] p3) pos) t ∧ ∀ F0 H0 r σ F H (E : Ends), Sim X.K F0 H0 r σ F H →
      (∀ b0 b1 σ' F' H', b0 ≠ b1 → Held X.K F0 H0 (r.set i (.sh (.lst [.adr b0, .adr b1]))) σ' F' H' [b0, b1] → Same F F' → H' b0 = some (.lst []) → H' b1 = some (.lst []) → E.nx σ' H') → t E σ H := by
  refine ⟨_, ps_set hN hi hx (pe_lst (pa_cons (pe_lst pa_nil) (pa_cons (pe_lst pa_nil) pa_nil h2) h1)) hs hf, fun F0 H0 r σ F H E S k => ?_⟩
  have hs := sizeLine_eq
  refine ⟨by show 0 ≤ sizeLine; omega, fun b0 hb0 => ⟨by show 0 ≤ sizeLine; omega, fun b1 hb1 => ⟨by show 2 ≤ sizeLine; omega, fun a ha => ?_⟩⟩⟩
  have n01 : b1 ≠ b0 := fun z => by subst z; rw [upd_same] at hb1; cases hb1
  have nb1 : H b1 = none := by rw [upd_ne n01] at hb1; exact hb1
  have na1 : a ≠ b1 := fun z => by subst z; rw [upd_same] at ha; cases ha
  have ha' : upd H b0 (.lst []) a = none := by rw [upd_ne na1] at ha; exact ha
  have na0 : a ≠ b0 := fun z => by subst z; rw [upd_same] at ha'; cases ha'
  have nH : H a = none := by rw [upd_ne na0] at ha'; exact ha'
  have G1 : Grow F H F (upd H b0 (.lst [])) := Grow.lay S.sub hb0
  have G2 : Grow F (upd H b0 (.lst [])) F (upd (upd H b0 (.lst [])) b1 (.lst [])) := Grow.lay G1.sub hb1
  have G3 := Grow.put (o := .lst [V.ref b0, V.ref b1]) G2.sub ha
  have G := (G1.trans G2).trans G3
  have S3 := (S.grow G).setSh i (v := .ref a) (d := .lst [.adr b0, .adr b1]) (by
    simp only [Dn]
    exact ⟨a, [.ref b0, .ref b1], rfl, upd_same, .cons (by simp [Dn]) (.cons (by simp [Dn]) .nil)⟩)
  have e0 : upd (upd (upd H b0 (.lst [])) b1 (.lst [])) a (.lst [V.ref b0, V.ref b1]) b0 = some (.lst []) := by rw [upd_ne (Ne.symm na0), upd_ne (Ne.symm n01), upd_same]
  have e1 : upd (upd (upd H b0 (.lst [])) b1 (.lst [])) a (.lst [V.ref b0, V.ref b1]) b1 = some (.lst []) := by rw [upd_ne (Ne.symm na1), upd_same]
  refine k b0 b1 _ _ _ (Ne.symm n01) (S3.hold (fun b hb => ?_) fun b hb j ds e z => ?_) G.ff e0 e1
  · rcases List.mem_cons.mp hb with rfl | hb
    · exact ⟨by rw [upd_ne (Ne.symm na0)]; exact S.sub.free hb0, S.h0.free hb0, _, e0⟩
    · rw [List.mem_singleton.mp hb]
      exact ⟨by rw [upd_ne (Ne.symm na1)]; exact S.sub.free nb1, S.h0.free nb1, _, e1⟩
  · rcases get_set e with ⟨_, e2, _⟩ | ⟨hj, e2⟩
    · cases e2
    · rw [List.getElem?_set_ne (Ne.symm hj)] at z
      obtain ⟨c, vs, k1, k2, _⟩ := S.ow j ds e2
      rw [z] at k1
      cases k1
      rcases List.mem_cons.mp hb with rfl | hb
      · rw [hb0] at k2; cases k2
      · rw [List.mem_singleton.mp hb, nb1] at k2; cases k2
/-- the two lists are frozen -/
theorem gap_frz {K : PySem.W.Frag} {F0 H0 : Hp} {r : Env} {σ : L2.St} {F H : Hp} {i : Nat} {b0 b1 : Addr} {v0 v1 : List V} {d0 d1 : List D} (h : Held K F0 H0 r σ F H [b0, b1]) (hr : r[i]? = some (.sh (.lst [.adr b0, .adr b1]))) (hne : b0 ≠ b1) (h0 : H b0 = some (.lst v0)) (h1 : H b1 = some (.lst v1)) (n0 : DnL K F v0 d0) (n1 : DnL K F v1 d1) :
    ∃ F', Same F F' ∧ Sim K F0 H0 (r.set i (.sh (.lst [.lst d0, .lst d1]))) σ F' H := by
  have S := h.drop
  obtain ⟨f0, g0, _⟩ := h.fr b0 (by simp)
  obtain ⟨f1, g1, _⟩ := h.fr b1 (by simp)
  have no : ∀ b ∈ [b0, b1], ∀ (j : Nat) ds, r[j]? = some (.ow ds) → σ[j]? ≠ some (some (.ref b)) := fun b hb j ds e z => by
    obtain ⟨c, vs, k1, k2, k3, k4, _⟩ := h.sim.ow j ds e
    rw [z] at k1
    cases k1
    rw [ext_in hb, k2] at k4
    cases k4
  have S1 := S.frz f0 h0 g0 (no b0 (by simp))
  have f1' : upd F b0 (.lst v0) b1 = none := by rw [upd_ne (Ne.symm hne)]; exact f1
  have S2 := S1.frz f1' h1 g1 (no b1 (by simp))
  have s : Same F (upd (upd F b0 (.lst v0)) b1 (.lst v1)) := (same_updN f0).trans (same_updN f1')
  refine ⟨_, s, ?_⟩
  obtain ⟨v, k1, k2⟩ := S.sh i _ hr
  simp only [Dn] at k2
  obtain ⟨a, vs, rfl, k3, k4⟩ := k2
  have k5 : vs = [.ref b0, .ref b1] := by
    cases vs with
    | nil => simp [DnL] at k4
    | cons x vs =>
      simp only [DnL, Dn] at k4
      cases vs with
      | nil => simp [DnL] at k4
      | cons y vs =>
        simp only [DnL, Dn] at k4
        cases vs with
        | nil => rw [k4.1, k4.2.1]
        | cons z vs => simp [DnL] at k4
  subst k5
  have S3 := S2.setSh i (v := .ref a) (d := .lst [.lst d0, .lst d1]) (by
    simp only [Dn]
    refine ⟨a, [.ref b0, .ref b1], rfl, s _ _ k3, .cons ?_ (.cons ?_ .nil)⟩
    · simp only [Dn]
      exact ⟨b0, v0, rfl, by rw [upd_ne hne, upd_same], n0.same s _ _⟩
    · simp only [Dn]
      exact ⟨b1, v1, rfl, upd_same, n1.same s _ _⟩)
  have e : σ.set i (some (.ref a)) = σ := by
    apply List.ext_getElem?
    intro j
    by_cases hj : i = j
    · subst hj
      have hlt : i < σ.length := (List.getElem?_eq_some_iff.mp k1).1
      rw [List.getElem?_set_self hlt, k1]
    · rw [List.getElem?_set_ne hj]
  rw [e] at S3
  exact S3
end
end DL

set_option Elab.async false
set_option linter.all false
set_option maxRecDepth 100000
set_option maxHeartbeats 2000000
/-! DL18: comprehensions whose element raises -/
namespace DL
open PySem PySem.Spec PyProof.Rows L2
theorem noteFrame_eq {e : Value} {a b : PySem.Env} (h : a.frame = b.frame) : noteFrame e a = noteFrame e b := by
  unfold noteFrame PySem.frameOf
  rw [h]
/-- an exception is noted, whatever flight it was on -/
theorem looks_anyZ {M : Model} {A : Around} {E : Value → Shared → Prop} {s : Shared} {Z : Obj → Prop} {base : Heap} {env : PySem.Env} {outer : List PySem.Env} {L e : Addr} {fl : Value} {Q : Unit → Shared → Prop} (hZ : HandSPX.Steady Z) (hfr : A.frames = some (env :: outer)) (hf : env.frame = some L)
    (hkb : base.StaysIn s.heap) (hen : base.get? e = none) (hl : s.heap.FunFrames base (env :: outer)) (ht : HandSPX.TracedZ s.heap base e Z fl) (hne : (fl == rawInt L) = false)
    (hQ : ∀ h', HandSPX.HeldZ base (env :: outer) e Z L h' → s.heap.UpToSlots h' → Q () { s with heap := h' }) : wpAny M A (noteFrame (.ref e) env) Q E s := by
  obtain ⟨oe, vs, T, oT, ts, he, hz, hd, h1, hnT, hTe, hT, hdT, h3⟩ := ht
  have other : ∀ b, b ≠ T → (s.heap.update T (Obj.mapFields (·.setIfInBounds 3 Value.none))).get? b = s.heap.get? b := fun b hb => Heap.get?_update_other _ _ (Ne.symm hb)
  have noT : ∀ b o, s.heap.get? b = some o → (∀ vs, o.data ≠ .fields vs) → b ≠ T := fun b o hb hnf q => by
    subst q
    rw [hT] at hb
    cases hb
    exact hnf ts hdT
  unfold noteFrame
  simp only [hf]
  refine wpAny_bind (wpAny_field he hd h1 ?_)
  rw [if_pos (by simp)]
  refine wpAny_bind (wpAny_field hT hdT h3 ?_)
  rw [if_neg (by rw [hne]; decide)]
  refine wpAny_bind (wpAny_setField hT hdT (Array.getElem?_eq_some_iff.mp h3).1 ?_)
  refine HandSPX.wpAny_entryZ hZ hfr (hl.of_keeps fun b o hb hnf => ⟨o, (other b (noT b o hb hnf)).trans hb, rfl⟩) hf ((other e (Ne.symm hTe)).trans he)
    (fun b o hbo => (other b fun q => by rw [q, hnT] at hbo; cases hbo).trans (hkb b o hbo)) hen hd (Array.getElem?_eq_some_iff.mp h1).1 hz fun h' ⟨x1, x2, x3, x4⟩ => ?_
  exact hQ h' ⟨x1, hen, x2, x3⟩ fun b o hb hnf => x4 b o ((other b (noT b o hb hnf)).trans hb) hnf
theorem funFrames_frs {base h h' : Heap} : ∀ {l : List PySem.Env}, h.FunFrames base l → (∀ b ∈ frs l, ∀ o, h.get? b = some o → h'.get? b = some o) → h'.FunFrames base l
  | [], _, _ => trivial
  | env :: l, ⟨hk, ⟨L, o, hf, hn, ho, hd⟩, hr⟩, k => ⟨hk, ⟨L, o, hf, hn, k L (List.mem_filterMap.mpr ⟨env, List.mem_cons_self, hf⟩) o ho, hd⟩, funFrames_frs hr fun b hb => k b (by
      obtain ⟨e, he, q⟩ := List.mem_filterMap.mp hb
      exact List.mem_filterMap.mpr ⟨e, List.mem_cons_of_mem _ he, q⟩)⟩
/-- a block whose exceptions are wanted -/
abbrev blkX (X : Cx) (s : Shared) (H : Hp) (scope : Scope) (cenv : PySem.Env) (fp : List Addr) (xe : Value → Shared → Prop) : Cx := (X.blk s H scope cenv fp).wish xe
section
variable {X : Cx} {W : WX}
/-- what leaves the block is taken by the def around -/
theorem takes_blk {pins : List (Addr × Obj)} {σ : L2.St} {H3 : Hp} {s3 : Shared} {scope : Scope} {ce : PySem.Env} {fp : List Addr} (hs : X.stack = X.env :: X.outer) (hf : X.env.frame = some X.env.locals) (tk : Takes X W) (I3 : Inv X pins σ H3 s3)
    (f3 : ∀ b ∈ fp, FpOk X pins H3 b) (hce : ce.frame = X.env.frame) (hC : ce.locals = s3.heap.objs.size) :
    Takes (blkX X s3 H3 scope ce fp (notedBy (model X.prog X.w) X.A ce (CompFails (model X.prog X.w) X.A X.xe ce))) (fun cls d _ H => W cls d σ H) := by
  rintro u s' ⟨a, B, sI, pins', σb, H, cls, d, rfl, I, nb, up, sky, na, os, ag, w⟩
  show wpAny _ X.A (noteFrame (.ref a) ce) (fun _ s'' => CompFails (model X.prog X.w) X.A X.xe ce (.ref a) s'') (CompFails (model X.prog X.w) X.A X.xe ce) s'
  rw [noteFrame_eq hce]
  have hfr : X.A.frames = some (X.env :: X.outer) := by rw [I3.ok.frames, hs]
  have nC : H ce.locals = none := I.free
  have frC : ∀ b ∈ frs X.stack, b ≠ ce.locals := fun b hb z => by
    obtain ⟨_, o, e, _⟩ := I3.stack.mem hb
    have := Heap.lt_size e
    rw [z, hC] at this
    exact Nat.lt_irrefl _ this
  have LC : X.env.locals ≠ ce.locals := by
    obtain ⟨m, hn, _⟩ := I3.loc
    have := hn.lt
    rw [hC]
    exact Nat.ne_of_lt this
  obtain ⟨m, ⟨oC, es, ep, eC, dC, kC⟩, _⟩ := id I.loc
  have eC : sI.heap.get? ce.locals = some oC := eC
  have I7 : Inv X pins σ H sI := I3.call' (ch := fp) I.os I.base I.hok I.bare fun b hb => ⟨(f3 b hb).2.2.2.1, (f3 b hb).2.1, (f3 b hb).2.2.2.2.1, (f3 b hb).2.2.2.2.2⟩
  have key : ∀ h', HandSPX.HeldZ B (X.env :: X.outer) a (Zc cls d) X.env.locals h' → s'.heap.UpToSlots h' → CompFails (model X.prog X.w) X.A X.xe ce (.ref a) { s' with heap := h' } := by
    rintro h' ⟨q1, q2, q3, oe, vs, T, oT, ts, he, hz, hd, h1, hnT, hTe, hT, hdT, h3⟩ up1
    obtain ⟨sl, e1⟩ := up _ _ eC (fun vs => by rw [dC]; simp)
    obtain ⟨sl2, e2⟩ := up1 _ _ e1 (fun vs => by show oC.data ≠ _; rw [dC]; simp)
    refine ⟨m, ⟨_, es, ep, e2, dC, kC⟩, fun h'' m' hn' sb => ?_⟩
    have aC : a ≠ ce.locals := fun z => by
      rw [z, e2] at he
      cases he
      have : oC.data = _ := hd
      rw [dC] at this
      cases this
    have TC : T ≠ ce.locals := fun z => by
      rw [z, e2] at hT
      cases hT
      have : oC.data = _ := hdT
      rw [dC] at this
      cases this
    have hB : ∀ b o, (PySem.W.hideAll B [ce.locals]).get? b = some o → b ≠ ce.locals ∧ B.get? b = some o := fun b o e => by
      refine ⟨fun z => ?_, PySem.W.of_hideAll _ e⟩
      rw [z, PySem.W.hideAll_none _ (by simp)] at e
      cases e
    have hBn : ∀ b, B.get? b = none → (PySem.W.hideAll B [ce.locals]).get? b = none := fun b e => by
      cases q : (PySem.W.hideAll B [ce.locals]).get? b with
      | none => rfl
      | some o =>
        rw [(hB b o q).2] at e
        cases e
    have held : HandSPX.HeldZ (PySem.W.hideAll B [ce.locals]) (X.env :: X.outer) a (Zc cls d) X.env.locals h'' := by
      refine ⟨fun b o e => (sb.2 b (hB b o e).1).trans (q1 b o (hB b o e).2), hBn a q2, ?_, oe, vs, T, oT, ts, (sb.2 a aC).trans he, hz, hd, h1, hBn T hnT, hTe, (sb.2 T TC).trans hT, hdT, h3⟩
      refine funFrames_frs (funFrames_none q3 fun L hL => hBn L ?_) fun b hb o e => (sb.2 b (frC b (by rw [hs]; exact hb))).trans e
      exact (q3.mem hL).1
    unfold PySem.passOn
    obtain ⟨w1, w2, w3, oe', vs', T', oT', ts', he', hz', hd', h1', _⟩ := id held
    refine wpAny_bind (wpAny_field (s := { s' with heap := h'' }) he' hd' h1' ?_)
    rw [if_neg (by simp)]
    refine wpAny_bind ?_
    rw [hce, hf]
    refine HandSPX.setFlight_onZ held fun h3 hh up3 => wpAny_throw (tk _ _ ?_)
    refine ⟨a, PySem.W.hideAll B [ce.locals], { sI with heap := PySem.W.hideAll sI.heap [ce.locals] }, pins, σ, H, cls, d, rfl, ?_, fun b o e hb => ?_, fun b o e hnf => ?_, ?_, na, os, ag, w⟩
    · have fC : FpOk X pins H s3.heap.objs.size := I3.fpOk (Nat.le_refl _) (by rw [← hC]; exact nC)
      obtain ⟨f0, f1, f2, f4, f5, f6⟩ := fC
      rw [← hC] at f0 f1 f2 f4 f5 f6
      exact I7.turned (t' := sI.toks) (fun b o hb e => PySem.W.hideAll_get _ e (by simpa using hb)) f0 f1 f4 f5 f6
    · have hb' : b ≠ ce.locals := fun z => by
        rw [z, PySem.W.hideAll_none _ (by simp)] at e
        cases e
      exact PySem.W.hideAll_get _ (nb b o (PySem.W.of_hideAll _ e) hb) (by simpa using hb')
    · have hb : b ≠ ce.locals := fun z => by
        rw [z, PySem.W.hideAll_none _ (by simp)] at e
        cases e
      obtain ⟨s1, g1⟩ := up b o (PySem.W.of_hideAll _ e) hnf
      obtain ⟨s2, g2⟩ := up1 b _ g1 hnf
      obtain ⟨s3, g3⟩ := up3 b _ ((sb.2 b hb).trans g2) hnf
      exact ⟨s3, g3⟩
    · rw [hs]
      exact .inr (.inr hh)
  have sky : Sky B (X.env :: X.outer) a (Zc cls d) ce.locals s'.heap := by rw [← hs]; exact sky
  rcases sky with ⟨hB, hn, hl, oe, vs, he, hz, hd, h1⟩ | fl | hd
  · exact HandSPX.look_newZ Zc.steady hfr hl hf he hB hn hd h1 hz key
  · exact HandSPX.looks_onZ Zc.steady hfr hf fl key
  · exact looks_anyZ Zc.steady hfr hf hd.1 hd.2.1 hd.2.2.1 hd.2.2.2 (by
      simp only [rawInt, beq_eq_false_iff_ne, ne_eq]
      intro z
      exact LC (by have := z.symm; simp at this; exact Int.ofNat_inj.mp this)) key
end
end DL

set_option Elab.async false
set_option linter.all false
set_option maxRecDepth 100000
set_option maxHeartbeats 2000000
/-! DL19: a list comprehension whose element raises -/
namespace DL
open PySem PySem.Spec PyProof.Rows L2
section
variable {X : Cx} {ca : Exn → Addr} {W : WX}
theorem lc_coreX {pins : List (Addr × Obj)} {s : Shared} {σ : L2.St} {H : Hp} {Q : VK} {elt tg iter : Expr} {ifs : List Expr} {scope : Scope} {own : List (Str × Nat)} {pos pos' : Pos} {wi : TI} {g : TG} {tt : TT} {te : TE} {use : Option (Value → Sem Unit)} {Qf : Value → Shared → Prop}
    (hst : X.stack = X.env :: X.outer) (hfr : X.env.frame = some X.env.locals) (tk : Takes X W) (hc : X.calm = true) (hN : X.N.Nodup) (I : Inv X pins σ H s) (hi : PI X tg iter wi) (ok : BlkOk X.N X.env.scope scope own)
    (hg : ∀ (s : Shared) (H : Hp) (C : Addr) (cl : List (Str × Addr)) (fp : List Addr) (xe : Value → Shared → Prop), PG (blkX X s H scope (compEnvC scope cl C X.env) fp xe) tg g)
    (ht : ∀ (s : Shared) (H : Hp) (C : Addr) (cl : List (Str × Addr)) (fp : List Addr) (xe : Value → Shared → Prop), PTs (blkX X s H scope (compEnvC scope cl C X.env) fp xe) ifs tt)
    (he : ∀ (s : Shared) (H : Hp) (C : Addr) (cl : List (Str × Addr)) (fp : List Addr) (xe : Value → Shared → Prop), Takes (blkX X s H scope (compEnvC scope cl C X.env) fp xe) (fun cls d _ H => W cls d σ H) → PE (blkX X s H scope (compEnvC scope cl C X.env) fp xe) elt te)
    (hs : ∀ x, foldedSetIterable iter X.env x = pure x)
    (h : tLc wi g tt te (own.map (·.2)) σ H Q)
    (hRR : ∀ D (ce : PySem.Env) s' m H', Inv X pins σ H' s' → Q (.ref D) H' → s'.heap.Ns ce.locals m → FpOk X pins H' ce.locals → compEnds (model X.prog X.w) X.A X.xe use Qf (.ref D) ce (.ok .next) s') :
    wpAny (model X.prog X.w) X.A (comprehension (.ListComp elt [⟨tg, iter, ifs, 0⟩] scope pos) scope X.env pos' (newList []) false (eval iter X.env) use) Qf X.xe s := by
  have hfree : ∀ y ∈ scope.names, y.2 = .free → ∃ c, X.env.cells.lookup y.1 = some c := fun y hy e => by
    rcases ok.free y hy e with k | k
    · exact I.ok.has _ (.inl k)
    · exact I.ok.has _ (.inr k)
  refine comprehension_at (use := use) rfl hs (closure_ok hfree) ok.kind (fun y hy e => by rw [ok.uniq y hy, e])
    (thn (hi.run pins s σ H _ I h) fun xv s1 hx => thn hx fun itv s2 h2 => ?_)
  obtain ⟨it, fp, tn, J, H2, e, I2, T, st2, f2, q⟩ := h2
  subst e
  refine wpAny_newObj_type (newEnv_comp ?_) (by show 0 ≤ sizeLine; decide)
  generalize hD : s2.heap.objs.size = D
  have hDn : H2 D = none := I2.hok.fresh (Nat.le_of_eq hD)
  obtain ⟨Wi, ⟨m0, w0⟩, turn⟩ := q D hDn
  generalize hs3 : ({ s2 with heap := s2.heap.push { cls := .type "list", data := .seq ([] : List Value).toArray } } : Shared) = s3
  have I3 : Inv X pins σ (upd H2 D (.lst [])) s3 := by
    rw [← hs3]
    refine I2.laid (t' := s2.toks) (fun b o e => Heap.get?_push_of_some _ e) (Nat.le_of_eq hD) ⟨Nat.zero_le _, [], 0, .nil, ?_⟩
    rw [← hD]
    exact Heap.get?_push_size _ rfl
  have h3 : s3.heap = s2.heap.push { cls := .type "list", data := .seq ([] : List Value).toArray } := by rw [← hs3]
  have sz : ∀ b ∈ fp, b < s2.heap.objs.size := fun b hb => by
    obtain ⟨o, e, _⟩ := T.obj _ _ st2 b hb
    exact Heap.lt_size e
  have f3 : ∀ b ∈ fp, FpOk X pins (upd H2 D (.lst [])) b ∧ b < s3.heap.objs.size := fun b hb => by
    have hlt := sz b hb
    refine ⟨⟨?_, (f2 b hb).2⟩, by rw [h3, Heap.size_push]; exact Nat.lt_succ_of_lt hlt⟩
    rw [upd_ne (by rw [← hD]; exact Nat.ne_of_lt hlt)]
    exact (f2 b hb).1
  have st3 : tn 0 s3.heap := T.keep _ _ _ st2 fun b _ o e => by rw [h3]; exact Heap.get?_push_of_some _ e
  have I4 := block_start I3 ok hN f3
  have tkb := takes_blk (scope := scope) (ce := compEnvC scope (cellsFrom (s3.heap.objs.size + 1) scope.names (cloFrom X.env.cells scope.names [])) s3.heap.objs.size X.env) (fp := fp) hst hfr tk I3 (fun b hb => (f3 b hb).1) rfl rfl
  have pg := hg s3 (upd H2 D (.lst [])) s3.heap.objs.size (cellsFrom (s3.heap.objs.size + 1) scope.names (cloFrom X.env.cells scope.names [])) fp (notedBy (model X.prog X.w) X.A (compEnvC scope (cellsFrom (s3.heap.objs.size + 1) scope.names (cloFrom X.env.cells scope.names [])) s3.heap.objs.size X.env) (CompFails (model X.prog X.w) X.A X.xe (compEnvC scope (cellsFrom (s3.heap.objs.size + 1) scope.names (cloFrom X.env.cells scope.names [])) s3.heap.objs.size X.env)))
  have pt := ht s3 (upd H2 D (.lst [])) s3.heap.objs.size (cellsFrom (s3.heap.objs.size + 1) scope.names (cloFrom X.env.cells scope.names [])) fp (notedBy (model X.prog X.w) X.A (compEnvC scope (cellsFrom (s3.heap.objs.size + 1) scope.names (cloFrom X.env.cells scope.names [])) s3.heap.objs.size X.env) (CompFails (model X.prog X.w) X.A X.xe (compEnvC scope (cellsFrom (s3.heap.objs.size + 1) scope.names (cloFrom X.env.cells scope.names [])) s3.heap.objs.size X.env)))
  have pe := he s3 (upd H2 D (.lst [])) s3.heap.objs.size (cellsFrom (s3.heap.objs.size + 1) scope.names (cloFrom X.env.cells scope.names [])) fp _ tkb
  show codeAny _ _ (.compStart (.ListComp elt [⟨tg, iter, ifs, 0⟩] scope pos) 0 (.ref it) (.ref D) (compEnvC scope (cellsFrom (s3.heap.objs.size + 1) scope.names (cloFrom X.env.cells scope.names [])) s3.heap.objs.size X.env)) (compEnds (model X.prog X.w) X.A X.xe use Qf (.ref D) (compEnvC scope (cellsFrom (s3.heap.objs.size + 1) scope.names (cloFrom X.env.cells scope.names [])) s3.heap.objs.size X.env)) { s3 with heap := pushCells (s3.heap.push { cls := .type "dict", data := .dict #[] }) scope.names }
  clear tkb
  have nfp : ∀ b ∈ fp, (upd H2 D (.lst [])) b = none := fun b hb => (f3 b hb).1.1
  generalize hce : compEnvC scope (cellsFrom (s3.heap.objs.size + 1) scope.names (cloFrom X.env.cells scope.names [])) s3.heap.objs.size X.env = ce at I4 pg pt pe ⊢
  have cL : ce.locals = s3.heap.objs.size := by subst hce; rfl
  generalize hH3 : upd H2 D (.lst []) = H3 at I3 I4 pg pt pe w0 nfp f3
  generalize hxe : notedBy (model X.prog X.w) X.A ce (CompFails (model X.prog X.w) X.A X.xe ce) = xe at pg pt pe
  replace I4 := I4.wish xe
  generalize hs4 : ({ s3 with heap := pushCells (s3.heap.push { cls := .type "dict", data := .dict #[] }) scope.names } : Shared) = s4 at I4 ⊢
  have st4 : tn 0 s4.heap := T.keep _ _ _ st3 fun b _ o e => by rw [← hs4]; exact pushCells_keeps _ _ _ _ (Heap.get?_push_of_some _ e)
  have stat : ∀ {σ' : L2.St} {H' : Hp} {s' : Shared}, Inv (blkX X s3 H3 scope ce fp xe) [] σ' H' s' → (∀ b ∈ fp, H' b = none) → ∀ b ∈ fp, FpOk (blkX X s3 H3 scope ce fp xe) [] H' b := fun {σ' H' s'} I' hn b hb =>
    ⟨hn b hb, (I'.ok.exf b hb).1, I'.ok.exfs b hb, .inl hb, fun x c e => (I'.ok.exf b hb).2 x c e, fun p hp => absurd (show p ∈ ([] : List (Addr × Obj)) ++ [] from hp) (by simp)⟩
  have exe : (notedBy (model X.prog X.w) X.A ce fun e s' => compEnds (model X.prog X.w) X.A X.xe use Qf (.ref D) ce (.error e) s') = xe := by
    rw [← hxe]
    cases use <;> rfl
  have loop : codeAny (model X.prog X.w) X.A (.compLoop (.ListComp elt [⟨tg, iter, ifs, 0⟩] scope pos) 0 (.ref it) (.ref D) ce) (compEnds (model X.prog X.w) X.A X.xe use Qf (.ref D) ce) s4 := by
    refine compLoop_any (fun n s' => ∃ i H', Inv (blkX X s3 H3 scope ce fp xe) [] (wipe σ (own.map (·.2))) H' s' ∧ tn i s'.heap ∧ (∀ b ∈ fp, H' b = none) ∧ Wi i n H') ?_ m0 ⟨0, H3, I4, st4, nfp, w0⟩
    rw [exe]
    rintro n s5 ⟨i, H5, I5, st5, n5, w5⟩
    rcases turn i n H5 w5 with ⟨stop, qq⟩ | ⟨go, Nx, hNx, step⟩
    · have td := T.done (blkX X s3 H3 scope ce fp xe) rfl rfl rfl hc i [] s5 _ H5 (fun _ _ => False) I5 (stat I5 n5) st5 stop
      refine thnF td fun r s6 ⟨hr, I6⟩ => ?_
      subst hr
      have I7 : Inv X pins σ H5 s6 := I3.call' (ch := fp) I6.os I6.base I6.hok I6.bare fun b hb => ⟨(f3 b hb).1.2.2.2.1, (f3 b hb).1.2.1, (f3 b hb).1.2.2.2.2.1, (f3 b hb).1.2.2.2.2.2⟩
      have nC : H5 ce.locals = none := I6.free
      obtain ⟨m, hn, _⟩ := I6.loc
      have hn : s6.heap.Ns ce.locals m := hn
      refine hRR D ce s6 m H5 I7 qq hn ?_
      rw [cL]
      exact I3.fpOk (Nat.le_refl _) (by rw [← cL]; exact nC)
    · have ti := T.item (blkX X s3 H3 scope ce fp xe) rfl rfl rfl hc i [] s5 _ H5 (fun _ _ => False) I5 (stat I5 n5) st5 go
      refine thnF ti fun r s6 ⟨u, hr, h6⟩ => ?_
      subst hr
      refine thnF h6 fun _ s7 ⟨x, H7, I7, r7, y7, st7, n7⟩ => ?_
      have I7' := I7.pinned (stat I7 n7) (T.obj _ _ st7)
      refine thn (pg.run _ s7 _ H7 x u _ I7' r7 (step x H7 y7)) fun _ s8 ⟨σ8, H8, I8, hw8, q8⟩ => ?_
      refine thn (pt.run _ s8 σ8 H8 _ I8 q8) fun b s9 ⟨H9, I9, q9⟩ => ?_
      have fin : ∀ {s' : Shared} {H' : Hp}, Inv (blkX X s3 H3 scope ce fp xe) ([] ++ pinsAt fp s7.heap) σ8 H' s' → Nx H' → ∃ m, m < n ∧ ∃ i H', Inv (blkX X s3 H3 scope ce fp xe) [] (wipe σ (own.map (·.2))) H' s' ∧ tn i s'.heap ∧ (∀ b ∈ fp, H' b = none) ∧ Wi i m H' := fun {s' H'} I' nx => by
        obtain ⟨m', hm, w'⟩ := hNx H' nx
        have pin' : ∀ b ∈ fp, ∀ o, s7.heap.get? b = some o → s'.heap.get? b = some o ∧ H' b = none := fun b hb o e =>
          let z := I'.pin (b, o) (List.mem_append_right _ (List.mem_append_right _ (mem_pinsAt hb e)))
          ⟨z.1, z.2.1⟩
        have hl : (wipe σ (own.map (·.2))).length = σ8.length := by rw [← hw8, wipe_length]
        refine ⟨m', hm, i + 1, H', (I'.unpinned (pins := [])).weak hl (fun j v e => ?_), T.keep _ _ _ st7 fun b hb o e => (pin' b hb o e).1, fun b hb => ?_, w'⟩
        · rw [← hw8] at e
          exact (wipe_some e).1
        · obtain ⟨o, e, _⟩ := T.obj _ _ st7 b hb
          exact (pin' b hb o e).2
      cases b with
      | false =>
        simp only [Bool.false_eq_true, if_false] at q9 ⊢
        exact fin I9 q9
      | true =>
        simp only [if_true] at q9 ⊢
        refine thn (pe.run _ s9 σ8 H9 _ I9 q9) fun z s10 ⟨yv, H10, I10, r10, acc, hD10, hz10, nx⟩ => ?_
        exact app_ok (X := blkX X s3 H3 scope ce fp xe) I10 hD10 hz10 r10 fun s11 I11 => fin I11 nx
  exact codeAny_compStart_list loop (T.self X.A 0 _ _ _ st4 loop)
/-- name = [..] on one line, the name a local -/
theorem ps_setLcX {i : Nat} {y : Str} {py : Pos} {elt tg iter : Expr} {ifs : List Expr} {scope : Scope} {own : List (Str × Nat)} {pos spos : Pos} {wi : TI} {g : TG} {tt : TT} {te : L2.St → TE}
    (hst : X.stack = X.env :: X.outer) (hfr : X.env.frame = some X.env.locals) (tk : Takes X W) (hc : X.calm = true) (hN : X.N.Nodup) (hy : X.N[i]? = some y) (hyl : X.env.scope.names.lookup y = some .local)
    (hsw : swapsWith (.ListComp elt [⟨tg, iter, ifs, 0⟩] scope pos) (some (.Name y py)) spos.line X.env = pure true) (hi : PI X tg iter wi) (ok : BlkOk X.N X.env.scope scope own)
    (hg : ∀ (s : Shared) (H : Hp) (C : Addr) (cl : List (Str × Addr)) (fp : List Addr) (xe : Value → Shared → Prop), PG (blkX X s H scope (compEnvC scope cl C X.env) fp xe) tg g)
    (ht : ∀ (s : Shared) (H : Hp) (C : Addr) (cl : List (Str × Addr)) (fp : List Addr) (xe : Value → Shared → Prop), PTs (blkX X s H scope (compEnvC scope cl C X.env) fp xe) ifs tt)
    (he : ∀ (σ : L2.St) (s : Shared) (H : Hp) (C : Addr) (cl : List (Str × Addr)) (fp : List Addr) (xe : Value → Shared → Prop), Takes (blkX X s H scope (compEnvC scope cl C X.env) fp xe) (fun cls d _ H => W cls d σ H) → PE (blkX X s H scope (compEnvC scope cl C X.env) fp xe) elt (te σ))
    (hs : ∀ x, foldedSetIterable iter X.env x = pure x := by intro _; rfl) :
    PS X (.Assign [.Name y py] (.ListComp elt [⟨tg, iter, ifs, 0⟩] scope pos) spos) (tAsg (fun σ => tLc wi g tt (te σ) (own.map (·.2)) σ) (gName i)) := by
  refine ⟨fun pins s σ H D I h => ?_⟩
  rw [exec_Assign_Name_used _ _ _ _ hsw]
  refine wpAny_bind (wpAny_standAt (wpAny_bind ?_))
  show wpAny _ X.A (do let _ ← comprehension (.ListComp elt [⟨tg, iter, ifs, 0⟩] scope pos) scope X.env (firstIterPos [⟨tg, iter, ifs, 0⟩] pos) (newList []) false (eval iter X.env) (some (assign (.Name y py) X.env))) _ _ s
  have h : tLc wi g tt (te σ) (own.map (·.2)) σ H (fun x H1 => gName i x σ H1 D.nx) := h
  refine wpAny_bind (thn (lc_coreX (Qf := fun _ s' => SP X pins D .next s') hst hfr tk hc hN I hi ok hg ht (he σ) hs h fun L ce s' m H' I' q hn f => ?_) fun _ s' hq => wpAny_pure (wpAny_pure hq))
  show wpAny _ _ (assign (.Name y py) X.env (.ref L)) _ _ _
  refine wpAny_assign_Name (store_ok2 (v := V.ref L) I' hN hy (.inl hyl) rfl (fun s2 I2 ⟨a, sb, ha⟩ => ?_) (.inr hyl))
  obtain ⟨f0, f1, f2, f3, f4, f5⟩ := f
  have haC : ce.locals ≠ a := by
    rcases ha with z | z
    · rw [z]; exact f1
    · exact fun e => f4 y a z e.symm
  refine ⟨m, hn.sameBut sb haC, fun h3 sb3 => ?_⟩
  exact ⟨_, H', I2.turned (t' := s2.toks) (fun b o hb e => (sb3.2 b hb).trans e) f0 f1 f3 f4 f5, q⟩
end

/-! ### read by the data -/
def compX (own : List Nat) (tgt : D → Env → Option Env) (tst : Env → R Bool) (el : Env → R D) (r : Env) : List D → R (List D)
  | [] => .ok []
  | d :: ds => lift (tgt d (wipeE r own)) >>= fun r1 => nox (tst r1) >>= fun b => if b = true then el r1 >>= fun x => compX own tgt tst el r ds >>= fun xs => .ok (x :: xs) else compX own tgt tst el r ds
theorem lc_readX {ca : Exn → Addr} {W : WX} {wi : TI} {g : TG} {tt : TT} {te : TE} {vs sl : List Nat} {K : PySem.W.Frag} {tgt : D → Env → Option Env} {tst : Env → R Bool} {el : Env → R D} {fi : Env → R (List D)} {F0 H0 : Hp} {r : Env} {σ : L2.St} {F H : Hp} {Q : VK} (hsl : ∀ i ∈ sl, i ∈ vs)
    (q1 : ∀ F0 H0 r σ F H (Rr : It → Hp → Prop), Sim K F0 H0 r σ F H → Wp (fi r) (fun ds => ∀ J F' H', Grow F H F' H' → Items K F' J ds → Rr J H') (fun c => ∀ F' H', Grow F H F' H' → W (.ref (ca c)) none σ H') → wi σ H Rr)
    (q2 : ∀ F0 H0 r r' σ F H v d (Q : L2.St → Hp → Prop), Sim K F0 H0 r σ F H → Dn K F v d → tgt d r = some r' → (∀ σ', Sim K F0 H0 r' σ' F H → (∀ vs : List Nat, (∀ i ∈ sl, i ∈ vs) → wipe σ' vs = wipe σ vs) → Q σ' H) → g v σ H Q)
    (q3 : ∀ F0 H0 r σ F H Q, Sim K F0 H0 r σ F H → Wp (tst r) (fun b => ∀ F' H', Grow F H F' H' → Q b H') (fun x => ∀ F' H', Grow F H F' H' → W0 (.ref (ca x)) none σ H') → tt σ H Q)
    (q4 : ∀ F0 H0 r σ' F H Q, Sim K F0 H0 r σ' F H → Wp (el r) (fun d => ∀ v F' H', Grow F H F' H' → Dn K F' v d → Q v H') (fun x => ∀ F' H', Grow F H F' H' → W (.ref (ca x)) none σ H') → te σ' H Q)
    (S : Sim K F0 H0 r σ F H)
    (w : Wp (fi r >>= fun items => if items.length ≤ sizeLine then compX vs tgt tst el r items else .no) (fun ds => ∀ p ws F' H', Grow F H F' H' → H p = none → F' p = none → H' p = some (.lst ws) → DnL K F' ws ds → Q (.ref p) H') (fun c => ∀ F' H', Grow F H F' H' → W (.ref (ca c)) none σ H')) :
    tLc wi g tt te vs σ H Q := by
  refine q1 _ _ _ _ _ _ _ S (w.bind.mono (fun items w J F1 H1 G1 it => ?_) fun c k => k)
  by_cases hlen : items.length ≤ sizeLine
  case neg => rw [if_neg hlen] at w; exact False.elim w
  rw [if_pos hlen] at w
  intro D hD
  have S1 := S.grow G1
  have sep := own_sep S1 hD
  have hDo : H D = none := G1.hh.free hD
  have hD0 : H0 D = none := S1.h0.free hD
  have hDF : F1 D = none := S1.sub.free hD
  refine ⟨fun i m Hc => m = items.length - i ∧ i ≤ items.length ∧ ∃ F2 acc ads, Same F1 F2 ∧ Sim K F0 H0 r σ F2 Hc ∧ Grow F H F2 Hc ∧ Hc D = some (.lst acc) ∧ F2 D = none ∧ DnL K F2 acc ads ∧ ads.length ≤ i ∧
    Wp (compX vs tgt tst el r (items.drop i)) (fun rest => ∀ p ws F' H', Grow F H F' H' → H p = none → F' p = none → H' p = some (.lst ws) → DnL K F' ws (ads ++ rest) → Q (.ref p) H') (fun c => ∀ F' H', Grow F H F' H' → W (.ref (ca c)) none σ H'),
    ⟨items.length, rfl, Nat.zero_le _, F1, [], [], Same.refl _, S1.other hDF hD0 sep, G1.trans (Grow.lay G1.sub hD), upd_same, hDF, .nil, Nat.le_refl _, ?_⟩, ?_⟩
  · rw [List.drop_zero]
    exact Wp.mono (r := compX vs tgt tst el r items) w (fun o k => k) fun _ k => k
  · rintro i m Hc ⟨rfl, hi, F2, acc, ads, s2, S2, G2, hA, hF2, hn, hl, w⟩
    by_cases hlt : i < items.length
    · refine .inr ⟨it.go i F2 Hc hlt s2 S2.sub, fun Hc => ∃ F2 acc ads, Same F1 F2 ∧ Sim K F0 H0 r σ F2 Hc ∧ Grow F H F2 Hc ∧ Hc D = some (.lst acc) ∧ F2 D = none ∧ DnL K F2 acc ads ∧ ads.length ≤ i + 1 ∧
          Wp (compX vs tgt tst el r (items.drop (i + 1))) (fun rest => ∀ p ws F' H', Grow F H F' H' → H p = none → F' p = none → H' p = some (.lst ws) → DnL K F' ws (ads ++ rest) → Q (.ref p) H') (fun c => ∀ F' H', Grow F H F' H' → W (.ref (ca c)) none σ H'),
        fun H' z => ⟨items.length - (i + 1), by omega, rfl, hlt, z⟩, fun x H' y => ?_⟩
      have hd : items[i]? = some items[i] := List.getElem?_eq_getElem hlt
      obtain ⟨rfl, n⟩ := it.yld i F2 Hc x H' _ hd s2 S2.sub y
      rw [List.drop_eq_getElem_cons hlt] at w
      have w : Wp (lift (tgt items[i] (wipeE r vs)) >>= fun r1 => nox (tst r1) >>= fun b => if b = true then el r1 >>= fun x => compX vs tgt tst el r (items.drop (i + 1)) >>= fun xs => .ok (x :: xs) else compX vs tgt tst el r (items.drop (i + 1))) _ _ := w
      obtain ⟨r1, hh, w⟩ := w.bind.lift
      refine q2 F0 H0 _ r1 _ F2 H' x _ _ (S2.wipe vs) n hh fun σ1 S3 k1 => ?_
      refine ⟨by rw [k1 vs hsl]; exact (List.ext_getElem? fun j => by rw [wipe_get, wipe_get, wipe_length]; split <;> first | rfl | (rename_i hc; rw [wipe_get, if_neg hc])), ?_⟩
      refine q3 _ _ _ _ _ _ _ S3 (w.bind.nox.mono (fun b w F3 H3 G3 => ?_) fun _ k => k)
      cases b with
      | false =>
        rw [if_neg Bool.false_ne_true] at w ⊢
        exact ⟨F3, acc, ads, s2.trans G3.ff, S2.grow G3, G2.trans G3, G3.hh _ _ hA, G3.new _ _ hF2 hA, hn.same G3.ff _ _, by omega, w⟩
      | true =>
        rw [if_pos rfl] at w ⊢
        refine q4 _ _ _ _ _ _ _ (S3.grow G3) (w.bind.mono (fun d w v F4 H4 G4 n4 => ?_) fun c k F4 H4 G4 => k F4 H4 (G2.trans (G3.trans G4)))
        have G34 := G3.trans G4
        have hA4 := G34.hh _ _ hA
        have hF4 := G34.new _ _ hF2 hA
        have hn4 := hn.same G34.ff _ _
        have hln := hn.length
        refine ⟨acc, hA4, by omega, F4, acc ++ [v], ads ++ [d], s2.trans G34.ff, (S2.grow G34).other hF4 hD0 sep, ⟨G2.ff.trans G34.ff, fun b u e => ?_, fun b u e => ?_, fun b u e1 e2 => (G2.trans G34).new b u e1 e2⟩, upd_same, hF4, hn4.append (.one n4), by simp; omega, ?_⟩
        · rw [upd_ne (ne_of_none e hDo)]; exact (G2.hh.trans G34.hh) b u e
        · rw [upd_ne (ne_of_none e hF4)]; exact G34.sub b u e
        · refine (Wp.bind (r := compX vs tgt tst el r (items.drop (i + 1))) w).mono (fun rest k p ws F' H' G h1 h2 h3 h4 => k p ws F' H' G h1 h2 h3 ?_) fun _ k => k
          rw [List.append_assoc] at h4
          exact h4
    · have e : i = items.length := by omega
      subst e
      rw [List.drop_length] at w
      refine .inl ⟨it.stop F2 Hc s2 S2.sub, w D acc F2 Hc G2 hDo hF2 hA ?_⟩
      rw [List.append_nil]; exact hn
section
variable {X : Cx} {ca : Exn → Addr} {W : WX}
/-- y = [..] on one line, y a local; the element may raise -/
theorem q_compX (own' : Bool) (i : Nat) {y : Str} {py : Pos} {elt tg iter : Expr} {ifs : List Expr} {scope : Scope} {own : List (Str × Nat)} {pos spos : Pos} {sl : List Nat} {tgt : D → Env → Option Env} {tst : Env → R Bool} {el : Env → R D} {fi : Env → R (List D)} (tk : Takes X W) (hc : X.calm = true) (hN : X.N.Nodup) (hi : ID X ca W tg iter fi) (ok : BlkOk X.N X.env.scope scope own)
    (hg : ∀ (s : Shared) (H : Hp) (C : Addr) (cl : List (Str × Addr)) (fp : List Addr) (xe : Value → Shared → Prop), GD (blkX X s H scope (compEnvC scope cl C X.env) fp xe) tg sl tgt) (ht : ∀ (s : Shared) (H : Hp) (C : Addr) (cl : List (Str × Addr)) (fp : List Addr) (xe : Value → Shared → Prop), TsD (blkX X s H scope (compEnvC scope cl C X.env) fp xe) ca W0 ifs tst)
    (he : ∀ (W' : WX) (s : Shared) (H : Hp) (C : Addr) (cl : List (Str × Addr)) (fp : List Addr) (xe : Value → Shared → Prop), Takes (blkX X s H scope (compEnvC scope cl C X.env) fp xe) W' → ED (blkX X s H scope (compEnvC scope cl C X.env) fp xe) ca W' elt el) (hsw : swapsWith (.ListComp elt [⟨tg, iter, ifs, 0⟩] scope pos) (some (.Name y py)) spos.line X.env = pure true) (hy : X.N[i]? = some y := by rfl) (hyl : X.env.scope.names.lookup y = some .local := by rfl)
    (hsl : (sl.all fun i => (own.map (·.2)).contains i) = true := by decide) (hs : ∀ x, foldedSetIterable iter X.env x = pure x := by intro _; rfl) (hst : X.stack = X.env :: X.outer := by rfl) (hfr : X.env.frame = some X.env.locals := by rfl) :
    SD X ca W (.Assign [.Name y py] (.ListComp elt [⟨tg, iter, ifs, 0⟩] scope pos) spos) (fun r => (fi r >>= fun items => if items.length ≤ sizeLine then compX (own.map (·.2)) tgt tst el r items else .no) >>= fun ds => .ok (.nx (r.set i (if own' = true then .ow ds else .sh (.lst ds))))) := by
  obtain ⟨wi, p1, q1⟩ := hi
  obtain ⟨g, p2, q2⟩ := GD.all (ι := Shared × Hp × Addr × List (Str × Addr) × List Addr × (Value → Shared → Prop)) (Xc := fun c => blkX X c.1 c.2.1 scope (compEnvC scope c.2.2.2.1 c.2.2.1 X.env) c.2.2.2.2.1 c.2.2.2.2.2) (K := X.K) (fun _ => rfl) fun c => hg c.1 c.2.1 c.2.2.1 c.2.2.2.1 c.2.2.2.2.1 c.2.2.2.2.2
  obtain ⟨tt, p3, q3⟩ := TsD.all (ι := Shared × Hp × Addr × List (Str × Addr) × List Addr × (Value → Shared → Prop)) (Xc := fun c => blkX X c.1 c.2.1 scope (compEnvC scope c.2.2.2.1 c.2.2.1 X.env) c.2.2.2.2.1 c.2.2.2.2.2) (K := X.K) (fun _ => rfl) fun c => ht c.1 c.2.1 c.2.2.1 c.2.2.2.1 c.2.2.2.2.1 c.2.2.2.2.2
  have hE : ∀ σ : L2.St, ∃ te : TE, (∀ c : { c : Shared × Hp × Addr × List (Str × Addr) × List Addr × (Value → Shared → Prop) // Takes (blkX X c.1 c.2.1 scope (compEnvC scope c.2.2.2.1 c.2.2.1 X.env) c.2.2.2.2.1 c.2.2.2.2.2) (fun cls d _ H => W cls d σ H) }, PE (blkX X c.1.1 c.1.2.1 scope (compEnvC scope c.1.2.2.2.1 c.1.2.2.1 X.env) c.1.2.2.2.2.1 c.1.2.2.2.2.2) elt te) ∧ ∀ F0 H0 r σ' F H Q, Sim X.K F0 H0 r σ' F H →
      Wp (el r) (fun d => ∀ v F' H', Grow F H F' H' → Dn X.K F' v d → Q v H') (fun x => ∀ F' H', Grow F H F' H' → W (.ref (ca x)) none σ H') → te σ' H Q := fun σ =>
    ED.all (ca := ca) (W := fun cls d _ H => W cls d σ H) (f := el) (K := X.K) (Xc := fun c : { c : Shared × Hp × Addr × List (Str × Addr) × List Addr × (Value → Shared → Prop) // Takes (blkX X c.1 c.2.1 scope (compEnvC scope c.2.2.2.1 c.2.2.1 X.env) c.2.2.2.2.1 c.2.2.2.2.2) (fun cls d _ H => W cls d σ H) } =>
      blkX X c.1.1 c.1.2.1 scope (compEnvC scope c.1.2.2.2.1 c.1.2.2.1 X.env) c.1.2.2.2.2.1 c.1.2.2.2.2.2) (fun _ => rfl) fun c => he _ c.1.1 c.1.2.1 c.1.2.2.1 c.1.2.2.2.1 c.1.2.2.2.2.1 c.1.2.2.2.2.2 c.2
  refine ⟨_, ps_setLcX (te := fun σ => Classical.choose (hE σ)) hst hfr tk hc hN hy hyl hsw p1 ok (fun s H C cl fp xe => p2 (s, H, C, cl, fp, xe)) (fun s H C cl fp xe => p3 (s, H, C, cl, fp, xe)) (fun σ s H C cl fp xe t => (Classical.choose_spec (hE σ)).1 ⟨(s, H, C, cl, fp, xe), t⟩) hs, fun F0 H0 r σ F H E S w => ?_⟩
  show tLc wi g tt (Classical.choose (hE σ)) (own.map (·.2)) σ H fun x H1 => E.nx (σ.set i (some x)) H1
  refine lc_readX (W := W) (ca := ca) (fun i hi => by have := List.all_eq_true.mp hsl i hi; simpa using this) q1 q2 q3 (Classical.choose_spec (hE σ)).2 S (w.bind.mono (fun ds k p vs F1 H1 G1 n1 n2 n3 n4 => ?_) fun c k F' H' G => k σ F' H' (S.grow G).base)
  cases own' with
  | true => exact k _ F1 H1 ((S.grow G1).setOw i n3 n2 (S.h0.free n1) n4 (own_sep S n1)) G1.ff
  | false =>
    have G := G1.freeze n1 n2 n3
    refine k _ _ H1 ((S.grow G).setSh i ?_) G.ff
    simp only [Dn]
    exact ⟨p, vs, rfl, upd_same, n4.same (same_updN n2) ds vs⟩
end
end DL
namespace DL
open PySem PySem.Spec PyProof.Rows L2
@[simp] def lCompX (own : List Nat) (tgt : D → Env → Option Env) (tst : Env → R Bool) (el : Env → R D) (fi : Env → R (List D)) (r : Env) : R (List D) := fi r >>= fun items => if items.length ≤ sizeLine then compX own tgt tst el r items else .no
theorem q_scompX {X : Cx} {ca : Exn → Addr} {W : WX} (own' : Bool) (i : Nat) {y : Str} {py : Pos} {elt tg iter : Expr} {ifs : List Expr} {scope : Scope} (own : List (Str × Nat)) {pos spos : Pos} {sl : List Nat} {tgt : D → Env → Option Env} {tst : Env → R Bool} {el : Env → R D} {fi : Env → R (List D)} (tk : Takes X W) (hc : X.calm = true) (hN : X.N.Nodup) (hi : ID X ca W tg iter fi) (ok : BlkOk X.N X.env.scope scope own)
    (hg : ∀ (s : Shared) (H : Hp) (C : Addr) (cl : List (Str × Addr)) (fp : List Addr) (xe : Value → Shared → Prop), GD (blkX X s H scope (compEnvC scope cl C X.env) fp xe) tg sl tgt) (ht : ∀ (s : Shared) (H : Hp) (C : Addr) (cl : List (Str × Addr)) (fp : List Addr) (xe : Value → Shared → Prop), TsD (blkX X s H scope (compEnvC scope cl C X.env) fp xe) ca W0 ifs tst)
    (he : ∀ (W' : WX) (s : Shared) (H : Hp) (C : Addr) (cl : List (Str × Addr)) (fp : List Addr) (xe : Value → Shared → Prop), Takes (blkX X s H scope (compEnvC scope cl C X.env) fp xe) W' → ED (blkX X s H scope (compEnvC scope cl C X.env) fp xe) ca W' elt el) (hsw : swapsWith (.ListComp elt [⟨tg, iter, ifs, 0⟩] scope pos) (some (.Name y py)) spos.line X.env = pure true) (hy : X.N[i]? = some y := by rfl) (hyl : X.env.scope.names.lookup y = some .local := by rfl)
    (hsl : (sl.all fun i => (own.map (·.2)).contains i) = true := by decide) (hs : ∀ x, foldedSetIterable iter X.env x = pure x := by intro _; rfl) (hst : X.stack = X.env :: X.outer := by rfl) (hfr : X.env.frame = some X.env.locals := by rfl) :
    SD X ca W (.Assign [.Name y py] (.ListComp elt [⟨tg, iter, ifs, 0⟩] scope pos) spos) (sComp own' i (lCompX (own.map (·.2)) tgt tst el fi)) := q_compX own' i tk hc hN hi ok hg ht he hsw hy hyl hsl hs hst hfr
end DL

set_option Elab.async false
set_option linter.all false
set_option maxRecDepth 100000
set_option maxHeartbeats 2000000
/-! DL20: a def that changes lists it is given -/
namespace DL
open PySem PySem.Spec PyProof.Rows L2
/-- as OutK, and the slots of keep hold what they held -/
def OutKk (K : PySem.W.Frag) (F0 H0 F : Hp) (E : Ends) (keep : List Nat) (σ : L2.St) : Out → Prop
  | .nx r' => ∀ σ' F' H', Sim K F0 H0 r' σ' F' H' → Same F F' → (∀ i ∈ keep, σ'[i]? = σ[i]?) → E.nx σ' H'
  | .rt d => ∀ v F' H', Grow F0 H0 F' H' → Dn K F' v d → E.rt v H'
section
variable {X : Cx} {ca : Exn → Addr} {W : WX} {keep : List Nat}
def SDk (X : Cx) (ca : Exn → Addr) (W : WX) (keep : List Nat) (st : Stmt) (f : Env → R Out) : Prop := ∃ t : TS, PS X st t ∧ ∀ F0 H0 r σ F H (E : Ends), Sim X.K F0 H0 r σ F H → Wp (f r) (OutKk X.K F0 H0 F E keep σ) (ExK ca W F0 H0) → t E σ H
def SDsk (X : Cx) (ca : Exn → Addr) (W : WX) (keep : List Nat) (st : List Stmt) (f : Env → R Out) : Prop := ∃ t : TS, PSs X st t ∧ ∀ F0 H0 r σ F H (E : Ends), Sim X.K F0 H0 r σ F H → Wp (f r) (OutKk X.K F0 H0 F E keep σ) (ExK ca W F0 H0) → t E σ H
theorem OutKk.same {K : PySem.W.Frag} {F0 H0 F F' : Hp} {E : Ends} {σ σ' : L2.St} {o : Out} (s : Same F F') (hk : ∀ i ∈ keep, σ'[i]? = σ[i]?) (h : OutKk K F0 H0 F E keep σ o) : OutKk K F0 H0 F' E keep σ' o := by
  cases o with
  | nx r => exact fun σ2 F2 H2 S2 s2 k2 => h σ2 F2 H2 S2 (s.trans s2) fun i hi => (k2 i hi).trans (hk i hi)
  | rt d => exact h
theorem k_nil : SDsk X ca W keep [] sNil := ⟨tNext, pss_nil, fun F0 H0 r σ F H E S w => w σ F H S (Same.refl _) fun _ _ => rfl⟩
theorem k_one {st : Stmt} {f : Env → R Out} (h : SDk X ca W keep st f) : SDsk X ca W keep [st] f := by
  obtain ⟨t, p, q⟩ := h
  exact ⟨t, pss_one p, q⟩
theorem k_seq {st : Stmt} {rest : List Stmt} {f g : Env → R Out} (h : SDk X ca W keep st f) (h' : SDsk X ca W keep rest g) : SDsk X ca W keep (st :: rest) (sSeq f g) := by
  obtain ⟨t, p, q⟩ := h
  obtain ⟨t', p', q'⟩ := h'
  refine ⟨tSeq t t', pss_cons p p', fun F0 H0 r σ F H E S w => ?_⟩
  refine q F0 H0 r σ F H _ S (Wp.bind (r := f r) w |>.mono (fun o k => ?_) fun _ k => k)
  cases o with
  | nx r1 => exact fun σ1 F1 H1 S1 s1 k1 => q' F0 H0 r1 σ1 F1 H1 E S1 (Wp.mono (r := g r1) k (fun o k => k.same s1 k1) fun _ k => k)
  | rt d => exact k
theorem k_if {c : Expr} {a b : List Stmt} {pos : Pos} {f : Env → R Bool} {g h : Env → R Out} (hc : TD X ca W c f) (ha : SDsk X ca W keep a g) (hb : SDsk X ca W keep b h) : SDk X ca W keep (.If c a b pos) (sIf f g h) := by
  obtain ⟨t, p, q⟩ := hc
  obtain ⟨t1, p1, q1⟩ := ha
  obtain ⟨t2, p2, q2⟩ := hb
  refine ⟨tIfS t t1 t2, ps_if p p1 p2, fun F0 H0 r σ F H E S w => ?_⟩
  have w : Wp (f r >>= fun k => if k = true then g r else h r) _ _ := w
  refine q _ _ _ _ _ _ _ S (w.bind.mono (fun k w F1 H1 G1 => ?_) fun c k F' H' G => k σ F' H' (S.grow G).base)
  cases k with
  | true =>
    rw [if_pos rfl]
    exact q1 F0 H0 r σ F1 H1 E (S.grow G1) (Wp.mono (r := g r) w (fun o k => k.same G1.ff fun _ _ => rfl) fun _ k => k)
  | false =>
    rw [if_neg Bool.false_ne_true]
    exact q2 F0 H0 r σ F1 H1 E (S.grow G1) (Wp.mono (r := h r) w (fun o k => k.same G1.ff fun _ _ => rfl) fun _ k => k)
theorem k_set (i : Nat) {x : Str} {e : Expr} {pos pos' : Pos} {f : Env → R D} (hN : X.N.Nodup) (h : ED X ca W e f) (hk : keep.contains i = false := by decide) (hi : X.N[i]? = some x := by rfl) (hx : Loc X.env.scope x := by first | exact Or.inl rfl | exact Or.inr rfl) (hs : swapsWith e (some (.Name x pos')) pos.line X.env = pure false := by rfl) (hf : X.fn x = true ∨ X.env.scope.names.lookup x = some .local := by first | exact .inl rfl | exact .inr rfl) :
    SDk X ca W keep (.Assign [.Name x pos'] e pos) (sSet i f) := by
  obtain ⟨t, p, q⟩ := h
  refine ⟨tAsg t (gName i), ps_set hN hi hx p hs hf, fun F0 H0 r σ F H E S w => ?_⟩
  have w : Wp (f r >>= fun d => R.ok (Out.nx (r.set i (.sh d)))) _ _ := w
  refine q _ _ _ _ _ _ _ S (w.bind.mono (fun d k v F1 H1 G1 n => k _ F1 H1 ((S.grow G1).setSh i n) G1.ff fun j hj => ?_) fun c k F' H' G => k σ F' H' (S.grow G).base)
  have : i ≠ j := fun z => by
    subst z
    rw [List.contains_iff_mem.mpr hj] at hk
    cases hk
  exact List.getElem?_set_ne this
theorem k_app (i : Nat) {x : Str} {e : Expr} {p2 apos cpos pos : Pos} {f : Env → R D} (h : ED X ca W e f) (hN : X.N[i]? = some x := by rfl) (hv : Vis X.env.scope x := by first | exact Or.inl rfl | exact Or.inr (Or.inl rfl) | exact Or.inr (Or.inr rfl)) (hd : (x == ("__debug__" : Str)) = false := by decide)
    (hcd : (x == ("__classdict__" : Str)) = false := by decide) (hbase : attributeBase (.Name x p2) "append" X.env (eval (.Name x p2) X.env) = eval (.Name x p2) X.env := by rfl)
    (hfew : ((backTo cpos (starEach [e] X.env)).all (fun x => !x.1) && (backToKw cpos (keywordEach [] X.env)).all (fun x => x.1.isSome)
      && decide (([e] : List Expr).length + ([] : List Keyword).length + (if ([] : List Keyword).isEmpty then 0 else 1) < 30)) = true := by rfl)
    (hline : (apos.endLine == cpos.line) = true := by rfl) (hs : starEach [e] X.env = (false, eval e X.env) :: starEach [] X.env := by rfl) (hplain : (backTo cpos (starEach [] X.env)).any (·.1) = false := by rfl)
    (hsw : swapsWith (.Call (.Attribute (.Name x p2) "append" apos) [e] [] cpos) none pos.line X.env = pure false := by rfl) :
    SDk X ca W keep (.Expr (.Call (.Attribute (.Name x p2) "append" apos) [e] [] cpos) pos) (sApp i f) := by
  obtain ⟨t, p, q⟩ := h
  refine ⟨_, ps_expr (pe_bm PySem.F.plainAttrs_list PySem.F.slot_list_append PySem.F.type_list_append mt_append (pe_var hN hv hd hcd) (pa_cons p pa_nil hs) hbase hfew hline hs hplain) hsw, fun F0 H0 r σ F H E S w => ?_⟩
  have w : Wp (lift (owO r i) >>= fun ds => f r >>= fun d => if ds.length < sizeLine then R.ok (Out.nx (r.set i (.ow (ds ++ [d])))) else R.no) _ _ := w
  obtain ⟨ds, e1, w⟩ := w.bind.lift
  have hr := owO_some e1
  obtain ⟨a, vs, h1, h2, h3, h4, h5⟩ := S.ow i ds hr
  refine ⟨.ref a, h1, .inl ⟨rfl, vs, .of h2⟩, ?_⟩
  refine q _ _ _ _ _ _ _ S (w.bind.mono (fun d k v F1 H1 G1 n => ?_) fun c k F' H' G => k σ F' H' (S.grow G).base)
  split at k
  · have h5' := h5.same G1.ff
    exact ⟨a, vs, v, rfl, rfl, G1.hh _ _ h2, by rw [h5.length]; assumption, k σ F1 _ ((S.grow G1).mut hr h1 (h5'.append (.one n))) G1.ff fun _ _ => rfl⟩
  · exact False.elim k
/-- xs.append(ys.pop(k)), two lists of slots -/
def sAppPop (i j : Nat) (f : Env → R D) (r : Env) : R Out := lift (owO r i) >>= fun ds => lift (owO r j) >>= fun es => f r >>= fun kk => lift (isI kk) >>= fun z => if -(2 ^ 63) ≤ z ∧ z < 2 ^ 63 ∧ ds.length < sizeLine then
  lift (seqIndex? z es.length) >>= fun n => lift es[n]? >>= fun y => .ok (.nx ((r.set j (.ow (es.eraseIdx n))).set i (.ow (ds ++ [y])))) else .no
theorem k_appPop (i j : Nat) {x y : Str} {e : Expr} {p2 apos cpos p3 apos' cpos' pos : Pos} {f : Env → R D} (hij : i ≠ j) (h : PD X ca W e f) (hN : X.N[i]? = some x := by rfl) (hv : Vis X.env.scope x := by first | exact Or.inl rfl | exact Or.inr (Or.inl rfl) | exact Or.inr (Or.inr rfl)) (hd : (x == ("__debug__" : Str)) = false := by decide)
    (hcd : (x == ("__classdict__" : Str)) = false := by decide) (hN' : X.N[j]? = some y := by rfl) (hv' : Vis X.env.scope y := by first | exact Or.inl rfl | exact Or.inr (Or.inl rfl) | exact Or.inr (Or.inr rfl)) (hd' : (y == ("__debug__" : Str)) = false := by decide)
    (hcd' : (y == ("__classdict__" : Str)) = false := by decide) (hbase : attributeBase (.Name x p2) "append" X.env (eval (.Name x p2) X.env) = eval (.Name x p2) X.env := by rfl)
    (hfew : ((backTo cpos (starEach [.Call (.Attribute (.Name y p3) "pop" apos') [e] [] cpos'] X.env)).all (fun x => !x.1) && (backToKw cpos (keywordEach [] X.env)).all (fun x => x.1.isSome)
      && decide (([.Call (.Attribute (.Name y p3) "pop" apos') [e] [] cpos'] : List Expr).length + ([] : List Keyword).length + (if ([] : List Keyword).isEmpty then 0 else 1) < 30)) = true := by rfl)
    (hline : (apos.endLine == cpos.line) = true := by rfl) (hs : starEach [.Call (.Attribute (.Name y p3) "pop" apos') [e] [] cpos'] X.env = (false, eval (.Call (.Attribute (.Name y p3) "pop" apos') [e] [] cpos') X.env) :: starEach [] X.env := by rfl) (hplain : (backTo cpos (starEach [] X.env)).any (·.1) = false := by rfl)
    (hbase' : attributeBase (.Name y p3) "pop" X.env (eval (.Name y p3) X.env) = eval (.Name y p3) X.env := by rfl)
    (hfew' : ((backTo cpos' (starEach [e] X.env)).all (fun x => !x.1) && (backToKw cpos' (keywordEach [] X.env)).all (fun x => x.1.isSome)
      && decide (([e] : List Expr).length + ([] : List Keyword).length + (if ([] : List Keyword).isEmpty then 0 else 1) < 30)) = true := by rfl)
    (hline' : (apos'.endLine == cpos'.line) = true := by rfl) (hs' : starEach [e] X.env = (false, eval e X.env) :: starEach [] X.env := by rfl) (hplain' : (backTo cpos' (starEach [] X.env)).any (·.1) = false := by rfl)
    (hsw : swapsWith (.Call (.Attribute (.Name x p2) "append" apos) [.Call (.Attribute (.Name y p3) "pop" apos') [e] [] cpos'] [] cpos) none pos.line X.env = pure false := by rfl) :
    SDk X ca W keep (.Expr (.Call (.Attribute (.Name x p2) "append" apos) [.Call (.Attribute (.Name y p3) "pop" apos') [e] [] cpos'] [] cpos) pos) (sAppPop i j f) := by
  obtain ⟨t, p, q⟩ := h
  refine ⟨_, ps_expr (pe_bm PySem.F.plainAttrs_list PySem.F.slot_list_append PySem.F.type_list_append mt_append (pe_var hN hv hd hcd) (pa_cons (pe_bm PySem.F.plainAttrs_list PySem.F.slot_list_pop (by rfl) mt_popAt (pe_var hN' hv' hd' hcd') (pa_cons p pa_nil hs') hbase' hfew' hline' hs' hplain') pa_nil hs) hbase hfew hline hs hplain) hsw, fun F0 H0 r σ F H E S w => ?_⟩
  have w : Wp (lift (owO r i) >>= fun ds => lift (owO r j) >>= fun es => f r >>= fun kk => lift (isI kk) >>= fun z => if -(2 ^ 63) ≤ z ∧ z < 2 ^ 63 ∧ ds.length < sizeLine then
    lift (seqIndex? z es.length) >>= fun n => lift es[n]? >>= fun y => R.ok (Out.nx ((r.set j (.ow (es.eraseIdx n))).set i (.ow (ds ++ [y])))) else R.no) _ _ := w
  obtain ⟨ds, e1, w⟩ := w.bind.lift
  obtain ⟨es, e2, w⟩ := w.bind.lift
  have hr := owO_some e1
  have hr' := owO_some e2
  obtain ⟨a, vs, h1, h2, h3, h4, h5⟩ := S.ow i ds hr
  obtain ⟨b, us, g1, g2, g3, g4, g5⟩ := S.ow j es hr'
  have hab : a ≠ b := fun z => by
    subst z
    exact hij (S.sep i j ds es a hr hr' h1 g1)
  refine ⟨.ref a, h1, .inl ⟨rfl, vs, .of h2⟩, ?_⟩
  refine ⟨.ref b, g1, .inl ⟨rfl, us, .of g2⟩, ?_⟩
  refine q _ _ _ _ _ _ _ S (w.bind.mono (fun d k v F1 H1 G1 n => ?_) fun c k F' H' G => k σ F' H' (S.grow G).base)
  obtain ⟨z, e3, k1⟩ := k.bind.lift
  split at k1
  case isFalse => exact False.elim k1
  rename_i hz
  obtain ⟨m, e4, k2⟩ := k1.bind.lift
  obtain ⟨y', e5, k3⟩ := k2.bind.lift
  have hdz : d = .int z := by
    cases d <;> simp [isI] at e3
    subst e3; rfl
  subst hdz
  have hv : v = .int z := by simpa [Pk, Dn] using n
  subst hv
  have hA := G1.hh _ _ h2
  have hB := G1.hh _ _ g2
  have g5' := g5.same G1.ff
  have h5' := h5.same G1.ff
  obtain ⟨w', hw1, hw2⟩ := g5'.get e5
  have hlen := g5.length
  have S1 := S.grow G1
  have S2 := S1.mut hr' g1 (DnL.erase m g5')
  have hr2 : (r.set j (.ow (es.eraseIdx m)))[i]? = some (.ow ds) := by rw [List.getElem?_set_ne (Ne.symm hij)]; exact hr
  have S3 := S2.mut hr2 h1 (h5'.append (.one hw2))
  refine ⟨b, us, z, m, w', rfl, rfl, hB, hz.1, hz.2.1, by rw [hlen]; exact e4, hw1, ?_⟩
  refine ⟨a, vs, w', rfl, rfl, by rw [upd_ne hab]; exact hA, by rw [h5.length]; exact hz.2.2, ?_⟩
  exact k3 σ F1 _ S3 G1.ff fun _ _ => rfl
end
/-- all but two objects -/
def cutH (H : Hp) (a b : Addr) : Hp := fun x => if x = a ∨ x = b then none else H x
theorem cutH_in {H : Hp} {a b x : Addr} (h1 : x ≠ a) (h2 : x ≠ b) : cutH H a b x = H x := if_neg (by intro h; rcases h with h | h; exact h1 h; exact h2 h)
theorem cutH_some {H : Hp} {a b x : Addr} {o : HO} (h : cutH H a b x = some o) : x ≠ a ∧ x ≠ b ∧ H x = some o := by
  unfold cutH at h
  split at h
  · cases h
  · rename_i hx
    exact ⟨fun e => hx (.inl e), fun e => hx (.inr e), h⟩
/-- a def's promise: the third and the fourth argument are lists that it changes -/
def SpM (K : PySem.W.Frag) (f : D → D → List D → List D → R (List D × List D)) : Sp := fun vs H Q E => ∃ F d1 d2 v1 v2 a b ws us ds es, vs = [v1, v2, .ref a, .ref b] ∧ Same F H ∧ Dn K F v1 d1 ∧ Dn K F v2 d2 ∧ a ≠ b ∧ H a = some (.lst ws) ∧ F a = none ∧ DnL K F ws ds ∧ H b = some (.lst us) ∧ F b = none ∧ DnL K F us es ∧
  Wp (f d1 d2 ds es) (fun p => ∀ F' H' ws' us', Grow F (cutH H a b) F' H' → H' a = some (.lst ws') → F' a = none → DnL K F' ws' p.1 → H' b = some (.lst us') → F' b = none → DnL K F' us' p.2 → Q .non H') (fun _ => False)
structure DefM (P : Program) (w : World) (K : PySem.W.Frag) (mg : Str → Option Value) (base : Heap) (name : Str) (k : Nat) (f : D → D → List D → List D → R (List D × List D)) : Prop where
  ex : ∃ (fa : Addr) (fd : FuncData) (ps : List Str), FnOk P w K mg base (L2.CX P w) k fa fd ps (SpM K f) ∧ mg name = some (.ref fa) ∧ PySem.W.keepIn K (.ref fa) = true ∧ Binds K fd ps []
theorem DefM.mono {P : Program} {w : World} {K : PySem.W.Frag} {mg : Str → Option Value} {base : Heap} {name : Str} {j k : Nat} {f : D → D → List D → List D → R (List D × List D)} (h : DefM P w K mg base name j f) (le : j ≤ k) : DefM P w K mg base name k f := by
  obtain ⟨fa, fd, ps, F, a, b, c⟩ := h.ex
  exact ⟨fa, fd, ps, F.mono le, a, b, c⟩
def startM (n : Nat) (d1 d2 : D) (ds es : List D) : Env := [.sh d1, .sh d2, .ow ds, .ow es] ++ List.replicate (n - 4) .un
def bodyM (r : R Out) : R (List D × List D) := r >>= fun o => match o with
  | .nx r' => lift (owO r' 2) >>= fun ds => lift (owO r' 3) >>= fun es => .ok (ds, es)
  | .rt _ => .no
theorem bodyM_nx {r : Env} {ds es : List D} (h1 : owO r 2 = some ds) (h2 : owO r 3 = some es) : bodyM (.ok (.nx r)) = .ok (ds, es) := by
  show (lift (owO r 2) >>= fun ds => lift (owO r 3) >>= fun es => R.ok (ds, es)) = _
  rw [h1, h2]; rfl
theorem Sim.startM {K : PySem.W.Frag} {F H : Hp} {N : List Str} {v1 v2 : V} {d1 d2 : D} {a b : Addr} {ws us : List V} {ds es : List D} (s : Same F H) (n1 : Dn K F v1 d1) (n2 : Dn K F v2 d2) (hab : a ≠ b) (ha : H a = some (.lst ws)) (fa : F a = none) (na : DnL K F ws ds) (hb : H b = some (.lst us)) (fb : F b = none) (nb : DnL K F us es) (hN : 4 ≤ N.length) :
    Sim K F (cutH H a b) (DL.startM N.length d1 d2 ds es) (L2.start N [v1, v2, .ref a, .ref b]) F H := by
  have sl : ∀ i, 4 ≤ i → ∀ x, (DL.startM N.length d1 d2 ds es)[i]? = some x → x = .un := fun i hi x e => by
    unfold DL.startM at e
    rw [List.getElem?_append_right (by simpa using hi), List.getElem?_replicate] at e
    split at e
    · cases e; rfl
    · cases e
  have st : ∀ i x, [v1, v2, V.ref a, V.ref b][i]? = some x → (L2.start N [v1, v2, .ref a, .ref b])[i]? = some (some x) := fun i x e => by
    unfold L2.start
    have hi : i < 4 := by
      have := (List.getElem?_eq_some_iff.mp e).1
      simpa using this
    rw [List.getElem?_append_left (by simpa using hi), List.getElem?_map, e]
    rfl
  refine ⟨by simp [DL.startM, L2.start], s, Same.refl _, fun x o e => (cutH_some e).2.2, fun x o e1 _ => e1, fun i d e => ?_, fun i ds' e => ?_, fun i j ds' es' c e1 e2 e3 e4 => ?_⟩
  · match i, e with
    | 0, e => cases e; exact ⟨v1, st 0 _ rfl, n1⟩
    | 1, e => cases e; exact ⟨v2, st 1 _ rfl, n2⟩
    | 2, e => cases e
    | 3, e => cases e
    | i + 4, e => cases sl (i + 4) (by omega) _ e
  · have ca : cutH H a b a = none := if_pos (.inl rfl)
    have cb : cutH H a b b = none := if_pos (.inr rfl)
    match i, e with
    | 0, e => cases e
    | 1, e => cases e
    | 2, e => cases e; exact ⟨a, ws, st 2 _ rfl, ha, fa, ca, na⟩
    | 3, e => cases e; exact ⟨b, us, st 3 _ rfl, hb, fb, cb, nb⟩
    | i + 4, e => cases sl (i + 4) (by omega) _ e
  · have key : ∀ i ds', (DL.startM N.length d1 d2 ds es)[i]? = some (.ow ds') → (i = 2 ∨ i = 3) := fun i ds' e => by
      match i, e with
      | 0, e => cases e
      | 1, e => cases e
      | 2, e => exact .inl rfl
      | 3, e => exact .inr rfl
      | i + 4, e => cases sl (i + 4) (by omega) _ e
    have s2 := st 2 _ rfl
    have s3 := st 3 _ rfl
    rcases key i ds' e1 with rfl | rfl <;> rcases key j es' e2 with rfl | rfl
    · rfl
    · rw [s2] at e3; rw [s3] at e4; cases e3; cases e4; exact absurd rfl hab
    · rw [s3] at e3; rw [s2] at e4; cases e3; cases e4; exact absurd rfl hab
    · rfl
section
variable {P : Program} {w : World} {K : PySem.W.Frag} {mg : Str → Option Value} {base : Heap} {ca : Exn → Addr}
theorem defM_ok {x qual : Str} {st : Stmt} {fa : Addr} {fd : FuncData} {N ps : List Str} {k : Nat} {f : D → D → List D → List D → R (List D × List D)} {body : Env → R Out} (F : Fun K x qual st fa fd) (S : FnScope N ps (defScope st)) (hm : mg x = some (.ref fa)) (hb : Binds K fd ps []) (hp : ps.length = 4) (hN : 4 ≤ N.length)
    (hf : ∀ d1 d2 ds es, f d1 d2 ds es = nox (bodyM (body (startM N.length d1 d2 ds es))))
    (h : ∀ (cdv : Value) (A : Around) (outer : List PySem.Env) (s : Shared) (H : Hp) (E : XK), Room k (A.deeper (envOfC qual (defScope st) s.heap.objs.size fa cdv)) →
      SDsk (cxOf (L2.CX P w) P w K mg base N qual (defScope st) fa cdv A outer s H E) ca (fun cls d _ H => E cls d H) [2, 3] (defBody st) body) :
    DefM P w K mg base x (k + 1) f := by
  refine ⟨fa, fd, ps, F.okX S (fun vs H Q E sp => ?_) (fun cdv A outer s H vs Q E hr sp => ?_), hm, F.kp, hb⟩
  · obtain ⟨Fz, d1, d2, v1, v2, a, b, ws, us, ds, es, rfl, _⟩ := sp
    rw [hp]; rfl
  · obtain ⟨Fz, d1, d2, v1, v2, a, b, ws, us, ds, es, rfl, s', n1, n2, hab, ha, fz, na, hb', fb, nb, wp⟩ := sp
    obtain ⟨t, p, q⟩ := h cdv A outer s H E hr
    refine ⟨t, p, ?_⟩
    rw [hf] at wp
    refine q Fz (cutH H a b) _ _ Fz H _ (Sim.startM s' n1 n2 hab ha fz na hb' fb nb hN) ?_
    have wp : Wp (nox (body (startM N.length d1 d2 ds es) >>= fun o => match o with
      | .nx r' => lift (owO r' 2) >>= fun ds => lift (owO r' 3) >>= fun es => R.ok (ds, es)
      | .rt _ => .no)) _ _ := wp
    have wp := wp.nox (ex' := fun _ => False)
    refine wp.bind.mono (fun o k => ?_) fun c k => False.elim k
    cases o with
    | rt d => exact False.elim k
    | nx r =>
      intro σ' F' H' S' sF kp
      obtain ⟨ds', e1, k⟩ := k.bind.lift
      obtain ⟨es', e2, k⟩ := k.bind.lift
      obtain ⟨a', vs', h1, h2, h3, h4, h5⟩ := S'.ow 2 ds' (owO_some e1)
      obtain ⟨b', us', g1, g2, g3, g4, g5⟩ := S'.ow 3 es' (owO_some e2)
      have k2 := kp 2 (by simp)
      have k3 := kp 3 (by simp)
      have s2 : (L2.start N [v1, v2, .ref a, .ref b])[2]? = some (some (.ref a)) := rfl
      have s3 : (L2.start N [v1, v2, .ref a, .ref b])[3]? = some (some (.ref b)) := rfl
      rw [s2, h1] at k2
      rw [s3, g1] at k3
      cases k2
      cases k3
      exact k F' H' vs' us' S'.base h2 h3 h5 g2 g3 g5
end
section
variable {X : Cx} {ca : Exn → Addr} {W : WX}
def sCallM (f : D → D → List D → List D → R (List D × List D)) (i j : Nat) (fa fb : Env → R D) (r : Env) : R Out :=
  fa r >>= fun d1 => fb r >>= fun d2 => lift (owO r i) >>= fun ds => lift (owO r j) >>= fun es => nox (f d1 d2 ds es) >>= fun p => .ok (.nx ((r.set i (.ow p.1)).set j (.ow p.2)))
theorem q_callM {name : Str} {k : Nat} {f : D → D → List D → List D → R (List D × List D)} (i j : Nat) {e1 e2 : Expr} {x y : Str} {p p3 p4 cpos pos : Pos} {fa fb : Env → R D} (hij : i ≠ j)
    (h : DefM X.prog X.w X.K X.mg X.base name k f) (hr : Room k X.A) (h1 : ED X ca W e1 fa) (h2 : ED X ca W e2 fb) (hN : X.N[i]? = some x := by rfl) (hv : Vis X.env.scope x := by first | exact Or.inl rfl | exact Or.inr (Or.inl rfl) | exact Or.inr (Or.inr rfl)) (hd : (x == ("__debug__" : Str)) = false := by decide)
    (hcd : (x == ("__classdict__" : Str)) = false := by decide) (hN' : X.N[j]? = some y := by rfl) (hv' : Vis X.env.scope y := by first | exact Or.inl rfl | exact Or.inr (Or.inl rfl) | exact Or.inr (Or.inr rfl)) (hd' : (y == ("__debug__" : Str)) = false := by decide)
    (hcd' : (y == ("__classdict__" : Str)) = false := by decide) (hg : Gl X name := by rfl) (hdb : (name == ("__debug__" : Str)) = false := by decide)
    (hs1 : starEach [e1, e2, .Name x p3, .Name y p4] X.env = (false, eval e1 X.env) :: starEach [e2, .Name x p3, .Name y p4] X.env := by rfl) (hs2 : starEach [e2, .Name x p3, .Name y p4] X.env = (false, eval e2 X.env) :: starEach [.Name x p3, .Name y p4] X.env := by rfl)
    (hs3 : starEach [.Name x p3, .Name y p4] X.env = (false, eval (.Name x p3) X.env) :: starEach [.Name y p4] X.env := by rfl) (hs4 : starEach [.Name y p4] X.env = (false, eval (.Name y p4) X.env) :: starEach [] X.env := by rfl)
    (hpl : (backTo cpos (starEach [e2, .Name x p3, .Name y p4] X.env)).any (·.1) = false := by rfl) (hsw : swapsWith (.Call (.Name name p) [e1, e2, .Name x p3, .Name y p4] [] cpos) none pos.line X.env = pure false := by rfl) :
    SD X ca W (.Expr (.Call (.Name name p) [e1, e2, .Name x p3, .Name y p4] [] cpos) pos) (sCallM f i j fa fb) := by
  obtain ⟨fn, fd, ps, F, gm, kp, hb⟩ := h.ex
  obtain ⟨t1, p1, q1⟩ := h1
  obtain ⟨t2, p2, q2⟩ := h2
  have hx : Passes (L2.CX X.prog X.w) X (fun _ _ _ => False) := fun pins σ H s e s' I c => by
    obtain ⟨a, B, H', cls, d, _, _, _, _, _, _, _, hE⟩ := c
    exact False.elim hE
  refine ⟨_, ps_expr (pe_call F hr hg gm kp hb .nil hx (pa_cons p1 (pa_cons p2 (pa_cons (pe_var hN hv hd hcd) (pa_cons (pe_var hN' hv' hd' hcd') pa_nil hs4) hs3) hs2) hs1) hdb hs1 hpl) hsw, fun F0 H0 r σ F H E S w => ?_⟩
  have w : Wp (fa r >>= fun d1 => fb r >>= fun d2 => lift (owO r i) >>= fun ds => lift (owO r j) >>= fun es => nox (f d1 d2 ds es) >>= fun p => R.ok (Out.nx ((r.set i (.ow p.1)).set j (.ow p.2)))) _ _ := w
  refine q1 _ _ _ _ _ _ _ S (w.bind.mono (fun d1 k v1 F1 H1 G1 n1 => ?_) fun c k F' H' G => k σ F' H' (S.grow G).base)
  have S1 := S.grow G1
  refine q2 _ _ _ _ _ _ _ S1 (k.bind.mono (fun d2 k v2 F2 H2 G2 n2 => ?_) fun c k F' H' G => k σ F' H' (S1.grow G).base)
  have S2 := S1.grow G2
  obtain ⟨ds, e1', k⟩ := k.bind.lift
  obtain ⟨es, e2', k⟩ := k.bind.lift
  have hri := owO_some e1'
  have hrj := owO_some e2'
  obtain ⟨a, ws, a1, a2, a3, a4, a5⟩ := S2.ow i ds hri
  obtain ⟨b, us, b1, b2, b3, b4, b5⟩ := S2.ow j es hrj
  have hab : a ≠ b := fun z => by
    subst z
    exact hij (S2.sep i j ds es a hri hrj a1 b1)
  refine ⟨.ref a, a1, .ref b, b1, ?_⟩
  refine ⟨F2, d1, d2, v1, v2, a, b, ws, us, ds, es, rfl, S2.sub, n1.same G2.ff _ _, n2, hab, a2, a3, a5, b2, b3, b5, ?_⟩
  have k : Wp (nox (f d1 d2 ds es) >>= fun p => R.ok (Out.nx ((r.set i (.ow p.1)).set j (.ow p.2)))) _ _ := k
  refine k.bind.nox.mono (fun p k F3 H3 ws' us' G3 c1 c2 c3 c4 c5 c6 => ?_) fun c k => k
  · refine k σ F3 H3 ?_ ((G1.ff.trans G2.ff).trans G3.ff)
    have hH0 : ∀ x o, H0 x = some o → cutH H2 a b x = some o := fun x o e => by
      rw [cutH_in (ne_of_none e a4) (ne_of_none e b4)]
      exact S2.h0 x o e
    have slot : ∀ m y, ((r.set i (.ow p.1)).set j (.ow p.2))[m]? = some y → (m = j ∧ y = .ow p.2) ∨ (m = i ∧ y = .ow p.1) ∨ (m ≠ i ∧ m ≠ j ∧ r[m]? = some y) := fun m y e => by
      rcases get_set e with ⟨rfl, rfl, _⟩ | ⟨h1, e⟩
      · exact .inl ⟨rfl, rfl⟩
      · rcases get_set e with ⟨rfl, rfl, _⟩ | ⟨h2, e⟩
        · exact .inr (.inl ⟨rfl, rfl⟩)
        · exact .inr (.inr ⟨h2, h1, e⟩)
    refine ⟨by rw [List.length_set, List.length_set]; exact S2.len, G3.sub, S2.f0.trans G3.ff, fun x o e => G3.hh x o (hH0 x o e), fun x o e1 e2 => G3.new x o (S2.new x o e1 e2) (hH0 x o e2), fun m d e => ?_, fun m ds' e => ?_, fun m n ds' es' c e1 e2 e3 e4 => ?_⟩
    · rcases slot m _ e with ⟨_, e'⟩ | ⟨_, e'⟩ | ⟨_, _, e⟩
      · cases e'
      · cases e'
      · obtain ⟨v, q1, q2⟩ := S2.sh m d e
        exact ⟨v, q1, q2.same G3.ff _ _⟩
    · rcases slot m _ e with ⟨rfl, e'⟩ | ⟨rfl, e'⟩ | ⟨hi, hj, e⟩
      · cases e'; exact ⟨b, us', b1, c4, c5, b4, c6⟩
      · cases e'; exact ⟨a, ws', a1, c1, c2, a4, c3⟩
      · obtain ⟨c, vs, q1, q2, q3, q4, q5⟩ := S2.ow m ds' e
        have hca : c ≠ a := fun z => by
          subst z
          exact hi (S2.sep m i ds' ds c e hri q1 a1)
        have hcb : c ≠ b := fun z => by
          subst z
          exact hj (S2.sep m j ds' es c e hrj q1 b1)
        have q2' : cutH H2 a b c = some (.lst vs) := by rw [cutH_in hca hcb]; exact q2
        exact ⟨c, vs, q1, G3.hh _ _ q2', G3.new c _ q3 q2', q4, q5.same G3.ff _ _⟩
    · have low : ∀ (m : Nat) (ds' : List D), ((r.set i (Ent.ow p.1)).set j (Ent.ow p.2))[m]? = some (Ent.ow ds') → ∃ ds0 : List D, r[m]? = some (Ent.ow ds0) := fun m ds' e => by
        rcases slot m _ e with ⟨rfl, _⟩ | ⟨rfl, _⟩ | ⟨_, _, e⟩
        · exact ⟨_, hrj⟩
        · exact ⟨_, hri⟩
        · exact ⟨_, e⟩
      obtain ⟨x1, y1⟩ := low m ds' e1
      obtain ⟨x2, y2⟩ := low n es' e2
      exact S2.sep m n x1 x2 c y1 y2 e3 e4
end
end DL

set_option Elab.async false
set_option linter.all false
set_option maxRecDepth 100000
set_option maxHeartbeats 2000000
/-! DL21: dicts that are changed: a key's value stored once, two of them compared -/
namespace DL
open PySem PySem.Spec PyProof.Rows L2
/-! ### what a dict by whole numbers holds -/
def DnT (K : PySem.W.Frag) (F : Hp) : List (Key × V) → List (Int × D) → Prop
  | [], [] => True
  | p :: kvs, q :: ts => p.1 = .inl q.1 ∧ Dn K F p.2 q.2 ∧ DnT K F kvs ts
  | _, _ => False
theorem DnT.nil {K : PySem.W.Frag} {F : Hp} : DnT K F [] [] := trivial
theorem DnT.length {K : PySem.W.Frag} {F : Hp} : ∀ {kvs : List (Key × V)} {ts : List (Int × D)}, DnT K F kvs ts → kvs.length = ts.length
  | [], [], _ => rfl
  | [], _ :: _, h => False.elim h
  | _ :: _, [], h => False.elim h
  | _ :: kvs, _ :: ts, h => by
    have := DnT.length h.2.2
    simp [this]
theorem DnT.same {K : PySem.W.Frag} {F F' : Hp} (s : Same F F') : ∀ {kvs : List (Key × V)} {ts : List (Int × D)}, DnT K F kvs ts → DnT K F' kvs ts
  | [], [], _ => trivial
  | [], _ :: _, h => False.elim h
  | _ :: _, [], h => False.elim h
  | _ :: _, _ :: _, h => ⟨h.1, h.2.1.same s _ _, DnT.same s h.2.2⟩
theorem DnT.snoc {K : PySem.W.Frag} {F : Hp} {v : V} {n : Int} {d : D} (hd : Dn K F v d) : ∀ {kvs : List (Key × V)} {ts : List (Int × D)}, DnT K F kvs ts → DnT K F (kvs ++ [(.inl n, v)]) (ts ++ [(n, d)])
  | [], [], _ => ⟨rfl, hd, trivial⟩
  | [], _ :: _, h => False.elim h
  | _ :: _, [], h => False.elim h
  | _ :: _, _ :: _, h => ⟨h.1, h.2.1, DnT.snoc hd h.2.2⟩
def tkGet (ts : List (Int × D)) (n : Int) : Option D := (ts.find? fun p => decide (p.1 = n)).map (·.2)
theorem tkGet_cons (q : Int × D) (ts : List (Int × D)) (n : Int) : tkGet (q :: ts) n = if q.1 = n then some q.2 else tkGet ts n := by
  unfold tkGet
  rw [List.find?_cons]
  by_cases h : q.1 = n <;> simp [h]
theorem DnT.get {K : PySem.W.Frag} {F : Hp} {n : Int} : ∀ {kvs : List (Key × V)} {ts : List (Int × D)}, DnT K F kvs ts → (tkGet ts n = none ∧ valV kvs (.inl n) = none) ∨ ∃ d v, tkGet ts n = some d ∧ valV kvs (.inl n) = some v ∧ Dn K F v d
  | [], [], _ => .inl ⟨rfl, rfl⟩
  | [], _ :: _, h => False.elim h
  | _ :: _, [], h => False.elim h
  | p :: kvs, q :: ts, h => by
    have ih := DnT.get (n := n) h.2.2
    rw [tkGet_cons]
    by_cases hq : q.1 = n
    · rw [if_pos hq, valV_pos (by rw [h.1, hq])]
      exact .inr ⟨_, _, rfl, rfl, h.2.1⟩
    · rw [if_neg hq, valV_neg (by rw [h.1]; intro e; exact hq (Sum.inl.inj e))]
      exact ih
theorem putK_new {kvs : List (Key × V)} {k : Key} {v : V} (h : valV kvs k = none) : putK kvs k v = kvs ++ [(k, v)] := by
  unfold putK
  rw [valV_any, h]
  rfl
/-! ### two dicts compared -/
inductive KHits (K : PySem.W.Frag) (H : Hp) (ls : List (Key × V)) : List (Key × V) → Bool → Prop
  | nil : KHits K H ls [] true
  | miss {p : Key × V} {r : List (Key × V)} : valV ls p.1 = none → KHits K H ls (p :: r) false
  | hit {p : Key × V} {y : V} {r : List (Key × V)} {b : Bool} {da db : PyData} : valV ls p.1 = some y → Dp K H p.2 da → Dp K H y db → SeqAt.shaped da = true → SeqAt.shaped db = true → KHits K H ls r b → KHits K H ls (p :: r) (PyData.eqv da db && b)
theorem relO_none {u : Option Value} (h : RelO none u) : u = none := by
  cases u with
  | none => rfl
  | some _ => exact False.elim h
section
variable {X : Cx} {ca : Exn → Addr} {W : WX}
theorem khits {pins : List (Addr × Obj)} {σ : L2.St} {H : Hp} {s : Shared} (hu : X.A.in1.units + 64 < cLine) (I : Inv X pins σ H s) {ls : List (Key × V)} {vb : List (Key × Value)} (rb : KV ls vb) {ks : List (Key × V)} {b : Bool} (h : KHits X.K H ls ks b) :
    ∀ {va : List (Key × Value)}, KV ks va → PySem.W.KeqHits X.A.in1 s vb va b := by
  induction h with
  | nil =>
    intro va ra
    cases ra
    exact .nil
  | @miss p r hn =>
    intro va ra
    cases ra with
    | @cons _ q _ qs h t =>
      obtain ⟨k, v⟩ := q
      have rr := rb.val p.1
      rw [hn] at rr
      have h1 : p.1 = k := h.1
      rw [h1] at rr
      exact .miss (relO_none rr)
  | @hit p y r b da db hy ha hb sa sb _ ih =>
    intro va ra
    cases ra with
    | @cons _ q _ qs h t =>
      obtain ⟨k, v⟩ := q
      have rr := rb.val p.1
      rw [hy] at rr
      obtain ⟨u, hu', ru⟩ := rr.some_of
      have h1 : p.1 = k := h.1
      rw [h1] at hu'
      obtain ⟨as, r1⟩ := Dp.reads I da p.2 v ha h.2
      obtain ⟨bs, r2⟩ := Dp.reads I db y u hb ru
      exact .hit hu' (PySem.W.keq_at r1 r2 sa sb hu) (ih t)
def rNeT (K : PySem.W.Frag) : R2 := fun x y H Q => ∃ a b ks ls e, x = .ref a ∧ y = .ref b ∧ H a = some (.dK ks) ∧ H b = some (.dK ls) ∧ KHits K H ls ks e ∧ Q (.bl (!(ks.length == ls.length && e))) H
theorem op_ne_T (hu : X.A.units < cLine) (hu' : X.A.in1.units + 64 < cLine) : OpR X (compareOp .NotEq) (rNeT X.K) := by
  intro pins s σ H x y v u Q I rx ry h
  obtain ⟨a, b, ks, ls, e, rfl, rfl, ea, eb, hp, q⟩ := h
  obtain rfl : v = Value.ref a := rx
  obtain rfl : u = Value.ref b := ry
  obtain ⟨_, ya, va, ra, da⟩ := (show ObjOk X.prog X.w H s.heap a (.dK ks) from I.hok a _ ea)
  obtain ⟨_, yb, vb, rb, db⟩ := (show ObjOk X.prog X.w H s.heap b (.dK ls) from I.hok b _ eb)
  have l1 : ks.length = va.length := ra.length
  have l2 : ls.length = vb.length := rb.length
  exact PySem.W.keq_ne (knd := mixKind X.prog X.w) (r := e) ya yb da db hu (fun _ => khits hu' I rb hp ra) (fin_bl I q (by rw [l1, l2]))
end
def tkHits (ls : List (Int × D)) : List (Int × D) → Option Bool
  | [] => some true
  | q :: r => match tkGet ls q.1 with
    | none => some false
    | some d => if SeqAt.shaped (toPd q.2) = true ∧ SeqAt.shaped (toPd d) = true then (tkHits ls r).map (PyData.eqv (toPd q.2) (toPd d) && ·) else none
theorem tkHits_k {K : PySem.W.Frag} {F H : Hp} (s : Same F H) {kl : List (Key × V)} {ls : List (Int × D)} (hl : DnT K F kl ls) : ∀ {ks : List (Key × V)} {ts : List (Int × D)} {b : Bool}, DnT K F ks ts → tkHits ls ts = some b → KHits K H kl ks b
  | [], [], b, _, h => by cases h; exact .nil
  | [], _ :: _, _, h, _ => False.elim h
  | _ :: _, [], _, h, _ => False.elim h
  | p :: ks, q :: ts, b, h, e => by
    unfold tkHits at e
    rcases hl.get (n := q.1) with ⟨g1, g2⟩ | ⟨d, v, g1, g2, g3⟩
    · simp only [g1] at e
      cases e
      exact .miss (by rw [h.1]; exact g2)
    · simp only [g1] at e
      split at e
      · rename_i hs
        simp only [Option.map_eq_some_iff] at e
        obtain ⟨b', e1, rfl⟩ := e
        exact .hit (by rw [h.1]; exact g2) (Dn.dp s _ _ h.2.1 (SeqAt.canLay_of_shaped hs.1)) (Dn.dp s _ _ g3 (SeqAt.canLay_of_shaped hs.2)) hs.1 hs.2 (tkHits_k s hl h.2.2 e1)
      · cases e
/-! ### held -/
section
variable {K : PySem.W.Frag} {F0 H0 : Hp} {r : Env} {σ : L2.St} {F H : Hp} {L : List Addr}
theorem Sim.held0 (S : Sim K F0 H0 r σ F H) : Held K F0 H0 r σ F H [] := S.hold (fun _ h => by cases h) (fun _ h => by cases h)
theorem Held.cons {p : Addr} {o : HO} (h : Held K F0 H0 r σ F H L) (hF : F p = none) (h0 : H0 p = none) (hp : H p = some o) (hL : p ∉ L) (hno : ∀ (j : Nat) ds, r[j]? = some (.ow ds) → σ[j]? ≠ some (some (.ref p))) : Held K F0 H0 r σ F H (p :: L) := by
  have S := h.sim
  have eq : ∀ x, x ≠ p → ext H0 H (p :: L) x = ext H0 H L x := fun x hx => by
    by_cases hm : x ∈ L
    · rw [ext_in hm, ext_in (List.mem_cons_of_mem _ hm)]
    · rw [ext_out hm, ext_out (by simp [hx, hm])]
  refine ⟨⟨S.len, S.sub, S.f0, fun x u e => ?_, fun x u e1 e2 => ?_, S.sh, fun i ds e => ?_, S.sep⟩, fun b hb => ?_⟩
  · by_cases hx : x = p
    · subst hx; rw [ext_in (by simp)] at e; exact e
    · rw [eq x hx] at e; exact S.h0 x u e
  · by_cases hx : x = p
    · subst hx; exact hF
    · rw [eq x hx] at e2; exact S.new x u e1 e2
  · obtain ⟨a, vs, k1, k2, k3, k4, k5⟩ := S.ow i ds e
    have hap : a ≠ p := fun z => by subst z; exact hno i ds e k1
    exact ⟨a, vs, k1, k2, k3, by rw [eq a hap]; exact k4, k5⟩
  · rcases List.mem_cons.mp hb with rfl | hb
    · exact ⟨hF, h0, _, hp⟩
    · exact h.fr b hb
end
section
variable {X : Cx} {ca : Exn → Addr} {W : WX}
/-- x = {} -/
def DictNew (X : Cx) (i : Nat) (st : Stmt) : Prop := ∃ t : TS, PS X st t ∧ ∀ F0 H0 r σ F H L (E : Ends), Held X.K F0 H0 r σ F H L →
  (∀ p σ' H', Held X.K F0 H0 (r.set i (.sh (.adr p))) σ' F H' (p :: L) → p ∉ L → H' p = some (.dK []) → (∀ b ∈ L, H' b = H b) → E.nx σ' H') → t E σ H
theorem dict_new (i : Nat) {x : Str} {p1 pos pos' : Pos} (hN : X.N.Nodup) (hi : X.N[i]? = some x := by rfl) (hx : Loc X.env.scope x := by first | exact Or.inl rfl | exact Or.inr rfl) (hs : swapsWith (.Dict [] [] p1) (some (.Name x pos')) pos.line X.env = pure false := by rfl) (hf : X.fn x = true ∨ X.env.scope.names.lookup x = some .local := by first | exact .inl rfl | exact .inr rfl) :
    DictNew X i (.Assign [.Name x pos'] (.Dict [] [] p1) pos) := by
  refine ⟨_, ps_set hN hi hx pe_dnewK hs hf, fun F0 H0 r σ F H L E h k => ?_⟩
  intro p hp
  have S := h.sim
  have G : Grow F H F (upd H p (.dK [])) := Grow.lay S.sub hp
  have S1 := (S.grow G).setSh i (v := .ref p) (d := .adr p) (by simp [Dn])
  obtain ⟨h1, e1⟩ := h.same S1 (Same.refl _)
  have hL : p ∉ L := fun hm => by
    obtain ⟨_, _, o, ho⟩ := h.fr p hm
    rw [hp] at ho; cases ho
  have h0 : H0 p = none := h.drop.h0.free hp
  refine k p _ _ (h1.cons (S.sub.free hp) h0 upd_same hL fun j ds e z => ?_) hL upd_same e1
  rcases get_set e with ⟨_, e2, _⟩ | ⟨hj, e2⟩
  · cases e2
  · rw [List.getElem?_set_ne (Ne.symm hj)] at z
    exact own_sep S hp j ds e2 z
/-- a def's promise: a value is stored under a number, once -/
def SpN (ca : Exn → Addr) : Sp := fun vs H Q E => ∃ F a n v kvs, vs = [.ref a, .int n, v] ∧ Same F H ∧ H a = some (.dK kvs) ∧ kvs.length < sizeLine ∧
  (if (valV kvs (.inl n)).isSome = true then ∀ F' H', Grow F H F' H' → E (.ref (ca .noFit)) none H' else Q .non (upd H a (.dK (putK kvs (.inl n) v))))
structure DefN (P : Program) (w : World) (K : PySem.W.Frag) (mg : Str → Option Value) (base : Heap) (ca : Exn → Addr) (name : Str) (k : Nat) : Prop where
  ex : ∃ (fa : Addr) (fd : FuncData) (ps : List Str), FnOk P w K mg base (L2.CX P w) k fa fd ps (SpN ca) ∧ mg name = some (.ref fa) ∧ PySem.W.keepIn K (.ref fa) = true ∧ Binds K fd ps []
def NotedBody (X : Cx) (ca : Exn → Addr) (W : WX) (st : List Stmt) : Prop := ∃ t : TS, PSs X st t ∧ ∀ F H σ a n v kvs (E : Ends), Same F H → σ[0]? = some (some (.ref a)) → σ[1]? = some (some (.int n)) → σ[2]? = some (some v) → H a = some (.dK kvs) → kvs.length < sizeLine →
  (if (valV kvs (.inl n)).isSome = true then ∀ σ' F' H', Grow F H F' H' → W (.ref (ca .noFit)) none σ' H' else E.nx σ (upd H a (.dK (putK kvs (.inl n) v)))) → t E σ H
theorem sim_un {K : PySem.W.Frag} {F H : Hp} (σ : L2.St) (s : Same F H) : Sim K F H (List.replicate σ.length .un) σ F H := by
  have hno : ∀ (i : Nat) (x : Ent), (List.replicate σ.length Ent.un)[i]? = some x → x = .un := fun i x e => by
    rw [List.getElem?_replicate] at e
    split at e
    · cases e; rfl
    · cases e
  exact ⟨by simp, s, Same.refl _, Same.refl _, fun _ _ e _ => e, fun i d e => (by cases hno i _ e), fun i ds e => (by cases hno i _ e), fun i j ds es a e => (by cases hno i _ e)⟩
theorem noted_walk {x0 x1 x2 : Str} {q0 q1 q q2 q3 q4 q5 q6 q7 : Pos} {sr : Stmt} (hu : X.A.units + 64 < cLine) (hr : SD X ca W sr (sRaise .noFit))
    (hN0 : X.N[0]? = some x0 := by rfl) (hv0 : Vis X.env.scope x0 := by first | exact Or.inl rfl | exact Or.inr (Or.inl rfl) | exact Or.inr (Or.inr rfl)) (hd0 : (x0 == ("__debug__" : Str)) = false := by decide) (hc0 : (x0 == ("__classdict__" : Str)) = false := by decide)
    (hN1 : X.N[1]? = some x1 := by rfl) (hv1 : Vis X.env.scope x1 := by first | exact Or.inl rfl | exact Or.inr (Or.inl rfl) | exact Or.inr (Or.inr rfl)) (hd1 : (x1 == ("__debug__" : Str)) = false := by decide) (hc1 : (x1 == ("__classdict__" : Str)) = false := by decide)
    (hN2 : X.N[2]? = some x2 := by rfl) (hv2 : Vis X.env.scope x2 := by first | exact Or.inl rfl | exact Or.inr (Or.inl rfl) | exact Or.inr (Or.inr rfl)) (hd2 : (x2 == ("__debug__" : Str)) = false := by decide) (hc2 : (x2 == ("__classdict__" : Str)) = false := by decide)
    (hb : behindInMarks .In (.Name x0 q0) = false := by rfl) (hsw : swapsWith (.Name x2 q6) (some (.Subscript (.Name x0 q3) (.Name x1 q4) q5)) q7.line X.env = pure false := by rfl) :
    NotedBody X ca W [.If (.Compare (.Name x1 q1) [.In] [.Name x0 q0] q) [sr] [] q2, .Assign [.Subscript (.Name x0 q3) (.Name x1 q4) q5] (.Name x2 q6) q7] := by
  obtain ⟨tr, pr, qr⟩ := hr
  refine ⟨_, pss_cons (ps_if (pt_cmp (pc_din (by omega) (pe_var hN1 hv1 hd1 hc1) (pe_var hN0 hv0 hd0 hc0)) hb) (pss_one pr) pss_nil) (pss_one (ps_dput (by omega) (pe_var hN0 hv0 hd0 hc0) (pe_var hN1 hv1 hd1 hc1) (pe_var hN2 hv2 hd2 hc2) hsw)),
    fun F H σ a n v kvs E s e0 e1 e2 hH hl k => ?_⟩
  refine ⟨.int n, e1, .ref a, e0, a, valV kvs (.inl n), rfl, DGet.k (k := .inl n) hH, ?_⟩
  refine ⟨(valV kvs (.inl n)).isSome, rfl, ?_⟩
  cases hq : (valV kvs (.inl n)).isSome with
  | true =>
    rw [hq, if_pos rfl] at k
    rw [if_pos rfl]
    exact qr F H _ σ F H _ (sim_un σ s) k
  | false =>
    rw [hq, if_neg Bool.false_ne_true] at k
    rw [if_neg Bool.false_ne_true]
    exact ⟨v, e2, .ref a, e0, .int n, e1, a, _, rfl, DPut.k (k := .inl n) hH hl, k⟩
end
section
variable {P : Program} {w : World} {K : PySem.W.Frag} {mg : Str → Option Value} {base : Heap} {ca : Exn → Addr}
theorem defN_ok {x qual : Str} {st : Stmt} {fa : Addr} {fd : FuncData} {N ps : List Str} {k : Nat} (F : Fun K x qual st fa fd) (S : FnScope N ps (defScope st)) (hm : mg x = some (.ref fa)) (hb : Binds K fd ps []) (hp : ps.length = 3)
    (h : ∀ (cdv : Value) (A : Around) (outer : List PySem.Env) (s : Shared) (H : Hp) (E : XK), Room k (A.deeper (envOfC qual (defScope st) s.heap.objs.size fa cdv)) →
      NotedBody (cxOf (L2.CX P w) P w K mg base N qual (defScope st) fa cdv A outer s H E) ca (fun cls d _ H => E cls d H) (defBody st)) :
    DefN P w K mg base ca x (k + 1) := by
  refine ⟨fa, fd, ps, F.okX S (fun vs H Q E sp => ?_) (fun cdv A outer s H vs Q E hr sp => ?_), hm, F.kp, hb⟩
  · obtain ⟨Fz, a, n, v, kvs, rfl, _⟩ := sp
    rw [hp]; rfl
  · obtain ⟨Fz, a, n, v, kvs, rfl, s', hH, hl, wp⟩ := sp
    obtain ⟨t, p, q⟩ := h cdv A outer s H E hr
    refine ⟨t, p, q Fz H _ a n v kvs _ s' rfl rfl rfl hH hl ?_⟩
    split
    · rename_i hq
      rw [if_pos hq] at wp
      exact fun σ' F' H' G => wp F' H' G
    · rename_i hq
      rw [if_neg hq] at wp
      exact wp
end
section
variable {X : Cx} {ca : Exn → Addr} {W : WX}
/-- noted(x, y, z), x a dict that is held -/
def NoteCall (X : Cx) (ca : Exn → Addr) (W : WX) (i j l : Nat) (st : Stmt) : Prop := ∃ t : TS, PS X st t ∧ ∀ F0 H0 r σ F H L (E : Ends) a n d kvs ts, Held X.K F0 H0 r σ F H L → r[i]? = some (.sh (.adr a)) → r[j]? = some (.sh (.int n)) → r[l]? = some (.sh d) → a ∈ L → H a = some (.dK kvs) → DnT X.K F kvs ts → ts.length < sizeLine →
  (tkGet ts n = none → ∀ H' kvs', Held X.K F0 H0 r σ F H' L → H' a = some (.dK kvs') → DnT X.K F kvs' (ts ++ [(n, d)]) → (∀ c ∈ L, c ≠ a → H' c = H c) → E.nx σ H') → ((tkGet ts n).isSome = true → ∀ F' H', Grow F0 H0 F' H' → W (.ref (ca .noFit)) none σ H') → t E σ H
theorem note_call {name : Str} {k : Nat} (i j l : Nat) {x y z : Str} {p p1 p2 p3 cpos pos : Pos} (h : DefN X.prog X.w X.K X.mg X.base ca name k) (hr : Room k X.A) (tk : Takes X W)
    (hN0 : X.N[i]? = some x := by rfl) (hv0 : Vis X.env.scope x := by first | exact Or.inl rfl | exact Or.inr (Or.inl rfl) | exact Or.inr (Or.inr rfl)) (hd0 : (x == ("__debug__" : Str)) = false := by decide) (hc0 : (x == ("__classdict__" : Str)) = false := by decide)
    (hN1 : X.N[j]? = some y := by rfl) (hv1 : Vis X.env.scope y := by first | exact Or.inl rfl | exact Or.inr (Or.inl rfl) | exact Or.inr (Or.inr rfl)) (hd1 : (y == ("__debug__" : Str)) = false := by decide) (hc1 : (y == ("__classdict__" : Str)) = false := by decide)
    (hN2 : X.N[l]? = some z := by rfl) (hv2 : Vis X.env.scope z := by first | exact Or.inl rfl | exact Or.inr (Or.inl rfl) | exact Or.inr (Or.inr rfl)) (hd2 : (z == ("__debug__" : Str)) = false := by decide) (hc2 : (z == ("__classdict__" : Str)) = false := by decide)
    (hg : Gl X name := by rfl) (hdb : (name == ("__debug__" : Str)) = false := by decide)
    (hs1 : starEach [.Name x p1, .Name y p2, .Name z p3] X.env = (false, eval (.Name x p1) X.env) :: starEach [.Name y p2, .Name z p3] X.env := by rfl) (hs2 : starEach [.Name y p2, .Name z p3] X.env = (false, eval (.Name y p2) X.env) :: starEach [.Name z p3] X.env := by rfl)
    (hs3 : starEach [.Name z p3] X.env = (false, eval (.Name z p3) X.env) :: starEach [] X.env := by rfl) (hpl : (backTo cpos (starEach [.Name y p2, .Name z p3] X.env)).any (·.1) = false := by rfl) (hsw : swapsWith (.Call (.Name name p) [.Name x p1, .Name y p2, .Name z p3] [] cpos) none pos.line X.env = pure false := by rfl) :
    NoteCall X ca W i j l (.Expr (.Call (.Name name p) [.Name x p1, .Name y p2, .Name z p3] [] cpos) pos) := by
  obtain ⟨fn, fd, ps, F, gm, kp, hb⟩ := h.ex
  refine ⟨_, ps_expr (pe_callS F hr hg gm kp hb (fun σ => passAt tk σ) (pa_cons (pe_var hN0 hv0 hd0 hc0) (pa_cons (pe_var hN1 hv1 hd1 hc1) (pa_cons (pe_var hN2 hv2 hd2 hc2) pa_nil hs3) hs2) hs1) hdb hs1 hpl) hsw,
    fun F0 H0 r σ F H L E a n d kvs ts h e0 e1 e2 hL hH hn hl k1 k2 => ?_⟩
  obtain ⟨v0, s0, n0⟩ := h.sim.sh i _ e0
  obtain ⟨v1, s1, n1⟩ := h.sim.sh j _ e1
  obtain ⟨v2, s2, n2⟩ := h.sim.sh l _ e2
  simp only [Dn] at n0 n1
  subst n0
  subst n1
  refine ⟨.ref a, s0, .int n, s1, v2, s2, ?_⟩
  refine ⟨F, a, n, v2, kvs, rfl, h.sim.sub, hH, by rw [hn.length]; exact hl, ?_⟩
  rcases hn.get (n := n) with ⟨g1, g2⟩ | ⟨d', v', g1, g2, _⟩
  · rw [g2, if_neg (by simp), putK_new g2]
    exact k1 g1 _ _ (h.mut hL) upd_same (hn.snoc n2) fun c hc hne => upd_ne hne
  · rw [g2, if_pos (by rfl)]
    exact fun F' H' G => k2 (by rw [g1]; rfl) F' H' (h.drop.base.trans G)
/-- x != y, both held -/
def HeldNe (X : Cx) (i j : Nat) (e : Expr) : Prop := ∃ t : TT, PT X e t ∧ ∀ F0 H0 r σ F H L (Q : Bool → Hp → Prop) a b ka kb ta tb q, Held X.K F0 H0 r σ F H L → r[i]? = some (.sh (.adr a)) → r[j]? = some (.sh (.adr b)) → H a = some (.dK ka) → H b = some (.dK kb) → DnT X.K F ka ta → DnT X.K F kb tb → tkHits tb ta = some q →
  Q (!(ta.length == tb.length && q)) H → t σ H Q
theorem held_ne (i j : Nat) {x y : Str} {p1 p2 pos : Pos} (hu : X.A.units < cLine) (hu' : X.A.in1.units + 64 < cLine)
    (hN0 : X.N[i]? = some x := by rfl) (hv0 : Vis X.env.scope x := by first | exact Or.inl rfl | exact Or.inr (Or.inl rfl) | exact Or.inr (Or.inr rfl)) (hd0 : (x == ("__debug__" : Str)) = false := by decide) (hc0 : (x == ("__classdict__" : Str)) = false := by decide)
    (hN1 : X.N[j]? = some y := by rfl) (hv1 : Vis X.env.scope y := by first | exact Or.inl rfl | exact Or.inr (Or.inl rfl) | exact Or.inr (Or.inr rfl)) (hd1 : (y == ("__debug__" : Str)) = false := by decide) (hc1 : (y == ("__classdict__" : Str)) = false := by decide)
    (hm : behindInMarks .NotEq (.Name y p2) = false := by first | exact nobehind _ (by decide) (by decide) | rfl) : HeldNe X i j (.Compare (.Name x p1) [.NotEq] [.Name y p2] pos) := by
  refine ⟨_, pt_cmpR (op_ne_T hu hu') (pe_var hN0 hv0 hd0 hc0) (pe_var hN1 hv1 hd1 hc1) hm, fun F0 H0 r σ F H L Q a b ka kb ta tb q h e0 e1 ha hb na nb ht k => ?_⟩
  obtain ⟨v0, s0, n0⟩ := h.sim.sh i _ e0
  obtain ⟨v1, s1, n1⟩ := h.sim.sh j _ e1
  simp only [Dn] at n0 n1
  subst n0
  subst n1
  refine ⟨.ref a, s0, .ref b, s1, a, b, ka, kb, q, rfl, rfl, ha, hb, tkHits_k h.sim.sub nb na ht, ?_⟩
  rw [na.length, nb.length]
  exact ⟨_, rfl, k⟩
end
end DL
namespace DL
open PySem
theorem u_0 {A : Around} (h : A.units + 65 < cLine) : A.units < cLine := by omega
theorem u_in1 {A : Around} (h : A.units + 65 < cLine) : A.in1.units + 64 < cLine := by
  show A.units + 1 + 64 < cLine
  omega
end DL

set_option Elab.async false
set_option linter.all false
set_option maxRecDepth 100000
set_option maxHeartbeats 2000000
/-! P0: tools of the plain side -/
namespace DL
open PySem

/-! ### slots by places -/
@[simp] theorem getSh_0 (d : D) (r : Env) : getSh (.sh d :: r) 0 = .ok d := rfl
@[simp] theorem getSh_s (e : Ent) (r : Env) (i : Nat) : getSh (e :: r) (i + 1) = getSh r i := rfl
@[simp] theorem getPk_0 (d : D) (r : Env) : getPk (.sh d :: r) 0 = .ok d := rfl
@[simp] theorem getPk_0w (ds : List D) (r : Env) : getPk (.ow ds :: r) 0 = .ok (.lst ds) := rfl
@[simp] theorem getPk_s (e : Ent) (r : Env) (i : Nat) : getPk (e :: r) (i + 1) = getPk r i := rfl
@[simp] theorem owO_0 (ds : List D) (r : Env) : owO (.ow ds :: r) 0 = some ds := rfl
@[simp] theorem owO_s (e : Ent) (r : Env) (i : Nat) : owO (e :: r) (i + 1) = owO r i := rfl
@[simp] theorem fz_0w (ds : List D) (r : Env) : fz 0 (.ow ds :: r) = .sh (.lst ds) :: r := rfl
@[simp] theorem fz_0s (d : D) (r : Env) : fz 0 (.sh d :: r) = .sh d :: r := rfl
@[simp] theorem fz_0u (r : Env) : fz 0 (.un :: r) = .un :: r := rfl
@[simp] theorem fz_s (e : Ent) (r : Env) (i : Nat) : fz (i + 1) (e :: r) = e :: fz i r := by
  show (match r[i]? with | some (.ow ds) => (e :: r).set (i + 1) (.sh (.lst ds)) | _ => e :: r) = e :: (match r[i]? with | some (.ow ds) => r.set i (.sh (.lst ds)) | _ => r)
  split <;> rfl
@[simp] theorem wipeE_nil (r : Env) : wipeE r [] = r := rfl
@[simp] theorem wipeE_cons (r : Env) (i : Nat) (is : List Nat) : wipeE r (i :: is) = (wipeE r is).set i .un := rfl
@[simp] theorem tgt1_ok (i : Nat) (d : D) (r : Env) : tgt1 i d r = some (r.set i (.sh d)) := rfl
@[simp] theorem tgtN_nil (r : Env) : tgtN [] [] r = some r := rfl
@[simp] theorem tgtN_cons (i : Nat) (is : List Nat) (d : D) (ds : List D) (r : Env) : tgtN (i :: is) (d :: ds) r = tgtN is ds (r.set i (.sh d)) := rfl
@[simp] theorem tgtT_ok (is : List Nat) (ds : List D) (r : Env) (h : ds.length = is.length) : tgtT is (.tup ds) r = tgtN is ds r := by simp [tgtT, h]
@[simp] theorem forR_nil (t : D → Env → Option Env) (b : Env → R Out) (r : Env) : forR t b [] r = .ok (.nx r) := rfl
theorem forR_cons (t : D → Env → Option Env) (b : Env → R Out) (d : D) (ds : List D) (r : Env) : forR t b (d :: ds) r = lift (t d r) >>= fun r1 => seqO (b r1) (forR t b ds) := rfl
@[simp] theorem mkL_ok (ds : List D) : mkL (.ok ds) = .ok (.lst ds) := rfl
/-- a comprehension whose element and test are known -/
theorem compR_map {own : List Nat} {tgt : D → Env → Option Env} {el : Env → R D} {r : Env} {f : D → D} : ∀ (ds : List D), (∀ d ∈ ds, ∃ r1, tgt d (wipeE r own) = some r1 ∧ el r1 = .ok (f d)) → compR own tgt tYes el r ds = .ok (ds.map f)
  | [], _ => rfl
  | d :: ds, h => by
    obtain ⟨r1, h1, h2⟩ := h d (by simp)
    have ih := compR_map ds fun x hx => h x (by simp [hx])
    simp [compR, h1, h2, ih]
theorem compR_filter {own : List Nat} {tgt : D → Env → Option Env} {tst : Env → R Bool} {el : Env → R D} {r : Env} {p : D → Bool} {f : D → D} : ∀ (ds : List D), (∀ d ∈ ds, ∃ r1, tgt d (wipeE r own) = some r1 ∧ tst r1 = .ok (p d) ∧ (p d = true → el r1 = .ok (f d))) → compR own tgt tst el r ds = .ok ((ds.filter p).map f)
  | [], _ => rfl
  | d :: ds, h => by
    obtain ⟨r1, h1, h2, h3⟩ := h d (by simp)
    have ih := compR_filter ds fun x hx => h x (by simp [hx])
    cases hp : p d with
    | true =>
      have h3 := h3 hp
      simp [compR, h1, h2, h3, ih, hp]
    | false => simp [compR, h1, h2, ih, hp]

/-! ### texts -/
theorem len_cps (x : Str) : x.length = x.cps.toList.length := by simp [Str.length]
theorem str_ext {x y : Str} (h : x.cps.toList = y.cps.toList) : x = y := by
  cases x; cases y; congr 1; exact Array.toList_inj.mp h
@[simp] theorem cps_app (x y : Str) : (x ++ y).cps.toList = x.cps.toList ++ y.cps.toList := by
  show (x.cps ++ y.cps).toList = _
  simp
def mkS (l : List Nat) : Str := ⟨l.toArray⟩
@[simp] theorem cps_mk (l : List Nat) : (mkS l).cps.toList = l := by simp [mkS]
@[simp] theorem len_mk (l : List Nat) : (mkS l).length = l.length := by simp [mkS, Str.length]
theorem mk_cps (x : Str) : mkS x.cps.toList = x := str_ext (by simp)
@[simp] theorem len_app (x y : Str) : (x ++ y).length = x.length + y.length := by simp [len_cps]
theorem mk_app (a b : List Nat) : mkS a ++ mkS b = mkS (a ++ b) := str_ext (by simp)
theorem mk_inj {a b : List Nat} (h : mkS a = mkS b) : a = b := by
  have := congrArg (fun x => x.cps.toList) h
  simpa using this
theorem sizeLine_is : sizeLine = 16777216 := sizeLine_eq

/-! ### signs and words -/
def isSign (c : Nat) : Bool := decide (33 ≤ c ∧ c ≤ 126 ∧ c ≠ 37)
def isWordL (l : List Nat) : Bool := decide (1 ≤ l.length ∧ l.length ≤ 40) && l.all isSign
def isWord (x : Str) : Bool := isWordL x.cps.toList

/-! ### operators on known kinds -/
@[simp] theorem addD_int (i j : Int) : addD (.int i) (.int j) = some (.int (i + j)) := rfl
@[simp] theorem subD_int (i j : Int) : subD (.int i) (.int j) = some (.int (i - j)) := rfl
theorem mulD_int {i j : Int} (h : L2.CMul i j) : mulD (.int i) (.int j) = some (.int (i * j)) := by simp [mulD, h]
theorem divD_int {i j : Int} (h : 0 < j ∧ j < 1073741824) : divD (.int i) (.int j) = some (.int (i / j)) := by simp [divD, L2.CDiv, h]
theorem modD_int {i j : Int} (h : 0 < j) : modD (.int i) (.int j) = some (.int (i % j)) := by simp [modD, h]
theorem addD_str {a b : Str} (h : a.length + b.length ≤ sizeLine) : addD (.str a) (.str b) = some (.str (a ++ b)) := by simp [addD, h]
theorem addD_lst {a b : List D} (h : a.length + b.length ≤ sizeLine) : addD (.lst a) (.lst b) = some (.lst (a ++ b)) := by simp [addD, h]
theorem addD_tup {a b : List D} (h : a.length + b.length ≤ sizeLine) : addD (.tup a) (.tup b) = some (.tup (a ++ b)) := by simp [addD, h]
theorem catO_lst {a b : List D} (h : a.length + b.length ≤ sizeLine) : catO (.lst a) (.lst b) = some (a ++ b) := by simp [catO, h]
@[simp] theorem ltD_int (i j : Int) : ltD (.int i) (.int j) = some (.bl (decide (i < j))) := rfl
@[simp] theorem leD_int (i j : Int) : leD (.int i) (.int j) = some (.bl (decide (i ≤ j))) := rfl
@[simp] theorem gtD_int (i j : Int) : gtD (.int i) (.int j) = some (.bl (decide (j < i))) := rfl
@[simp] theorem geD_int (i j : Int) : geD (.int i) (.int j) = some (.bl (decide (j ≤ i))) := rfl
@[simp] theorem isB_bl (b : Bool) : isB (.bl b) = some b := rfl
@[simp] theorem isI_int (i : Int) : isI (.int i) = some i := rfl
@[simp] theorem strO_str (x : Str) : strO (.str x) = some x := rfl
@[simp] theorem andV_ok (p q : Bool) : andV (.ok (.bl p)) (.ok (.bl q)) = .ok (.bl (p && q)) := by cases p <;> rfl
@[simp] theorem orV_ok (p q : Bool) : orV (.ok (.bl p)) (.ok (.bl q)) = .ok (.bl (p || q)) := by cases p <;> rfl
@[simp] theorem andR_ok (p q : Bool) : andR (.ok p) (.ok q) = .ok (p && q) := by cases p <;> rfl
@[simp] theorem orR_ok (p q : Bool) : orR (.ok p) (.ok q) = .ok (p || q) := by cases p <;> rfl
@[simp] theorem chain_le_le (a b c : Int) : chainD leD leD (.int a) (.int b) (.ok (.int c)) = .ok (.bl (decide (a ≤ b ∧ b ≤ c))) := by
  by_cases h : a ≤ b <;> simp [chainD, h]
@[simp] theorem chain_lt_lt (a b c : Int) : chainD ltD ltD (.int a) (.int b) (.ok (.int c)) = .ok (.bl (decide (a < b ∧ b < c))) := by
  by_cases h : a < b <;> simp [chainD, h]
theorem shaped_flat {d : PyData} (h : d.canLay0 = true) (h2 : d.depth ≤ 64) : SeqAt.shaped d = true := by
  unfold SeqAt.shaped; simp [h, h2]
theorem eqB_sh {d e : D} {p q : PyData} (hp : toPd d = p) (hq : toPd e = q) (h1 : SeqAt.shaped p = true) (h2 : SeqAt.shaped q = true) : eqB d e = some (PyData.eqv p q) := by
  subst hp; subst hq
  unfold eqB
  split
  · simp only [toPd, PyData.eqv]
    rfl
  · rw [if_pos ⟨h1, h2⟩]
theorem sh_int (i : Int) : SeqAt.shaped (.int i) = true := shaped_flat (by simp [PyData.canLay0]) (by simp [PyData.depth])
theorem sh_non : SeqAt.shaped .none = true := shaped_flat (by simp [PyData.canLay0]) (by simp [PyData.depth])
theorem sh_bool (i : Bool) : SeqAt.shaped (.bool i) = true := shaped_flat (by simp [PyData.canLay0]) (by simp [PyData.depth])
theorem eqB_int (i j : Int) : eqB (.int i) (.int j) = some (decide (i = j)) := by
  rw [eqB_sh (p := .int i) (q := .int j) (by simp [toPd]) (by simp [toPd]) (sh_int i) (sh_int j)]
  simp only [PyData.eqv]
  rfl
@[simp] theorem eqD_int (i j : Int) : eqD (.int i) (.int j) = some (.bl (decide (i = j))) := by simp [eqD, eqB_int]
@[simp] theorem neD_int (i j : Int) : neD (.int i) (.int j) = some (.bl (!decide (i = j))) := by simp [neD, eqB_int]
@[simp] theorem eqD_str (i j : Str) : eqD (.str i) (.str j) = some (.bl (decide (i = j))) := rfl
@[simp] theorem neD_str (i j : Str) : neD (.str i) (.str j) = some (.bl (!decide (i = j))) := rfl
@[simp] theorem lenD_lst (ds : List D) : lenD [.lst ds] = some (.int ds.length) := rfl
@[simp] theorem lenD_tup (ds : List D) : lenD [.tup ds] = some (.int ds.length) := rfl
@[simp] theorem lenD_scr (ds : List Int) : lenD [.scr ds] = some (.int ds.length) := rfl
theorem lenD_str {x : Str} (h : x.length ≤ sizeLine) : lenD [.str x] = some (.int x.length) := by simp [lenD, h]
@[simp] theorem allD_map (bs : List Bool) : allD [.lst (bs.map D.bl)] = some (.bl (bs.all id)) := by simp [allD]
@[simp] theorem min2D_int (i j : Int) : min2D [.int i, .int j] = some (.int (if j < i then j else i)) := rfl
@[simp] theorem max2D_int (i j : Int) : max2D [.int i, .int j] = some (.int (if j > i then j else i)) := rfl
@[simp] theorem listO_lst (ds : List D) : listO (.lst ds) = some ds := rfl
@[simp] theorem listO_tup (ds : List D) : listO (.tup ds) = some ds := rfl
@[simp] theorem seqItems_lst (ds : List D) : seqItems (.lst ds) = some ds := rfl
@[simp] theorem tupItems_tup (ds : List D) : tupItems (.tup ds) = some ds := rfl
theorem strItems_str (x : Str) : strItems (.str x) = some (x.cps.toList.map fun c => .str ⟨#[c]⟩) := rfl
@[simp] theorem tupleD_lst (ds : List D) : tupleD [.lst ds] = some (.tup ds) := rfl
@[simp] theorem tupleD_tup (ds : List D) : tupleD [.tup ds] = some (.tup ds) := rfl
theorem rng1_nat (n : Nat) (h : n < 2 ^ 62) : rng1 (.int (n : Int)) = some ((List.range n).map fun i : Nat => .int (i : Int)) := by
  have h1 : -(2 ^ 62) ≤ (n : Int) ∧ (n : Int) < 2 ^ 62 := by omega
  simp only [rng1, if_pos h1, rngItems]
  simp
@[simp] theorem isT_str_str (x : Str) : isT "str" (.str x) = some (.bl true) := by rfl
@[simp] theorem isT_str_non : isT "str" .non = some (.bl false) := by rfl
@[simp] theorem isT_str_bl (b : Bool) : isT "str" (.bl b) = some (.bl false) := by rfl
@[simp] theorem isT_str_int (i : Int) : isT "str" (.int i) = some (.bl false) := by rfl
@[simp] theorem isT_str_lst (xs : List D) : isT "str" (.lst xs) = some (.bl false) := by rfl
@[simp] theorem isT_str_tup (xs : List D) : isT "str" (.tup xs) = some (.bl false) := by rfl
@[simp] theorem isT_str_dic (xs : List (L2.Key × L2.V)) : isT "str" (.dic xs) = some (.bl false) := by rfl
@[simp] theorem isT_str_scr (xs : List Int) : isT "str" (.scr xs) = some (.bl false) := by rfl
@[simp] theorem isT_lst_str (x : Str) : isT "list" (.str x) = some (.bl false) := by rfl
@[simp] theorem isT_lst_non : isT "list" .non = some (.bl false) := by rfl
@[simp] theorem isT_lst_bl (b : Bool) : isT "list" (.bl b) = some (.bl false) := by rfl
@[simp] theorem isT_lst_int (i : Int) : isT "list" (.int i) = some (.bl false) := by rfl
@[simp] theorem isT_lst_lst (xs : List D) : isT "list" (.lst xs) = some (.bl true) := by rfl
@[simp] theorem isT_lst_tup (xs : List D) : isT "list" (.tup xs) = some (.bl false) := by rfl
@[simp] theorem isT_lst_dic (xs : List (L2.Key × L2.V)) : isT "list" (.dic xs) = some (.bl false) := by rfl
@[simp] theorem isT_lst_scr (xs : List Int) : isT "list" (.scr xs) = some (.bl true) := by rfl
@[simp] theorem isT_tup_str (x : Str) : isT "tuple" (.str x) = some (.bl false) := by rfl
@[simp] theorem isT_tup_non : isT "tuple" .non = some (.bl false) := by rfl
@[simp] theorem isT_tup_bl (b : Bool) : isT "tuple" (.bl b) = some (.bl false) := by rfl
@[simp] theorem isT_tup_int (i : Int) : isT "tuple" (.int i) = some (.bl false) := by rfl
@[simp] theorem isT_tup_lst (xs : List D) : isT "tuple" (.lst xs) = some (.bl false) := by rfl
@[simp] theorem isT_tup_tup (xs : List D) : isT "tuple" (.tup xs) = some (.bl true) := by rfl
@[simp] theorem isT_tup_dic (xs : List (L2.Key × L2.V)) : isT "tuple" (.dic xs) = some (.bl false) := by rfl
@[simp] theorem isT_tup_scr (xs : List Int) : isT "tuple" (.scr xs) = some (.bl false) := by rfl
@[simp] theorem isT_int_str (x : Str) : isT "int" (.str x) = some (.bl false) := by rfl
@[simp] theorem isT_int_non : isT "int" .non = some (.bl false) := by rfl
@[simp] theorem isT_int_bl (b : Bool) : isT "int" (.bl b) = some (.bl true) := by rfl
@[simp] theorem isT_int_int (i : Int) : isT "int" (.int i) = some (.bl true) := by rfl
@[simp] theorem isT_int_lst (xs : List D) : isT "int" (.lst xs) = some (.bl false) := by rfl
@[simp] theorem isT_int_tup (xs : List D) : isT "int" (.tup xs) = some (.bl false) := by rfl
@[simp] theorem isT_int_dic (xs : List (L2.Key × L2.V)) : isT "int" (.dic xs) = some (.bl false) := by rfl
@[simp] theorem isT_int_scr (xs : List Int) : isT "int" (.scr xs) = some (.bl false) := by rfl
@[simp] theorem isT_bool_str (x : Str) : isT "bool" (.str x) = some (.bl false) := by rfl
@[simp] theorem isT_bool_non : isT "bool" .non = some (.bl false) := by rfl
@[simp] theorem isT_bool_bl (b : Bool) : isT "bool" (.bl b) = some (.bl true) := by rfl
@[simp] theorem isT_bool_int (i : Int) : isT "bool" (.int i) = some (.bl false) := by rfl
@[simp] theorem isT_bool_lst (xs : List D) : isT "bool" (.lst xs) = some (.bl false) := by rfl
@[simp] theorem isT_bool_tup (xs : List D) : isT "bool" (.tup xs) = some (.bl false) := by rfl
@[simp] theorem isT_bool_dic (xs : List (L2.Key × L2.V)) : isT "bool" (.dic xs) = some (.bl false) := by rfl
@[simp] theorem isT_bool_scr (xs : List Int) : isT "bool" (.scr xs) = some (.bl false) := by rfl

/-! ### texts by their signs; lists and tuples of texts -/
def tS (l : List Nat) : D := .str (mkS l)
def tL (ws : List (List Nat)) : D := .lst (ws.map tS)
def tT (ws : List (List Nat)) : D := .tup (ws.map tS)
theorem tS_one (c : Nat) : D.str ⟨#[c]⟩ = tS [c] := rfl
@[simp] theorem strO_tS (l : List Nat) : strO (tS l) = some (mkS l) := rfl
@[simp] theorem isN_tS (l : List Nat) : isN (tS l) = false := rfl
theorem lenD_tS {l : List Nat} (h : l.length ≤ sizeLine) : lenD [tS l] = some (.int l.length) := by
  unfold tS; rw [lenD_str (by simpa using h)]; simp
theorem strItems_tS (l : List Nat) : strItems (tS l) = some (l.map fun c => tS [c]) := by
  unfold tS; rw [strItems_str]; simp [mkS]
theorem addD_tS {a b : List Nat} (h : a.length + b.length ≤ sizeLine) : addD (tS a) (tS b) = some (tS (a ++ b)) := by
  unfold tS; rw [addD_str (by simpa using h), mk_app]
theorem mk_eq (a b : List Nat) : decide (mkS a = mkS b) = decide (a = b) := by
  by_cases h : a = b
  · subst h; simp
  · rw [decide_eq_false h, decide_eq_false fun z => h (mk_inj z)]
@[simp] theorem eqD_tS (a b : List Nat) : eqD (tS a) (tS b) = some (.bl (decide (a = b))) := by unfold tS; rw [eqD_str, mk_eq]
@[simp] theorem neD_tS (a b : List Nat) : neD (tS a) (tS b) = some (.bl (!decide (a = b))) := by unfold tS; rw [neD_str, mk_eq]
theorem inB_tS (c : Nat) (l : List Nat) : inB (tS [c]) (tS l) = some (decide (c ∈ l)) := by simp [tS, inB]
@[simp] theorem inD_tS (c : Nat) (l : List Nat) : inD (tS [c]) (tS l) = some (.bl (decide (c ∈ l))) := by simp [inD, inB_tS]
@[simp] theorem ninD_tS (c : Nat) (l : List Nat) : ninD (tS [c]) (tS l) = some (.bl (!decide (c ∈ l))) := by simp [ninD, inB_tS]
@[simp] theorem isT_str_tS (l : List Nat) : isT "str" (tS l) = some (.bl true) := isT_str_str (mkS l)
@[simp] theorem isT_lst_tS (l : List Nat) : isT "list" (tS l) = some (.bl false) := isT_lst_str (mkS l)
@[simp] theorem isT_tup_tS (l : List Nat) : isT "tuple" (tS l) = some (.bl false) := isT_tup_str (mkS l)
@[simp] theorem isT_int_tS (l : List Nat) : isT "int" (tS l) = some (.bl false) := isT_int_str (mkS l)
@[simp] theorem isT_bool_tS (l : List Nat) : isT "bool" (tS l) = some (.bl false) := isT_bool_str (mkS l)
@[simp] theorem ordD_tS (c : Nat) : ordD [tS [c]] = some (.int (c : Int)) := by simp [ordD, tS, mkS, Str.length]
theorem strsOf_tS (ws : List (List Nat)) : strsOf (ws.map tS) = some (ws.map mkS) := by
  have : ws.map tS = (ws.map mkS).map D.str := by simp [Function.comp_def]; intro a _; rfl
  rw [this, strsOf_map]
theorem join_mk (s : List Nat) (ws : List (List Nat)) : Txt.join (mkS s) (ws.map mkS) = mkS (TL.joinL s ws) := by
  apply str_ext
  rw [TL.join_eq, cps_mk]
  show TL.tl _ = _
  rw [TL.tl_join]
  show TL.joinL (mkS s).cps.toList _ = _
  rw [cps_mk, List.map_map]
  congr 1
  conv => rhs; rw [← List.map_id ws]
  apply List.map_congr_left
  intro a _
  exact cps_mk a
theorem joinD_tL {s : List Nat} {ws : List (List Nat)} (h : (ws.map List.length).sum + ws.length * s.length ≤ 16777216) : joinD (mkS s) (tL ws) = some (tS (TL.joinL s ws)) := by
  unfold tL joinD
  simp only [strsOf_tS, Option.bind_some]
  rw [if_pos, join_mk]; rfl
  simpa [Function.comp_def] using h
theorem joinD_tT {s : List Nat} {ws : List (List Nat)} (h : (ws.map List.length).sum + ws.length * s.length ≤ 16777216) : joinD (mkS s) (tT ws) = some (tS (TL.joinL s ws)) := by
  unfold tT joinD
  simp only [strsOf_tS, Option.bind_some]
  rw [if_pos, join_mk]; rfl
  simpa [Function.comp_def] using h
/-! subscripts -/
theorem atI_of {α : Type} {xs : List α} {i : Nat} {v : α} (h : xs[i]? = some v) : L2.atI xs (i : Int) = some v := L2.atI_nat h
theorem ixD_lst {ds : List D} {i : Nat} {d : D} (h : ds[i]? = some d) : ixD (.lst ds) (.int (i : Int)) = some d := atI_of h
theorem ixD_tup {ds : List D} {i : Nat} {d : D} (h : ds[i]? = some d) : ixD (.tup ds) (.int (i : Int)) = some d := atI_of h
theorem ixD_lstI {ds : List D} {i : Int} {d : D} (h0 : 0 ≤ i) (h : ds[i.toNat]? = some d) : ixD (.lst ds) (.int i) = some d := by
  have e : (i.toNat : Int) = i := by omega
  rw [← e]; exact atI_of h
theorem ixD_tupI {ds : List D} {i : Int} {d : D} (h0 : 0 ≤ i) (h : ds[i.toNat]? = some d) : ixD (.tup ds) (.int i) = some d := by
  have e : (i.toNat : Int) = i := by omega
  rw [← e]; exact atI_of h
theorem ixD_tS {l : List Nat} {i : Int} {c : Nat} (h0 : 0 ≤ i) (hl : l.length ≤ sizeLine) (h : l[i.toNat]? = some c) : ixD (tS l) (.int i) = some (tS [c]) := by
  have e : (i.toNat : Int) = i := by omega
  show (if (mkS l).length ≤ sizeLine then (L2.atI (mkS l).cps.toList i).map fun c => D.str ⟨#[c]⟩ else none) = _
  rw [if_pos (by simpa using hl), cps_mk, ← e, atI_of h]
  rfl
theorem ixD_scr {ns : List Int} {i : Int} {n : Int} (h0 : 0 ≤ i) (h : ns[i.toNat]? = some n) : ixD (.scr ns) (.int i) = some (.int n) := by
  have e : (i.toNat : Int) = i := by omega
  show (L2.atI ns i).map D.int = _
  rw [← e, atI_of h]; rfl
@[simp] theorem ixD_tup0 (a : D) (r : List D) : ixD (.tup (a :: r)) (.int 0) = some a := ixD_tup (i := 0) rfl
@[simp] theorem ixD_tup1 (a b : D) (r : List D) : ixD (.tup (a :: b :: r)) (.int 1) = some b := ixD_tup (i := 1) rfl
@[simp] theorem ixD_tup2 (a b c : D) (r : List D) : ixD (.tup (a :: b :: c :: r)) (.int 2) = some c := ixD_tup (i := 2) rfl
@[simp] theorem ixD_lst0 (a : D) (r : List D) : ixD (.lst (a :: r)) (.int 0) = some a := ixD_lst (i := 0) rfl
@[simp] theorem ixD_lst1 (a b : D) (r : List D) : ixD (.lst (a :: b :: r)) (.int 1) = some b := ixD_lst (i := 1) rfl
theorem ixD_last (xs : List D) (d : D) : ixD (.lst (xs ++ [d])) (.int (-1)) = some d := L2.atI_last xs d
/-! slices -/
theorem cut_take {α : Type} (xs : List α) (n : Nat) : cut xs none (some (n : Int)) = xs.take n := by
  unfold cut
  rw [HT.sIx_none, HT.sIx_nat, List.drop_zero, Nat.sub_zero, List.take_eq_take_iff]; omega
theorem cut_drop {α : Type} (xs : List α) (n : Nat) : cut xs (some (n : Int)) none = xs.drop n := by
  unfold cut
  rw [HT.sIx_none, HT.sIx_nat]
  by_cases h : n ≤ xs.length
  · rw [Nat.min_eq_left h]
    exact List.take_of_length_le (by simp)
  · rw [Nat.min_eq_right (by omega), List.drop_length, List.drop_eq_nil_of_le (by omega)]; simp
theorem cut_mid {α : Type} (xs : List α) (m n : Nat) : cut xs (some (m : Int)) (some (n : Int)) = (xs.take n).drop m := by
  unfold cut
  rw [HT.sIx_nat, HT.sIx_nat, List.drop_take]
  by_cases h : m ≤ xs.length
  · rw [Nat.min_eq_left h, List.take_eq_take_iff, List.length_drop]; omega
  · have e : min m xs.length = xs.length := by omega
    rw [e, List.drop_length, List.drop_eq_nil_of_le (by omega)]; simp
theorem slD_lst (ds : List D) (l h : Option Int) : slD (.lst ds) l h = some (.lst (cut ds l h)) := rfl
theorem slD_tup (ds : List D) (l h : Option Int) : slD (.tup ds) l h = some (.tup (cut ds l h)) := rfl
theorem slD_tS {z : List Nat} (l h : Option Int) (hz : z.length ≤ sizeLine) : slD (tS z) l h = some (tS (cut z l h)) := by
  show (if (mkS z).length ≤ sizeLine then some (D.str (L2.cutS (mkS z) l h)) else none) = _
  rw [if_pos (by simpa using hz)]
  have e : L2.cutS (mkS z) l h = mkS (cut z l h) := by
    apply str_ext
    rw [cps_mk]
    unfold L2.cutS cut
    simp
  rw [e]; rfl
theorem slD_scr (ns : List Int) (l h : Option Int) : slD (.scr ns) l h = some (.lst ((cut ns l h).map .int)) := rfl
@[simp] theorem str_mk (l : List Nat) : D.str (mkS l) = tS l := rfl

/-! ### loops and comprehensions over a list of known things -/
theorem compR_of {α : Type} {own : List Nat} {i : Nat} {el : Env → R D} {r : Env} {g f : α → D} : ∀ (l : List α), (∀ a ∈ l, el ((wipeE r own).set i (.sh (g a))) = .ok (f a)) → compR own (tgt1 i) tYes el r (l.map g) = .ok (l.map f)
  | [], _ => rfl
  | a :: l, h => by
    have h1 := h a (by simp)
    have ih := compR_of l fun x hx => h x (by simp [hx])
    simp only [List.map_cons, compR, tgt1_ok, lift_some, ok_bind, tYes, nox_ok, if_true, h1, ih]
theorem compR_if {α : Type} {own : List Nat} {i : Nat} {tst : Env → R Bool} {el : Env → R D} {r : Env} {g f : α → D} {p : α → Bool} : ∀ (l : List α), (∀ a ∈ l, tst ((wipeE r own).set i (.sh (g a))) = .ok (p a) ∧ (p a = true → el ((wipeE r own).set i (.sh (g a))) = .ok (f a))) →
    compR own (tgt1 i) tst el r (l.map g) = .ok ((l.filter p).map f)
  | [], _ => rfl
  | a :: l, h => by
    obtain ⟨h1, h2⟩ := h a (by simp)
    have ih := compR_if l fun x hx => h x (by simp [hx])
    cases hp : p a with
    | true =>
      rw [hp] at h1
      simp only [List.map_cons, compR, tgt1_ok, lift_some, ok_bind, nox_ok, if_true, h1, h2 hp, ih, List.filter_cons, hp]
    | false =>
      rw [hp] at h1
      simp only [List.map_cons, compR, tgt1_ok, lift_some, ok_bind, nox_ok, Bool.false_eq_true, if_false, h1, ih, List.filter_cons, hp]
theorem forR_fold {α S : Type} {t : D → Env → Option Env} {b : Env → R Out} {g : α → D} {enc : S → Ent → Env} {step : S → α → S} {P : List α → S → Prop}
    (h : ∀ s e a rest, P (a :: rest) s → P rest (step s a) ∧ ∃ r1 e', t (g a) (enc s e) = some r1 ∧ b r1 = .ok (.nx (enc (step s a) e'))) : ∀ (l : List α) (s : S) (e : Ent), P l s → ∃ e', forR t b (l.map g) (enc s e) = .ok (.nx (enc (l.foldl step s) e'))
  | [], s, e, _ => ⟨e, rfl⟩
  | a :: l, s, e, hp => by
    obtain ⟨hp', r1, e1, h1, h2⟩ := h s e a l hp
    obtain ⟨e', ih⟩ := forR_fold h l (step s a) e1 hp'
    refine ⟨e', ?_⟩
    rw [List.map_cons, forR_cons, h1, lift_some, ok_bind, h2, seqO_nx, ih, List.foldl_cons]
theorem foldl_inv {α S : Type} {step : S → α → S} {P : List α → S → Prop} (h : ∀ s a rest, P (a :: rest) s → P rest (step s a)) : ∀ (l : List α) (s : S), P l s → P [] (l.foldl step s)
  | [], _, hp => hp
  | a :: l, s, hp => foldl_inv h l (step s a) (h s a l hp)
/-! ### lists of texts compared -/
theorem strOk_of {l : List Nat} (h : l.all (fun c => decide (c < 0x110000)) = true) : PyData.canLay0 (.str (mkS l)) = true := by
  simp only [PyData.canLay0]
  unfold PyData.strOk mkS
  simp only [List.all_toArray]
  exact h
theorem toPd_tS (l : List Nat) : toPd (tS l) = .str (mkS l) := by
  show toPd (D.str (mkS l)) = _
  simp only [toPd]
def Ok1 (ws : List (List Nat)) : Prop := ∀ w ∈ ws, w.all (fun c => decide (c < 0x110000)) = true
theorem canLay_tS : ∀ {ws : List (List Nat)}, Ok1 ws → PyData.canLayAll0 (toPds (ws.map tS)) = true
  | [], _ => by simp [toPds, PyData.canLayAll0]
  | w :: ws, h => by
    have h1 := strOk_of (h w (by simp))
    have h2 := canLay_tS (ws := ws) fun x hx => h x (by simp [hx])
    simp only [List.map_cons, toPds, toPd_tS, PyData.canLayAll0, h1, h2, Bool.and_self]
theorem depth_tS : ∀ (ws : List (List Nat)), PyData.depthAll (toPds (ws.map tS)) = 0
  | [] => by simp [toPds, PyData.depthAll]
  | w :: ws => by simp only [List.map_cons, toPds, toPd_tS, PyData.depthAll, PyData.depth, depth_tS ws, Nat.max_self]
theorem eqv_tS : ∀ (ws vs : List (List Nat)), PyData.eqvAll (toPds (ws.map tS)) (toPds (vs.map tS)) = decide (ws = vs)
  | [], [] => by simp [toPds, PyData.eqvAll]
  | [], _ :: _ => by simp [toPds, PyData.eqvAll]
  | _ :: _, [] => by simp [toPds, PyData.eqvAll]
  | w :: ws, v :: vs => by
    have h2 := eqv_tS ws vs
    simp only [List.map_cons, toPds, toPd_tS, PyData.eqvAll, PyData.eqv, h2]
    have : (mkS w == mkS v) = decide (w = v) := mk_eq w v
    rw [this]
    simp
theorem sh_tL {ws : List (List Nat)} (h : Ok1 ws) : SeqAt.shaped (toPd (tL ws)) = true := by
  refine shaped_flat ?_ ?_
  · simp only [tL, toPd, PyData.canLay0, canLay_tS h]
  · simp only [tL, toPd, PyData.depth, depth_tS]; omega
theorem sh_tT {ws : List (List Nat)} (h : Ok1 ws) : SeqAt.shaped (toPd (tT ws)) = true := by
  refine shaped_flat ?_ ?_
  · simp only [tT, toPd, PyData.canLay0, canLay_tS h]
  · simp only [tT, toPd, PyData.depth, depth_tS]; omega
theorem eqB_tL {ws vs : List (List Nat)} (h : Ok1 ws) (h' : Ok1 vs) : eqB (tL ws) (tL vs) = some (decide (ws = vs)) := by
  rw [eqB_sh rfl rfl (sh_tL h) (sh_tL h')]
  simp only [tL, toPd, PyData.eqv, eqv_tS]
theorem eqB_tT {ws vs : List (List Nat)} (h : Ok1 ws) (h' : Ok1 vs) : eqB (tT ws) (tT vs) = some (decide (ws = vs)) := by
  rw [eqB_sh rfl rfl (sh_tT h) (sh_tT h')]
  simp only [tT, toPd, PyData.eqv, eqv_tS]
theorem eqD_tL {ws vs : List (List Nat)} (h : Ok1 ws) (h' : Ok1 vs) : eqD (tL ws) (tL vs) = some (.bl (decide (ws = vs))) := by simp [eqD, eqB_tL h h']
theorem neD_tL {ws vs : List (List Nat)} (h : Ok1 ws) (h' : Ok1 vs) : neD (tL ws) (tL vs) = some (.bl (!decide (ws = vs))) := by simp [neD, eqB_tL h h']
theorem cmul_r {i j : Int} (h1 : -18446744073709551616 < j) (h2 : j < 18446744073709551616) : L2.CMul i j := by unfold L2.CMul; right; constructor <;> omega
theorem cmul_l {i j : Int} (h1 : -18446744073709551616 < i) (h2 : i < 18446744073709551616) : L2.CMul i j := by unfold L2.CMul; left; constructor <;> omega
theorem run_seq {a b : Env → R Out} {r r' : Env} (h : a r = .ok (.nx r')) : sSeq a b r = b r' := by
  unfold sSeq
  rw [h, seqO_nx]
theorem run_seq2 {a b g : Env → R Out} {r r' : Env} (h : seqO (a r) b = .ok (.nx r')) : sSeq a (sSeq b g) r = g r' := by
  unfold sSeq
  cases h1 : a r with
  | ok o => cases o with
    | nx q => rw [h1, seqO_nx] at h; rw [seqO_nx, h, seqO_nx]
    | rt d => rw [h1] at h; exact absurd h (by simp [seqO])
  | ex c => rw [h1] at h; exact absurd h (by simp [seqO])
  | no => rw [h1] at h; exact absurd h (by simp [seqO])
theorem run_ret {a : Env → R Out} {r : Env} {d : D} (h : a r = .ok (.rt d)) : bodyR (a r) = .ok d := by
  rw [h]; rfl
theorem run_for_len {t : D → Env → Option Env} {f : Env → R Out} {r : Env} {i : Nat} {xs : List D} {x : R Out} (h : getPk r i = .ok (.lst xs)) (hl : xs.length < 2 ^ 62)
    (hx : forR t f ((List.range' 0 xs.length).map fun i : Nat => .int (i : Int)) r = x) : sFor (iR1 (xB lenD (aCons (xPk i) aNil))) t f r = x := by
  have h2 := rng1_nat xs.length hl
  rw [List.range_eq_range'] at h2
  have h3 : xB lenD (aCons (xPk i) aNil) r = .ok (.int (xs.length : Int)) := by
    unfold xB aCons aNil xPk
    rw [h]
    rfl
  have h4 : iR1 (xB lenD (aCons (xPk i) aNil)) r = .ok ((List.range' 0 xs.length).map fun i : Nat => .int (i : Int)) := by
    unfold iR1
    rw [h3, ok_bind, h2, lift_some]
  unfold sFor
  rw [h4, ok_bind]
  exact hx
end DL

set_option Elab.async false
set_option linter.all false
set_option maxRecDepth 100000
/-! Sem: the defs of the program and of the laws, as terms (printed by mk.py) -/
namespace DL
open PySem
noncomputable section
def b_is_sign (r : Env) : R Out :=
  (sRet (xAnd (xChain leD leD (xC (.int 33)) (xB ordD (aCons (xPk 0) aNil)) (xC (.int 126))) (xOp neD (xB ordD (aCons (xPk 0) aNil)) (xC (.int 37))))) r
def f_is_sign (a : D) : R D := bodyR (b_is_sign (startE 1 [a]))
def b_is_word_c1 (r : Env) : R D :=
  (xCall (fun1 f_is_sign) (aCons (xSh 1) aNil)) r
def b_is_word (r : Env) : R Out :=
  (sSeq (sIf (tOr (tNot (tB (xIsi "str" (xPk 0)))) (tNot (tB (xChain leD leD (xC (.int 1)) (xB lenD (aCons (xPk 0) aNil)) (xC (.int 40))))))
  (sRet (xC (.bl false)))
  sNil)
  (sRet (xB allD (aCons (xL (lComp [1] (tgt1 1) tYes b_is_word_c1 (iStr (xPk 0)))) aNil)))) r
def f_is_word (a : D) : R D := bodyR (b_is_word (startE 2 [a]))
def b_need_words_f1 (r : Env) : R Out :=
  (sIf (tNot (tB (xCall (fun1 f_is_word) (aCons (xSh 1) aNil))))
  (sRaise .noWord)
  sNil) r
def b_need_words (r : Env) : R Out :=
  (sSeq (sIf (tNot (tB (xIsi "list" (xPk 0))))
  (sRaise .noWord)
  sNil)
  (sSeq (sFor (iList (xSh 0)) (tgt1 1)
  b_need_words_f1)
  (sIf (tB (xOp gtD (xB lenD (aCons (xPk 0) aNil)) (xC (.int 120))))
  (sRaise .tooLong)
  sNil))) r
def f_need_words (a : D) : R D := bodyR (b_need_words (startE 2 [a]))
def b_parted_f1 (r : Env) : R Out :=
  (sIf (tB (xOp inD (xPk 3) (xC (.str " \n\t"))))
  (sSeq (sIf (tB (xOp neD (xPk 2) (xC (.str ""))))
  (sApp 1 (xSh 2))
  sNil)
  (sSet 2 (xC (.str ""))))
  (sSet 2 (xOp addD (xPk 2) (xPk 3)))) r
def b_parted (r : Env) : R Out :=
  (sSeq (sIf (tNot (tB (xIsi "str" (xPk 0))))
  (sRaise .noWord)
  sNil)
  (sSeq (sOwn 1 (lLst aNil))
  (sSeq (sSet 2 (xC (.str "")))
  (sSeq (sFor (iStr (xOp addD (xPk 0) (xC (.str " ")))) (tgt1 3)
  b_parted_f1)
  (sSeq (sFz 1 (sExpr (xCall (fun1 f_need_words) (aCons (xSh 1) aNil))))
  (sFz 1 (sRet (xSh 1)))))))) r
def f_parted (a : D) : R D := bodyR (b_parted (startE 4 [a]))
def b_joined (r : Env) : R Out :=
  (sSeq (sExpr (xCall (fun1 f_need_words) (aCons (xSh 0) aNil)))
  (sRet (xJoin (xC (.str " ")) (xPk 0)))) r
def f_joined (a : D) : R D := bodyR (b_joined (startE 1 [a]))
def b_law_cell_at (r : Env) : R Out :=
  (sSeq (sIf (tB (xOp ltD (xPk 1) (xB lenD (aCons (xPk 0) aNil))))
  (sRet (xIx (xPk 0) (xPk 1)))
  sNil)
  (sRet (xC (.int 0)))) r
def f_law_cell_at (a b : D) : R D := bodyR (b_law_cell_at (startE 2 [a, b]))
def b_law_sign_by (r : Env) : R Out :=
  (sSeq (sSet 1 (xC (.str "!\"#$&'()*+,-./0123456789:;<=>?@ABCDEFGHIJKLMNOPQRSTUVWXYZ[\\]^_`")))
  (sSeq (sSet 1 (xOp addD (xPk 1) (xC (.str "abcdefghijklmnopqrstuvwxyz{|}~"))))
  (sRet (xIx (xPk 1) (xOp modD (xPk 0) (xC (.int 93))))))) r
def f_law_sign_by (a : D) : R D := bodyR (b_law_sign_by (startE 2 [a]))
def b_law_word_by_c1 (r : Env) : R D :=
  (xCall (fun1 f_law_sign_by) (aCons (xOp modD (xOp mulD (xOp addD (xOp addD (xPk 1) (xOp mulD (xC (.int 11)) (xPk 3))) (xC (.int 1))) (xOp addD (xOp addD (xPk 1) (xOp mulD (xC (.int 211)) (xPk 3))) (xC (.int 3)))) (xC (.int 1000033))) aNil)) r
def b_law_word_by (r : Env) : R Out :=
  (sSeq (sSet 1 (xOp modD (xOp mulD (xOp addD (xPk 0) (xC (.int 5))) (xC (.int 48271))) (xC (.int 1000003))))
  (sSeq (sSet 2 (xOp addD (xC (.int 1)) (xOp modD (xPk 1) (xC (.int 3)))))
  (sSeq (sIf (tB (xOp eqD (xOp modD (xOp divD (xPk 1) (xC (.int 3))) (xC (.int 3))) (xC (.int 1))))
  (sSet 2 (xOp addD (xC (.int 1)) (xOp modD (xOp divD (xPk 1) (xC (.int 9))) (xC (.int 40)))))
  sNil)
  (sRet (xJoin (xC (.str "")) (xL (lComp [3] (tgt1 3) tYes b_law_word_by_c1 (iR1 (xPk 2))))))))) r
def f_law_word_by (a : D) : R D := bodyR (b_law_word_by (startE 4 [a]))
def b_law_alike_c1 (r : Env) : R D :=
  (xIsi "str" (xPk 2)) r
def b_law_alike (r : Env) : R Out :=
  (sSeq (sIf (tOr (tNot (tB (xIsi "list" (xPk 0)))) (tB (xOp neD (xB lenD (aCons (xPk 0) aNil)) (xB lenD (aCons (xPk 1) aNil)))))
  (sRet (xC (.bl false)))
  sNil)
  (sRet (xAnd (xB allD (aCons (xL (lComp [2] (tgt1 2) tYes b_law_alike_c1 (iList (xSh 0)))) aNil)) (xOp eqD (xPk 0) (xPk 1))))) r
def f_law_alike (a b : D) : R D := bodyR (b_law_alike (startE 3 [a, b]))
def b_law_gap (r : Env) : R Out :=
  (sRet (xIx (xL (lLst (aCons (xC (.str " ")) (aCons (xC (.str "  ")) (aCons (xC (.str "\t")) (aCons (xC (.str "\n")) (aCons (xC (.str " \n\t")) (aCons (xC (.str "\t ")) aNil)))))))) (xOp modD (xPk 0) (xC (.int 6))))) r
def f_law_gap (a : D) : R D := bodyR (b_law_gap (startE 1 [a]))
def b_law_k01_c1 (r : Env) : R D :=
  (xCall (fun1 f_law_word_by) (aCons (xOp addD (xCall (fun2 f_law_cell_at) (aCons (xSh 0) (aCons (xOp addD (xC (.int 2)) (xPk 2)) aNil))) (xOp mulD (xC (.int 97)) (xPk 2))) aNil)) r
def b_law_k01_c2 (r : Env) : R D :=
  (xCall (fun1 f_law_word_by) (aCons (xCall (fun2 f_law_cell_at) (aCons (xSh 0) (aCons (xC (.int 2)) aNil))) aNil)) r
def b_law_k01_f1 (r : Env) : R Out :=
  (sSeq (sIf (tB (xOp gtD (xPk 2) (xC (.int 0))))
  (sSeq (sSet 4 (xOp addD (xPk 4) (xCall (fun1 f_law_gap) (aCons (xCall (fun2 f_law_cell_at) (aCons (xSh 0) (aCons (xOp addD (xC (.int 14)) (xPk 2)) aNil))) aNil))))
  (sSet 5 (xOp addD (xPk 5) (xC (.str " ")))))
  sNil)
  (sSeq (sSet 4 (xOp addD (xPk 4) (xIx (xPk 1) (xPk 2))))
  (sSet 5 (xOp addD (xPk 5) (xIx (xPk 1) (xPk 2)))))) r
def b_law_k01_s1 (r : Env) : R Out :=
  (sComp false 1 (lComp [2] (tgt1 2) tYes b_law_k01_c1 (iR1 (xOp modD (xCall (fun2 f_law_cell_at) (aCons (xSh 0) (aCons (xC (.int 0)) aNil))) (xC (.int 12)))))) r
def b_law_k01_s2 (r : Env) : R Out :=
  (sIf (tB (xOp eqD (xOp modD (xOp divD (xCall (fun2 f_law_cell_at) (aCons (xSh 0) (aCons (xC (.int 0)) aNil))) (xC (.int 12))) (xC (.int 6))) (xC (.int 1))))
  (sComp false 1 (lComp [2] (tgt1 2) tYes b_law_k01_c2 (iR1 (xOp addD (xC (.int 118)) (xOp modD (xCall (fun2 f_law_cell_at) (aCons (xSh 0) (aCons (xC (.int 1)) aNil))) (xC (.int 3)))))))
  sNil) r
def b_law_k01_s3 (r : Env) : R Out :=
  (sSet 3 (xL (lLst (aCons (xC (.str "")) (aCons (xC (.str " ")) (aCons (xC (.str "\n")) (aCons (xC (.str "\t \n")) aNil))))))) r
def b_law_k01_s4 (r : Env) : R Out :=
  (sSet 4 (xIx (xPk 3) (xOp modD (xOp divD (xCall (fun2 f_law_cell_at) (aCons (xSh 0) (aCons (xC (.int 1)) aNil))) (xC (.int 3))) (xC (.int 4))))) r
def b_law_k01_s5 (r : Env) : R Out :=
  (sSet 5 (xC (.str ""))) r
def b_law_k01_s6 (r : Env) : R Out :=
  (sFor (iR1 (xB lenD (aCons (xPk 1) aNil))) (tgt1 2)
  b_law_k01_f1) r
def b_law_k01_s7 (r : Env) : R Out :=
  (sSet 4 (xOp addD (xPk 4) (xIx (xPk 3) (xOp modD (xOp divD (xCall (fun2 f_law_cell_at) (aCons (xSh 0) (aCons (xC (.int 1)) aNil))) (xC (.int 12))) (xC (.int 4)))))) r
def b_law_k01_s8 (r : Env) : R Out :=
  (sSet 6 (xL (lList (xPk 1)))) r
def b_law_k01_s9 (r : Env) : R Out :=
  (sSet 7 (xCall (fun1 f_joined) (aCons (xSh 6) aNil))) r
def b_law_k01_s10 (r : Env) : R Out :=
  (sIf (tOr (tB (xOp neD (xPk 6) (xPk 1))) (tOr (tNot (tB (xIsi "str" (xPk 7)))) (tB (xOp neD (xPk 7) (xPk 5)))))
  (sRet (xC (.bl false)))
  sNil) r
def b_law_k01_s11 (r : Env) : R Out :=
  (sRet (xAnd (xCall (fun2 f_law_alike) (aCons (xCall (fun1 f_parted) (aCons (xSh 4) aNil)) (aCons (xSh 1) aNil))) (xCall (fun2 f_law_alike) (aCons (xCall (fun1 f_parted) (aCons (xSh 7) aNil)) (aCons (xSh 1) aNil))))) r
def b_law_k01 (r : Env) : R Out :=
  (sSeq b_law_k01_s1
  (sSeq b_law_k01_s2
  (sSeq b_law_k01_s3
  (sSeq b_law_k01_s4
  (sSeq b_law_k01_s5
  (sSeq b_law_k01_s6
  (sSeq b_law_k01_s7
  (sSeq b_law_k01_s8
  (sSeq b_law_k01_s9
  (sSeq b_law_k01_s10
  b_law_k01_s11)))))))))) r
def f_law_k01 (a : D) : R D := bodyR (b_law_k01 (startE 8 [a]))
def b_is_row_c1 (r : Env) : R D :=
  (xCall (fun1 f_is_word) (aCons (xSh 1) aNil)) r
def b_is_row (r : Env) : R Out :=
  (sSeq (sIf (tOr (tNot (tB (xIsi "tuple" (xPk 0)))) (tB (xOp neD (xB lenD (aCons (xPk 0) aNil)) (xC (.int 3)))))
  (sRet (xC (.bl false)))
  sNil)
  (sSeq (sIf (tOr (tNot (tB (xIsi "str" (xIx (xPk 0) (xC (.int 0)))))) (tB (xOp ninD (xIx (xPk 0) (xC (.int 0))) (xC (.tup [(.str "keep"), (.str "cut"), (.str "put"), (.str "take"), (.str "lay")])))))
  (sRet (xC (.bl false)))
  sNil)
  (sSeq (sIf (tOr (tNot (tB (xIsi "int" (xIx (xPk 0) (xC (.int 1)))))) (tB (xIsi "bool" (xIx (xPk 0) (xC (.int 1))))))
  (sRet (xC (.bl false)))
  sNil)
  (sSeq (sIf (tOr (tNot (tB (xIsi "tuple" (xIx (xPk 0) (xC (.int 2)))))) (tB (xOp eqD (xB lenD (aCons (xIx (xPk 0) (xC (.int 2))) aNil)) (xC (.int 0)))))
  (sRet (xC (.bl false)))
  sNil)
  (sSeq (sIf (tNot (tB (xB allD (aCons (xL (lComp [1] (tgt1 1) tYes b_is_row_c1 (iTup (xIx (xPk 0) (xC (.int 2)))))) aNil))))
  (sRet (xC (.bl false)))
  sNil)
  (sSeq (sIf (tOr (tB (xOp eqD (xIx (xPk 0) (xC (.int 0))) (xC (.str "take")))) (tB (xOp eqD (xIx (xPk 0) (xC (.int 0))) (xC (.str "lay")))))
  (sRet (xChain leD leD (xC (.int 1)) (xIx (xPk 0) (xC (.int 1))) (xC (.int 999999999))))
  sNil)
  (sRet (xOp eqD (xIx (xPk 0) (xC (.int 1))) (xC (.int 0)))))))))) r
def f_is_row (a : D) : R D := bodyR (b_is_row (startE 2 [a]))
def b_need_rows_f1 (r : Env) : R Out :=
  (sIf (tNot (tB (xCall (fun1 f_is_row) (aCons (xSh 1) aNil))))
  (sRaise .noRow)
  sNil) r
def b_need_rows (r : Env) : R Out :=
  (sSeq (sIf (tNot (tB (xIsi "list" (xPk 0))))
  (sRaise .noRow)
  sNil)
  (sFor (iList (xSh 0)) (tgt1 1)
  b_need_rows_f1)) r
def f_need_rows (a : D) : R D := bodyR (b_need_rows (startE 2 [a]))
def b_table_c1 (r : Env) : R D :=
  (xOp subD (xB lenD (aCons (xPk 1) aNil)) (xPk 3)) r
def b_table_f1 (r : Env) : R Out :=
  (sSeq (sSet 7 (xOp subD (xOp subD (xB lenD (aCons (xPk 1) aNil)) (xC (.int 1))) (xPk 3)))
  (sIf (tB (xOp eqD (xPk 4) (xIx (xPk 1) (xPk 7))))
  (sApp 6 (xIx (xPk 5) (xOp addD (xPk 7) (xC (.int 1)))))
  (sApp 6 (xOp addD (xC (.int 1)) (xB min2D (aCons (xIx (xPk 5) (xPk 7)) (aCons (xIx (xPk 6) (xNeg (xC (.int 1)))) aNil))))))) r
def b_table_f2 (r : Env) : R Out :=
  (sSeq (sSet 5 (xIx (xPk 2) (xNeg (xC (.int 1)))))
  (sSeq (sOwn 6 (lLst (aCons (xOp addD (xIx (xPk 5) (xB lenD (aCons (xPk 1) aNil))) (xC (.int 1))) aNil)))
  (sSeq (sFor (iR1 (xB lenD (aCons (xPk 1) aNil))) (tgt1 3)
  b_table_f1)
  (sApp 2 (xL (lRev (xPk 6))))))) r
def b_table (r : Env) : R Out :=
  (sSeq (sExpr (xCall (fun1 f_need_words) (aCons (xSh 0) aNil)))
  (sSeq (sExpr (xCall (fun1 f_need_words) (aCons (xSh 1) aNil)))
  (sSeq (sOwn 2 (lLst (aCons (xL (lComp [3] (tgt1 3) tYes b_table_c1 (iR1 (xOp addD (xB lenD (aCons (xPk 1) aNil)) (xC (.int 1)))))) aNil)))
  (sSeq (sFor (iRev (xSh 0)) (tgt1 4)
  b_table_f2)
  (sRet (xL (lRev (xPk 2)))))))) r
def f_table (a b : D) : R D := bodyR (b_table (startE 8 [a, b]))
def b_apart (r : Env) : R Out :=
  (sRet (xIx (xIx (xCall (fun2 f_table) (aCons (xSh 0) (aCons (xSh 1) aNil))) (xC (.int 0))) (xC (.int 0)))) r
def f_apart (a b : D) : R D := bodyR (b_apart (startE 2 [a, b]))
def b_row_of (r : Env) : R Out :=
  (sSeq (sIf (tB (xOp eqD (xB lenD (aCons (xPk 1) aNil)) (xC (.int 0))))
  (sRet (xL (lLst aNil)))
  sNil)
  (sRet (xL (lLst (aCons (xTup (aCons (xSh 0) (aCons (xC (.int 0)) (aCons (xB tupleD (aCons (xPk 1) aNil)) aNil)))) aNil))))) r
def f_row_of (a b : D) : R D := bodyR (b_row_of (startE 2 [a, b]))
def b_alike_w1 (r : Env) : R Out :=
  (sSet 4 (xOp addD (xPk 4) (xC (.int 1)))) r
def b_alike_v1 (r : Env) : R Bool :=
  (tAnd (tB (xOp ltD (xOp addD (xPk 2) (xPk 4)) (xB lenD (aCons (xPk 0) aNil)))) (tAnd (tB (xOp ltD (xOp addD (xPk 3) (xPk 4)) (xB lenD (aCons (xPk 1) aNil)))) (tB (xOp eqD (xIx (xPk 0) (xOp addD (xPk 2) (xPk 4))) (xIx (xPk 1) (xOp addD (xPk 3) (xPk 4))))))) r
def b_alike (r : Env) : R Out :=
  (sSeq (sSet 4 (xC (.int 0)))
  (sSeq (whileR b_alike_v1
  b_alike_w1 100000)
  (sRet (xSh 4)))) r
def f_alike (a b c d : D) : R D := bodyR (b_alike (startE 5 [a, b, c, d]))
def b_told_w1 (r : Env) : R Out :=
  (sIf (tOr (tB (xOp eqD (xPk 5) (xB lenD (aCons (xPk 1) aNil)))) (tAnd (tB (xOp ltD (xPk 4) (xB lenD (aCons (xPk 0) aNil)))) (tB (xOp leD (xIx (xIx (xPk 2) (xOp addD (xPk 4) (xC (.int 1)))) (xPk 5)) (xIx (xIx (xPk 2) (xPk 4)) (xOp addD (xPk 5) (xC (.int 1))))))))
  (sSet 4 (xOp addD (xPk 4) (xC (.int 1))))
  (sSet 5 (xOp addD (xPk 5) (xC (.int 1))))) r
def b_told_v1 (r : Env) : R Bool :=
  (tAnd (tOr (tB (xOp ltD (xPk 4) (xB lenD (aCons (xPk 0) aNil)))) (tB (xOp ltD (xPk 5) (xB lenD (aCons (xPk 1) aNil))))) (tB (xOp eqD (xCall (fun4 f_alike) (aCons (xSh 0) (aCons (xSh 1) (aCons (xSh 4) (aCons (xSh 5) aNil))))) (xC (.int 0))))) r
def b_told_w2 (r : Env) : R Out :=
  (sSeq (sSet 6 (xCall (fun4 f_alike) (aCons (xSh 0) (aCons (xSh 1) (aCons (xSh 4) (aCons (xSh 5) aNil))))))
  (sSeq (sSet 3 (xOp addD (xPk 3) (xCall (fun2 f_row_of) (aCons (xC (.str "keep")) (aCons (xSl (xPk 0) (oSome (xPk 4)) (oSome (xOp addD (xPk 4) (xPk 6)))) aNil)))))
  (sSeq (sSet 4 (xOp addD (xPk 4) (xPk 6)))
  (sSeq (sSet 5 (xOp addD (xPk 5) (xPk 6)))
  (sSeq (sSet 7 (xSh 4))
  (sSeq (sSet 8 (xSh 5))
  (sSeq (whileR b_told_v1
  b_told_w1 100000)
  (sSet 3 (xOp addD (xOp addD (xPk 3) (xCall (fun2 f_row_of) (aCons (xC (.str "cut")) (aCons (xSl (xPk 0) (oSome (xPk 7)) (oSome (xPk 4))) aNil)))) (xCall (fun2 f_row_of) (aCons (xC (.str "put")) (aCons (xSl (xPk 1) (oSome (xPk 8)) (oSome (xPk 5))) aNil)))))))))))) r
def b_told_v2 (r : Env) : R Bool :=
  (tOr (tB (xOp ltD (xPk 4) (xB lenD (aCons (xPk 0) aNil)))) (tB (xOp ltD (xPk 5) (xB lenD (aCons (xPk 1) aNil))))) r
def b_told (r : Env) : R Out :=
  (sSeq (sSet 2 (xCall (fun2 f_table) (aCons (xSh 0) (aCons (xSh 1) aNil))))
  (sSeq (sSet 3 (xL (lLst aNil)))
  (sSeq (sSet 4 (xC (.int 0)))
  (sSeq (sSet 5 (xC (.int 0)))
  (sSeq (whileR b_told_v2
  b_told_w2 100000)
  (sRet (xSh 3))))))) r
def f_told (a b : D) : R D := bodyR (b_told (startE 9 [a, b]))
def b_longer_f1 (r : Env) : R Out :=
  (sSeq (sSet 6 (xCall (fun4 f_alike) (aCons (xIx (xIx (xPk 1) (xPk 2)) (xC (.int 2))) (aCons (xIx (xIx (xPk 1) (xPk 4)) (xC (.int 2))) (aCons (xSh 3) (aCons (xSh 5) aNil))))))
  (sIf (tB (xOp gtD (xPk 6) (xIx (xPk 0) (xC (.int 0)))))
  (sSet 0 (xTup (aCons (xSh 6) (aCons (xSh 2) (aCons (xSh 3) (aCons (xSh 4) (aCons (xSh 5) aNil)))))))
  sNil)) r
def b_longer (r : Env) : R Out :=
  (sSeq (sFor (iR1 (xB lenD (aCons (xIx (xIx (xPk 1) (xPk 4)) (xC (.int 2))) aNil))) (tgt1 5)
  b_longer_f1)
  (sRet (xSh 0))) r
def f_longer (a b c d e : D) : R D := bodyR (b_longer (startE 7 [a, b, c, d, e]))
def b_longest_f1 (r : Env) : R Out :=
  (sIf (tB (xOp eqD (xIx (xIx (xPk 0) (xPk 4)) (xC (.int 0))) (xC (.str "put"))))
  (sSet 1 (xCall (fun5 f_longer) (aCons (xSh 1) (aCons (xSh 0) (aCons (xSh 2) (aCons (xSh 3) (aCons (xSh 4) aNil)))))))
  sNil) r
def b_longest_f2 (r : Env) : R Out :=
  (sFor (iR1 (xB lenD (aCons (xPk 0) aNil))) (tgt1 4)
  b_longest_f1) r
def b_longest_f3 (r : Env) : R Out :=
  (sIf (tB (xOp eqD (xIx (xIx (xPk 0) (xPk 2)) (xC (.int 0))) (xC (.str "cut"))))
  (sFor (iR1 (xB lenD (aCons (xIx (xIx (xPk 0) (xPk 2)) (xC (.int 2))) aNil))) (tgt1 3)
  b_longest_f2)
  sNil) r
def b_longest (r : Env) : R Out :=
  (sSeq (sSet 1 (xTup (aCons (xC (.int 0)) (aCons (xC (.int 0)) (aCons (xC (.int 0)) (aCons (xC (.int 0)) (aCons (xC (.int 0)) aNil)))))))
  (sSeq (sFor (iR1 (xB lenD (aCons (xPk 0) aNil))) (tgt1 2)
  b_longest_f3)
  (sRet (xSh 1)))) r
def f_longest (a : D) : R D := bodyR (b_longest (startE 5 [a]))
def b_split (r : Env) : R Out :=
  (sSeq (sSet 5 (xIx (xPk 0) (xC (.int 2))))
  (sSeq (sSet 6 (xL (lLst (aCons (xTup (aCons (xSh 1) (aCons (xSh 2) (aCons (xSl (xPk 5) (oSome (xPk 3)) (oSome (xOp addD (xPk 3) (xPk 4)))) aNil)))) aNil))))
  (sRet (xOp addD (xOp addD (xCall (fun2 f_row_of) (aCons (xIx (xPk 0) (xC (.int 0))) (aCons (xSl (xPk 5) oNone (oSome (xPk 3))) aNil))) (xPk 6)) (xCall (fun2 f_row_of) (aCons (xIx (xPk 0) (xC (.int 0))) (aCons (xSl (xPk 5) (oSome (xOp addD (xPk 3) (xPk 4))) oNone) aNil))))))) r
def f_split (a b c d e : D) : R D := bodyR (b_split (startE 7 [a, b, c, d, e]))
def b_with_blocks_f1 (r : Env) : R Out :=
  (sIf (tB (xOp neD (xIx (xPk 1) (xC (.int 1))) (xC (.int 0))))
  (sRaise .noRow)
  sNil) r
def b_with_blocks_f2 (r : Env) : R Out :=
  (sIf (tB (xOp eqD (xPk 6) (xIx (xPk 4) (xC (.int 1)))))
  (sOwn 5 (lCat (xPk 5) (xCall (fun5 f_split) (aCons (xIx (xPk 2) (xPk 6)) (aCons (xC (.str "take")) (aCons (xSh 3) (aCons (xIx (xPk 4) (xC (.int 2))) (aCons (xIx (xPk 4) (xC (.int 0))) aNil))))))))
  (sIf (tB (xOp eqD (xPk 6) (xIx (xPk 4) (xC (.int 3)))))
  (sOwn 5 (lCat (xPk 5) (xCall (fun5 f_split) (aCons (xIx (xPk 2) (xPk 6)) (aCons (xC (.str "lay")) (aCons (xSh 3) (aCons (xIx (xPk 4) (xC (.int 4))) (aCons (xIx (xPk 4) (xC (.int 0))) aNil))))))))
  (sApp 5 (xIx (xPk 2) (xPk 6))))) r
def b_with_blocks_w1 (r : Env) : R Out :=
  (sSeq (sSet 3 (xOp addD (xPk 3) (xC (.int 1))))
  (sSeq (sOwn 5 (lLst aNil))
  (sSeq (sFor (iR1 (xB lenD (aCons (xPk 2) aNil))) (tgt1 6)
  b_with_blocks_f2)
  (sSeq (sFz 5 (sSet 2 (xSh 5)))
  (sSet 4 (xCall (fun1 f_longest) (aCons (xSh 2) aNil))))))) r
def b_with_blocks_v1 (r : Env) : R Bool :=
  (tB (xOp gtD (xIx (xPk 4) (xC (.int 0))) (xC (.int 1)))) r
def b_with_blocks_s1 (r : Env) : R Out :=
  (sExpr (xCall (fun1 f_need_rows) (aCons (xSh 0) aNil))) r
def b_with_blocks_s2 (r : Env) : R Out :=
  (sFor (iList (xSh 0)) (tgt1 1)
  b_with_blocks_f1) r
def b_with_blocks_s3 (r : Env) : R Out :=
  (sSet 2 (xL (lList (xPk 0)))) r
def b_with_blocks_s4 (r : Env) : R Out :=
  (sSet 3 (xC (.int 0))) r
def b_with_blocks_s5 (r : Env) : R Out :=
  (sSet 4 (xCall (fun1 f_longest) (aCons (xSh 2) aNil))) r
def b_with_blocks_s6 (r : Env) : R Out :=
  (whileR b_with_blocks_v1
  b_with_blocks_w1 100000) r
def b_with_blocks_s7 (r : Env) : R Out :=
  (sRet (xSh 2)) r
def b_with_blocks (r : Env) : R Out :=
  (sSeq b_with_blocks_s1
  (sSeq b_with_blocks_s2
  (sSeq b_with_blocks_s3
  (sSeq b_with_blocks_s4
  (sSeq b_with_blocks_s5
  (sSeq b_with_blocks_s6
  b_with_blocks_s7)))))) r
def f_with_blocks (a : D) : R D := bodyR (b_with_blocks (startE 7 [a]))
def b_changed (r : Env) : R Out :=
  (sRet (xCall (fun1 f_with_blocks) (aCons (xCall (fun2 f_told) (aCons (xSh 0) (aCons (xSh 1) aNil))) aNil))) r
def f_changed (a b : D) : R D := bodyR (b_changed (startE 2 [a, b]))
def b_law_wrong (r : Env) : R Out :=
  (sSeq (sSet 1 (xL (lLst (aCons (xC (.str "")) (aCons (xOp smulD (xC (.str "a")) (xC (.int 41))) (aCons (xC (.str "a b")) (aCons (xC (.int 7)) (aCons (xC .non) (aCons (xC (.bl true)) (aCons (xL (lLst (aCons (xC (.str "a")) aNil))) (aCons (xTup (aCons (xC (.str "a")) (aCons (xC (.str "b")) aNil))) (aCons (xC (.str "a\tb")) (aCons (xC (.str "a\n")) (aCons (xC (.str "\t")) (aCons (xC (.str " a")) aNil)))))))))))))))
  (sRet (xIx (xPk 1) (xOp modD (xPk 0) (xC (.int 12)))))) r
def f_law_wrong (a : D) : R D := bodyR (b_law_wrong (startE 2 [a]))
def b_law_asked (r : Env) : R Out :=
  (sSeq (sIf (tB (xOp eqD (xPk 0) (xC (.int 0))))
  (sRet (xCall (fun1 f_joined) (aCons (xSh 1) aNil)))
  sNil)
  (sSeq (sIf (tB (xOp eqD (xPk 0) (xC (.int 1))))
  (sRet (xCall (fun1 f_parted) (aCons (xSh 1) aNil)))
  sNil)
  (sSeq (sIf (tB (xOp eqD (xPk 0) (xC (.int 2))))
  (sRet (xCall (fun2 f_table) (aCons (xSh 1) (aCons (xSh 2) aNil))))
  sNil)
  (sSeq (sIf (tB (xOp eqD (xPk 0) (xC (.int 3))))
  (sRet (xCall (fun2 f_apart) (aCons (xSh 1) (aCons (xSh 2) aNil))))
  sNil)
  (sSeq (sIf (tB (xOp eqD (xPk 0) (xC (.int 4))))
  (sRet (xCall (fun2 f_told) (aCons (xSh 1) (aCons (xSh 2) aNil))))
  sNil)
  (sRet (xCall (fun2 f_changed) (aCons (xSh 1) (aCons (xSh 2) aNil))))))))) r
def f_law_asked (a b c : D) : R D := bodyR (b_law_asked (startE 3 [a, b, c]))
def b_law_tried (r : Env) : R Out :=
  (sSeq (sTry (sExpr (xCall (fun3 f_law_asked) (aCons (xSh 0) (aCons (xSh 1) (aCons (xSh 2) aNil))))) [(mC [.noWord, .tooLong, .noRow] .noWord, (sRet (xC (.str "no word")))), (mC [.noWord, .tooLong, .noRow] .tooLong, (sRet (xC (.str "too long"))))])
  (sRet (xC (.str "")))) r
def f_law_tried (a b c : D) : R D := bodyR (b_law_tried (startE 3 [a, b, c]))
def b_law_any (r : Env) : R Out :=
  (sSeq (sTryAs (sExpr (xCall (fun3 f_law_asked) (aCons (xSh 0) (aCons (xSh 1) (aCons (xSh 2) aNil))))) (mAll [.noWord, .tooLong, .noRow]) 3 (fun _ _ => .ok (.rt (.bl true))))
  (sRet (xC (.bl false)))) r
def f_law_any (a b c : D) : R D := bodyR (b_law_any (startE 4 [a, b, c]))
def b_law_pair_f1 (r : Env) : R Out :=
  (sSeq (sIf (tB (xOp eqD (xOp modD (xOp divD (xCall (fun2 f_law_cell_at) (aCons (xSh 0) (aCons (xC (.int 10)) aNil))) (xC (.int 4))) (xC (.int 2))) (xC (.int 1))))
  (sSeq (sSet 7 (xCall (fun3 f_law_tried) (aCons (xSh 6) (aCons (xSh 1) (aCons (xSh 4) aNil)))))
  (sSet 8 (xIx (xL (lLst (aCons (xSh 2) (aCons (xSh 5) aNil)))) (xB intD (aCons (xOp eqD (xPk 2) (xC (.str ""))) aNil)))))
  (sSeq (sSet 7 (xCall (fun3 f_law_tried) (aCons (xSh 6) (aCons (xSh 4) (aCons (xSh 1) aNil)))))
  (sSet 8 (xIx (xL (lLst (aCons (xSh 5) (aCons (xSh 2) aNil)))) (xB intD (aCons (xOp eqD (xPk 5) (xC (.str ""))) aNil))))))
  (sIf (tB (xOp neD (xPk 7) (xPk 8)))
  (sRet (xC (.bl false)))
  sNil)) r
def b_law_pair_s1 (r : Env) : R Out :=
  (sSet 3 (xOp modD (xCall (fun2 f_law_cell_at) (aCons (xSh 0) (aCons (xC (.int 10)) aNil))) (xC (.int 4)))) r
def b_law_pair_s2 (r : Env) : R Out :=
  (sSet 4 (xIx (xL (lLst (aCons (xL (lLst (aCons (xC (.str "a")) (aCons (xC (.str "b")) aNil)))) (aCons (xOp mulD (xL (lLst (aCons (xC (.str "a")) aNil))) (xC (.int 121))) (aCons (xL (lLst (aCons (xC (.str "a")) (aCons (xC (.int 5)) aNil)))) (aCons (xL (lLst aNil)) aNil)))))) (xPk 3))) r
def b_law_pair_s3 (r : Env) : R Out :=
  (sSet 5 (xIx (xL (lLst (aCons (xC (.str "")) (aCons (xC (.str "too long")) (aCons (xC (.str "no word")) (aCons (xC (.str "")) aNil)))))) (xPk 3))) r
def b_law_pair_s4 (r : Env) : R Out :=
  (sFor (iR2 (xC (.int 2)) (xC (.int 6))) (tgt1 6)
  b_law_pair_f1) r
def b_law_pair_s5 (r : Env) : R Out :=
  (sRet (xOp eqD (xCall (fun3 f_law_any) (aCons (xC (.int 2)) (aCons (xSh 1) (aCons (xSh 4) aNil)))) (xOr (xOp neD (xPk 2) (xC (.str ""))) (xOp neD (xPk 5) (xC (.str "")))))) r
def b_law_pair (r : Env) : R Out :=
  (sSeq b_law_pair_s1
  (sSeq b_law_pair_s2
  (sSeq b_law_pair_s3
  (sSeq b_law_pair_s4
  b_law_pair_s5)))) r
def f_law_pair (a b c : D) : R D := bodyR (b_law_pair (startE 9 [a, b, c]))
def b_law_k02_c1 (r : Env) : R D :=
  (xCall (fun1 f_law_word_by) (aCons (xOp addD (xCall (fun2 f_law_cell_at) (aCons (xSh 0) (aCons (xOp addD (xC (.int 4)) (xOp modD (xPk 3) (xC (.int 5)))) aNil))) (xOp mulD (xC (.int 97)) (xPk 3))) aNil)) r
def b_law_k02_s1 (r : Env) : R Out :=
  (sSet 1 (xOp modD (xCall (fun2 f_law_cell_at) (aCons (xSh 0) (aCons (xC (.int 0)) aNil))) (xC (.int 7)))) r
def b_law_k02_s2 (r : Env) : R Out :=
  (sIf (tB (xOp eqD (xOp modD (xOp divD (xCall (fun2 f_law_cell_at) (aCons (xSh 0) (aCons (xC (.int 0)) aNil))) (xC (.int 7))) (xC (.int 3))) (xC (.int 1))))
  (sSet 1 (xOp addD (xC (.int 119)) (xOp modD (xOp divD (xCall (fun2 f_law_cell_at) (aCons (xSh 0) (aCons (xC (.int 0)) aNil))) (xC (.int 21))) (xC (.int 4)))))
  sNil) r
def b_law_k02_s3 (r : Env) : R Out :=
  (sComp false 2 (lComp [3] (tgt1 3) tYes b_law_k02_c1 (iR1 (xPk 1)))) r
def b_law_k02_s4 (r : Env) : R Out :=
  (sSet 4 (xIx (xL (lLst (aCons (xC (.str "")) (aCons (xC (.str "too long")) aNil)))) (xB intD (aCons (xOp gtD (xPk 1) (xC (.int 120))) aNil)))) r
def b_law_k02_s5 (r : Env) : R Out :=
  (sSet 5 (xOp modD (xCall (fun2 f_law_cell_at) (aCons (xSh 0) (aCons (xC (.int 1)) aNil))) (xOp addD (xPk 1) (xC (.int 1))))) r
def b_law_k02_s6 (r : Env) : R Out :=
  (sOwn 6 (lList (xPk 2))) r
def b_law_k02_s7 (r : Env) : R Out :=
  (sSet 7 (xOp modD (xCall (fun2 f_law_cell_at) (aCons (xSh 0) (aCons (xC (.int 2)) aNil))) (xC (.int 4)))) r
def b_law_k02_s8 (r : Env) : R Out :=
  (sIf (tOr (tB (xOp eqD (xPk 7) (xC (.int 1)))) (tB (xOp eqD (xPk 7) (xC (.int 2)))))
  (sSeq (sIns 6 (xSh 5) (xCall (fun1 f_law_wrong) (aCons (xCall (fun2 f_law_cell_at) (aCons (xSh 0) (aCons (xC (.int 3)) aNil))) aNil)))
  (sSet 4 (xC (.str "no word"))))
  sNil) r
def b_law_k02_s9 (r : Env) : R Out :=
  (sIf (tB (xOp eqD (xPk 7) (xC (.int 3))))
  (sSeq (sSet 6 (xIx (xL (lLst (aCons (xB tupleD (aCons (xPk 6) aNil)) (aCons (xC (.str "a b")) (aCons (xC .non) (aCons (xC (.int 7)) (aCons (xC (.dic (L2.mergeK [] [(.inr "a", .int 1)]))) (aCons (xC (.dic [])) aNil)))))))) (xOp modD (xCall (fun2 f_law_cell_at) (aCons (xSh 0) (aCons (xC (.int 3)) aNil))) (xC (.int 6)))))
  (sSet 4 (xC (.str "no word"))))
  sNil) r
def b_law_k02_s10 (r : Env) : R Out :=
  (sFz 6 (sIf (tOr (tB (xOp neD (xCall (fun3 f_law_tried) (aCons (xC (.int 0)) (aCons (xSh 6) (aCons (xL (lLst aNil)) aNil)))) (xPk 4))) (tOr (tB (xOp neD (xCall (fun3 f_law_any) (aCons (xC (.int 0)) (aCons (xSh 6) (aCons (xL (lLst aNil)) aNil)))) (xOp neD (xPk 4) (xC (.str ""))))) (tOr (tB (xOp neD (xC (.int 40)) (xC (.int 40)))) (tB (xOp neD (xC (.int 120)) (xC (.int 120)))))))
  (sRet (xC (.bl false)))
  sNil)) r
def b_law_k02_s11 (r : Env) : R Out :=
  (sFz 6 (sIf (tNot (tB (xCall (fun3 f_law_pair) (aCons (xSh 0) (aCons (xSh 6) (aCons (xSh 4) aNil))))))
  (sRet (xC (.bl false)))
  sNil)) r
def b_law_k02_s12 (r : Env) : R Out :=
  (sOwn 8 (lList (xPk 2))) r
def b_law_k02_s13 (r : Env) : R Out :=
  (sSet 4 (xIx (xL (lLst (aCons (xC (.str "")) (aCons (xC (.str "too long")) aNil)))) (xB intD (aCons (xOp gtD (xPk 1) (xC (.int 120))) aNil)))) r
def b_law_k02_s14 (r : Env) : R Out :=
  (sIf (tB (xOp eqD (xPk 7) (xC (.int 2))))
  (sSeq (sIns 8 (xSh 5) (xOp smulD (xC (.str "b")) (xC (.int 41))))
  (sSet 4 (xC (.str "no word"))))
  sNil) r
def b_law_k02_s15 (r : Env) : R Out :=
  (sRet (xAnd (xOp eqD (xCall (fun3 f_law_tried) (aCons (xC (.int 1)) (aCons (xJoin (xC (.str " ")) (xPk 8)) (aCons (xC (.str "")) aNil)))) (xPk 4)) (xOp eqD (xCall (fun3 f_law_any) (aCons (xC (.int 1)) (aCons (xJoin (xC (.str " ")) (xPk 8)) (aCons (xC (.str "")) aNil)))) (xOp neD (xPk 4) (xC (.str "")))))) r
def b_law_k02 (r : Env) : R Out :=
  (sSeq b_law_k02_s1
  (sSeq b_law_k02_s2
  (sSeq b_law_k02_s3
  (sSeq b_law_k02_s4
  (sSeq b_law_k02_s5
  (sSeq b_law_k02_s6
  (sSeq b_law_k02_s7
  (sSeq b_law_k02_s8
  (sSeq b_law_k02_s9
  (sSeq b_law_k02_s10
  (sSeq b_law_k02_s11
  (sSeq b_law_k02_s12
  (sSeq b_law_k02_s13
  (sSeq b_law_k02_s14
  b_law_k02_s15)))))))))))))) r
def f_law_k02 (a : D) : R D := bodyR (b_law_k02 (startE 9 [a]))
def b_other_kind (r : Env) : R Out :=
  (sSeq (sIf (tB (xOp eqD (xPk 0) (xC (.str "cut"))))
  (sRet (xC (.str "put")))
  sNil)
  (sSeq (sIf (tB (xOp eqD (xPk 0) (xC (.str "put"))))
  (sRet (xC (.str "cut")))
  sNil)
  (sSeq (sIf (tB (xOp eqD (xPk 0) (xC (.str "take"))))
  (sRet (xC (.str "lay")))
  sNil)
  (sSeq (sIf (tB (xOp eqD (xPk 0) (xC (.str "lay"))))
  (sRet (xC (.str "take")))
  sNil)
  (sRet (xSh 0)))))) r
def f_other_kind (a : D) : R D := bodyR (b_other_kind (startE 1 [a]))
def b_turned_c1 (r : Env) : R D :=
  (xTup (aCons (xCall (fun1 f_other_kind) (aCons (xSh 1) aNil)) (aCons (xSh 2) (aCons (xSh 3) aNil)))) r
def b_turned (r : Env) : R Out :=
  (sSeq (sExpr (xCall (fun1 f_need_rows) (aCons (xSh 0) aNil)))
  (sRet (xL (lComp [1, 2, 3] (tgtT [1, 2, 3]) tYes b_turned_c1 (iList (xSh 0)))))) r
def f_turned (a : D) : R D := bodyR (b_turned (startE 4 [a]))
def b_cost_f1 (r : Env) : R Out :=
  (sSeq (sIf (tOr (tB (xOp eqD (xPk 2) (xC (.str "cut")))) (tB (xOp eqD (xPk 2) (xC (.str "put")))))
  (sSet 1 (xOp addD (xPk 1) (xB lenD (aCons (xPk 4) aNil))))
  sNil)
  (sIf (tB (xOp eqD (xPk 2) (xC (.str "take"))))
  (sSet 1 (xOp addD (xPk 1) (xC (.int 3))))
  sNil)) r
def b_cost (r : Env) : R Out :=
  (sSeq (sExpr (xCall (fun1 f_need_rows) (aCons (xSh 0) aNil)))
  (sSeq (sSet 1 (xC (.int 0)))
  (sSeq (sFor (iList (xSh 0)) (tgtT [2, 3, 4])
  b_cost_f1)
  (sRet (xSh 1))))) r
def f_cost (a : D) : R D := bodyR (b_cost (startE 5 [a]))
def b_law_near (r : Env) : R Out :=
  (sSeq (sSet 2 (xOp modD (xPk 1) (xB lenD (aCons (xPk 0) aNil))))
  (sSeq (sIf (tB (xOp eqD (xOp modD (xOp divD (xPk 1) (xC (.int 41))) (xC (.int 3))) (xC (.int 0))))
  (sRet (xJoin (xC (.str "")) (xL (lRev (xPk 0)))))
  sNil)
  (sSeq (sIf (tAnd (tB (xOp eqD (xOp modD (xOp divD (xPk 1) (xC (.int 41))) (xC (.int 3))) (xC (.int 1)))) (tB (xOp gtD (xB lenD (aCons (xPk 0) aNil)) (xC (.int 1)))))
  (sRet (xOp addD (xSl (xPk 0) oNone (oSome (xPk 2))) (xSl (xPk 0) (oSome (xOp addD (xPk 2) (xC (.int 1)))) oNone)))
  sNil)
  (sRet (xOp addD (xOp addD (xSl (xPk 0) oNone (oSome (xPk 2))) (xCall (fun1 f_law_sign_by) (aCons (xOp divD (xPk 1) (xC (.int 123))) aNil))) (xSl (xPk 0) (oSome (xOp addD (xPk 2) (xC (.int 1)))) oNone)))))) r
def f_law_near (a b : D) : R D := bodyR (b_law_near (startE 3 [a, b]))
def b_law_menu_c1 (r : Env) : R D :=
  (xCall (fun1 f_law_word_by) (aCons (xOp addD (xCall (fun2 f_law_cell_at) (aCons (xSh 0) (aCons (xSh 2) aNil))) (xOp mulD (xC (.int 97)) (xPk 2))) aNil)) r
def b_law_menu_c2 (r : Env) : R D :=
  (xCall (fun1 f_law_word_by) (aCons (xOp addD (xOp addD (xCall (fun2 f_law_cell_at) (aCons (xSh 0) (aCons (xOp modD (xPk 2) (xC (.int 3))) aNil))) (xOp mulD (xC (.int 97)) (xPk 2))) (xC (.int 13))) aNil)) r
def b_law_menu (r : Env) : R Out :=
  (sSeq (sComp true 1 (lComp [2] (tgt1 2) tYes b_law_menu_c1 (iR1 (xC (.int 4)))))
  (sSeq (sIf (tB (xOp eqD (xOp modD (xCall (fun2 f_law_cell_at) (aCons (xSh 0) (aCons (xC (.int 0)) aNil))) (xC (.int 2))) (xC (.int 1))))
  (sSeq (sPut 1 (xCall (fun2 f_law_near) (aCons (xIx (xPk 1) (xC (.int 0))) (aCons (xCall (fun2 f_law_cell_at) (aCons (xSh 0) (aCons (xC (.int 1)) aNil))) aNil))) (xC (.int 1)))
  (sPut 1 (xCall (fun2 f_law_near) (aCons (xIx (xPk 1) (xC (.int 2))) (aCons (xCall (fun2 f_law_cell_at) (aCons (xSh 0) (aCons (xC (.int 2)) aNil))) aNil))) (xC (.int 3))))
  sNil)
  (sSeq (sIf (tB (xOp eqD (xOp modD (xCall (fun2 f_law_cell_at) (aCons (xSh 0) (aCons (xC (.int 3)) aNil))) (xC (.int 4))) (xC (.int 1))))
  (sRet (xOp addD (xPk 1) (xL (lComp [2] (tgt1 2) tYes b_law_menu_c2 (iR1 (xC (.int 8)))))))
  sNil)
  (sRet (xOp mulD (xPk 1) (xC (.int 3))))))) r
def f_law_menu (a : D) : R D := bodyR (b_law_menu (startE 3 [a]))
def b_law_whole (r : Env) : R Out :=
  (sRet (xAnd (xIsi "int" (xPk 0)) (xNot (xIsi "bool" (xPk 0))))) r
def f_law_whole (a : D) : R D := bodyR (b_law_whole (startE 1 [a]))
def b_law_texts_c1 (r : Env) : R D :=
  (xIsi "str" (xPk 1)) r
def b_law_texts (r : Env) : R Out :=
  (sRet (xB allD (aCons (xL (lComp [1] (tgt1 1) tYes b_law_texts_c1 (iTup (xSh 0)))) aNil))) r
def f_law_texts (a : D) : R D := bodyR (b_law_texts (startE 2 [a]))
def b_law_rows_told_f1 (r : Env) : R Out :=
  (sSeq (sIf (tOr (tNot (tB (xIsi "tuple" (xPk 1)))) (tOr (tB (xOp neD (xB lenD (aCons (xPk 1) aNil)) (xC (.int 3)))) (tNot (tB (xIsi "str" (xIx (xPk 1) (xC (.int 0))))))))
  (sRet (xC (.bl false)))
  sNil)
  (sSeq (sIf (tOr (tNot (tB (xCall (fun1 f_law_whole) (aCons (xIx (xPk 1) (xC (.int 1))) aNil)))) (tOr (tNot (tB (xIsi "tuple" (xIx (xPk 1) (xC (.int 2)))))) (tB (xOp eqD (xB lenD (aCons (xIx (xPk 1) (xC (.int 2))) aNil)) (xC (.int 0))))))
  (sRet (xC (.bl false)))
  sNil)
  (sIf (tNot (tB (xCall (fun1 f_law_texts) (aCons (xIx (xPk 1) (xC (.int 2))) aNil))))
  (sRet (xC (.bl false)))
  sNil))) r
def b_law_rows_told (r : Env) : R Out :=
  (sSeq (sIf (tNot (tB (xIsi "list" (xPk 0))))
  (sRet (xC (.bl false)))
  sNil)
  (sSeq (sFor (iList (xSh 0)) (tgt1 1)
  b_law_rows_told_f1)
  (sRet (xC (.bl true))))) r
def f_law_rows_told (a : D) : R D := bodyR (b_law_rows_told (startE 2 [a]))
def b_law_any_row_c1 (r : Env) : R D :=
  (xIx (xPk 0) (xOp modD (xOp addD (xOp divD (xPk 2) (xC (.int 5))) (xPk 5)) (xC (.int 12)))) r
def b_law_any_row (r : Env) : R Out :=
  (sSeq (sSet 2 (xOp modD (xOp mulD (xOp addD (xPk 1) (xC (.int 3))) (xC (.int 48271))) (xC (.int 1000003))))
  (sSeq (sSet 3 (xIx (xL (lLst (aCons (xC (.str "keep")) (aCons (xC (.str "cut")) (aCons (xC (.str "put")) (aCons (xC (.str "take")) (aCons (xC (.str "lay")) aNil))))))) (xOp modD (xPk 2) (xC (.int 5)))))
  (sSeq (sSet 4 (xB tupleD (aCons (xL (lComp [5] (tgt1 5) tYes b_law_any_row_c1 (iR1 (xOp addD (xC (.int 1)) (xOp modD (xOp divD (xPk 2) (xC (.int 60))) (xC (.int 3))))))) aNil)))
  (sSeq (sIf (tB (xOp eqD (xOp modD (xOp divD (xPk 2) (xC (.int 180))) (xC (.int 9))) (xC (.int 4))))
  (sSet 4 (xOp mulD (xPk 4) (xC (.int 30))))
  sNil)
  (sSeq (sSet 6 (xOp addD (xC (.int 1)) (xOp modD (xOp mulD (xOp addD (xPk 1) (xC (.int 7))) (xC (.int 69621))) (xC (.int 999999999)))))
  (sSeq (sIf (tB (xOp eqD (xOp modD (xOp divD (xPk 2) (xC (.int 1620))) (xC (.int 2))) (xC (.int 1))))
  (sSet 6 (xIx (xL (lLst (aCons (xC (.int 1)) (aCons (xC (.int 9)) (aCons (xC (.int 10)) (aCons (xC (.int 999999999)) (aCons (xC (.int 100000000)) (aCons (xC (.int 7)) aNil)))))))) (xOp modD (xOp divD (xPk 2) (xC (.int 3240))) (xC (.int 6)))))
  sNil)
  (sSeq (sIf (tOr (tB (xOp eqD (xPk 3) (xC (.str "take")))) (tB (xOp eqD (xPk 3) (xC (.str "lay")))))
  (sRet (xTup (aCons (xSh 3) (aCons (xSh 6) (aCons (xSh 4) aNil)))))
  sNil)
  (sRet (xTup (aCons (xSh 3) (aCons (xC (.int 0)) (aCons (xSh 4) aNil)))))))))))) r
def f_law_any_row (a b : D) : R D := bodyR (b_law_any_row (startE 7 [a, b]))
def b_law_k03_c1 (r : Env) : R D :=
  (xCall (fun2 f_law_any_row) (aCons (xSh 1) (aCons (xSh 3) aNil))) r
def b_law_k03_f1 (r : Env) : R Out :=
  (sSeq (sIf (tOr (tB (xOp eqD (xIx (xPk 6) (xC (.int 0))) (xC (.str "cut")))) (tB (xOp eqD (xIx (xPk 6) (xC (.int 0))) (xC (.str "put")))))
  (sSet 4 (xOp addD (xPk 4) (xB lenD (aCons (xIx (xPk 6) (xC (.int 2))) aNil))))
  sNil)
  (sSeq (sIf (tB (xOp eqD (xIx (xPk 6) (xC (.int 0))) (xC (.str "take"))))
  (sSet 4 (xOp addD (xPk 4) (xC (.int 3))))
  sNil)
  (sSeq (sSet 7 (xDget [("keep", "keep"), ("cut", "put"), ("put", "cut"), ("take", "lay"), ("lay", "take")] (xIx (xPk 6) (xC (.int 0)))))
  (sApp 5 (xTup (aCons (xSh 7) (aCons (xIx (xPk 6) (xC (.int 1))) (aCons (xIx (xPk 6) (xC (.int 2))) aNil)))))))) r
def b_law_k03_s1 (r : Env) : R Out :=
  (sSet 1 (xCall (fun1 f_law_menu) (aCons (xSh 0) aNil))) r
def b_law_k03_s2 (r : Env) : R Out :=
  (sComp false 2 (lComp [3] (tgt1 3) tYes b_law_k03_c1 (iList (xSl (xPk 0) (oSome (xC (.int 4))) (oSome (xC (.int 34))))))) r
def b_law_k03_s3 (r : Env) : R Out :=
  (sSet 4 (xC (.int 0))) r
def b_law_k03_s4 (r : Env) : R Out :=
  (sOwn 5 (lLst aNil)) r
def b_law_k03_s5 (r : Env) : R Out :=
  (sFor (iList (xSh 2)) (tgt1 6)
  b_law_k03_f1) r
def b_law_k03_s6 (r : Env) : R Out :=
  (sSet 8 (xL (lList (xPk 2)))) r
def b_law_k03_s7 (r : Env) : R Out :=
  (sSet 9 (xCall (fun1 f_cost) (aCons (xSh 8) aNil))) r
def b_law_k03_s8 (r : Env) : R Out :=
  (sIf (tOr (tNot (tB (xCall (fun1 f_law_whole) (aCons (xSh 9) aNil)))) (tOr (tB (xOp neD (xPk 9) (xPk 4))) (tOr (tB (xOp neD (xPk 8) (xPk 2))) (tOr (tNot (tB (xCall (fun1 f_law_whole) (aCons (xC (.int 3)) aNil)))) (tB (xOp neD (xC (.int 3)) (xC (.int 3))))))))
  (sRet (xC (.bl false)))
  sNil) r
def b_law_k03_s9 (r : Env) : R Out :=
  (sSet 10 (xCall (fun1 f_turned) (aCons (xSh 8) aNil))) r
def b_law_k03_s10 (r : Env) : R Out :=
  (sRet (xAnd (xCall (fun1 f_law_rows_told) (aCons (xSh 10) aNil)) (xAnd (xOp eqD (xPk 10) (xPk 5)) (xOp eqD (xPk 8) (xPk 2))))) r
def b_law_k03 (r : Env) : R Out :=
  (sSeq b_law_k03_s1
  (sSeq b_law_k03_s2
  (sSeq b_law_k03_s3
  (sSeq b_law_k03_s4
  (sSeq b_law_k03_s5
  (sSeq b_law_k03_s6
  (sSeq b_law_k03_s7
  (sSeq b_law_k03_s8
  (sSeq b_law_k03_s9
  b_law_k03_s10))))))))) r
def f_law_k03 (a : D) : R D := bodyR (b_law_k03 (startE 11 [a]))
def b_done_s1 (r : Env) : R Out :=
  (sExpr (xCall (fun1 f_need_rows) (aCons (xSh 0) aNil))) r
def b_done_s2 (r : Env) : R Out :=
  (sExpr (xCall (fun1 f_need_words) (aCons (xSh 1) aNil))) r
def b_done_s3 (r : Env) : R Out :=
  (sSet 2 (xC (.int 0))) r
def b_done_s4 (r : Env) : R Out :=
  (sSet 3 (xL (lLst aNil))) r
def b_done_it (r : Env) : R (List D) :=
  (iList (xSh 0)) r
def b_done_b1 (r : Env) : R Out :=
  (sIf (tB (xOp inD (xPk 6) (xTup (aCons (xC (.str "keep")) (aCons (xC (.str "cut")) (aCons (xC (.str "take")) aNil))))))
  (sSeq (sIf (tB (xOp neD (xB tupleD (aCons (xSl (xPk 1) (oSome (xPk 2)) (oSome (xOp addD (xPk 2) (xB lenD (aCons (xPk 8) aNil))))) aNil)) (xPk 8)))
  (sRaise .noFit)
  sNil)
  (sSet 2 (xOp addD (xPk 2) (xB lenD (aCons (xPk 8) aNil)))))
  sNil) r
def b_done_b2 (r : Env) : R Out :=
  (sIf (tB (xOp inD (xPk 6) (xTup (aCons (xC (.str "keep")) (aCons (xC (.str "put")) (aCons (xC (.str "lay")) aNil))))))
  (sSet 3 (xOp addD (xPk 3) (xL (lList (xPk 8)))))
  sNil) r
def b_done_t3 (r : Env) : R Bool :=
  (tB (xOp eqD (xPk 6) (xC (.str "take")))) r
def b_done_t4 (r : Env) : R Bool :=
  (tB (xOp eqD (xPk 6) (xC (.str "lay")))) r
def b_done_t5 (r : Env) : R Bool :=
  (tB (xOp neD (xPk 2) (xB lenD (aCons (xPk 1) aNil)))) r
def b_done_rz (r : Env) : R Out :=
  (sRaise .noFit) r
def b_done_z (r : Env) : R Out :=
  (sSeq (sIf (tB (xOp gtD (xB lenD (aCons (xPk 3) aNil)) (xC (.int 120))))
  (sRaise .tooLong)
  sNil)
  (sRet (xSh 3))) r
def b_law_built_row_c1 (r : Env) : R D :=
  (xIx (xPk 0) (xOp modD (xOp addD (xOp divD (xPk 1) (xC (.int 7))) (xPk 6)) (xC (.int 12)))) r
def b_law_built_row (r : Env) : R Out :=
  (sSeq (sSet 4 (xOp modD (xPk 1) (xC (.int 7))))
  (sSeq (sSet 5 (xB tupleD (aCons (xL (lComp [6] (tgt1 6) tYes b_law_built_row_c1 (iR1 (xOp addD (xC (.int 1)) (xOp modD (xOp modD (xOp mulD (xPk 1) (xC (.int 48271))) (xC (.int 1009))) (xC (.int 3))))))) aNil)))
  (sIf (tOr (tB (xOp ltD (xPk 4) (xC (.int 4)))) (tAnd (tB (xOp eqD (xPk 4) (xC (.int 6)))) (tB (xOp eqD (xPk 3) (xL (lLst aNil))))))
  (sApp 2 (xTup (aCons (xIx (xL (lLst (aCons (xC (.str "keep")) (aCons (xC (.str "keep")) (aCons (xC (.str "cut")) (aCons (xC (.str "put")) (aCons (xC (.str "keep")) (aCons (xC (.str "keep")) (aCons (xC (.str "keep")) aNil))))))))) (xPk 4)) (aCons (xC (.int 0)) (aCons (xSh 5) aNil)))))
  (sIf (tB (xOp eqD (xPk 4) (xC (.int 6))))
  (sAppPop 2 3 (xOp modD (xOp divD (xPk 1) (xC (.int 7))) (xB lenD (aCons (xPk 3) aNil))))
  (sSeq (sSet 7 (xOp addD (xC (.int 1)) (xOp mulD (xC (.int 3)) (xB lenD (aCons (xPk 2) aNil)))))
  (sSeq (sIf (tB (xOp eqD (xOp modD (xOp modD (xOp mulD (xPk 1) (xC (.int 48271))) (xC (.int 1013))) (xC (.int 3))) (xC (.int 1))))
  (sSet 7 (xOp subD (xC (.int 999999999)) (xB lenD (aCons (xPk 2) aNil))))
  sNil)
  (sSeq (sSet 8 (xIx (xL (lLst (aCons (xL (lLst (aCons (xC (.str "take")) (aCons (xC (.str "lay")) aNil)))) (aCons (xL (lLst (aCons (xC (.str "lay")) (aCons (xC (.str "take")) aNil)))) aNil)))) (xOp subD (xPk 4) (xC (.int 4)))))
  (sSeq (sApp 2 (xTup (aCons (xIx (xPk 8) (xC (.int 0))) (aCons (xSh 7) (aCons (xSh 5) aNil)))))
  (sApp 3 (xTup (aCons (xIx (xPk 8) (xC (.int 1))) (aCons (xSh 7) (aCons (xSh 5) aNil))))))))))))) r
def f_law_built_row (a b : D) (c d : List D) : R (List D × List D) := nox (bodyM (b_law_built_row (startM 9 a b c d)))
def b_law_built_f1 (r : Env) : R Out :=
  (sCallM f_law_built_row 3 4 (xSh 2) (xSh 5)) r
def b_law_built (r : Env) : R Out :=
  (sSeq (sSet 2 (xCall (fun1 f_law_menu) (aCons (xSh 0) aNil)))
  (sSeq (sOwn 3 (lLst aNil))
  (sSeq (sOwn 4 (lLst aNil))
  (sSeq (sFor (iList (xSl (xPk 0) (oSome (xC (.int 4))) (oSome (xOp addD (xC (.int 4)) (xPk 1))))) (tgt1 5)
  b_law_built_f1)
  (sRet (xOp addD (xPk 3) (xPk 4))))))) r
def f_law_built (a b : D) : R D := bodyR (b_law_built (startE 6 [a, b]))
def b_law_words_of_f1 (r : Env) : R Out :=
  (sIf (tB (xOp inD (xIx (xPk 3) (xC (.int 0))) (xPk 1)))
  (sSet 2 (xOp addD (xPk 2) (xL (lList (xIx (xPk 3) (xC (.int 2)))))))
  sNil) r
def b_law_words_of (r : Env) : R Out :=
  (sSeq (sSet 2 (xL (lLst aNil)))
  (sSeq (sFor (iList (xSh 0)) (tgt1 3)
  b_law_words_of_f1)
  (sRet (xSh 2)))) r
def f_law_words_of (a b : D) : R D := bodyR (b_law_words_of (startE 4 [a, b]))
def b_line_of (r : Env) : R Out :=
  (sSeq (sSet 1 (xIx (xC (.str "=-+<>")) (xTindex ["keep", "cut", "put", "take", "lay"] (xIx (xPk 0) (xC (.int 0))))))
  (sSeq (sIf (tB (xOp gtD (xIx (xPk 0) (xC (.int 1))) (xC (.int 0))))
  (sSet 1 (xOp addD (xOp addD (xPk 1) (xC (.str " "))) (xB strD (aCons (xIx (xPk 0) (xC (.int 1))) aNil))))
  sNil)
  (sRet (xOp addD (xOp addD (xPk 1) (xC (.str " "))) (xJoin (xC (.str " ")) (xIx (xPk 0) (xC (.int 2)))))))) r
def f_line_of (a : D) : R D := bodyR (b_line_of (startE 2 [a]))
def b_written_c1 (r : Env) : R D :=
  (xCall (fun1 f_line_of) (aCons (xSh 1) aNil)) r
def b_written (r : Env) : R Out :=
  (sSeq (sExpr (xCall (fun1 f_need_rows) (aCons (xSh 0) aNil)))
  (sRet (xJoin (xC (.str "\n")) (xL (lComp [1] (tgt1 1) tYes b_written_c1 (iList (xSh 0))))))) r
def f_written (a : D) : R D := bodyR (b_written (startE 2 [a]))
def b_law_step_c1 (r : Env) : R D :=
  (xIx (xPk 0) (xOp modD (xOp addD (xOp divD (xPk 1) (xC (.int 6))) (xPk 4)) (xC (.int 12)))) r
def b_law_step (r : Env) : R Out :=
  (sSeq (sSet 2 (xIx (xL (lLst (aCons (xC (.str "keep")) (aCons (xC (.str "keep")) (aCons (xC (.str "cut")) (aCons (xC (.str "put")) (aCons (xC (.str "cut")) (aCons (xC (.str "put")) aNil)))))))) (xOp modD (xPk 1) (xC (.int 6)))))
  (sSeq (sSet 3 (xC (.int 1)))
  (sSeq (sIf (tB (xOp gtD (xOp modD (xPk 1) (xC (.int 6))) (xC (.int 3))))
  (sSet 3 (xIx (xL (lLst (aCons (xC (.int 2)) (aCons (xC (.int 3)) (aCons (xC (.int 2)) (aCons (xC (.int 3)) (aCons (xC (.int 7)) aNil))))))) (xOp modD (xOp modD (xOp mulD (xPk 1) (xC (.int 48271))) (xC (.int 1009))) (xC (.int 5)))))
  sNil)
  (sRet (xTup (aCons (xSh 2) (aCons (xL (lComp [4] (tgt1 4) tYes b_law_step_c1 (iR1 (xPk 3)))) aNil))))))) r
def f_law_step (a b : D) : R D := bodyR (b_law_step (startE 5 [a, b]))
def b_law_way_c1 (r : Env) : R D :=
  (xCall (fun2 f_law_step) (aCons (xSh 2) (aCons (xSh 4) aNil))) r
def b_law_way (r : Env) : R Out :=
  (sSeq (sSet 2 (xCall (fun1 f_law_menu) (aCons (xSh 0) aNil)))
  (sSeq (sComp false 3 (lComp [4] (tgt1 4) tYes b_law_way_c1 (iList (xSl (xPk 0) (oSome (xC (.int 4))) (oSome (xOp addD (xC (.int 4)) (xPk 1)))))))
  (sSeq (sIf (tB (xOp eqD (xOp modD (xOp divD (xCall (fun2 f_law_cell_at) (aCons (xSh 0) (aCons (xC (.int 3)) aNil))) (xC (.int 4))) (xC (.int 8))) (xC (.int 3))))
  (sSeq (sSet 5 (xL (lLst (aCons (xTup (aCons (xC (.str "keep")) (aCons (xSh 2) aNil))) (aCons (xTup (aCons (xC (.str "cut")) (aCons (xSl (xPk 2) oNone (oSome (xC (.int 2)))) aNil))) (aCons (xTup (aCons (xC (.str "keep")) (aCons (xSl (xPk 2) (oSome (xC (.int 2))) (oSome (xC (.int 6)))) aNil))) aNil))))))
  (sRet (xOp addD (xPk 5) (xSl (xPk 3) oNone (oSome (xOp divD (xPk 1) (xC (.int 2))))))))
  sNil)
  (sRet (xSh 3))))) r
def f_law_way (a b : D) : R D := bodyR (b_law_way (startE 6 [a, b]))
def b_law_side_f1 (r : Env) : R Out :=
  (sIf (tOr (tB (xOp eqD (xIx (xPk 3) (xC (.int 0))) (xC (.str "keep")))) (tB (xOp eqD (xIx (xPk 3) (xC (.int 0))) (xPk 1))))
  (sSet 2 (xOp addD (xPk 2) (xIx (xPk 3) (xC (.int 1)))))
  sNil) r
def b_law_side (r : Env) : R Out :=
  (sSeq (sSet 2 (xL (lLst aNil)))
  (sSeq (sFor (iList (xSh 0)) (tgt1 3)
  b_law_side_f1)
  (sRet (xSh 2)))) r
def f_law_side (a b : D) : R D := bodyR (b_law_side (startE 4 [a, b]))
def b_law_kinds_k06_c1 (r : Env) : R D :=
  (xCall (fun1 f_law_whole) (aCons (xSh 4) aNil)) r
def b_law_kinds_k06_f1 (r : Env) : R Out :=
  (sIf (tOr (tNot (tB (xIsi "list" (xPk 3)))) (tOr (tB (xOp neD (xB lenD (aCons (xPk 3) aNil)) (xPk 2))) (tNot (tB (xB allD (aCons (xL (lComp [4] (tgt1 4) tYes b_law_kinds_k06_c1 (iList (xSh 3)))) aNil))))))
  (sRet (xC (.bl false)))
  sNil) r
def b_law_kinds_k06 (r : Env) : R Out :=
  (sSeq (sIf (tOr (tNot (tB (xIsi "list" (xPk 0)))) (tB (xOp neD (xB lenD (aCons (xPk 0) aNil)) (xPk 1))))
  (sRet (xC (.bl false)))
  sNil)
  (sSeq (sFor (iList (xSh 0)) (tgt1 3)
  b_law_kinds_k06_f1)
  (sRet (xC (.bl true))))) r
def f_law_kinds_k06 (a b c : D) : R D := bodyR (b_law_kinds_k06 (startE 5 [a, b, c]))
def b_law_due (r : Env) : R Out :=
  (sSeq (sIf (tOr (tB (xOp eqD (xPk 3) (xB lenD (aCons (xPk 1) aNil)))) (tB (xOp eqD (xPk 4) (xB lenD (aCons (xPk 2) aNil)))))
  (sRet (xOp subD (xOp addD (xOp subD (xB lenD (aCons (xPk 1) aNil)) (xPk 3)) (xB lenD (aCons (xPk 2) aNil))) (xPk 4)))
  sNil)
  (sSeq (sIf (tB (xOp eqD (xIx (xPk 1) (xPk 3)) (xIx (xPk 2) (xPk 4))))
  (sRet (xIx (xIx (xPk 0) (xOp addD (xPk 3) (xC (.int 1)))) (xOp addD (xPk 4) (xC (.int 1)))))
  sNil)
  (sRet (xOp addD (xC (.int 1)) (xB min2D (aCons (xIx (xIx (xPk 0) (xOp addD (xPk 3) (xC (.int 1)))) (xPk 4)) (aCons (xIx (xIx (xPk 0) (xPk 3)) (xOp addD (xPk 4) (xC (.int 1)))) aNil))))))) r
def f_law_due (a b c d e : D) : R D := bodyR (b_law_due (startE 5 [a, b, c, d, e]))
def b_law_k06_f1 (r : Env) : R Out :=
  (sIf (tB (xOp neD (xIx (xIx (xPk 5) (xPk 6)) (xPk 7)) (xCall (fun5 f_law_due) (aCons (xSh 5) (aCons (xSh 2) (aCons (xSh 3) (aCons (xSh 6) (aCons (xSh 7) aNil))))))))
  (sRet (xC (.bl false)))
  sNil) r
def b_law_k06_f2 (r : Env) : R Out :=
  (sFor (iR1 (xOp addD (xB lenD (aCons (xPk 3) aNil)) (xC (.int 1)))) (tgt1 7)
  b_law_k06_f1) r
def b_law_k06_s1 (r : Env) : R Out :=
  (sSet 1 (xCall (fun2 f_law_way) (aCons (xSh 0) (aCons (xC (.int 10)) aNil)))) r
def b_law_k06_s2 (r : Env) : R Out :=
  (sSet 2 (xCall (fun2 f_law_side) (aCons (xSh 1) (aCons (xC (.str "cut")) aNil)))) r
def b_law_k06_s3 (r : Env) : R Out :=
  (sSet 3 (xCall (fun2 f_law_side) (aCons (xSh 1) (aCons (xC (.str "put")) aNil)))) r
def b_law_k06_s4 (r : Env) : R Out :=
  (sSet 4 (xL (lLst (aCons (xL (lList (xPk 2))) (aCons (xL (lList (xPk 3))) aNil))))) r
def b_law_k06_s5 (r : Env) : R Out :=
  (sSet 5 (xCall (fun2 f_table) (aCons (xIx (xPk 4) (xC (.int 0))) (aCons (xIx (xPk 4) (xC (.int 1))) aNil)))) r
def b_law_k06_s6 (r : Env) : R Out :=
  (sIf (tOr (tB (xOp neD (xIx (xPk 4) (xC (.int 0))) (xPk 2))) (tOr (tB (xOp neD (xIx (xPk 4) (xC (.int 1))) (xPk 3))) (tNot (tB (xCall (fun3 f_law_kinds_k06) (aCons (xSh 5) (aCons (xOp addD (xB lenD (aCons (xPk 2) aNil)) (xC (.int 1))) (aCons (xOp addD (xB lenD (aCons (xPk 3) aNil)) (xC (.int 1))) aNil))))))))
  (sRet (xC (.bl false)))
  sNil) r
def b_law_k06_s7 (r : Env) : R Out :=
  (sFor (iR1 (xOp addD (xB lenD (aCons (xPk 2) aNil)) (xC (.int 1)))) (tgt1 6)
  b_law_k06_f2) r
def b_law_k06_s8 (r : Env) : R Out :=
  (sSet 8 (xCall (fun2 f_apart) (aCons (xIx (xPk 4) (xC (.int 0))) (aCons (xIx (xPk 4) (xC (.int 1))) aNil)))) r
def b_law_k06_s9 (r : Env) : R Out :=
  (sRet (xAnd (xCall (fun1 f_law_whole) (aCons (xSh 8) aNil)) (xAnd (xOp eqD (xPk 8) (xIx (xIx (xPk 5) (xC (.int 0))) (xC (.int 0)))) (xAnd (xOp eqD (xIx (xPk 4) (xC (.int 0))) (xPk 2)) (xOp eqD (xIx (xPk 4) (xC (.int 1))) (xPk 3)))))) r
def b_law_k06 (r : Env) : R Out :=
  (sSeq b_law_k06_s1
  (sSeq b_law_k06_s2
  (sSeq b_law_k06_s3
  (sSeq b_law_k06_s4
  (sSeq b_law_k06_s5
  (sSeq b_law_k06_s6
  (sSeq b_law_k06_s7
  (sSeq b_law_k06_s8
  b_law_k06_s9)))))))) r
def f_law_k06 (a : D) : R D := bodyR (b_law_k06 (startE 9 [a]))
def b_law_walked_f1 (r : Env) : R Out :=
  (sSeq (sIf (tB (xOp inD (xIx (xPk 4) (xC (.int 0))) (xTup (aCons (xC (.str "keep")) (aCons (xC (.str "cut")) (aCons (xC (.str "take")) aNil))))))
  (sSeq (sIf (tB (xOp neD (xSl (xPk 1) (oSome (xPk 2)) (oSome (xOp addD (xPk 2) (xB lenD (aCons (xIx (xPk 4) (xC (.int 2))) aNil))))) (xL (lList (xIx (xPk 4) (xC (.int 2)))))))
  (sRet (xC .non))
  sNil)
  (sSet 2 (xOp addD (xPk 2) (xB lenD (aCons (xIx (xPk 4) (xC (.int 2))) aNil)))))
  sNil)
  (sIf (tB (xOp inD (xIx (xPk 4) (xC (.int 0))) (xTup (aCons (xC (.str "keep")) (aCons (xC (.str "put")) (aCons (xC (.str "lay")) aNil))))))
  (sSet 3 (xOp addD (xPk 3) (xL (lList (xIx (xPk 4) (xC (.int 2)))))))
  sNil)) r
def b_law_walked (r : Env) : R Out :=
  (sSeq (sSet 2 (xC (.int 0)))
  (sSeq (sSet 3 (xL (lLst aNil)))
  (sSeq (sFor (iList (xSh 0)) (tgt1 4)
  b_law_walked_f1)
  (sSeq (sIf (tB (xOp neD (xPk 2) (xB lenD (aCons (xPk 1) aNil))))
  (sRet (xC .non))
  sNil)
  (sRet (xSh 3)))))) r
def f_law_walked (a b : D) : R D := bodyR (b_law_walked (startE 5 [a, b]))
def b_law_way_k07_c1 (r : Env) : R D :=
  (xCall (fun2 f_law_step) (aCons (xSh 2) (aCons (xSh 4) aNil))) r
def b_law_way_k07 (r : Env) : R Out :=
  (sSeq (sSet 2 (xCall (fun1 f_law_menu) (aCons (xSh 0) aNil)))
  (sSeq (sComp false 3 (lComp [4] (tgt1 4) tYes b_law_way_k07_c1 (iList (xSl (xPk 0) (oSome (xC (.int 4))) (oSome (xOp addD (xC (.int 4)) (xPk 1)))))))
  (sSeq (sIf (tB (xOp eqD (xOp modD (xOp divD (xCall (fun2 f_law_cell_at) (aCons (xSh 0) (aCons (xC (.int 3)) aNil))) (xC (.int 4))) (xC (.int 8))) (xC (.int 3))))
  (sSeq (sSet 5 (xL (lLst (aCons (xTup (aCons (xC (.str "keep")) (aCons (xSh 2) aNil))) (aCons (xTup (aCons (xC (.str "cut")) (aCons (xSl (xPk 2) oNone (oSome (xC (.int 2)))) aNil))) (aCons (xTup (aCons (xC (.str "keep")) (aCons (xSl (xPk 2) (oSome (xC (.int 2))) (oSome (xC (.int 6)))) aNil))) aNil))))))
  (sRet (xOp addD (xPk 5) (xSl (xPk 3) oNone (oSome (xOp divD (xPk 1) (xC (.int 2))))))))
  sNil)
  (sSeq (sIf (tB (xOp eqD (xOp modD (xOp divD (xCall (fun2 f_law_cell_at) (aCons (xSh 0) (aCons (xC (.int 3)) aNil))) (xC (.int 4))) (xC (.int 16))) (xC (.int 5))))
  (sRet (xOp addD (xL (lLst (aCons (xTup (aCons (xC (.str "cut")) (aCons (xSl (xOp mulD (xPk 2) (xC (.int 2))) oNone (oSome (xC (.int 14)))) aNil))) (aCons (xTup (aCons (xC (.str "keep")) (aCons (xOp mulD (xPk 2) (xC (.int 2))) aNil))) (aCons (xTup (aCons (xC (.str "put")) (aCons (xSl (xOp mulD (xPk 2) (xC (.int 2))) (oSome (xC (.int 3))) (oSome (xC (.int 17)))) aNil))) aNil))))) (xSl (xPk 3) oNone (oSome (xC (.int 2))))))
  sNil)
  (sRet (xSh 3)))))) r
def f_law_way_k07 (a b : D) : R D := bodyR (b_law_way_k07 (startE 6 [a, b]))
def b_law_next (r : Env) : R Out :=
  (sSeq (sIf (tB (xOp eqD (xPk 0) (xC (.str "keep"))))
  (sRet (xOp neD (xPk 1) (xC (.str "keep"))))
  sNil)
  (sSeq (sIf (tB (xOp eqD (xPk 0) (xC (.str "cut"))))
  (sRet (xOp neD (xPk 1) (xC (.str "cut"))))
  sNil)
  (sRet (xOp eqD (xPk 1) (xC (.str "keep")))))) r
def f_law_next (a b : D) : R D := bodyR (b_law_next (startE 2 [a, b]))
def b_law_k07_f1 (r : Env) : R Out :=
  (sSeq (sIf (tOr (tB (xOp ninD (xIx (xIx (xPk 5) (xPk 6)) (xC (.int 0))) (xTup (aCons (xC (.str "keep")) (aCons (xC (.str "cut")) (aCons (xC (.str "put")) aNil)))))) (tB (xOp neD (xIx (xIx (xPk 5) (xPk 6)) (xC (.int 1))) (xC (.int 0)))))
  (sRet (xC (.bl false)))
  sNil)
  (sIf (tAnd (tB (xOp gtD (xPk 6) (xC (.int 0)))) (tNot (tB (xCall (fun2 f_law_next) (aCons (xIx (xIx (xPk 5) (xOp subD (xPk 6) (xC (.int 1)))) (xC (.int 0))) (aCons (xIx (xIx (xPk 5) (xPk 6)) (xC (.int 0))) aNil))))))
  (sRet (xC (.bl false)))
  sNil)) r
def b_law_k07_s1 (r : Env) : R Out :=
  (sSet 1 (xCall (fun2 f_law_way_k07) (aCons (xSh 0) (aCons (xC (.int 15)) aNil)))) r
def b_law_k07_s2 (r : Env) : R Out :=
  (sSet 2 (xCall (fun2 f_law_side) (aCons (xSh 1) (aCons (xC (.str "cut")) aNil)))) r
def b_law_k07_s3 (r : Env) : R Out :=
  (sSet 3 (xCall (fun2 f_law_side) (aCons (xSh 1) (aCons (xC (.str "put")) aNil)))) r
def b_law_k07_s4 (r : Env) : R Out :=
  (sSet 4 (xL (lLst (aCons (xL (lList (xPk 2))) (aCons (xL (lList (xPk 3))) aNil))))) r
def b_law_k07_s5 (r : Env) : R Out :=
  (sSet 5 (xCall (fun2 f_told) (aCons (xIx (xPk 4) (xC (.int 0))) (aCons (xIx (xPk 4) (xC (.int 1))) aNil)))) r
def b_law_k07_s6 (r : Env) : R Out :=
  (sIf (tOr (tB (xOp neD (xIx (xPk 4) (xC (.int 0))) (xPk 2))) (tOr (tB (xOp neD (xIx (xPk 4) (xC (.int 1))) (xPk 3))) (tNot (tB (xCall (fun1 f_law_rows_told) (aCons (xSh 5) aNil))))))
  (sRet (xC (.bl false)))
  sNil) r
def b_law_k07_s7 (r : Env) : R Out :=
  (sFor (iR1 (xB lenD (aCons (xPk 5) aNil))) (tgt1 6)
  b_law_k07_f1) r
def b_law_k07_s8 (r : Env) : R Out :=
  (sRet (xOp eqD (xCall (fun2 f_law_walked) (aCons (xSh 5) (aCons (xSh 2) aNil))) (xPk 3))) r
def b_law_k07 (r : Env) : R Out :=
  (sSeq b_law_k07_s1
  (sSeq b_law_k07_s2
  (sSeq b_law_k07_s3
  (sSeq b_law_k07_s4
  (sSeq b_law_k07_s5
  (sSeq b_law_k07_s6
  (sSeq b_law_k07_s7
  b_law_k07_s8))))))) r
def f_law_k07 (a : D) : R D := bodyR (b_law_k07 (startE 7 [a]))
def b_law_costs_c1 (r : Env) : R D :=
  (xOp subD (xB lenD (aCons (xPk 1) aNil)) (xPk 3)) r
def b_law_costs_f1 (r : Env) : R Out :=
  (sSeq (sSet 8 (xOp subD (xOp subD (xB lenD (aCons (xPk 1) aNil)) (xC (.int 1))) (xPk 3)))
  (sSeq (sPut 7 (xOp addD (xC (.int 1)) (xB min2D (aCons (xIx (xPk 2) (xPk 8)) (aCons (xIx (xPk 7) (xOp addD (xPk 8) (xC (.int 1)))) aNil)))) (xSh 8))
  (sIf (tB (xOp eqD (xPk 6) (xIx (xPk 1) (xPk 8))))
  (sPut 7 (xIx (xPk 2) (xOp addD (xPk 8) (xC (.int 1)))) (xSh 8))
  sNil))) r
def b_law_costs_f2 (r : Env) : R Out :=
  (sSeq (sSet 6 (xIx (xPk 0) (xOp subD (xOp subD (xB lenD (aCons (xPk 0) aNil)) (xC (.int 1))) (xPk 5))))
  (sSeq (sOwn 7 (lRep (xL (lLst (aCons (xC (.int 0)) aNil))) (xOp addD (xB lenD (aCons (xPk 1) aNil)) (xC (.int 1)))))
  (sSeq (sPut 7 (xOp addD (xPk 5) (xC (.int 1))) (xB lenD (aCons (xPk 1) aNil)))
  (sSeq (sFor (iR1 (xB lenD (aCons (xPk 1) aNil))) (tgt1 3)
  b_law_costs_f1)
  (sSeq (sFz 7 (sIns 4 (xC (.int 0)) (xSh 7)))
  (sFz 7 (sSet 2 (xSh 7)))))))) r
def b_law_costs_s1 (r : Env) : R Out :=
  (sComp false 2 (lComp [3] (tgt1 3) tYes b_law_costs_c1 (iR1 (xOp addD (xB lenD (aCons (xPk 1) aNil)) (xC (.int 1)))))) r
def b_law_costs_s2 (r : Env) : R Out :=
  (sOwn 4 (lLst (aCons (xSh 2) aNil))) r
def b_law_costs_s3 (r : Env) : R Out :=
  (sFor (iR1 (xB lenD (aCons (xPk 0) aNil))) (tgt1 5)
  b_law_costs_f2) r
def b_law_costs_s4 (r : Env) : R Out :=
  (sFz 4 (sRet (xSh 4))) r
def b_law_costs (r : Env) : R Out :=
  (sSeq b_law_costs_s1
  (sSeq b_law_costs_s2
  (sSeq b_law_costs_s3
  b_law_costs_s4))) r
def f_law_costs (a b : D) : R D := bodyR (b_law_costs (startE 9 [a, b]))
def b_law_words_told_w1 (r : Env) : R Out :=
  (sIf (tAnd (tB (xOp ltD (xPk 3) (xB lenD (aCons (xPk 0) aNil)))) (tAnd (tB (xOp ltD (xPk 4) (xB lenD (aCons (xPk 1) aNil)))) (tB (xOp eqD (xIx (xPk 0) (xPk 3)) (xIx (xPk 1) (xPk 4))))))
  (sSeq (sApp 5 (xTup (aCons (xC (.str "keep")) (aCons (xIx (xPk 0) (xPk 3)) aNil))))
  (sSeq (sSet 3 (xOp addD (xPk 3) (xC (.int 1))))
  (sSet 4 (xOp addD (xPk 4) (xC (.int 1))))))
  (sIf (tOr (tB (xOp eqD (xPk 4) (xB lenD (aCons (xPk 1) aNil)))) (tAnd (tB (xOp ltD (xPk 3) (xB lenD (aCons (xPk 0) aNil)))) (tB (xOp leD (xIx (xIx (xPk 2) (xOp addD (xPk 3) (xC (.int 1)))) (xPk 4)) (xIx (xIx (xPk 2) (xPk 3)) (xOp addD (xPk 4) (xC (.int 1))))))))
  (sSeq (sApp 5 (xTup (aCons (xC (.str "cut")) (aCons (xIx (xPk 0) (xPk 3)) aNil))))
  (sSet 3 (xOp addD (xPk 3) (xC (.int 1)))))
  (sSeq (sApp 5 (xTup (aCons (xC (.str "put")) (aCons (xIx (xPk 1) (xPk 4)) aNil))))
  (sSet 4 (xOp addD (xPk 4) (xC (.int 1))))))) r
def b_law_words_told_v1 (r : Env) : R Bool :=
  (tOr (tB (xOp ltD (xPk 3) (xB lenD (aCons (xPk 0) aNil)))) (tB (xOp ltD (xPk 4) (xB lenD (aCons (xPk 1) aNil))))) r
def b_law_words_told (r : Env) : R Out :=
  (sSeq (sSet 3 (xC (.int 0)))
  (sSeq (sSet 4 (xC (.int 0)))
  (sSeq (sOwn 5 (lLst aNil))
  (sSeq (whileR b_law_words_told_v1
  b_law_words_told_w1 100000)
  (sFz 5 (sRet (xSh 5))))))) r
def f_law_words_told (a b c : D) : R D := bodyR (b_law_words_told (startE 6 [a, b, c]))
def b_law_gathered_s1 (r : Env) : R Out :=
  (sOwn 1 (lLst aNil)) r
def b_law_gathered_it (r : Env) : R (List D) :=
  (iList (xOp addD (xPk 0) (xL (lLst (aCons (xTup (aCons (xC (.str "keep")) (aCons (xC (.str "")) aNil))) aNil))))) r
def b_law_gathered_t (r : Env) : R Bool :=
  (tB (xOp eqD (xPk 3) (xC (.str "keep")))) r
def b_law_gathered_f1 (r : Env) : R Out :=
  (sIf (tB (xOp neD (xIx (xPk 2) (xPk 5)) (xL (lLst aNil))))
  (sApp 1 (xTup (aCons (xIx (xL (lLst (aCons (xC (.str "cut")) (aCons (xC (.str "put")) aNil)))) (xPk 5)) (aCons (xC (.int 0)) (aCons (xB tupleD (aCons (xIx (xPk 2) (xPk 5)) aNil)) aNil)))))
  sNil) r
def b_law_gathered_p (r : Env) : R Out :=
  (sFor (iR1 (xC (.int 2))) (tgt1 5)
  b_law_gathered_f1) r
def b_law_gathered_k (r : Env) : R Out :=
  (sIf (tAnd (tB (xOp neD (xPk 1) (xL (lLst aNil)))) (tB (xOp eqD (xIx (xIx (xPk 1) (xNeg (xC (.int 1)))) (xC (.int 0))) (xC (.str "keep")))))
  (sPut 1 (xTup (aCons (xC (.str "keep")) (aCons (xC (.int 0)) (aCons (xOp addD (xIx (xIx (xPk 1) (xNeg (xC (.int 1)))) (xC (.int 2))) (xTup (aCons (xSh 4) aNil))) aNil)))) (xNeg (xC (.int 1))))
  (sApp 1 (xTup (aCons (xC (.str "keep")) (aCons (xC (.int 0)) (aCons (xTup (aCons (xSh 4) aNil)) aNil)))))) r
def b_law_gathered_o (r : Env) : R D :=
  (xIx (xPk 2) (xB intD (aCons (xOp eqD (xPk 3) (xC (.str "put"))) aNil))) r
def b_law_gathered_w (r : Env) : R D :=
  (xSh 4) r
def b_law_gathered_z (r : Env) : R Out :=
  (sSeq (sIf (tB (xOp eqD (xB lenD (aCons (xIx (xIx (xPk 1) (xNeg (xC (.int 1)))) (xC (.int 2))) aNil)) (xC (.int 1))))
  (sRet (xSl (xPk 1) oNone (oSome (xNeg (xC (.int 1))))))
  sNil)
  (sRet (xOp addD (xSl (xPk 1) oNone (oSome (xNeg (xC (.int 1))))) (xL (lLst (aCons (xTup (aCons (xC (.str "keep")) (aCons (xC (.int 0)) (aCons (xSl (xIx (xIx (xPk 1) (xNeg (xC (.int 1)))) (xC (.int 2))) oNone (oSome (xNeg (xC (.int 1))))) aNil)))) aNil)))))) r
def b_law_blocks_c1 (r : Env) : R D :=
  (xTup (aCons (xIx (xPk 2) (xC (.int 1))) (aCons (xIx (xPk 2) (xC (.int 2))) aNil))) r
def b_law_blocks_t1 (r : Env) : R Bool :=
  (tB (xOp eqD (xIx (xPk 2) (xC (.int 0))) (xC (.str "take")))) r
def b_law_blocks_c2 (r : Env) : R D :=
  (xTup (aCons (xIx (xPk 2) (xC (.int 1))) (aCons (xIx (xPk 2) (xC (.int 2))) aNil))) r
def b_law_blocks_t2 (r : Env) : R Bool :=
  (tB (xOp eqD (xIx (xPk 2) (xC (.int 0))) (xC (.str "lay")))) r
def b_law_blocks_c3 (r : Env) : R D :=
  (xIx (xPk 4) (xC (.int 0))) r
def b_law_blocks_c4 (r : Env) : R D :=
  (xOp addD (xPk 5) (xC (.int 1))) r
def b_law_blocks_s1 (r : Env) : R Out :=
  (sSet 1 (xL (lSorted (xL (lComp [2] (tgt1 2) b_law_blocks_t1 b_law_blocks_c1 (iList (xSh 0))))))) r
def b_law_blocks_s2 (r : Env) : R Out :=
  (sSet 3 (xL (lSorted (xL (lComp [2] (tgt1 2) b_law_blocks_t2 b_law_blocks_c2 (iList (xSh 0))))))) r
def b_law_blocks_s3 (r : Env) : R Out :=
  (sRet (xAnd (xOp eqD (xPk 1) (xPk 3)) (xOp eqD (xL (lComp [4] (tgt1 4) tYes b_law_blocks_c3 (iList (xSh 1)))) (xL (lComp [5] (tgt1 5) tYes b_law_blocks_c4 (iR1 (xB lenD (aCons (xPk 1) aNil)))))))) r
def b_law_blocks (r : Env) : R Out :=
  (sSeq b_law_blocks_s1
  (sSeq b_law_blocks_s2
  b_law_blocks_s3)) r
def f_law_blocks (a : D) : R D := bodyR (b_law_blocks (startE 6 [a]))
def b_law_price_f1 (r : Env) : R Out :=
  (sSeq (sIf (tOr (tB (xOp eqD (xIx (xPk 2) (xC (.int 0))) (xC (.str "cut")))) (tB (xOp eqD (xIx (xPk 2) (xC (.int 0))) (xC (.str "put")))))
  (sSet 1 (xOp addD (xPk 1) (xB lenD (aCons (xIx (xPk 2) (xC (.int 2))) aNil))))
  sNil)
  (sIf (tB (xOp eqD (xIx (xPk 2) (xC (.int 0))) (xC (.str "take"))))
  (sSet 1 (xOp addD (xPk 1) (xC (.int 3))))
  sNil)) r
def b_law_price (r : Env) : R Out :=
  (sSeq (sSet 1 (xC (.int 0)))
  (sSeq (sFor (iList (xSh 0)) (tgt1 2)
  b_law_price_f1)
  (sRet (xSh 1)))) r
def f_law_price (a : D) : R D := bodyR (b_law_price (startE 3 [a]))
def b_law_telling_c1 (r : Env) : R D :=
  (xTup (aCons (xIx (xPk 1) (xC (.int 0))) (aCons (xC (.int 0)) (aCons (xB tupleD (aCons (xIx (xPk 1) (xC (.int 1))) aNil)) aNil)))) r
def b_law_telling (r : Env) : R Out :=
  (sRet (xL (lComp [1] (tgt1 1) tYes b_law_telling_c1 (iList (xSh 0))))) r
def f_law_telling (a : D) : R D := bodyR (b_law_telling (startE 2 [a]))
def b_law_pairs_c1 (r : Env) : R D :=
  (xTup (aCons (xIx (xIx (xPk 3) (xC (.int 2))) (xPk 4)) (aCons (xIx (xIx (xPk 3) (xC (.int 2))) (xOp addD (xPk 4) (xC (.int 1)))) aNil))) r
def b_law_pairs_f1 (r : Env) : R Out :=
  (sIf (tB (xOp eqD (xIx (xPk 3) (xC (.int 0))) (xPk 1)))
  (sSet 2 (xOp addD (xPk 2) (xL (lComp [4] (tgt1 4) tYes b_law_pairs_c1 (iR1 (xOp subD (xB lenD (aCons (xIx (xPk 3) (xC (.int 2))) aNil)) (xC (.int 1))))))))
  sNil) r
def b_law_pairs (r : Env) : R Out :=
  (sSeq (sSet 2 (xL (lLst aNil)))
  (sSeq (sFor (iList (xSh 0)) (tgt1 3)
  b_law_pairs_f1)
  (sRet (xSh 2)))) r
def f_law_pairs (a b : D) : R D := bodyR (b_law_pairs (startE 5 [a, b]))
def b_law_kept_c1 (r : Env) : R D :=
  (xSh 1) r
def b_law_kept_t1 (r : Env) : R Bool :=
  (tB (xOp eqD (xIx (xPk 1) (xC (.int 0))) (xC (.str "keep")))) r
def b_law_kept (r : Env) : R Out :=
  (sRet (xL (lComp [1] (tgt1 1) b_law_kept_t1 b_law_kept_c1 (iList (xSh 0))))) r
def f_law_kept (a : D) : R D := bodyR (b_law_kept (startE 2 [a]))
def b_law_again (r : Env) : R Out :=
  (sSeq (sTry (sExpr (xCall (fun1 f_with_blocks) (aCons (xSh 0) aNil))) [(mC [.noRow] .noRow, (sRet (xC (.bl false))))])
  (sRet (xC (.bl true)))) r
def f_law_again (a : D) : R D := bodyR (b_law_again (startE 1 [a]))
def b_law_k09_c1 (r : Env) : R D :=
  (xOp subD (xOp mulD (xC (.int 2)) (xB lenD (aCons (xIx (xPk 6) (xC (.int 2))) aNil))) (xC (.int 3))) r
def b_law_k09_t1 (r : Env) : R Bool :=
  (tB (xOp eqD (xIx (xPk 6) (xC (.int 0))) (xC (.str "take")))) r
def b_law_k09_c2 (r : Env) : R D :=
  (xSh 7) r
def b_law_k09_t2 (r : Env) : R Bool :=
  (tB (xOp inD (xPk 7) (xCall (fun2 f_law_pairs) (aCons (xSh 4) (aCons (xC (.str "put")) aNil))))) r
def b_law_k09_s1 (r : Env) : R Out :=
  (sSet 1 (xCall (fun2 f_law_way) (aCons (xSh 0) (aCons (xC (.int 14)) aNil)))) r
def b_law_k09_s2 (r : Env) : R Out :=
  (sSet 2 (xCall (fun1 f_law_telling) (aCons (xSh 1) aNil))) r
def b_law_k09_s3 (r : Env) : R Out :=
  (sSet 3 (xL (lList (xPk 2)))) r
def b_law_k09_s4 (r : Env) : R Out :=
  (sSet 4 (xCall (fun1 f_with_blocks) (aCons (xSh 3) aNil))) r
def b_law_k09_s5 (r : Env) : R Out :=
  (sIf (tOr (tB (xOp neD (xPk 3) (xPk 2))) (tOr (tNot (tB (xCall (fun1 f_law_rows_told) (aCons (xSh 4) aNil)))) (tOr (tNot (tB (xCall (fun1 f_law_blocks) (aCons (xSh 4) aNil)))) (tB (xOp neD (xCall (fun1 f_law_kept) (aCons (xSh 4) aNil)) (xCall (fun1 f_law_kept) (aCons (xSh 2) aNil)))))))
  (sRet (xC (.bl false)))
  sNil) r
def b_law_k09_s6 (r : Env) : R Out :=
  (sComp false 5 (lComp [6] (tgt1 6) b_law_k09_t1 b_law_k09_c1 (iList (xSh 4)))) r
def b_law_k09_s7 (r : Env) : R Out :=
  (sIf (tOr (tB (xOp neD (xOp addD (xCall (fun1 f_law_price) (aCons (xSh 4) aNil)) (xB sumD (aCons (xPk 5) aNil))) (xCall (fun1 f_law_price) (aCons (xSh 2) aNil)))) (tB (xOp ltD (xB minLD (aCons (xOp addD (xPk 5) (xL (lLst (aCons (xC (.int 1)) aNil)))) aNil)) (xC (.int 1)))))
  (sRet (xC (.bl false)))
  sNil) r
def b_law_k09_s8 (r : Env) : R Out :=
  (sIf (tB (xOp neD (xL (lComp [7] (tgt1 7) b_law_k09_t2 b_law_k09_c2 (iList (xCall (fun2 f_law_pairs) (aCons (xSh 4) (aCons (xC (.str "cut")) aNil)))))) (xL (lLst aNil))))
  (sRet (xC (.bl false)))
  sNil) r
def b_law_k09_s9 (r : Env) : R Out :=
  (sIf (tB (xOp neD (xCall (fun1 f_law_again) (aCons (xL (lList (xPk 4))) aNil)) (xOp eqD (xPk 5) (xL (lLst aNil)))))
  (sRet (xC (.bl false)))
  sNil) r
def b_law_k09_s10 (r : Env) : R Out :=
  (sSet 8 (xOp modD (xOp divD (xCall (fun2 f_law_cell_at) (aCons (xSh 0) (aCons (xC (.int 2)) aNil))) (xC (.int 2))) (xOp addD (xB lenD (aCons (xPk 2) aNil)) (xC (.int 1))))) r
def b_law_k09_s11 (r : Env) : R Out :=
  (sIf (tB (xCall (fun1 f_law_again) (aCons (xOp addD (xOp addD (xSl (xPk 2) oNone (oSome (xPk 8))) (xL (lLst (aCons (xTup (aCons (xIx (xL (lLst (aCons (xC (.str "take")) (aCons (xC (.str "lay")) aNil)))) (xOp modD (xCall (fun2 f_law_cell_at) (aCons (xSh 0) (aCons (xC (.int 2)) aNil))) (xC (.int 2)))) (aCons (xC (.int 5)) (aCons (xTup (aCons (xC (.str "a")) aNil)) aNil)))) aNil)))) (xSl (xPk 2) (oSome (xPk 8)) oNone)) aNil)))
  (sRet (xC (.bl false)))
  sNil) r
def b_law_k09_s12 (r : Env) : R Out :=
  (sRet (xOp eqD (xCall (fun2 f_law_walked) (aCons (xSh 4) (aCons (xCall (fun2 f_law_side) (aCons (xSh 1) (aCons (xC (.str "cut")) aNil))) aNil))) (xCall (fun2 f_law_side) (aCons (xSh 1) (aCons (xC (.str "put")) aNil))))) r
def b_law_k09 (r : Env) : R Out :=
  (sSeq b_law_k09_s1
  (sSeq b_law_k09_s2
  (sSeq b_law_k09_s3
  (sSeq b_law_k09_s4
  (sSeq b_law_k09_s5
  (sSeq b_law_k09_s6
  (sSeq b_law_k09_s7
  (sSeq b_law_k09_s8
  (sSeq b_law_k09_s9
  (sSeq b_law_k09_s10
  (sSeq b_law_k09_s11
  b_law_k09_s12))))))))))) r
def f_law_k09 (a : D) : R D := bodyR (b_law_k09 (startE 9 [a]))
def b_law_same_w1 (r : Env) : R Out :=
  (sSet 4 (xOp addD (xPk 4) (xC (.int 1)))) r
def b_law_same_v1 (r : Env) : R Bool :=
  (tAnd (tB (xOp ltD (xOp addD (xPk 2) (xPk 4)) (xB lenD (aCons (xPk 0) aNil)))) (tAnd (tB (xOp ltD (xOp addD (xPk 3) (xPk 4)) (xB lenD (aCons (xPk 1) aNil)))) (tB (xOp eqD (xIx (xPk 0) (xOp addD (xPk 2) (xPk 4))) (xIx (xPk 1) (xOp addD (xPk 3) (xPk 4))))))) r
def b_law_same (r : Env) : R Out :=
  (sSeq (sSet 4 (xC (.int 0)))
  (sSeq (whileR b_law_same_v1
  b_law_same_w1 100000)
  (sRet (xSh 4)))) r
def f_law_same (a b c d : D) : R D := bodyR (b_law_same (startE 5 [a, b, c, d]))
def b_law_places_c1 (r : Env) : R D :=
  (xTup (aCons (xSh 3) (aCons (xSh 4) aNil))) r
def b_law_places_f1 (r : Env) : R Out :=
  (sIf (tB (xOp eqD (xIx (xIx (xPk 0) (xPk 3)) (xC (.int 0))) (xPk 1)))
  (sSet 2 (xOp addD (xPk 2) (xL (lComp [4] (tgt1 4) tYes b_law_places_c1 (iR1 (xB lenD (aCons (xIx (xIx (xPk 0) (xPk 3)) (xC (.int 2))) aNil)))))))
  sNil) r
def b_law_places (r : Env) : R Out :=
  (sSeq (sSet 2 (xL (lLst aNil)))
  (sSeq (sFor (iR1 (xB lenD (aCons (xPk 0) aNil))) (tgt1 3)
  b_law_places_f1)
  (sRet (xSh 2)))) r
def f_law_places (a b : D) : R D := bodyR (b_law_places (startE 5 [a, b]))
def b_law_best_f1 (r : Env) : R Out :=
  (sSeq (sSet 6 (xCall (fun4 f_law_same) (aCons (xIx (xIx (xPk 0) (xPk 2)) (xC (.int 2))) (aCons (xIx (xIx (xPk 0) (xPk 4)) (xC (.int 2))) (aCons (xSh 3) (aCons (xSh 5) aNil))))))
  (sIf (tB (xOp gtD (xPk 6) (xIx (xPk 1) (xC (.int 0)))))
  (sSet 1 (xL (lLst (aCons (xSh 6) (aCons (xSh 2) (aCons (xSh 3) (aCons (xSh 4) (aCons (xSh 5) aNil))))))))
  sNil)) r
def b_law_best_f2 (r : Env) : R Out :=
  (sFor (iList (xCall (fun2 f_law_places) (aCons (xSh 0) (aCons (xC (.str "put")) aNil)))) (tgtT [4, 5])
  b_law_best_f1) r
def b_law_best (r : Env) : R Out :=
  (sSeq (sSet 1 (xL (lLst (aCons (xC (.int 0)) (aCons (xC (.int 0)) (aCons (xC (.int 0)) (aCons (xC (.int 0)) (aCons (xC (.int 0)) aNil))))))))
  (sSeq (sFor (iList (xCall (fun2 f_law_places) (aCons (xSh 0) (aCons (xC (.str "cut")) aNil)))) (tgtT [2, 3])
  b_law_best_f2)
  (sRet (xSh 1)))) r
def f_law_best (a : D) : R D := bodyR (b_law_best (startE 7 [a]))
def b_law_parted_c1 (r : Env) : R D :=
  (xSh 6) r
def b_law_parted_t1 (r : Env) : R Bool :=
  (tB (xOp gtD (xB lenD (aCons (xIx (xPk 6) (xC (.int 2))) aNil)) (xC (.int 0)))) r
def b_law_parted (r : Env) : R Out :=
  (sSeq (sSet 5 (xL (lLst (aCons (xTup (aCons (xIx (xPk 0) (xC (.int 0))) (aCons (xC (.int 0)) (aCons (xSl (xIx (xPk 0) (xC (.int 2))) oNone (oSome (xPk 3))) aNil)))) (aCons (xTup (aCons (xSh 1) (aCons (xSh 2) (aCons (xSl (xIx (xPk 0) (xC (.int 2))) (oSome (xPk 3)) (oSome (xOp addD (xPk 3) (xPk 4)))) aNil)))) (aCons (xTup (aCons (xIx (xPk 0) (xC (.int 0))) (aCons (xC (.int 0)) (aCons (xSl (xIx (xPk 0) (xC (.int 2))) (oSome (xOp addD (xPk 3) (xPk 4))) oNone) aNil)))) aNil))))))
  (sRet (xL (lComp [6] (tgt1 6) b_law_parted_t1 b_law_parted_c1 (iList (xSh 5)))))) r
def f_law_parted (a b c d e : D) : R D := bodyR (b_law_parted (startE 7 [a, b, c, d, e]))
def b_law_with_blocks_f1 (r : Env) : R Out :=
  (sIf (tB (xOp eqD (xPk 4) (xIx (xPk 2) (xC (.int 1)))))
  (sSet 3 (xOp addD (xPk 3) (xCall (fun5 f_law_parted) (aCons (xIx (xPk 0) (xPk 4)) (aCons (xC (.str "take")) (aCons (xSh 1) (aCons (xIx (xPk 2) (xC (.int 2))) (aCons (xIx (xPk 2) (xC (.int 0))) aNil))))))))
  (sIf (tB (xOp eqD (xPk 4) (xIx (xPk 2) (xC (.int 3)))))
  (sSet 3 (xOp addD (xPk 3) (xCall (fun5 f_law_parted) (aCons (xIx (xPk 0) (xPk 4)) (aCons (xC (.str "lay")) (aCons (xSh 1) (aCons (xIx (xPk 2) (xC (.int 4))) (aCons (xIx (xPk 2) (xC (.int 0))) aNil))))))))
  (sSet 3 (xOp addD (xPk 3) (xL (lLst (aCons (xIx (xPk 0) (xPk 4)) aNil))))))) r
def b_law_with_blocks_w1 (r : Env) : R Out :=
  (sSeq (sSet 3 (xL (lLst aNil)))
  (sSeq (sFor (iR1 (xB lenD (aCons (xPk 0) aNil))) (tgt1 4)
  b_law_with_blocks_f1)
  (sSeq (sSet 0 (xSh 3))
  (sSeq (sSet 1 (xOp addD (xPk 1) (xC (.int 1))))
  (sSet 2 (xCall (fun1 f_law_best) (aCons (xSh 0) aNil))))))) r
def b_law_with_blocks_v1 (r : Env) : R Bool :=
  (tB (xOp gtD (xIx (xPk 2) (xC (.int 0))) (xC (.int 1)))) r
def b_law_with_blocks_s1 (r : Env) : R Out :=
  (sSet 1 (xC (.int 1))) r
def b_law_with_blocks_s2 (r : Env) : R Out :=
  (sSet 2 (xCall (fun1 f_law_best) (aCons (xSh 0) aNil))) r
def b_law_with_blocks_s3 (r : Env) : R Out :=
  (whileR b_law_with_blocks_v1
  b_law_with_blocks_w1 100000) r
def b_law_with_blocks_s4 (r : Env) : R Out :=
  (sRet (xSh 0)) r
def b_law_with_blocks (r : Env) : R Out :=
  (sSeq b_law_with_blocks_s1
  (sSeq b_law_with_blocks_s2
  (sSeq b_law_with_blocks_s3
  b_law_with_blocks_s4))) r
def f_law_with_blocks (a : D) : R D := bodyR (b_law_with_blocks (startE 5 [a]))
def b_law_long_c1 (r : Env) : R D :=
  (xTup (aCons (xC (.str "keep")) (aCons (xC (.int 0)) (aCons (xTup (aCons (xC (.str "pa")) aNil)) aNil)))) r
def b_law_long_f1 (r : Env) : R Out :=
  (sPut 1 (xTup (aCons (xC (.str "cut")) (aCons (xC (.int 0)) (aCons (xTup (aCons (xC (.str "pb")) (aCons (xC (.str "pc")) aNil))) aNil)))) (xOp modD (xOp addD (xPk 0) (xOp mulD (xC (.int 37)) (xPk 2))) (xC (.int 100)))) r
def b_law_long_f2 (r : Env) : R Out :=
  (sPut 1 (xTup (aCons (xC (.str "put")) (aCons (xC (.int 0)) (aCons (xTup (aCons (xC (.str "pb")) (aCons (xC (.str "pc")) aNil))) aNil)))) (xOp modD (xOp addD (xOp divD (xPk 0) (xC (.int 100))) (xOp mulD (xC (.int 29)) (xPk 2))) (xC (.int 100)))) r
def b_law_long (r : Env) : R Out :=
  (sSeq (sComp true 1 (lComp [2] (tgt1 2) tYes b_law_long_c1 (iR1 (xC (.int 100)))))
  (sSeq (sFor (iR1 (xC (.int 2))) (tgt1 2)
  b_law_long_f1)
  (sSeq (sFor (iR1 (xC (.int 4))) (tgt1 2)
  b_law_long_f2)
  (sFz 1 (sRet (xSh 1)))))) r
def f_law_long (a : D) : R D := bodyR (b_law_long (startE 3 [a]))
def b_law_k10_s1 (r : Env) : R Out :=
  (sSet 1 (xCall (fun2 f_law_way) (aCons (xSh 0) (aCons (xC (.int 9)) aNil)))) r
def b_law_k10_s2 (r : Env) : R Out :=
  (sSet 2 (xCall (fun1 f_law_telling) (aCons (xSh 1) aNil))) r
def b_law_k10_s3 (r : Env) : R Out :=
  (sIf (tB (xOp eqD (xOp modD (xCall (fun2 f_law_cell_at) (aCons (xSh 0) (aCons (xC (.int 2)) aNil))) (xC (.int 40))) (xC (.int 7))))
  (sSet 2 (xCall (fun1 f_law_long) (aCons (xOp divD (xCall (fun2 f_law_cell_at) (aCons (xSh 0) (aCons (xC (.int 2)) aNil))) (xC (.int 40))) aNil)))
  sNil) r
def b_law_k10_s4 (r : Env) : R Out :=
  (sSet 3 (xCall (fun1 f_with_blocks) (aCons (xL (lList (xPk 2))) aNil))) r
def b_law_k10_s5 (r : Env) : R Out :=
  (sIf (tOr (tNot (tB (xCall (fun1 f_law_rows_told) (aCons (xSh 3) aNil)))) (tB (xOp neD (xPk 3) (xCall (fun1 f_law_with_blocks) (aCons (xSh 2) aNil)))))
  (sRet (xC (.bl false)))
  sNil) r
def b_law_k10_s6 (r : Env) : R Out :=
  (sSet 4 (xCall (fun2 f_law_side) (aCons (xSh 1) (aCons (xC (.str "cut")) aNil)))) r
def b_law_k10_s7 (r : Env) : R Out :=
  (sSet 5 (xCall (fun2 f_law_side) (aCons (xSh 1) (aCons (xC (.str "put")) aNil)))) r
def b_law_k10_s8 (r : Env) : R Out :=
  (sSet 6 (xCall (fun2 f_told) (aCons (xL (lList (xPk 4))) (aCons (xL (lList (xPk 5))) aNil)))) r
def b_law_k10_s9 (r : Env) : R Out :=
  (sSet 7 (xL (lLst (aCons (xL (lList (xPk 4))) (aCons (xL (lList (xPk 5))) aNil))))) r
def b_law_k10_s10 (r : Env) : R Out :=
  (sSet 3 (xCall (fun2 f_changed) (aCons (xIx (xPk 7) (xC (.int 0))) (aCons (xIx (xPk 7) (xC (.int 1))) aNil)))) r
def b_law_k10_s11 (r : Env) : R Out :=
  (sIf (tOr (tB (xOp neD (xIx (xPk 7) (xC (.int 0))) (xPk 4))) (tOr (tB (xOp neD (xIx (xPk 7) (xC (.int 1))) (xPk 5))) (tOr (tNot (tB (xCall (fun1 f_law_rows_told) (aCons (xSh 6) aNil)))) (tNot (tB (xCall (fun1 f_law_rows_told) (aCons (xSh 3) aNil)))))))
  (sRet (xC (.bl false)))
  sNil) r
def b_law_k10_s12 (r : Env) : R Out :=
  (sRet (xOp eqD (xPk 3) (xCall (fun1 f_law_with_blocks) (aCons (xSh 6) aNil)))) r
def b_law_k10 (r : Env) : R Out :=
  (sSeq b_law_k10_s1
  (sSeq b_law_k10_s2
  (sSeq b_law_k10_s3
  (sSeq b_law_k10_s4
  (sSeq b_law_k10_s5
  (sSeq b_law_k10_s6
  (sSeq b_law_k10_s7
  (sSeq b_law_k10_s8
  (sSeq b_law_k10_s9
  (sSeq b_law_k10_s10
  (sSeq b_law_k10_s11
  b_law_k10_s12))))))))))) r
def f_law_k10 (a : D) : R D := bodyR (b_law_k10 (startE 8 [a]))
def b_number_of_c1 (r : Env) : R D :=
  (xOp inD (xPk 1) (xC (.str "0123456789"))) r
def b_number_of (r : Env) : R Out :=
  (sSeq (sIf (tOr (tNot (tB (xChain leD leD (xC (.int 1)) (xB lenD (aCons (xPk 0) aNil)) (xC (.int 9))))) (tB (xOp eqD (xIx (xPk 0) (xC (.int 0))) (xC (.str "0")))))
  (sRaise .noRow)
  sNil)
  (sSeq (sIf (tNot (tB (xB allD (aCons (xL (lComp [1] (tgt1 1) tYes b_number_of_c1 (iStr (xPk 0)))) aNil))))
  (sRaise .noRow)
  sNil)
  (sRet (xB intD (aCons (xPk 0) aNil))))) r
def f_number_of (a : D) : R D := bodyR (b_number_of (startE 2 [a]))
def b_row_by (r : Env) : R Out :=
  (sSeq (sSet 1 (xL (lSplit (xPk 0) (xC (.str " ")))))
  (sSeq (sIf (tOr (tB (xOp neD (xB lenD (aCons (xIx (xPk 1) (xC (.int 0))) aNil)) (xC (.int 1)))) (tB (xOp ninD (xIx (xPk 1) (xC (.int 0))) (xC (.str "=-+<>")))))
  (sRaise .noRow)
  sNil)
  (sSeq (sSet 2 (xIx (xC (.tup [(.str "keep"), (.str "cut"), (.str "put"), (.str "take"), (.str "lay")])) (xSindex "=-+<>" (xIx (xPk 1) (xC (.int 0))))))
  (sSeq (sIf (tOr (tB (xOp eqD (xPk 2) (xC (.str "take")))) (tB (xOp eqD (xPk 2) (xC (.str "lay")))))
  (sSeq (sIf (tB (xOp ltD (xB lenD (aCons (xPk 1) aNil)) (xC (.int 2))))
  (sRaise .noRow)
  sNil)
  (sRet (xTup (aCons (xSh 2) (aCons (xCall (fun1 f_number_of) (aCons (xIx (xPk 1) (xC (.int 1))) aNil)) (aCons (xB tupleD (aCons (xSl (xPk 1) (oSome (xC (.int 2))) oNone) aNil)) aNil))))))
  sNil)
  (sRet (xTup (aCons (xSh 2) (aCons (xC (.int 0)) (aCons (xB tupleD (aCons (xSl (xPk 1) (oSome (xC (.int 1))) oNone) aNil)) aNil))))))))) r
def f_row_by (a : D) : R D := bodyR (b_row_by (startE 3 [a]))
def b_read_c1 (r : Env) : R D :=
  (xCall (fun1 f_row_by) (aCons (xSh 2) aNil)) r
def b_read (r : Env) : R Out :=
  (sSeq (sIf (tNot (tB (xIsi "str" (xPk 0))))
  (sRaise .noRow)
  sNil)
  (sSeq (sIf (tB (xOp eqD (xPk 0) (xC (.str ""))))
  (sRet (xL (lLst aNil)))
  sNil)
  (sSeq (sComp false 1 (lComp [2] (tgt1 2) tYes b_read_c1 (iList (xL (lSplit (xPk 0) (xC (.str "\n")))))))
  (sSeq (sExpr (xCall (fun1 f_need_rows) (aCons (xSh 1) aNil)))
  (sRet (xSh 1)))))) r
def f_read (a : D) : R D := bodyR (b_read (startE 3 [a]))
def b_law_line_f1 (r : Env) : R Out :=
  (sSet 1 (xOp addD (xOp addD (xPk 1) (xC (.str " "))) (xPk 2))) r
def b_law_line (r : Env) : R Out :=
  (sSeq (sSet 1 (xDget [("keep", "="), ("cut", "-"), ("put", "+"), ("take", "<"), ("lay", ">")] (xIx (xPk 0) (xC (.int 0)))))
  (sSeq (sIf (tOr (tB (xOp eqD (xIx (xPk 0) (xC (.int 0))) (xC (.str "take")))) (tB (xOp eqD (xIx (xPk 0) (xC (.int 0))) (xC (.str "lay")))))
  (sSet 1 (xOp addD (xOp addD (xPk 1) (xC (.str " "))) (xB strD (aCons (xIx (xPk 0) (xC (.int 1))) aNil))))
  sNil)
  (sSeq (sFor (iTup (xIx (xPk 0) (xC (.int 2)))) (tgt1 2)
  b_law_line_f1)
  (sRet (xSh 1))))) r
def f_law_line (a : D) : R D := bodyR (b_law_line (startE 3 [a]))
def b_law_k11_c1 (r : Env) : R D :=
  (xCall (fun2 f_law_any_row) (aCons (xSh 1) (aCons (xSh 3) aNil))) r
def b_law_k11_f1 (r : Env) : R Out :=
  (sSeq (sIf (tB (xOp gtD (xPk 5) (xC (.int 0))))
  (sSet 4 (xOp addD (xPk 4) (xC (.str "\n"))))
  sNil)
  (sSet 4 (xOp addD (xPk 4) (xCall (fun1 f_law_line) (aCons (xIx (xPk 2) (xPk 5)) aNil))))) r
def b_law_k11_s1 (r : Env) : R Out :=
  (sSet 1 (xCall (fun1 f_law_menu) (aCons (xSh 0) aNil))) r
def b_law_k11_s2 (r : Env) : R Out :=
  (sComp false 2 (lComp [3] (tgt1 3) tYes b_law_k11_c1 (iList (xSl (xPk 0) (oSome (xC (.int 4))) (oSome (xC (.int 34))))))) r
def b_law_k11_s3 (r : Env) : R Out :=
  (sSet 4 (xC (.str ""))) r
def b_law_k11_s4 (r : Env) : R Out :=
  (sFor (iR1 (xB lenD (aCons (xPk 2) aNil))) (tgt1 5)
  b_law_k11_f1) r
def b_law_k11_s5 (r : Env) : R Out :=
  (sSet 6 (xL (lList (xPk 2)))) r
def b_law_k11_s6 (r : Env) : R Out :=
  (sSet 7 (xCall (fun1 f_written) (aCons (xSh 6) aNil))) r
def b_law_k11_s7 (r : Env) : R Out :=
  (sIf (tOr (tB (xOp neD (xPk 6) (xPk 2))) (tOr (tNot (tB (xIsi "str" (xPk 7)))) (tB (xOp neD (xPk 7) (xPk 4)))))
  (sRet (xC (.bl false)))
  sNil) r
def b_law_k11_s8 (r : Env) : R Out :=
  (sSet 8 (xCall (fun1 f_read) (aCons (xSh 7) aNil))) r
def b_law_k11_s9 (r : Env) : R Out :=
  (sRet (xAnd (xCall (fun1 f_law_rows_told) (aCons (xSh 8) aNil)) (xOp eqD (xPk 8) (xPk 2)))) r
def b_law_k11 (r : Env) : R Out :=
  (sSeq b_law_k11_s1
  (sSeq b_law_k11_s2
  (sSeq b_law_k11_s3
  (sSeq b_law_k11_s4
  (sSeq b_law_k11_s5
  (sSeq b_law_k11_s6
  (sSeq b_law_k11_s7
  (sSeq b_law_k11_s8
  b_law_k11_s9)))))))) r
def f_law_k11 (a : D) : R D := bodyR (b_law_k11 (startE 9 [a]))
def b_read_k12_c1 (r : Env) : R D :=
  (xCall (fun1 f_row_by) (aCons (xSh 2) aNil)) r
def b_read_k12 (r : Env) : R Out :=
  (sSeq (sIf (tNot (tB (xIsi "str" (xPk 0))))
  (sRaise .noRow)
  sNil)
  (sSeq (sIf (tB (xOp eqD (xPk 0) (xC (.str ""))))
  (sRet (xL (lLst aNil)))
  sNil)
  (sSeq (sComp false 1 (lCompX [2] (tgt1 2) tYes b_read_k12_c1 (iList (xL (lSplit (xPk 0) (xC (.str "\n")))))))
  (sSeq (sExpr (xCall (fun1 f_need_rows) (aCons (xSh 1) aNil)))
  (sRet (xSh 1)))))) r
def f_read_k12 (a : D) : R D := bodyR (b_read_k12 (startE 3 [a]))
def b_law_figures (r : Env) : R Out :=
  (sSeq (sSet 1 (xL (lLst (aCons (xC (.str "1")) (aCons (xC (.str "7")) (aCons (xC (.str "10")) (aCons (xC (.str "999999999")) (aCons (xC (.str "1000000000")) (aCons (xC (.str "0")) (aCons (xC (.str "01")) (aCons (xC (.str "-1")) (aCons (xC (.str "+1")) (aCons (xC (.str "")) (aCons (xC (.str "1a")) (aCons (xC (.str "123456789")) (aCons (xC (.str "90")) (aCons (xC (.str "_1")) aNil)))))))))))))))))
  (sRet (xIx (xPk 1) (xOp modD (xPk 0) (xC (.int 14)))))) r
def f_law_figures (a : D) : R D := bodyR (b_law_figures (startE 2 [a]))
def b_law_line_k12_f1 (r : Env) : R Out :=
  (sSet 4 (xOp addD (xOp addD (xPk 4) (xC (.str " "))) (xIx (xPk 3) (xOp modD (xOp divD (xCall (fun2 f_law_cell_at) (aCons (xSh 0) (aCons (xOp addD (xPk 1) (xC (.int 3))) aNil))) (xOp addD (xPk 5) (xC (.int 1)))) (xC (.int 12)))))) r
def b_law_line_k12 (r : Env) : R Out :=
  (sSeq (sSet 2 (xIx (xL (lLst (aCons (xC (.str "=")) (aCons (xC (.str "-")) (aCons (xC (.str "+")) (aCons (xC (.str "<")) (aCons (xC (.str ">")) (aCons (xC (.str "<")) (aCons (xC (.str ">")) (aCons (xC (.str "*")) (aCons (xC (.str "")) aNil))))))))))) (xOp modD (xCall (fun2 f_law_cell_at) (aCons (xSh 0) (aCons (xSh 1) aNil))) (xC (.int 9)))))
  (sSeq (sSet 3 (xCall (fun1 f_law_menu) (aCons (xSh 0) aNil)))
  (sSeq (sSet 4 (xSh 2))
  (sSeq (sIf (tOr (tB (xOp inD (xPk 2) (xTup (aCons (xC (.str "<")) (aCons (xC (.str ">")) aNil))))) (tB (xOp eqD (xOp modD (xCall (fun2 f_law_cell_at) (aCons (xSh 0) (aCons (xOp addD (xPk 1) (xC (.int 1))) aNil))) (xC (.int 8))) (xC (.int 1)))))
  (sSet 4 (xOp addD (xOp addD (xPk 4) (xC (.str " "))) (xCall (fun1 f_law_figures) (aCons (xOp divD (xCall (fun2 f_law_cell_at) (aCons (xSh 0) (aCons (xOp addD (xPk 1) (xC (.int 1))) aNil))) (xC (.int 8))) aNil))))
  sNil)
  (sSeq (sFor (iR1 (xOp addD (xOp modD (xCall (fun2 f_law_cell_at) (aCons (xSh 0) (aCons (xOp addD (xPk 1) (xC (.int 2))) aNil))) (xC (.int 3))) (xB intD (aCons (xOp gtD (xOp modD (xCall (fun2 f_law_cell_at) (aCons (xSh 0) (aCons (xOp addD (xPk 1) (xC (.int 2))) aNil))) (xC (.int 4))) (xC (.int 0))) aNil)))) (tgt1 5)
  b_law_line_k12_f1)
  (sRet (xSh 4))))))) r
def f_law_line_k12 (a b : D) : R D := bodyR (b_law_line_k12 (startE 6 [a, b]))
def b_law_spoilt_s1 (r : Env) : R Out :=
  (sIf (tB (xOp eqD (xOp modD (xPk 1) (xC (.int 4))) (xC (.int 1))))
  (sSeq (sSet 3 (xOp modD (xPk 2) (xOp addD (xB lenD (aCons (xPk 0) aNil)) (xC (.int 1)))))
  (sRet (xOp addD (xOp addD (xSl (xPk 0) oNone (oSome (xPk 3))) (xIx (xL (lLst (aCons (xC (.str " ")) (aCons (xC (.str "\n")) (aCons (xC (.str "=")) (aCons (xC (.str "0")) (aCons (xC (.str "x")) (aCons (xC (.str "<")) (aCons (xC (.str "\t")) (aCons (xC (.str "9")) (aCons (xC (.str "-")) (aCons (xC (.str ">")) (aCons (xC (.str "+")) aNil))))))))))))) (xOp modD (xOp divD (xPk 1) (xC (.int 4))) (xC (.int 11))))) (xSl (xPk 0) (oSome (xPk 3)) oNone))))
  sNil) r
def b_law_spoilt_s2 (r : Env) : R Out :=
  (sIf (tAnd (tB (xOp eqD (xOp modD (xPk 1) (xC (.int 4))) (xC (.int 2)))) (tB (xOp neD (xPk 0) (xC (.str "")))))
  (sSeq (sSet 3 (xOp modD (xPk 2) (xB lenD (aCons (xPk 0) aNil))))
  (sRet (xOp addD (xSl (xPk 0) oNone (oSome (xPk 3))) (xSl (xPk 0) (oSome (xOp addD (xPk 3) (xC (.int 1)))) oNone))))
  sNil) r
def b_law_spoilt_s3 (r : Env) : R Out :=
  (sIf (tAnd (tB (xOp eqD (xOp modD (xPk 1) (xC (.int 8))) (xC (.int 3)))) (tB (xOp inD (xC (.str " ")) (xPk 0))))
  (sSeq (sSet 4 (xL (lSplit (xPk 0) (xC (.str " ")))))
  (sSeq (sSet 3 (xOp addD (xC (.int 1)) (xOp modD (xPk 2) (xOp subD (xB lenD (aCons (xPk 4) aNil)) (xC (.int 1))))))
  (sRet (xOp addD (xOp addD (xJoin (xC (.str " ")) (xSl (xPk 4) oNone (oSome (xPk 3)))) (xIx (xL (lLst (aCons (xC (.str "  ")) (aCons (xC (.str "\t")) (aCons (xC (.str " \t")) (aCons (xC (.str "   ")) aNil)))))) (xOp modD (xOp divD (xPk 1) (xC (.int 8))) (xC (.int 4))))) (xJoin (xC (.str " ")) (xSl (xPk 4) (oSome (xPk 3)) oNone))))))
  sNil) r
def b_law_spoilt_s4 (r : Env) : R Out :=
  (sRet (xSh 0)) r
def b_law_spoilt (r : Env) : R Out :=
  (sSeq b_law_spoilt_s1
  (sSeq b_law_spoilt_s2
  (sSeq b_law_spoilt_s3
  b_law_spoilt_s4))) r
def f_law_spoilt (a b c : D) : R D := bodyR (b_law_spoilt (startE 5 [a, b, c]))
def b_law_number_f1 (r : Env) : R Out :=
  (sIf (tB (xOp ninD (xPk 1) (xC (.str "0123456789"))))
  (sRet (xC (.int 0)))
  sNil) r
def b_law_number (r : Env) : R Out :=
  (sSeq (sIf (tOr (tNot (tB (xChain leD leD (xC (.int 1)) (xB lenD (aCons (xPk 0) aNil)) (xC (.int 9))))) (tB (xOp eqD (xIx (xPk 0) (xC (.int 0))) (xC (.str "0")))))
  (sRet (xC (.int 0)))
  sNil)
  (sSeq (sFor (iStr (xPk 0)) (tgt1 1)
  b_law_number_f1)
  (sRet (xB intD (aCons (xPk 0) aNil))))) r
def f_law_number (a : D) : R D := bodyR (b_law_number (startE 2 [a]))
def b_law_word_c1 (r : Env) : R D :=
  (xAnd (xChain leD leD (xC (.int 33)) (xB ordD (aCons (xPk 1) aNil)) (xC (.int 126))) (xOp neD (xB ordD (aCons (xPk 1) aNil)) (xC (.int 37)))) r
def b_law_word (r : Env) : R Out :=
  (sSeq (sIf (tNot (tB (xChain leD leD (xC (.int 1)) (xB lenD (aCons (xPk 0) aNil)) (xC (.int 40)))))
  (sRet (xC (.bl false)))
  sNil)
  (sRet (xB allD (aCons (xL (lComp [1] (tgt1 1) tYes b_law_word_c1 (iStr (xPk 0)))) aNil)))) r
def f_law_word (a : D) : R D := bodyR (b_law_word (startE 2 [a]))
def b_law_row_c1 (r : Env) : R D :=
  (xCall (fun1 f_law_word) (aCons (xSh 5) aNil)) r
def b_law_row_s1 (r : Env) : R Out :=
  (sSet 1 (xL (lSplit (xPk 0) (xC (.str " "))))) r
def b_law_row_s2 (r : Env) : R Out :=
  (sSet 2 (xC (.dic (L2.mergeK [] [(.inr "=", .str "keep"), (.inr "-", .str "cut"), (.inr "+", .str "put"), (.inr "<", .str "take"), (.inr ">", .str "lay")])))) r
def b_law_row_s3 (r : Env) : R Out :=
  (sIf (tB (xOp dninD (xIx (xPk 1) (xC (.int 0))) (xPk 2)))
  (sRet (xC .non))
  sNil) r
def b_law_row_s4 (r : Env) : R Out :=
  (sSet 3 (xC (.int 0))) r
def b_law_row_s5 (r : Env) : R Out :=
  (sSet 4 (xSl (xPk 1) (oSome (xC (.int 1))) oNone)) r
def b_law_row_s6 (r : Env) : R Out :=
  (sIf (tOr (tB (xOp eqD (xIx (xPk 1) (xC (.int 0))) (xC (.str "<")))) (tB (xOp eqD (xIx (xPk 1) (xC (.int 0))) (xC (.str ">")))))
  (sSeq (sSet 3 (xCall (fun1 f_law_number) (aCons (xIx (xOp addD (xPk 4) (xL (lLst (aCons (xC (.str "")) aNil)))) (xC (.int 0))) aNil)))
  (sSeq (sSet 4 (xSl (xPk 4) (oSome (xC (.int 1))) oNone))
  (sIf (tB (xOp eqD (xPk 3) (xC (.int 0))))
  (sRet (xC .non))
  sNil)))
  sNil) r
def b_law_row_s7 (r : Env) : R Out :=
  (sIf (tOr (tB (xOp eqD (xPk 4) (xL (lLst aNil)))) (tNot (tB (xB allD (aCons (xL (lComp [5] (tgt1 5) tYes b_law_row_c1 (iList (xSh 4)))) aNil)))))
  (sRet (xC .non))
  sNil) r
def b_law_row_s8 (r : Env) : R Out :=
  (sRet (xTup (aCons (xDix (xPk 2) (xIx (xPk 1) (xC (.int 0)))) (aCons (xSh 3) (aCons (xB tupleD (aCons (xPk 4) aNil)) aNil))))) r
def b_law_row (r : Env) : R Out :=
  (sSeq b_law_row_s1
  (sSeq b_law_row_s2
  (sSeq b_law_row_s3
  (sSeq b_law_row_s4
  (sSeq b_law_row_s5
  (sSeq b_law_row_s6
  (sSeq b_law_row_s7
  b_law_row_s8))))))) r
def f_law_row (a : D) : R D := bodyR (b_law_row (startE 6 [a]))
def b_law_tried_k12 (r : Env) : R Out :=
  (sSeq (sTry (sSet 1 (xCall (fun1 f_read_k12) (aCons (xSh 0) aNil))) [(mC [.noRow] .noRow, (sRet (xC .non)))])
  (sRet (xSh 1))) r
def f_law_tried_k12 (a : D) : R D := bodyR (b_law_tried_k12 (startE 2 [a]))
def b_law_any_k12 (r : Env) : R Out :=
  (sSeq (sTryAs (sExpr (xCall (fun1 f_read_k12) (aCons (xSh 0) aNil))) (mAll [.noRow]) 1 (fun _ _ => .ok (.rt (.bl true))))
  (sRet (xC (.bl false)))) r
def f_law_any_k12 (a : D) : R D := bodyR (b_law_any_k12 (startE 2 [a]))
def b_law_k12_c1 (r : Env) : R D :=
  (xCall (fun2 f_law_line_k12) (aCons (xSh 0) (aCons (xOp addD (xC (.int 6)) (xOp mulD (xC (.int 4)) (xPk 2))) aNil))) r
def b_law_k12_c2 (r : Env) : R D :=
  (xCall (fun1 f_law_row) (aCons (xSh 5) aNil)) r
def b_law_k12_s1 (r : Env) : R Out :=
  (sComp false 1 (lComp [2] (tgt1 2) tYes b_law_k12_c1 (iR1 (xOp modD (xCall (fun2 f_law_cell_at) (aCons (xSh 0) (aCons (xC (.int 4)) aNil))) (xC (.int 5)))))) r
def b_law_k12_s2 (r : Env) : R Out :=
  (sSet 3 (xCall (fun3 f_law_spoilt) (aCons (xJoin (xC (.str "\n")) (xPk 1)) (aCons (xCall (fun2 f_law_cell_at) (aCons (xSh 0) (aCons (xC (.int 5)) aNil))) (aCons (xOp divD (xCall (fun2 f_law_cell_at) (aCons (xSh 0) (aCons (xC (.int 4)) aNil))) (xC (.int 5))) aNil))))) r
def b_law_k12_s3 (r : Env) : R Out :=
  (sSet 4 (xL (lLst aNil))) r
def b_law_k12_s4 (r : Env) : R Out :=
  (sIf (tB (xOp neD (xPk 3) (xC (.str ""))))
  (sComp false 4 (lComp [5] (tgt1 5) tYes b_law_k12_c2 (iList (xL (lSplit (xPk 3) (xC (.str "\n")))))))
  sNil) r
def b_law_k12_s5 (r : Env) : R Out :=
  (sSet 6 (xCall (fun1 f_law_tried_k12) (aCons (xSh 3) aNil))) r
def b_law_k12_s6 (r : Env) : R Out :=
  (sIf (tB (xOp inD (xC .non) (xPk 4)))
  (sRet (xAnd (xOp isND (xPk 6) (xC .non)) (xCall (fun1 f_law_any_k12) (aCons (xSh 3) aNil))))
  sNil) r
def b_law_k12_s7 (r : Env) : R Out :=
  (sRet (xAnd (xCall (fun1 f_law_rows_told) (aCons (xSh 6) aNil)) (xAnd (xOp eqD (xPk 6) (xPk 4)) (xNot (xCall (fun1 f_law_any_k12) (aCons (xSh 3) aNil)))))) r
def b_law_k12 (r : Env) : R Out :=
  (sSeq b_law_k12_s1
  (sSeq b_law_k12_s2
  (sSeq b_law_k12_s3
  (sSeq b_law_k12_s4
  (sSeq b_law_k12_s5
  (sSeq b_law_k12_s6
  b_law_k12_s7)))))) r
def f_law_k12 (a : D) : R D := bodyR (b_law_k12 (startE 7 [a]))
def b_law_plain_f1 (r : Env) : R Out :=
  (sSeq (sSet 3 (xDget [("keep", "keep"), ("cut", "cut"), ("put", "put"), ("take", "cut"), ("lay", "put")] (xIx (xPk 2) (xC (.int 0)))))
  (sIf (tAnd (tB (xOp neD (xPk 1) (xL (lLst aNil)))) (tB (xOp eqD (xIx (xIx (xPk 1) (xNeg (xC (.int 1)))) (xC (.int 0))) (xPk 3))))
  (sPut 1 (xTup (aCons (xSh 3) (aCons (xC (.int 0)) (aCons (xOp addD (xIx (xIx (xPk 1) (xNeg (xC (.int 1)))) (xC (.int 2))) (xIx (xPk 2) (xC (.int 2)))) aNil)))) (xNeg (xC (.int 1))))
  (sApp 1 (xTup (aCons (xSh 3) (aCons (xC (.int 0)) (aCons (xIx (xPk 2) (xC (.int 2))) aNil))))))) r
def b_law_plain (r : Env) : R Out :=
  (sSeq (sOwn 1 (lLst aNil))
  (sSeq (sFor (iList (xSh 0)) (tgt1 2)
  b_law_plain_f1)
  (sFz 1 (sRet (xSh 1))))) r
def f_law_plain (a : D) : R D := bodyR (b_law_plain (startE 4 [a]))
def b_law_k13_c1 (r : Env) : R D :=
  (xSh 5) r
def b_law_k13_t1 (r : Env) : R Bool :=
  (tOr (tB (xOp eqD (xIx (xPk 5) (xC (.int 0))) (xC (.str "take")))) (tB (xOp eqD (xIx (xPk 5) (xC (.int 0))) (xC (.str "lay"))))) r
def b_law_k13_c2 (r : Env) : R D :=
  (xB lenD (aCons (xIx (xPk 7) (xC (.int 1))) aNil)) r
def b_law_k13_t2 (r : Env) : R Bool :=
  (tB (xOp neD (xIx (xPk 7) (xC (.int 0))) (xC (.str "keep")))) r
def b_law_k13_c3 (r : Env) : R D :=
  (xSh 9) r
def b_law_k13_t3 (r : Env) : R Bool :=
  (tB (xOp inD (xPk 9) (xCall (fun2 f_law_pairs) (aCons (xSh 8) (aCons (xC (.str "put")) aNil))))) r
def b_law_k13_s1 (r : Env) : R Out :=
  (sSet 1 (xCall (fun2 f_law_way_k07) (aCons (xSh 0) (aCons (xC (.int 15)) aNil)))) r
def b_law_k13_s2 (r : Env) : R Out :=
  (sSet 2 (xCall (fun2 f_law_side) (aCons (xSh 1) (aCons (xC (.str "cut")) aNil)))) r
def b_law_k13_s3 (r : Env) : R Out :=
  (sSet 3 (xCall (fun2 f_law_side) (aCons (xSh 1) (aCons (xC (.str "put")) aNil)))) r
def b_law_k13_s4 (r : Env) : R Out :=
  (sSet 4 (xCall (fun2 f_told) (aCons (xL (lList (xPk 2))) (aCons (xL (lList (xPk 3))) aNil)))) r
def b_law_k13_s5 (r : Env) : R Out :=
  (sIf (tOr (tNot (tB (xCall (fun1 f_law_rows_told) (aCons (xSh 4) aNil)))) (tB (xOp neD (xCall (fun2 f_law_walked) (aCons (xSh 4) (aCons (xSh 2) aNil))) (xPk 3))))
  (sRet (xC (.bl false)))
  sNil) r
def b_law_k13_s6 (r : Env) : R Out :=
  (sIf (tB (xOp neD (xL (lComp [5] (tgt1 5) b_law_k13_t1 b_law_k13_c1 (iList (xSh 4)))) (xL (lLst aNil))))
  (sRet (xC (.bl false)))
  sNil) r
def b_law_k13_s7 (r : Env) : R Out :=
  (sSet 6 (xB sumD (aCons (xL (lComp [7] (tgt1 7) b_law_k13_t2 b_law_k13_c2 (iList (xSh 1)))) aNil))) r
def b_law_k13_s8 (r : Env) : R Out :=
  (sIf (tB (xOp gtD (xCall (fun1 f_law_price) (aCons (xSh 4) aNil)) (xPk 6)))
  (sRet (xC (.bl false)))
  sNil) r
def b_law_k13_s9 (r : Env) : R Out :=
  (sSet 8 (xCall (fun2 f_changed) (aCons (xL (lList (xPk 2))) (aCons (xL (lList (xPk 3))) aNil)))) r
def b_law_k13_s10 (r : Env) : R Out :=
  (sIf (tOr (tNot (tB (xCall (fun1 f_law_rows_told) (aCons (xSh 8) aNil)))) (tOr (tB (xOp neD (xCall (fun2 f_law_walked) (aCons (xSh 8) (aCons (xSh 2) aNil))) (xPk 3))) (tNot (tB (xCall (fun1 f_law_blocks) (aCons (xSh 8) aNil))))))
  (sRet (xC (.bl false)))
  sNil) r
def b_law_k13_s11 (r : Env) : R Out :=
  (sIf (tB (xOp neD (xL (lComp [9] (tgt1 9) b_law_k13_t3 b_law_k13_c3 (iList (xCall (fun2 f_law_pairs) (aCons (xSh 8) (aCons (xC (.str "cut")) aNil)))))) (xL (lLst aNil))))
  (sRet (xC (.bl false)))
  sNil) r
def b_law_k13_s12 (r : Env) : R Out :=
  (sRet (xAnd (xOp eqD (xCall (fun1 f_law_plain) (aCons (xSh 8) aNil)) (xPk 4)) (xOp leD (xCall (fun1 f_law_price) (aCons (xSh 8) aNil)) (xCall (fun1 f_law_price) (aCons (xSh 4) aNil))))) r
def b_law_k13 (r : Env) : R Out :=
  (sSeq b_law_k13_s1
  (sSeq b_law_k13_s2
  (sSeq b_law_k13_s3
  (sSeq b_law_k13_s4
  (sSeq b_law_k13_s5
  (sSeq b_law_k13_s6
  (sSeq b_law_k13_s7
  (sSeq b_law_k13_s8
  (sSeq b_law_k13_s9
  (sSeq b_law_k13_s10
  (sSeq b_law_k13_s11
  b_law_k13_s12))))))))))) r
def f_law_k13 (a : D) : R D := bodyR (b_law_k13 (startE 10 [a]))
def b_law_texts_k14_c1 (r : Env) : R D :=
  (xIx (xPk 1) (xOp modD (xOp addD (xOp divD (xPk 3) (xC (.int 7))) (xPk 5)) (xC (.int 12)))) r
def b_law_texts_k14_f1 (r : Env) : R Out :=
  (sIf (tB (xOp eqD (xOp modD (xOp divD (xOp addD (xC (.int 1)) (xOp modD (xPk 3) (xC (.int 7)))) (xIx (xL (lLst (aCons (xC (.int 1)) (aCons (xC (.int 2)) (aCons (xC (.int 4)) aNil))))) (xPk 5))) (xC (.int 2))) (xC (.int 1))))
  (sPut 2 (xOp addD (xIx (xPk 2) (xPk 5)) (xPk 4)) (xSh 5))
  sNil) r
def b_law_texts_k14_f2 (r : Env) : R Out :=
  (sSeq (sComp false 4 (lComp [5] (tgt1 5) tYes b_law_texts_k14_c1 (iR1 (xIx (xL (lLst (aCons (xC (.int 1)) (aCons (xC (.int 1)) (aCons (xC (.int 2)) (aCons (xC (.int 3)) aNil)))))) (xOp modD (xOp modD (xOp mulD (xPk 3) (xC (.int 48271))) (xC (.int 1009))) (xC (.int 4)))))))
  (sFor (iR1 (xC (.int 3))) (tgt1 5)
  b_law_texts_k14_f1)) r
def b_law_texts_k14 (r : Env) : R Out :=
  (sSeq (sSet 1 (xCall (fun1 f_law_menu) (aCons (xSh 0) aNil)))
  (sSeq (sOwn 2 (lLst (aCons (xL (lLst aNil)) (aCons (xL (lLst aNil)) (aCons (xL (lLst aNil)) aNil)))))
  (sSeq (sFor (iList (xSl (xPk 0) (oSome (xC (.int 4))) (oSome (xC (.int 14))))) (tgt1 3)
  b_law_texts_k14_f2)
  (sFz 2 (sRet (xSh 2)))))) r
def f_law_texts_k14 (a : D) : R D := bodyR (b_law_texts_k14 (startE 6 [a]))
def b_law_bounds (r : Env) : R Out :=
  (sSeq (sIf (tOr (tB (xOp neD (xOp modD (xPk 2) (xC (.int 2))) (xOp modD (xOp addD (xB lenD (aCons (xPk 0) aNil)) (xB lenD (aCons (xPk 1) aNil))) (xC (.int 2))))) (tB (xOp gtD (xPk 2) (xOp addD (xB lenD (aCons (xPk 0) aNil)) (xB lenD (aCons (xPk 1) aNil))))))
  (sRet (xC (.bl false)))
  sNil)
  (sRet (xAnd (xOp geD (xPk 2) (xB max2D (aCons (xOp subD (xB lenD (aCons (xPk 0) aNil)) (xB lenD (aCons (xPk 1) aNil))) (aCons (xOp subD (xB lenD (aCons (xPk 1) aNil)) (xB lenD (aCons (xPk 0) aNil))) aNil)))) (xOp eqD (xOp eqD (xPk 2) (xC (.int 0))) (xOp eqD (xPk 0) (xPk 1)))))) r
def f_law_bounds (a b c : D) : R D := bodyR (b_law_bounds (startE 3 [a, b, c]))
def b_law_k14_f1 (r : Env) : R Out :=
  (sSeq (sSet 4 (xIx (xPk 1) (xPk 3)))
  (sSeq (sSet 5 (xIx (xPk 1) (xOp modD (xOp addD (xPk 3) (xC (.int 1))) (xC (.int 3)))))
  (sSeq (sSet 6 (xCall (fun2 f_apart) (aCons (xL (lList (xPk 4))) (aCons (xL (lList (xPk 5))) aNil))))
  (sSeq (sIf (tOr (tNot (tB (xCall (fun1 f_law_whole) (aCons (xSh 6) aNil)))) (tOr (tB (xOp neD (xPk 6) (xCall (fun2 f_apart) (aCons (xL (lList (xPk 5))) (aCons (xL (lList (xPk 4))) aNil))))) (tNot (tB (xCall (fun3 f_law_bounds) (aCons (xSh 4) (aCons (xSh 5) (aCons (xSh 6) aNil))))))))
  (sRet (xC (.bl false)))
  sNil)
  (sSeq (sIf (tB (xOp neD (xCall (fun1 f_cost) (aCons (xCall (fun2 f_told) (aCons (xL (lList (xPk 4))) (aCons (xL (lList (xPk 5))) aNil))) aNil)) (xPk 6)))
  (sRet (xC (.bl false)))
  sNil)
  (sApp 2 (xSh 6))))))) r
def b_law_k14_s1 (r : Env) : R Out :=
  (sSet 1 (xCall (fun1 f_law_texts_k14) (aCons (xSh 0) aNil))) r
def b_law_k14_s2 (r : Env) : R Out :=
  (sOwn 2 (lLst aNil)) r
def b_law_k14_s3 (r : Env) : R Out :=
  (sFor (iR1 (xC (.int 3))) (tgt1 3)
  b_law_k14_f1) r
def b_law_k14_s4 (r : Env) : R Out :=
  (sRet (xAnd (xOp leD (xIx (xPk 2) (xC (.int 0))) (xOp addD (xIx (xPk 2) (xC (.int 1))) (xIx (xPk 2) (xC (.int 2))))) (xAnd (xOp leD (xIx (xPk 2) (xC (.int 1))) (xOp addD (xIx (xPk 2) (xC (.int 0))) (xIx (xPk 2) (xC (.int 2))))) (xOp leD (xIx (xPk 2) (xC (.int 2))) (xOp addD (xIx (xPk 2) (xC (.int 0))) (xIx (xPk 2) (xC (.int 1)))))))) r
def b_law_k14 (r : Env) : R Out :=
  (sSeq b_law_k14_s1
  (sSeq b_law_k14_s2
  (sSeq b_law_k14_s3
  b_law_k14_s4))) r
def f_law_k14 (a : D) : R D := bodyR (b_law_k14 (startE 7 [a]))
@[simp] theorem lit_0aad7da7 : (Str.ofString "   ") = mkS [32, 32, 32] := by decide +kernel
@[simp] theorem lit_6c179f21 : (Str.ofString "  ") = mkS [32, 32] := by decide +kernel
@[simp] theorem lit_36a9e7f1 : (Str.ofString " ") = mkS [32] := by decide +kernel
@[simp] theorem lit_9b831818 : (Str.ofString " \n\t") = mkS [32, 10, 9] := by decide +kernel
@[simp] theorem lit_d7b7af63 : (Str.ofString " \t") = mkS [32, 9] := by decide +kernel
@[simp] theorem lit_7de598b3 : (Str.ofString " a") = mkS [32, 97] := by decide +kernel
@[simp] theorem lit_0c1f9256 : (Str.ofString "!\"#$&'()*+,-./0123456789:;<=>?@ABCDEFGHIJKLMNOPQRSTUVWXYZ[\\]^_`") = mkS [33, 34, 35, 36, 38, 39, 40, 41, 42, 43, 44, 45, 46, 47, 48, 49, 50, 51, 52, 53, 54, 55, 56, 57, 58, 59, 60, 61, 62, 63, 64, 65, 66, 67, 68, 69, 70, 71, 72, 73, 74, 75, 76, 77, 78, 79, 80, 81, 82, 83, 84, 85, 86, 87, 88, 89, 90, 91, 92, 93, 94, 95, 96] := by decide +kernel
@[simp] theorem lit_e3b0c442 : (Str.ofString "") = mkS [] := by decide +kernel
@[simp] theorem lit_684888c0 : (Str.ofString "*") = mkS [42] := by decide +kernel
@[simp] theorem lit_a318c242 : (Str.ofString "+") = mkS [43] := by decide +kernel
@[simp] theorem lit_c59dc4e4 : (Str.ofString "+1") = mkS [43, 49] := by decide +kernel
@[simp] theorem lit_3973e022 : (Str.ofString "-") = mkS [45] := by decide +kernel
@[simp] theorem lit_1bad6b8c : (Str.ofString "-1") = mkS [45, 49] := by decide +kernel
@[simp] theorem lit_5feceb66 : (Str.ofString "0") = mkS [48] := by decide +kernel
@[simp] theorem lit_938db8c9 : (Str.ofString "01") = mkS [48, 49] := by decide +kernel
@[simp] theorem lit_84d89877 : (Str.ofString "0123456789") = mkS [48, 49, 50, 51, 52, 53, 54, 55, 56, 57] := by decide +kernel
@[simp] theorem lit_6b86b273 : (Str.ofString "1") = mkS [49] := by decide +kernel
@[simp] theorem lit_4a44dc15 : (Str.ofString "10") = mkS [49, 48] := by decide +kernel
@[simp] theorem lit_52a5d4a0 : (Str.ofString "1000000000") = mkS [49, 48, 48, 48, 48, 48, 48, 48, 48, 48] := by decide +kernel
@[simp] theorem lit_15e2b0d3 : (Str.ofString "123456789") = mkS [49, 50, 51, 52, 53, 54, 55, 56, 57] := by decide +kernel
@[simp] theorem lit_a73fcf33 : (Str.ofString "1a") = mkS [49, 97] := by decide +kernel
@[simp] theorem lit_7902699b : (Str.ofString "7") = mkS [55] := by decide +kernel
@[simp] theorem lit_19581e27 : (Str.ofString "9") = mkS [57] := by decide +kernel
@[simp] theorem lit_69f59c27 : (Str.ofString "90") = mkS [57, 48] := by decide +kernel
@[simp] theorem lit_bb421fa3 : (Str.ofString "999999999") = mkS [57, 57, 57, 57, 57, 57, 57, 57, 57] := by decide +kernel
@[simp] theorem lit_dabd3aff : (Str.ofString "<") = mkS [60] := by decide +kernel
@[simp] theorem lit_380918b9 : (Str.ofString "=") = mkS [61] := by decide +kernel
@[simp] theorem lit_8d560cbe : (Str.ofString "=-+<>") = mkS [61, 45, 43, 60, 62] := by decide +kernel
@[simp] theorem lit_62b67e1f : (Str.ofString ">") = mkS [62] := by decide +kernel
@[simp] theorem lit_01ba4719 : (Str.ofString "\n") = mkS [10] := by decide +kernel
@[simp] theorem lit_0a6fbb6a : (Str.ofString "\t ") = mkS [9, 32] := by decide +kernel
@[simp] theorem lit_95b69df8 : (Str.ofString "\t \n") = mkS [9, 32, 10] := by decide +kernel
@[simp] theorem lit_2b4c342f : (Str.ofString "\t") = mkS [9] := by decide +kernel
@[simp] theorem lit_46c9e220 : (Str.ofString "_1") = mkS [95, 49] := by decide +kernel
@[simp] theorem lit_c8687a08 : (Str.ofString "a b") = mkS [97, 32, 98] := by decide +kernel
@[simp] theorem lit_ca978112 : (Str.ofString "a") = mkS [97] := by decide +kernel
@[simp] theorem lit_87428fc5 : (Str.ofString "a\n") = mkS [97, 10] := by decide +kernel
@[simp] theorem lit_894891f8 : (Str.ofString "a\tb") = mkS [97, 9, 98] := by decide +kernel
@[simp] theorem lit_cd471101 : (Str.ofString "abcdefghijklmnopqrstuvwxyz{|}~") = mkS [97, 98, 99, 100, 101, 102, 103, 104, 105, 106, 107, 108, 109, 110, 111, 112, 113, 114, 115, 116, 117, 118, 119, 120, 121, 122, 123, 124, 125, 126] := by decide +kernel
@[simp] theorem lit_3e23e816 : (Str.ofString "b") = mkS [98] := by decide +kernel
@[simp] theorem lit_378bfce5 : (Str.ofString "cut") = mkS [99, 117, 116] := by decide +kernel
@[simp] theorem lit_6ca7ea2f : (Str.ofString "keep") = mkS [107, 101, 101, 112] := by decide +kernel
@[simp] theorem lit_360cdbba : (Str.ofString "lay") = mkS [108, 97, 121] := by decide +kernel
@[simp] theorem lit_99d649e8 : (Str.ofString "no word") = mkS [110, 111, 32, 119, 111, 114, 100] := by decide +kernel
@[simp] theorem lit_9513229d : (Str.ofString "pa") = mkS [112, 97] := by decide +kernel
@[simp] theorem lit_3315f44d : (Str.ofString "pb") = mkS [112, 98] := by decide +kernel
@[simp] theorem lit_d8463bd3 : (Str.ofString "pc") = mkS [112, 99] := by decide +kernel
@[simp] theorem lit_373cb2c6 : (Str.ofString "put") = mkS [112, 117, 116] := by decide +kernel
@[simp] theorem lit_d1905cf9 : (Str.ofString "take") = mkS [116, 97, 107, 101] := by decide +kernel
@[simp] theorem lit_24f3ac3b : (Str.ofString "too long") = mkS [116, 111, 111, 32, 108, 111, 110, 103] := by decide +kernel
@[simp] theorem lit_2d711642 : (Str.ofString "x") = mkS [120] := by decide +kernel
end
end DL

set_option Elab.async false
set_option linter.all false
set_option maxRecDepth 100000
set_option maxHeartbeats 2000000
/-! P1: words (redraft/words.py) -/
namespace DL
open PySem

theorem is_sign_ok (c : Nat) : f_is_sign (tS [c]) = .ok (.bl (isSign c)) := by
  simp [f_is_sign, b_is_sign, startE]
  unfold isSign
  by_cases h1 : 33 ≤ c <;> by_cases h2 : c ≤ 126 <;> by_cases h3 : c = 37 <;> simp [h1, h2, h3] <;> omega
theorem signs_all {own : List Nat} {r : Env} {l : List Nat} {el : Env → R D} {p : Nat → Bool} {i : Nat} (h : ∀ c ∈ l, el ((wipeE r own).set i (.sh (tS [c]))) = .ok (.bl (p c))) :
    compR own (tgt1 i) tYes el r (l.map fun c => tS [c]) = .ok ((l.map p).map D.bl) := by
  induction l with
  | nil => rfl
  | cons c l ih =>
    have h1 := h c (by simp)
    have h2 := ih fun c hc => h c (by simp [hc])
    simp [compR, h1] at h2 ⊢
    simp [h2]
theorem all_id (l : List Nat) (p : Nat → Bool) : (l.map p).all id = l.all p := by simp [List.all_map]
theorem is_word_tS {l : List Nat} (h : l.length ≤ sizeLine) : f_is_word (tS l) = .ok (.bl (isWordL l)) := by
  have hc := signs_all (own := [1]) (r := [.sh (tS l), .un]) (l := l) (i := 1) (el := b_is_word_c1) (p := isSign) (fun c _ => by simp [b_is_word_c1, is_sign_ok])
  by_cases hl : 1 ≤ l.length ∧ l.length ≤ 40
  · have e1 : (1 : Int) ≤ (l.length : Int) ∧ (l.length : Int) ≤ 40 := by omega
    simp only [f_is_word, b_is_word, startE]
    simp [lenD_tS h, strItems_tS, h, hc, e1, hl, isWordL, -List.map_map]
  · have e1 : ¬ ((1 : Int) ≤ (l.length : Int) ∧ (l.length : Int) ≤ 40) := by omega
    simp only [f_is_word, b_is_word, startE]
    simp [lenD_tS h, e1, isWordL, -not_and]
    intro a b; omega
/-- is_word of anything -/
def isWordD : D → Bool
  | .str x => isWordL x.cps.toList
  | _ => false
def smallD : D → Prop
  | .str x => x.length ≤ sizeLine
  | .adr _ => False
  | _ => True
@[simp] theorem isWordD_tS (l : List Nat) : isWordD (tS l) = isWordL l := by
  show isWordL (mkS l).cps.toList = _
  rw [cps_mk]
theorem is_word_any {d : D} (h : smallD d) : f_is_word d = .ok (.bl (isWordD d)) := by
  cases d with
  | str x =>
    have e : D.str x = tS x.cps.toList := by unfold tS; rw [mk_cps]
    have h2 : x.cps.toList.length ≤ sizeLine := by rw [← len_cps]; exact h
    rw [e, is_word_tS h2]; rfl
  | adr a => exact h.elim
  | _ => simp only [f_is_word, b_is_word, startE]; simp [isWordD]
def needW : D → R D
  | .lst ds => if ds.all isWordD = true then (if ds.length ≤ 120 then .ok .non else .ex .tooLong) else .ex .noWord
  | _ => .ex .noWord
theorem need_loop (a : D) : ∀ (ds : List D) (e : Ent), (∀ d ∈ ds, smallD d) → ∃ e', forR (tgt1 1) b_need_words_f1 ds [.sh a, e] = if ds.all isWordD = true then .ok (.nx [.sh a, e']) else .ex .noWord
  | [], e, _ => ⟨e, by simp⟩
  | d :: ds, e, h => by
    have h1 := is_word_any (h d (by simp))
    obtain ⟨e', ih⟩ := need_loop a ds (.sh d) fun x hx => h x (by simp [hx])
    refine ⟨e', ?_⟩
    rw [forR_cons]
    cases hw : isWordD d with
    | true => simp [b_need_words_f1, h1, hw, ih]
    | false => simp [b_need_words_f1, h1, hw]
theorem need_words_any {d : D} (h : ∀ ds, d = .lst ds → ∀ x ∈ ds, smallD x) (hs : ∀ ns, d ≠ .scr ns) (ha : ∀ a, d ≠ .adr a) : f_need_words d = needW d := by
  cases d with
  | lst ds =>
    obtain ⟨e', hl⟩ := need_loop (.lst ds) ds .un (h ds rfl)
    simp only [f_need_words, b_need_words, startE, needW]
    by_cases hw : ds.all isWordD = true
    · rw [if_pos hw] at hl ⊢
      by_cases h120 : ds.length ≤ 120
      · have e1 : ¬ (120 : Int) < (ds.length : Int) := by omega
        rw [if_pos h120]
        simp [hl, e1] 
      · have e1 : (120 : Int) < (ds.length : Int) := by omega
        rw [if_neg h120]
        simp [hl, e1]
    · rw [if_neg hw] at hl ⊢
      simp [hl]
  | scr ns => exact absurd rfl (hs ns)
  | adr a => exact absurd rfl (ha a)
  | _ => simp only [f_need_words, b_need_words, startE, needW]; simp
theorem isWordL_len {l : List Nat} (h : isWordL l = true) : 1 ≤ l.length ∧ l.length ≤ 40 := by
  simp [isWordL] at h; exact h.1
theorem small_word {l : List Nat} (h : isWordL l = true) : l.length ≤ sizeLine := by
  have := isWordL_len h
  rw [sizeLine_is]; omega
def Words (ws : List (List Nat)) : Prop := ∀ w ∈ ws, isWordL w = true
theorem Words.ok1 {ws : List (List Nat)} (h : Words ws) : Ok1 ws := fun w hw => by
  have := h w hw
  simp only [isWordL, Bool.and_eq_true, List.all_eq_true] at this ⊢
  intro c hc
  have h2 := this.2 c hc
  simp only [isSign, decide_eq_true_eq] at h2 ⊢
  omega
theorem words_all {ws : List (List Nat)} (h : Words ws) : (ws.map tS).all isWordD = true := by
  simp [List.all_map, Function.comp_def]; exact h
theorem small_tL {ws : List (List Nat)} (h : ∀ w ∈ ws, w.length ≤ sizeLine) : ∀ x ∈ ws.map tS, smallD x := by
  intro x hx
  obtain ⟨w, hw, rfl⟩ := List.mem_map.mp hx
  show (mkS w).length ≤ sizeLine
  rw [len_mk]; exact h w hw
theorem need_words_ok {ws : List (List Nat)} (h : Words ws) (hl : ws.length ≤ 120) : f_need_words (tL ws) = .ok .non := by
  unfold tL
  rw [need_words_any (fun ds e => by cases e; exact small_tL fun w hw => small_word (h w hw)) (fun _ e => by cases e) (fun _ e => by cases e)]
  simp only [needW]
  rw [if_pos (words_all h), if_pos (by simpa using hl)]
theorem sum_len {ws : List (List Nat)} (h : Words ws) : (ws.map List.length).sum ≤ 40 * ws.length := by
  induction ws with
  | nil => simp
  | cons w ws ih =>
    have h1 := isWordL_len (h w (by simp))
    have h2 := ih fun x hx => h x (by simp [hx])
    simp; omega
theorem joined_ok {ws : List (List Nat)} (h : Words ws) (hl : ws.length ≤ 120) : f_joined (tL ws) = .ok (tS (TL.joinL [32] ws)) := by
  have h1 := need_words_ok h hl
  have h2 := sum_len h
  have h3 := joinD_tL (s := [32]) (ws := ws) (by simp; omega)
  simp only [f_joined, b_joined, startE]
  simp [h1, h3]
/-! parted -/
def isGap (c : Nat) : Bool := decide (c ∈ [32, 10, 9])
def pstep (st : List (List Nat) × List Nat) (c : Nat) : List (List Nat) × List Nat :=
  if isGap c = true then (if st.2 = [] then (st.1, []) else (st.1 ++ [st.2], [])) else (st.1, st.2 ++ [c])
def pfold (l : List Nat) : List (List Nat) × List Nat := (l ++ [32]).foldl pstep ([], [])
theorem parted_loop (a : D) : ∀ (l : List Nat) (ws : List (List Nat)) (w : List Nat) (e : Ent), ws.length + w.length + l.length ≤ sizeLine - 1 → ∃ e',
    forR (tgt1 3) b_parted_f1 (l.map fun c => tS [c]) [.sh a, .ow (ws.map tS), .sh (tS w), e] =
      .ok (.nx [.sh a, .ow ((l.foldl pstep (ws, w)).1.map tS), .sh (tS (l.foldl pstep (ws, w)).2), e'])
  | [], ws, w, e, _ => ⟨e, by simp⟩
  | c :: l, ws, w, e, h => by
    have hz : 1 ≤ sizeLine := by rw [sizeLine_is]; omega
    simp only [List.length_cons] at h
    rw [List.map_cons, forR_cons, List.foldl_cons]
    by_cases hg : isGap c = true
    · have hg' : c ∈ [32, 10, 9] := by simpa [isGap] using hg
      by_cases hw : w = []
      · subst hw
        obtain ⟨e', ih⟩ := parted_loop a l ws [] (.sh (tS [c])) (by simp at h ⊢; omega)
        refine ⟨e', ?_⟩
        simp [b_parted_f1, pstep, hg, hg', ih, -List.mem_cons]
      · have hwl : 0 < w.length := List.length_pos_iff.mpr hw
        obtain ⟨e', ih⟩ := parted_loop a l (ws ++ [w]) [] (.sh (tS [c])) (by simp at h ⊢; omega)
        refine ⟨e', ?_⟩
        have hlt : ws.length < sizeLine := by omega
        simp at ih
        simp [b_parted_f1, pstep, hg, hg', hw, hlt, ih, -List.mem_cons]
    · have hg' : c ∉ [32, 10, 9] := by simpa [isGap] using hg
      obtain ⟨e', ih⟩ := parted_loop a l ws (w ++ [c]) (.sh (tS [c])) (by simp at h ⊢; omega)
      refine ⟨e', ?_⟩
      have ha : addD (tS w) (tS [c]) = some (tS (w ++ [c])) := addD_tS (by simp; omega)
      simp [b_parted_f1, pstep, hg, hg', ha, ih, -List.mem_cons]
theorem parted_ok {l : List Nat} (hl : l.length + 2 ≤ sizeLine) (hw : Words (pfold l).1) (hn : (pfold l).1.length ≤ 120) : f_parted (tS l) = .ok (tL (pfold l).1) := by
  have ha : addD (tS l) (tS [32]) = some (tS (l ++ [32])) := addD_tS (by simp; omega)
  obtain ⟨e', hloop⟩ := parted_loop (tS l) (l ++ [32]) [] [] .un (by simp; omega)
  have h1 := need_words_ok hw hn
  simp only [f_parted, b_parted, startE]
  simp [strItems_tS, ha, -List.map_append] at hloop ⊢
  rw [hloop]
  unfold pfold at h1 hw hn ⊢
  simp [tL] at h1
  simp [h1, tL]
end DL

set_option Elab.async false
set_option linter.all false
set_option maxRecDepth 100000
set_option maxHeartbeats 2000000
/-! P2: what the laws build words by -/
namespace DL
open PySem

def cellAt (ns : List Int) (k : Nat) : Int := ns.getD k 0
theorem cell_at_ok (ns : List Int) (k : Nat) : f_law_cell_at (.scr ns) (.int (k : Int)) = .ok (.int (cellAt ns k)) := by
  simp only [f_law_cell_at, b_law_cell_at, startE]
  by_cases h : k < ns.length
  · have e1 : (k : Int) < (ns.length : Int) := by omega
    have e2 := ixD_scr (ns := ns) (i := (k : Int)) (n := ns[k]) (by omega) (by simp [h])
    simp [e1, e2, cellAt, h, List.getD_eq_getElem?_getD]
  · have e1 : ¬ (k : Int) < (ns.length : Int) := by omega
    simp [e1, cellAt, List.getD_eq_getElem?_getD, List.getElem?_eq_none (show ns.length ≤ k by omega)]
theorem cell_at_lit (ns : List Int) (k : Nat) [OfNat Int k] (h : (OfNat.ofNat k : Int) = (k : Int)) : f_law_cell_at (.scr ns) (.int (OfNat.ofNat k)) = .ok (.int (cellAt ns k)) := by
  rw [h]; exact cell_at_ok ns k
def signTab : List Nat := (List.range 94).filterMap fun i => if i = 4 then none else some (33 + i)
theorem signTab_len : signTab.length = 93 := by decide +kernel
theorem signTab_sign : ∀ c ∈ signTab, isSign c = true := by decide +kernel
def signAt (c : Int) : Nat := signTab.getD (c % 93).toNat 33
theorem sign_by_ok (c : Int) : f_law_sign_by (.int c) = .ok (tS [signAt c]) := by
  have hm : modD (.int c) (.int 93) = some (.int (c % 93)) := modD_int (by omega)
  have ha : addD (tS [33, 34, 35, 36, 38, 39, 40, 41, 42, 43, 44, 45, 46, 47, 48, 49, 50, 51, 52, 53, 54, 55, 56, 57, 58, 59, 60, 61, 62, 63, 64, 65, 66, 67, 68, 69, 70, 71, 72, 73, 74, 75, 76, 77, 78, 79, 80, 81, 82, 83, 84, 85, 86, 87, 88, 89, 90, 91, 92, 93, 94, 95, 96]) (tS [97, 98, 99, 100, 101, 102, 103, 104, 105, 106, 107, 108, 109, 110, 111, 112, 113, 114, 115, 116, 117, 118, 119, 120, 121, 122, 123, 124, 125, 126]) = some (tS signTab) := by
    rw [addD_tS (by rw [sizeLine_is]; decide)]
    congr 2
  have h0 := Int.emod_nonneg c (show (93 : Int) ≠ 0 by decide)
  have h1 := Int.emod_lt_of_pos c (show (0 : Int) < 93 by decide)
  have hlt : (c % 93).toNat < signTab.length := by rw [signTab_len]; omega
  have hx : ixD (tS signTab) (.int (c % 93)) = some (tS [signAt c]) := ixD_tS h0 (by rw [signTab_len, sizeLine_is]; decide) (by
    unfold signAt
    rw [List.getD_eq_getElem?_getD, List.getElem?_eq_getElem hlt]; rfl)
  simp only [f_law_sign_by, b_law_sign_by, startE]
  simp [hm, ha, hx]
theorem signAt_sign (c : Int) : isSign (signAt c) = true := by
  have h0 := Int.emod_nonneg c (show (93 : Int) ≠ 0 by decide)
  have h1 := Int.emod_lt_of_pos c (show (0 : Int) < 93 by decide)
  have hlt : (c % 93).toNat < signTab.length := by rw [signTab_len]; omega
  unfold signAt
  rw [List.getD_eq_getElem?_getD, List.getElem?_eq_getElem hlt]
  exact signTab_sign _ (List.getElem_mem hlt)
def wMore (c : Int) : Int := (c + 5) * 48271 % 1000003
def wSize (c : Int) : Int := if wMore c / 3 % 3 = 1 then 1 + wMore c / 9 % 40 else 1 + wMore c % 3
def wordBy (c : Int) : List Nat := (List.range (wSize c).toNat).map fun (k : Nat) => signAt ((wMore c + 11 * (k : Int) + 1) * (wMore c + 211 * (k : Int) + 3) % 1000033)
theorem wMore_b (c : Int) : 0 ≤ wMore c ∧ wMore c < 1000003 := ⟨Int.emod_nonneg _ (by decide), Int.emod_lt_of_pos _ (by decide)⟩
theorem wSize_b (c : Int) : 1 ≤ wSize c ∧ wSize c ≤ 40 := by
  unfold wSize
  split <;> omega
theorem wordBy_len (c : Int) : (wordBy c).length = (wSize c).toNat := by simp [wordBy]
theorem wordBy_word (c : Int) : isWordL (wordBy c) = true := by
  have := wSize_b c
  simp only [isWordL, wordBy_len, Bool.and_eq_true, decide_eq_true_eq, List.all_eq_true]
  refine ⟨by omega, fun x hx => ?_⟩
  obtain ⟨k, _, rfl⟩ := List.mem_map.mp hx
  exact signAt_sign _
theorem joinL_nil : ∀ ws : List (List Nat), TL.joinL [] ws = ws.flatten
  | [] => rfl
  | [w] => by simp [TL.joinL]
  | w :: v :: ws => by
    show w ++ ([] ++ TL.joinL [] (v :: ws)) = _
    rw [joinL_nil (v :: ws)]; simp
theorem flat_one (l : List Nat) : (l.map fun c => [c]).flatten = l := by
  induction l with
  | nil => rfl
  | cons a l ih => simp [ih]
theorem word_by_ok (c : Int) : f_law_word_by (.int c) = .ok (tS (wordBy c)) := by
  have hb := wMore_b c
  have hs := wSize_b c
  have m1 : mulD (.int (c + 5)) (.int 48271) = some (.int ((c + 5) * 48271)) := mulD_int (cmul_r (by omega) (by omega))
  have m2 : modD (.int ((c + 5) * 48271)) (.int 1000003) = some (.int (wMore c)) := modD_int (by omega)
  have m3 : modD (.int (wMore c)) (.int 3) = some (.int (wMore c % 3)) := modD_int (by omega)
  have m4 : divD (.int (wMore c)) (.int 3) = some (.int (wMore c / 3)) := divD_int (by omega)
  have m5 : modD (.int (wMore c / 3)) (.int 3) = some (.int (wMore c / 3 % 3)) := modD_int (by omega)
  have m6 : divD (.int (wMore c)) (.int 9) = some (.int (wMore c / 9)) := divD_int (by omega)
  have m7 : modD (.int (wMore c / 9)) (.int 40) = some (.int (wMore c / 9 % 40)) := modD_int (by omega)
  have hn : (wSize c) = (((wSize c).toNat : Nat) : Int) := by omega
  have hr : rng1 (.int (wSize c)) = some ((List.range (wSize c).toNat).map fun i : Nat => .int (i : Int)) := by
    conv => lhs; rw [hn]
    exact rng1_nat _ (by omega)
  have hc : ∀ e2 : Ent, compR [3] (tgt1 3) tYes b_law_word_by_c1 [.sh (.int c), .sh (.int (wMore c)), e2, .un] ((List.range (wSize c).toNat).map fun i : Nat => .int (i : Int)) = .ok ((List.range (wSize c).toNat).map fun k : Nat => tS [signAt ((wMore c + 11 * (k : Int) + 1) * (wMore c + 211 * (k : Int) + 3) % 1000033)]) := fun e2 => by
    refine compR_of _ fun k hk => ?_
    have hk' : k < (wSize c).toNat := List.mem_range.mp hk
    have k1 : mulD (.int 11) (.int (k : Int)) = some (.int (11 * (k : Int))) := mulD_int (cmul_l (by omega) (by omega))
    have k2 : mulD (.int 211) (.int (k : Int)) = some (.int (211 * (k : Int))) := mulD_int (cmul_l (by omega) (by omega))
    have k3 : mulD (.int (wMore c + 11 * (k : Int) + 1)) (.int (wMore c + 211 * (k : Int) + 3)) = some (.int ((wMore c + 11 * (k : Int) + 1) * (wMore c + 211 * (k : Int) + 3))) := mulD_int (cmul_l (by omega) (by omega))
    have k4 : ∀ z : Int, modD (.int z) (.int 1000033) = some (.int (z % 1000033)) := fun z => modD_int (by omega)
    simp [b_law_word_by_c1, k1, k2, k3, k4, sign_by_ok]
  have hj : joinD (mkS []) (.lst ((List.range (wSize c).toNat).map fun k : Nat => tS [signAt ((wMore c + 11 * (k : Int) + 1) * (wMore c + 211 * (k : Int) + 3) % 1000033)])) = some (tS (wordBy c)) := by
    have h1 := joinD_tL (s := []) (ws := (wordBy c).map fun x => [x]) (by
      have e : ((wordBy c).map fun x => [x]).map List.length = (wordBy c).map fun _ => 1 := by simp [Function.comp_def]
      rw [e, List.length_map]
      have e2 : ∀ l : List Nat, (l.map fun _ => 1).sum = l.length := fun l => by
        induction l with
        | nil => rfl
        | cons a l ih => simp [ih]; omega
      rw [e2, wordBy_len]; simp; omega)
    rw [joinL_nil, flat_one] at h1
    rw [← h1]
    unfold tL wordBy
    rw [List.map_map, List.map_map]
    rfl
  have hlen : (List.range (wSize c).toNat).length ≤ sizeLine := by rw [List.length_range, sizeLine_is]; omega
  have hlen' : (wSize c).toNat ≤ sizeLine := by rw [sizeLine_is]; omega
  simp only [f_law_word_by, b_law_word_by, startE]
  by_cases hd : wMore c / 3 % 3 = 1
  · have hz : 1 + wMore c / 9 % 40 = wSize c := by unfold wSize; rw [if_pos hd]
    simp [m1, m2, m3, m4, m5, m6, m7, hd, hz, hr, hlen', hc, hj]
  · have hz : 1 + wMore c % 3 = wSize c := by unfold wSize; rw [if_neg hd]
    simp [m1, m2, m3, m4, m5, m6, m7, hd, hz, hr, hlen', hc, hj]
theorem isT_str_ok (l : List Nat) : isT "str" (tS l) = some (.bl true) := isT_str_tS l
theorem alike_ok {ws vs : List (List Nat)} (h : Ok1 ws) (h' : Ok1 vs) (hl : ws.length ≤ sizeLine) : f_law_alike (tL ws) (tL vs) = .ok (.bl (decide (ws = vs))) := by
  have hc : compR [2] (tgt1 2) tYes b_law_alike_c1 [.sh (tL ws), .sh (tL vs), .un] (ws.map tS) = .ok (ws.map fun _ => .bl true) := compR_of _ fun a _ => by simp [b_law_alike_c1]
  have he : eqD (.lst (ws.map tS)) (.lst (vs.map tS)) = some (.bl (decide (ws = vs))) := eqD_tL h h'
  have ha : allD [.lst (ws.map fun _ => D.bl true)] = some (.bl true) := by
    have e : (ws.map fun _ => D.bl true) = (ws.map fun _ => true).map D.bl := by simp [Function.comp_def]
    rw [e, allD_map]
    simp [List.all_map]
  simp only [f_law_alike, b_law_alike, startE]
  unfold tL at hc ⊢
  by_cases hq : ws.length = vs.length
  · simp [hq ▸ hl, hq, hl, hc, he, ha, Int.natCast_inj]
  · have hne : ws ≠ vs := fun e => hq (by rw [e])
    simp [hq, hne, Int.natCast_inj]
end DL

set_option Elab.async false
set_option linter.all false
set_option maxRecDepth 100000
set_option maxHeartbeats 2000000
/-! P3: the menu of words -/
namespace DL
open PySem

/-! a word near another one -/
def nearAt (w : List Nat) (c : Int) : Nat := (c % (w.length : Int)).toNat
def nearL (w : List Nat) (c : Int) : List Nat :=
  if c / 41 % 3 = 0 then w.reverse
  else if c / 41 % 3 = 1 ∧ 1 < w.length then w.take (nearAt w c) ++ w.drop (nearAt w c + 1)
  else w.take (nearAt w c) ++ [signAt (c / 123)] ++ w.drop (nearAt w c + 1)
theorem nearAt_lt {w : List Nat} (h : 1 ≤ w.length) (c : Int) : nearAt w c < w.length := by
  have h1 := Int.emod_nonneg c (show (w.length : Int) ≠ 0 by omega)
  have h2 := Int.emod_lt_of_pos c (show (0 : Int) < w.length by omega)
  unfold nearAt; omega
theorem word_of {l : List Nat} (h : ∀ c ∈ l, isSign c = true) (h1 : 1 ≤ l.length) (h2 : l.length ≤ 40) : isWordL l = true := by
  simp only [isWordL, Bool.and_eq_true, List.all_eq_true, decide_eq_true_eq]
  exact ⟨⟨h1, h2⟩, h⟩
theorem word_sign {l : List Nat} (h : isWordL l = true) : ∀ c ∈ l, isSign c = true := by
  simp only [isWordL, Bool.and_eq_true, List.all_eq_true] at h
  exact h.2
theorem near_word {w : List Nat} (h : isWordL w = true) (c : Int) : isWordL (nearL w c) = true := by
  have hl := isWordL_len h
  have hs := word_sign h
  have ha := nearAt_lt hl.1 c
  unfold nearL
  split
  · exact word_of (fun c hc => hs c (by simpa using hc)) (by simp; omega) (by simp; omega)
  · split
    · refine word_of (fun c hc => ?_) (by simp; omega) (by simp; omega)
      rcases List.mem_append.mp hc with hc | hc
      · exact hs c (List.mem_of_mem_take hc)
      · exact hs c (List.mem_of_mem_drop hc)
    · refine word_of (fun c hc => ?_) (by simp; omega) (by simp; omega)
      rcases List.mem_append.mp hc with hc | hc
      · rcases List.mem_append.mp hc with hc | hc
        · exact hs c (List.mem_of_mem_take hc)
        · rw [List.mem_singleton.mp hc]; exact signAt_sign _
      · exact hs c (List.mem_of_mem_drop hc)
theorem sum_one : ∀ l : List Nat, (l.map fun _ => 1).sum = l.length
  | [] => rfl
  | a :: l => by simp [sum_one l]; omega
theorem join_signs {l : List Nat} (h : l.length ≤ 16777216) : joinD (mkS []) (.lst (l.map fun c => tS [c])) = some (tS l) := by
  have h1 := joinD_tL (s := []) (ws := l.map fun x => [x]) (by
    have e : (l.map fun x => [x]).map List.length = l.map fun _ => 1 := by simp [Function.comp_def]
    rw [e, sum_one]; simpa using h)
  rw [joinL_nil, flat_one] at h1
  rw [← h1]
  unfold tL
  rw [List.map_map]
  rfl
theorem revO_tS {l : List Nat} (h : l.length ≤ sizeLine) : revO (tS l) = some (l.reverse.map fun c => tS [c]) := by
  unfold tS
  simp only [revO, len_mk, if_pos h, cps_mk]
  rfl
theorem near_ok {w : List Nat} (h : isWordL w = true) (c : Int) : f_law_near (tS w) (.int c) = .ok (tS (nearL w c)) := by
  have hl := isWordL_len h
  have hz : w.length ≤ sizeLine := small_word h
  have hs := sizeLine_is
  have ha := nearAt_lt hl.1 c
  have hn := Int.emod_nonneg c (show (w.length : Int) ≠ 0 by omega)
  have e0 : lenD [tS w] = some (.int (w.length : Int)) := lenD_tS hz
  have e1 : modD (.int c) (.int (w.length : Int)) = some (.int (nearAt w c : Int)) := by
    rw [modD_int (by omega)]; unfold nearAt; rw [Int.toNat_of_nonneg hn]
  have e2 : divD (.int c) (.int 41) = some (.int (c / 41)) := divD_int (by omega)
  have e3 : modD (.int (c / 41)) (.int 3) = some (.int (c / 41 % 3)) := modD_int (by omega)
  have e4 : divD (.int c) (.int 123) = some (.int (c / 123)) := divD_int (by omega)
  have e5 : slD (tS w) none (some (nearAt w c : Int)) = some (tS (w.take (nearAt w c))) := by rw [slD_tS _ _ hz, cut_take]
  have e6 : slD (tS w) (some ((nearAt w c : Int) + 1)) none = some (tS (w.drop (nearAt w c + 1))) := by
    rw [slD_tS _ _ hz, show (nearAt w c : Int) + 1 = ((nearAt w c + 1 : Nat) : Int) by omega, cut_drop]
  have e7 : addD (tS (w.take (nearAt w c))) (tS (w.drop (nearAt w c + 1))) = some (tS (w.take (nearAt w c) ++ w.drop (nearAt w c + 1))) := addD_tS (by simp; omega)
  have e8 : addD (tS (w.take (nearAt w c))) (tS [signAt (c / 123)]) = some (tS (w.take (nearAt w c) ++ [signAt (c / 123)])) := addD_tS (by simp; omega)
  have e9 : addD (tS (w.take (nearAt w c) ++ [signAt (c / 123)])) (tS (w.drop (nearAt w c + 1))) = some (tS (w.take (nearAt w c) ++ [signAt (c / 123)] ++ w.drop (nearAt w c + 1))) := addD_tS (by simp; omega)
  have e10 := join_signs (l := w.reverse) (by simp; omega)
  simp only [f_law_near, b_law_near, startE]
  unfold nearL
  by_cases h0 : c / 41 % 3 = 0
  · rw [if_pos h0]
    simp [e0, e1, e2, e3, h0, revO_tS hz, e10, -List.map_reverse]
  · rw [if_neg h0]
    by_cases h1 : c / 41 % 3 = 1
    · by_cases h2 : 1 < w.length
      · have h2' : (1 : Int) < (w.length : Int) := by omega
        rw [if_pos ⟨h1, h2⟩]
        simp [e0, e1, e2, e3, h1, h2', e5, e6, e7]
      · have h2' : ¬ (1 : Int) < (w.length : Int) := by omega
        rw [if_neg (fun h => h2 h.2)]
        simp [e0, e1, e2, e3, h1, h2', e4, e5, e6, e8, e9, sign_by_ok, -List.append_assoc]
    · rw [if_neg (fun h => h1 h.1)]
      simp [e0, e1, e2, e3, h0, h1, e4, e5, e6, e8, e9, sign_by_ok, -List.append_assoc]

/-! the menu -/
def menuBase (ns : List Int) : List (List Nat) :=
  let b := fun k : Nat => wordBy (cellAt ns k + 97 * (k : Int))
  if cellAt ns 0 % 2 = 1 then [b 0, nearL (b 0) (cellAt ns 1), b 2, nearL (b 2) (cellAt ns 2)] else [b 0, b 1, b 2, b 3]
def menuL (ns : List Int) : List (List Nat) :=
  if cellAt ns 3 % 4 = 1 then menuBase ns ++ (List.range 8).map fun k : Nat => wordBy (cellAt ns (k % 3) + 97 * (k : Int) + 13)
  else menuBase ns ++ (menuBase ns ++ menuBase ns)
theorem menuBase_len (ns : List Int) : (menuBase ns).length = 4 := by unfold menuBase; split <;> rfl
theorem menuL_len (ns : List Int) : (menuL ns).length = 12 := by
  unfold menuL; split <;> simp [menuBase_len]
theorem menuBase_words (ns : List Int) : Words (menuBase ns) := by
  intro w hw
  unfold menuBase at hw
  split at hw <;> simp only [List.mem_cons, List.not_mem_nil, or_false] at hw <;> rcases hw with rfl | rfl | rfl | rfl <;> first | exact wordBy_word _ | exact near_word (wordBy_word _) _
theorem menuL_words (ns : List Int) : Words (menuL ns) := by
  intro w hw
  unfold menuL at hw
  split at hw
  · rcases List.mem_append.mp hw with hw | hw
    · exact menuBase_words ns w hw
    · obtain ⟨k, _, rfl⟩ := List.mem_map.mp hw
      exact wordBy_word _
  · rcases List.mem_append.mp hw with hw | hw
    · exact menuBase_words ns w hw
    · rcases List.mem_append.mp hw with hw | hw <;> exact menuBase_words ns w hw
theorem menu_ok (ns : List Int) : f_law_menu (.scr ns) = .ok (tL (menuL ns)) := by
  have hs := sizeLine_is
  have c0 := cell_at_ok ns 0
  have c1 := cell_at_ok ns 1
  have c2 := cell_at_ok ns 2
  have c3 := cell_at_ok ns 3
  have r4 : rng1 (.int 4) = some ((List.range 4).map fun i : Nat => .int (i : Int)) := rng1_nat 4 (by omega)
  have r8 : rng1 (.int 8) = some ((List.range 8).map fun i : Nat => .int (i : Int)) := rng1_nat 8 (by omega)
  have m1 : modD (.int (cellAt ns 0)) (.int 2) = some (.int (cellAt ns 0 % 2)) := modD_int (by omega)
  have m2 : modD (.int (cellAt ns 3)) (.int 4) = some (.int (cellAt ns 3 % 4)) := modD_int (by omega)
  have w1 : compR [2] (tgt1 2) tYes b_law_menu_c1 [.sh (.scr ns), .un, .un] ((List.range 4).map fun i : Nat => .int (i : Int)) = .ok ((List.range 4).map fun k => tS (wordBy (cellAt ns k + 97 * (k : Int)))) := by
    refine compR_of _ fun k hk => ?_
    have hk' := List.mem_range.mp hk
    have q1 := cell_at_ok ns k
    have q2 : mulD (.int 97) (.int (k : Int)) = some (.int (97 * (k : Int))) := mulD_int (cmul_l (by omega) (by omega))
    simp [b_law_menu_c1, q1, q2, word_by_ok]
  have w2 : ∀ e, compR [2] (tgt1 2) tYes b_law_menu_c2 [.sh (.scr ns), e, .un] ((List.range 8).map fun i : Nat => .int (i : Int)) = .ok ((List.range 8).map fun k => tS (wordBy (cellAt ns (k % 3) + 97 * (k : Int) + 13))) := fun e => by
    refine compR_of _ fun k hk => ?_
    have hk' := List.mem_range.mp hk
    have q0 : modD (.int (k : Int)) (.int 3) = some (.int ((k % 3 : Nat) : Int)) := by rw [modD_int (by omega)]; congr 2
    have q1 := cell_at_ok ns (k % 3)
    have q2 : mulD (.int 97) (.int (k : Int)) = some (.int (97 * (k : Int))) := mulD_int (cmul_l (by omega) (by omega))
    simp only [b_law_menu_c2, xCall, xOp, xSh, xPk, xC, aCons, aNil, getSh_0, getSh_s, getPk_s, getPk_0, wipeE_cons, wipeE_nil, List.set_cons_succ, List.set_cons_zero, ok_bind, q0, lift_some, fun2_ok, fun1_ok, q1, q2, addD_int, word_by_ok]
  have hb := menuBase_words ns
  have n1 := near_ok (wordBy_word (cellAt ns 0 + 97 * ((0 : Nat) : Int))) (cellAt ns 1)
  have n2 := near_ok (wordBy_word (cellAt ns 2 + 97 * ((2 : Nat) : Int))) (cellAt ns 2)
  have l4 : (List.range 4).map (fun k : Nat => tS (wordBy (cellAt ns k + 97 * (k : Int)))) = [tS (wordBy (cellAt ns 0 + 97 * ((0 : Nat) : Int))), tS (wordBy (cellAt ns 1 + 97 * ((1 : Nat) : Int))), tS (wordBy (cellAt ns 2 + 97 * ((2 : Nat) : Int))), tS (wordBy (cellAt ns 3 + 97 * ((3 : Nat) : Int)))] := rfl
  rw [l4] at w1
  have l8 : ((List.range 8).map fun k : Nat => tS (wordBy (cellAt ns (k % 3) + 97 * (k : Int) + 13))) = ((List.range 8).map fun k : Nat => wordBy (cellAt ns (k % 3) + 97 * (k : Int) + 13)).map tS := by rw [List.map_map]; rfl
  have s1 : sComp true 1 (lComp [2] (tgt1 2) tYes b_law_menu_c1 (iR1 (xC (.int 4)))) [.sh (.scr ns), .un, .un] = .ok (.nx [.sh (.scr ns), .ow [tS (wordBy (cellAt ns 0 + 97 * ((0 : Nat) : Int))), tS (wordBy (cellAt ns 1 + 97 * ((1 : Nat) : Int))), tS (wordBy (cellAt ns 2 + 97 * ((2 : Nat) : Int))), tS (wordBy (cellAt ns 3 + 97 * ((3 : Nat) : Int)))], .un]) := by
    have hz : (List.range 4).length ≤ sizeLine := by rw [hs]; decide
    simp only [sComp, lComp, iR1, xC, ok_bind, r4, lift_some, List.length_map, hz, if_true, w1]
    rfl
  have sm : ∀ {a b c d : List Nat}, mulD (tL [a, b, c, d]) (.int 3) = some (tL ([a, b, c, d] ++ ([a, b, c, d] ++ [a, b, c, d]))) := fun {a b c d} => by
    have h3 : (0 : Int) ≤ 3 ∧ (3 : Int) < 2 ^ 63 ∧ ([a, b, c, d].map tS).length * (3 : Int).toNat ≤ sizeLine := by
      rw [hs]; refine ⟨by decide, by decide, ?_⟩
      show 4 * 3 ≤ 16777216; omega
    unfold tL
    simp only [mulD]
    rw [if_pos h3]; rfl
  have sa : ∀ {a b c d : List Nat} {l : List (List Nat)}, l.length = 8 → addD (tL [a, b, c, d]) (tL l) = some (tL ([a, b, c, d] ++ l)) := fun {a b c d l} hl => by
    unfold tL
    rw [addD_lst (by simp [hl, hs]), ← List.map_append]
  have hz8 : (List.range 8).length ≤ sizeLine := by rw [hs]; decide
  have s2 : ∀ a b c d : List Nat, (a = wordBy (cellAt ns 0 + 97 * ((0 : Nat) : Int))) → (b = wordBy (cellAt ns 1 + 97 * ((1 : Nat) : Int))) → (c = wordBy (cellAt ns 2 + 97 * ((2 : Nat) : Int))) → (d = wordBy (cellAt ns 3 + 97 * ((3 : Nat) : Int))) →
      (sIf (tB (xOp eqD (xOp modD (xCall (fun2 f_law_cell_at) (aCons (xSh 0) (aCons (xC (.int 0)) aNil))) (xC (.int 2))) (xC (.int 1))))
        (sSeq (sPut 1 (xCall (fun2 f_law_near) (aCons (xIx (xPk 1) (xC (.int 0))) (aCons (xCall (fun2 f_law_cell_at) (aCons (xSh 0) (aCons (xC (.int 1)) aNil))) aNil))) (xC (.int 1)))
          (sPut 1 (xCall (fun2 f_law_near) (aCons (xIx (xPk 1) (xC (.int 2))) (aCons (xCall (fun2 f_law_cell_at) (aCons (xSh 0) (aCons (xC (.int 2)) aNil))) aNil))) (xC (.int 3)))) sNil)
        [.sh (.scr ns), .ow [tS a, tS b, tS c, tS d], .un] = .ok (.nx [.sh (.scr ns), .ow ((menuBase ns).map tS), .un]) := fun a b c d ha hb hc hd => by
    have n1' := near_ok (w := a) (by rw [ha]; exact wordBy_word _) (cellAt ns 1)
    have n2' := near_ok (w := c) (by rw [hc]; exact wordBy_word _) (cellAt ns 2)
    have c0' : f_law_cell_at (.scr ns) (.int 0) = .ok (.int (cellAt ns 0)) := c0
    have c1' : f_law_cell_at (.scr ns) (.int 1) = .ok (.int (cellAt ns 1)) := c1
    have c2' : f_law_cell_at (.scr ns) (.int 2) = .ok (.int (cellAt ns 2)) := c2
    have i1 : L2.ixN 4 1 = some 1 := by decide
    have i3 : L2.ixN 4 3 = some 3 := by decide
    have i2 : ixD (.lst [tS a, tS (nearL a (cellAt ns 1)), tS c, tS d]) (.int 2) = some (tS c) := ixD_lst (i := 2) rfl
    by_cases h0 : cellAt ns 0 % 2 = 1
    · have e : menuBase ns = [a, nearL a (cellAt ns 1), c, nearL c (cellAt ns 2)] := by unfold menuBase; rw [if_pos h0, ha, hc]
      rw [e]
      simp [c0', c1', c2', m1, h0, n1', n2', i1, i2, i3]
    · have e : menuBase ns = [a, b, c, d] := by unfold menuBase; rw [if_neg h0, ha, hb, hc, hd]
      rw [e]
      simp [c0', m1, h0]
  obtain ⟨x0, x1, x2, x3, hx⟩ : ∃ x0 x1 x2 x3, menuBase ns = [x0, x1, x2, x3] := by unfold menuBase; split <;> exact ⟨_, _, _, _, rfl⟩
  have c3' : f_law_cell_at (.scr ns) (.int 3) = .ok (.int (cellAt ns 3)) := c3
  have e0 : startE 3 [D.scr ns] = [.sh (.scr ns), .un, .un] := rfl
  unfold f_law_menu b_law_menu
  rw [e0, run_seq s1, run_seq (s2 _ _ _ _ rfl rfl rfl rfl), hx]
  unfold menuL
  by_cases h3 : cellAt ns 3 % 4 = 1
  · rw [if_pos h3]
    have sa' := sa (a := x0) (b := x1) (c := x2) (d := x3) (l := (List.range 8).map fun k : Nat => wordBy (cellAt ns (k % 3) + 97 * (k : Int) + 13)) (by simp)
    unfold tL at sa' ⊢
    rw [hx]
    simp only [List.map_cons, List.map_nil] at sa' ⊢
    simp only [sSeq, sIf, tB, xOp, xCall, aCons, aNil, xSh, xC, getSh_0, ok_bind, fun2_ok, c3', m2, lift_some, eqD_int, h3, decide_true, testB_bl, if_true, sRet, xPk, getPk_s, getPk_0w, xL, lComp, iR1, r8, List.length_map, hz8, w2, l8, mkL_ok, sa', seqO_rt]
    rfl
  · rw [if_neg h3]
    have sm' := sm (a := x0) (b := x1) (c := x2) (d := x3)
    unfold tL at sm' ⊢
    rw [hx]
    simp only [List.map_cons, List.map_nil] at sm' ⊢
    simp only [sSeq, sIf, tB, xOp, xCall, aCons, aNil, xSh, xC, getSh_0, ok_bind, fun2_ok, c3', m2, lift_some, eqD_int, h3, decide_false, testB_bl, Bool.false_eq_true, if_false, sRet, sNil, xPk, getPk_s, getPk_0w, sm', seqO_nx]
    rfl
end DL

set_option Elab.async false
set_option linter.all false
set_option maxRecDepth 100000
set_option maxHeartbeats 2000000
/-! P4: the table (redraft/telling.py) -/
namespace DL
open PySem

def dist : List (List Nat) → List (List Nat) → Nat
  | [], b => b.length
  | a :: as, [] => as.length + 1
  | a :: as, b :: bs => if a = b then dist as bs else 1 + min (dist as (b :: bs)) (dist (a :: as) bs)
termination_by a b => a.length + b.length
theorem dist_nil_l (b : List (List Nat)) : dist [] b = b.length := by unfold dist; rfl
theorem dist_nil_r (a : List (List Nat)) : dist a [] = a.length := by cases a <;> simp [dist]
theorem dist_cons (x y : List Nat) (a b : List (List Nat)) : dist (x :: a) (y :: b) = if x = y then dist a b else 1 + min (dist a (y :: b)) (dist (x :: a) b) := by
  rw [dist]
/-- a row of the table: from a to the rests of new -/
def rowL (new a : List (List Nat)) : List D := (List.range (new.length + 1)).map fun k => .int (dist a (new.drop k) : Int)
def rowD (new a : List (List Nat)) : D := .lst (rowL new a)
def tabR (new : List (List Nat)) : List (List Nat) → List D
  | [] => [rowD new []]
  | x :: a => tabR new a ++ [rowD new (x :: a)]
def tableD (old new : List (List Nat)) : D := .lst ((List.range (old.length + 1)).map fun i => rowD new (old.drop i))
theorem tabR_len (new : List (List Nat)) : ∀ a, (tabR new a).length = a.length + 1
  | [] => rfl
  | x :: a => by simp [tabR, tabR_len new a]
theorem tabR_last (new : List (List Nat)) : ∀ a, ∃ i, tabR new a = i ++ [rowD new a]
  | [] => ⟨[], rfl⟩
  | x :: a => ⟨_, rfl⟩
theorem tabR_rev (new : List (List Nat)) : ∀ a, (tabR new a).reverse = (List.range (a.length + 1)).map fun i => rowD new (a.drop i)
  | [] => rfl
  | x :: a => by
    rw [tabR, List.reverse_append, tabR_rev new a, List.length_cons, List.range_succ_eq_map (n := a.length + 1), List.map_cons, List.map_map]
    rfl
/-- a row as the inner loop makes it, from the end -/
def rowB (new a : List (List Nat)) (j : Nat) : List D := (List.range (j + 1)).map fun t => .int (dist a (new.drop (new.length - t)) : Int)
theorem rowB_rev (new a : List (List Nat)) : (rowB new a new.length).reverse = rowL new a := by
  unfold rowB rowL
  apply List.ext_getElem?
  intro i
  by_cases h : i < new.length + 1
  · rw [List.getElem?_reverse (by simpa using h)]
    simp only [List.length_map, List.length_range, List.getElem?_map]
    rw [List.getElem?_range (by omega), List.getElem?_range h]
    simp only [Option.map_some]
    rw [show new.length - (new.length + 1 - 1 - i) = i by omega]
  · rw [List.getElem?_eq_none (by simp; omega), List.getElem?_eq_none (by simp; omega)]
theorem row_get {new a : List (List Nat)} {k : Nat} (h : k ≤ new.length) : (rowL new a)[k]? = some (.int (dist a (new.drop k) : Int)) := by
  unfold rowL
  rw [List.getElem?_map, List.getElem?_range (by omega)]; rfl
def tEnv (old new : List (List Nat)) (found : List D) (e3 : Ent) (w : List Nat) (below : List D) (row : List D) (e7 : Ent) : Env :=
  [.sh (tL old), .sh (tL new), .ow found, e3, .sh (tS w), .sh (.lst below), .ow row, e7]
theorem rowB_last (new a : List (List Nat)) (j : Nat) : rowB new a (j + 1) = rowB new a j ++ [.int (dist a (new.drop (new.length - (j + 1))) : Int)] := by
  unfold rowB
  rw [List.range_succ (n := j + 1), List.map_append]; rfl
theorem rowB_end (new a : List (List Nat)) : ∀ j, ∃ i, rowB new a j = i ++ [.int (dist a (new.drop (new.length - j)) : Int)]
  | 0 => ⟨[], rfl⟩
  | j + 1 => ⟨_, rowB_last new a j⟩
theorem table_f1_ok (old new : List (List Nat)) (found : List D) (e7 : Ent) (w : List Nat) (a : List (List Nat)) (j : Nat) (hj : j < new.length) (hn : new.length ≤ 120) :
    b_table_f1 (tEnv old new found (.sh (.int (j : Int))) w (rowL new a) (rowB new (w :: a) j) e7) = .ok (.nx (tEnv old new found (.sh (.int (j : Int))) w (rowL new a) (rowB new (w :: a) (j + 1)) (.sh (.int ((new.length - 1 - j : Nat) : Int))))) := by
  have hs := sizeLine_is
  have hat : ∃ t, t = new.length - 1 - j := ⟨_, rfl⟩
  obtain ⟨t, ht⟩ := hat
  have htl : t < new.length := by omega
  have e0 : (new.length : Int) - 1 - (j : Int) = (t : Int) := by omega
  have e1 : ixD (tL new) (.int (t : Int)) = some (tS new[t]) := ixD_lst (by rw [List.getElem?_map, List.getElem?_eq_getElem htl]; rfl)
  have e2 : ixD (.lst (rowL new a)) (.int ((t : Int) + 1)) = some (.int (dist a (new.drop (t + 1)) : Int)) := by
    rw [show (t : Int) + 1 = ((t + 1 : Nat) : Int) by omega]
    exact ixD_lst (row_get (by omega))
  have e3 : ixD (.lst (rowL new a)) (.int (t : Int)) = some (.int (dist a (new.drop t) : Int)) := ixD_lst (row_get (by omega))
  obtain ⟨i, hi⟩ := rowB_end new (w :: a) j
  have hl : new.length - j = t + 1 := by omega
  rw [hl] at hi
  have e4 : ixD (.lst (rowB new (w :: a) j)) (.int (-1)) = some (.int (dist (w :: a) (new.drop (t + 1)) : Int)) := by rw [hi]; exact ixD_last _ _
  have e5 : (rowB new (w :: a) j).length < sizeLine := by unfold rowB; simp; omega
  have e6 : rowB new (w :: a) (j + 1) = rowB new (w :: a) j ++ [.int (dist (w :: a) (new.drop t) : Int)] := by rw [rowB_last, show new.length - (j + 1) = t by omega]
  have e7 : lenD [tL new] = some (.int (new.length : Int)) := by unfold tL; rw [lenD_lst, List.length_map]
  have hd : new.drop t = new[t] :: new.drop (t + 1) := List.drop_eq_getElem_cons htl
  rw [e6, ← ht]
  unfold tEnv b_table_f1
  by_cases hw : w = new[t]
  · have e8 : dist (w :: a) (new.drop t) = dist a (new.drop (t + 1)) := by rw [hd, dist_cons, if_pos hw]
    rw [e8]
    simp [e7, e0, e1, e2, ← hw, e5]
  · have e8 : ((dist (w :: a) (new.drop t) : Nat) : Int) = 1 + (if (dist (w :: a) (new.drop (t + 1)) : Int) < (dist a (new.drop t) : Int) then (dist (w :: a) (new.drop (t + 1)) : Int) else (dist a (new.drop t) : Int)) := by
      rw [show dist (w :: a) (new.drop t) = 1 + min (dist a (new.drop t)) (dist (w :: a) (new.drop (t + 1))) by rw [hd, dist_cons, if_neg hw]]
      split <;> omega
    rw [e8]
    simp [e7, e0, e1, e3, e4, hw, e5]
theorem table_loop1 (old new : List (List Nat)) (found : List D) (w : List Nat) (a : List (List Nat)) (hn : new.length ≤ 120) : ∀ (m j : Nat) (e3 e7 : Ent), j + m = new.length →
    ∃ e3' e7', forR (tgt1 3) b_table_f1 ((List.range' j m).map fun i : Nat => .int (i : Int)) (tEnv old new found e3 w (rowL new a) (rowB new (w :: a) j) e7) = .ok (.nx (tEnv old new found e3' w (rowL new a) (rowB new (w :: a) new.length) e7'))
  | 0, j, e3, e7, h => ⟨e3, e7, by rw [show j = new.length by omega]; rfl⟩
  | m + 1, j, e3, e7, h => by
    obtain ⟨a3, a7, ih⟩ := table_loop1 old new found w a hn m (j + 1) (.sh (.int (j : Int))) (.sh (.int ((new.length - 1 - j : Nat) : Int))) (by omega)
    refine ⟨a3, a7, ?_⟩
    rw [List.range'_succ, List.map_cons, forR_cons]
    show lift (some (tEnv old new found (.sh (.int (j : Int))) w (rowL new a) (rowB new (w :: a) j) e7)) >>= _ = _
    rw [lift_some, ok_bind, table_f1_ok old new found e7 w a j (by omega) hn, seqO_nx, ih]
theorem table_f2_ok (old new : List (List Nat)) (e3 e5 e6 e7 : Ent) (w : List Nat) (a : List (List Nat)) (hn : new.length ≤ 120) (ha : a.length ≤ 120) :
    ∃ e3' e5' e6' e7', b_table_f2 [.sh (tL old), .sh (tL new), .ow (tabR new a), e3, .sh (tS w), e5, e6, e7] = .ok (.nx [.sh (tL old), .sh (tL new), .ow (tabR new (w :: a)), e3', .sh (tS w), e5', e6', e7']) := by
  have hs := sizeLine_is
  obtain ⟨i, hi⟩ := tabR_last new a
  have e1 : ixD (.lst (tabR new a)) (.int (-1)) = some (.lst (rowL new a)) := by rw [hi]; exact ixD_last _ _
  have e2 : lenD [tL new] = some (.int (new.length : Int)) := by unfold tL; rw [lenD_lst, List.length_map]
  have e4 : ixD (.lst (rowL new a)) (.int (new.length : Int)) = some (.int (dist a (new.drop new.length) : Int)) := ixD_lst (row_get (by omega))
  have e8 : (dist a (new.drop new.length) : Int) + 1 = (dist (w :: a) (new.drop new.length) : Int) := by
    rw [List.drop_length, dist_nil_r, dist_nil_r]; simp
  obtain ⟨e3', e7', hl⟩ := table_loop1 old new (tabR new a) w a hn new.length 0 e3 e7 (by omega)
  have s1 : sSet 5 (xIx (xPk 2) (xNeg (xC (.int 1)))) [.sh (tL old), .sh (tL new), .ow (tabR new a), e3, .sh (tS w), e5, e6, e7] = .ok (.nx [.sh (tL old), .sh (tL new), .ow (tabR new a), e3, .sh (tS w), .sh (.lst (rowL new a)), e6, e7]) := by
    simp [e1]
  have s2 : sOwn 6 (lLst (aCons (xOp addD (xIx (xPk 5) (xB lenD (aCons (xPk 1) aNil))) (xC (.int 1))) aNil)) [.sh (tL old), .sh (tL new), .ow (tabR new a), e3, .sh (tS w), .sh (.lst (rowL new a)), e6, e7] = .ok (.nx (tEnv old new (tabR new a) e3 w (rowL new a) (rowB new (w :: a) 0) e7)) := by
    have hz : 1 ≤ sizeLine := by omega
    have e9 : rowB new (w :: a) 0 = [.int (dist (w :: a) (new.drop new.length) : Int)] := rfl
    unfold tEnv
    rw [e9, ← e8]
    simp [e2, e4, hz]
  have s3 : sFor (iR1 (xB lenD (aCons (xPk 1) aNil))) (tgt1 3) b_table_f1 (tEnv old new (tabR new a) e3 w (rowL new a) (rowB new (w :: a) 0) e7) = .ok (.nx (tEnv old new (tabR new a) e3' w (rowL new a) (rowB new (w :: a) new.length) e7')) :=
    run_for_len (xs := new.map tS) rfl (by rw [List.length_map]; omega) (by rw [List.length_map]; exact hl)
  have s4 : sApp 2 (xL (lRev (xPk 6))) (tEnv old new (tabR new a) e3' w (rowL new a) (rowB new (w :: a) new.length) e7') = .ok (.nx (tEnv old new (tabR new (w :: a)) e3' w (rowL new a) (rowB new (w :: a) new.length) e7')) := by
    have h1 : (tabR new a).length < sizeLine := by rw [tabR_len]; omega
    have h2 : revO (.lst (rowB new (w :: a) new.length)) = some (rowL new (w :: a)) := by rw [← rowB_rev]; rfl
    unfold tEnv
    simp [h1, h2, tabR, rowD]
  refine ⟨e3', .sh (.lst (rowL new a)), .ow (rowB new (w :: a) new.length), e7', ?_⟩
  unfold b_table_f2
  rw [run_seq s1, run_seq s2, run_seq s3]
  exact s4
theorem table_loop2 (old new : List (List Nat)) (hn : new.length ≤ 120) : ∀ (r a : List (List Nat)) (e3 e4 e5 e6 e7 : Ent), r.length + a.length ≤ 120 →
    ∃ e3' e4' e5' e6' e7', forR (tgt1 4) b_table_f2 (r.map tS) [.sh (tL old), .sh (tL new), .ow (tabR new a), e3, e4, e5, e6, e7] = .ok (.nx [.sh (tL old), .sh (tL new), .ow (tabR new (r.reverse ++ a)), e3', e4', e5', e6', e7'])
  | [], a, e3, e4, e5, e6, e7, _ => ⟨e3, e4, e5, e6, e7, rfl⟩
  | w :: r, a, e3, e4, e5, e6, e7, h => by
    simp only [List.length_cons] at h
    obtain ⟨a3, a5, a6, a7, h1⟩ := table_f2_ok old new e3 e5 e6 e7 w a hn (by omega)
    obtain ⟨b3, b4, b5, b6, b7, h2⟩ := table_loop2 old new hn r (w :: a) a3 (.sh (tS w)) a5 a6 a7 (by simp; omega)
    refine ⟨b3, b4, b5, b6, b7, ?_⟩
    rw [List.map_cons, forR_cons]
    show lift (some [.sh (tL old), .sh (tL new), .ow (tabR new a), e3, .sh (tS w), e5, e6, e7]) >>= _ = _
    rw [lift_some, ok_bind, h1, seqO_nx, h2, List.reverse_cons, List.append_assoc]
    rfl
theorem table_ok {old new : List (List Nat)} (ho : Words old) (hn : Words new) (lo : old.length ≤ 120) (ln : new.length ≤ 120) : f_table (tL old) (tL new) = .ok (tableD old new) := by
  have hs := sizeLine_is
  have n1 := need_words_ok ho lo
  have n2 := need_words_ok hn ln
  have e2 : lenD [tL new] = some (.int (new.length : Int)) := by unfold tL; rw [lenD_lst, List.length_map]
  have e0 : startE 8 [tL old, tL new] = [.sh (tL old), .sh (tL new), .un, .un, .un, .un, .un, .un] := rfl
  have s1 : sExpr (xCall (fun1 f_need_words) (aCons (xSh 0) aNil)) [.sh (tL old), .sh (tL new), .un, .un, .un, .un, .un, .un] = .ok (.nx [.sh (tL old), .sh (tL new), .un, .un, .un, .un, .un, .un]) := by simp [n1]
  have s2 : sExpr (xCall (fun1 f_need_words) (aCons (xSh 1) aNil)) [.sh (tL old), .sh (tL new), .un, .un, .un, .un, .un, .un] = .ok (.nx [.sh (tL old), .sh (tL new), .un, .un, .un, .un, .un, .un]) := by simp [n2]
  have r1 : rng1 (.int ((new.length : Int) + 1)) = some ((List.range (new.length + 1)).map fun i : Nat => .int (i : Int)) := by
    rw [show (new.length : Int) + 1 = ((new.length + 1 : Nat) : Int) by omega]
    exact rng1_nat (new.length + 1) (by omega)
  have hc : compR [3] (tgt1 3) tYes b_table_c1 [.sh (tL old), .sh (tL new), .un, .un, .un, .un, .un, .un] ((List.range (new.length + 1)).map fun i : Nat => .int (i : Int)) = .ok (rowL new []) := by
    refine compR_of _ fun k hk => ?_
    have hk' := List.mem_range.mp hk
    have e3 : (new.length : Int) - (k : Int) = (dist [] (new.drop k) : Int) := by rw [dist_nil_l, List.length_drop]; omega
    simp [b_table_c1, e2, e3]
  have s3 : sOwn 2 (lLst (aCons (xL (lComp [3] (tgt1 3) tYes b_table_c1 (iR1 (xOp addD (xB lenD (aCons (xPk 1) aNil)) (xC (.int 1)))))) aNil)) [.sh (tL old), .sh (tL new), .un, .un, .un, .un, .un, .un] = .ok (.nx [.sh (tL old), .sh (tL new), .ow (tabR new []), .un, .un, .un, .un, .un]) := by
    have hz : 1 ≤ sizeLine := by omega
    have hz2 : new.length + 1 ≤ sizeLine := by omega
    simp [e2, r1, hc, hz, hz2, tabR, rowD]
  obtain ⟨e3', e4', e5', e6', e7', hl⟩ := table_loop2 old new ln old.reverse [] .un .un .un .un .un (by simp; omega)
  rw [List.reverse_reverse, List.append_nil] at hl
  have s4 : sFor (iRev (xSh 0)) (tgt1 4) b_table_f2 [.sh (tL old), .sh (tL new), .ow (tabR new []), .un, .un, .un, .un, .un] = .ok (.nx [.sh (tL old), .sh (tL new), .ow (tabR new old), e3', e4', e5', e6', e7']) := by
    have h1 : revItems (tL old) = some (old.reverse.map tS) := by unfold tL revItems; rw [List.map_reverse]
    unfold sFor
    rw [show iRev (xSh 0) [.sh (tL old), .sh (tL new), .ow (tabR new []), .un, .un, .un, .un, .un] = .ok (old.reverse.map tS) by simp [h1, -List.map_reverse], ok_bind]
    exact hl
  have s5 : sRet (xL (lRev (xPk 2))) [.sh (tL old), .sh (tL new), .ow (tabR new old), e3', e4', e5', e6', e7'] = .ok (.rt (tableD old new)) := by
    have h2 : revO (.lst (tabR new old)) = some ((List.range (old.length + 1)).map fun i => rowD new (old.drop i)) := by rw [← tabR_rev]; rfl
    simp [h2, tableD]
  have t : b_table [.sh (tL old), .sh (tL new), .un, .un, .un, .un, .un, .un] = .ok (.rt (tableD old new)) := by
    unfold b_table
    rw [run_seq s1, run_seq s2, run_seq s3, run_seq s4]
    exact s5
  unfold f_table
  rw [e0]
  exact run_ret t
theorem apart_ok {old new : List (List Nat)} (ho : Words old) (hn : Words new) (lo : old.length ≤ 120) (ln : new.length ≤ 120) : f_apart (tL old) (tL new) = .ok (.int (dist old new : Int)) := by
  have h := table_ok ho hn lo ln
  have e1 : ixD (tableD old new) (.int 0) = some (rowD new old) := ixD_lst (i := 0) (by rw [List.getElem?_map, List.getElem?_range (by omega)]; rfl)
  have e2 : ixD (rowD new old) (.int 0) = some (.int (dist old new : Int)) := ixD_lst (i := 0) (by rw [row_get (by omega)]; rfl)
  simp only [f_apart, b_apart, startE]
  simp [h, e1, e2]
end DL

set_option Elab.async false
set_option linter.all false
set_option maxRecDepth 100000
set_option maxHeartbeats 2000000
/-! P5: kinds, steps, ways (the laws' helpers) -/
namespace DL
open PySem

inductive Kd where
  | keep | cut | put | take | lay
  deriving DecidableEq
def kL : Kd → List Nat
  | .keep => [107, 101, 101, 112]
  | .cut => [99, 117, 116]
  | .put => [112, 117, 116]
  | .take => [116, 97, 107, 101]
  | .lay => [108, 97, 121]
theorem kL_eq (a b : Kd) : decide (kL a = kL b) = decide (a = b) := by cases a <;> cases b <;> decide
theorem eqD_k (a b : Kd) : eqD (tS (kL a)) (tS (kL b)) = some (.bl (decide (a = b))) := by rw [eqD_tS, kL_eq]
@[simp] theorem eqD_keep (k : Kd) : eqD (tS (kL k)) (tS [107, 101, 101, 112]) = some (.bl (decide (k = .keep))) := eqD_k k .keep
@[simp] theorem eqD_cut (k : Kd) : eqD (tS (kL k)) (tS [99, 117, 116]) = some (.bl (decide (k = .cut))) := eqD_k k .cut
@[simp] theorem eqD_put (k : Kd) : eqD (tS (kL k)) (tS [112, 117, 116]) = some (.bl (decide (k = .put))) := eqD_k k .put
@[simp] theorem eqD_take (k : Kd) : eqD (tS (kL k)) (tS [116, 97, 107, 101]) = some (.bl (decide (k = .take))) := eqD_k k .take
@[simp] theorem eqD_lay (k : Kd) : eqD (tS (kL k)) (tS [108, 97, 121]) = some (.bl (decide (k = .lay))) := eqD_k k .lay
@[simp] theorem neD_keep (k : Kd) : neD (tS (kL k)) (tS [107, 101, 101, 112]) = some (.bl (!decide (k = .keep))) := by rw [neD_tS, ← kL_eq]; rfl
@[simp] theorem neD_cut (k : Kd) : neD (tS (kL k)) (tS [99, 117, 116]) = some (.bl (!decide (k = .cut))) := by rw [neD_tS, ← kL_eq]; rfl

theorem getD_lt {α : Type} {l : List α} {n : Nat} {d : α} (h : n < l.length) : l.getD n d = l[n] := by
  rw [List.getD_eq_getElem?_getD, List.getElem?_eq_getElem h]; rfl
/-- an item of a table -/
theorem tab_at {α : Type} (f : α → D) (l : List α) (d : α) {i : Int} (h0 : 0 ≤ i) (h : i < (l.length : Int)) : ixD (.lst (l.map f)) (.int i) = some (f (l.getD i.toNat d)) := by
  refine ixD_lstI h0 ?_
  have hl : i.toNat < l.length := by omega
  rw [List.getElem?_map, List.getElem?_eq_getElem hl, getD_lt hl]; rfl

abbrev Step := Kd × List (List Nat)
def sD (s : Step) : D := .tup [tS (kL s.1), tL s.2]
def stepK : List Kd := [.keep, .keep, .cut, .put, .cut, .put]
def stepN : List Int := [2, 3, 2, 3, 7]
def stepKd (c : Int) : Kd := stepK.getD (c % 6).toNat .keep
def stepSz (c : Int) : Int := if c % 6 > 3 then stepN.getD (c * 48271 % 1009 % 5).toNat 2 else 1
def menuAt (M : List (List Nat)) (i : Int) : List Nat := M.getD (i % 12).toNat []
def stepOf (M : List (List Nat)) (c : Int) : Step := (stepKd c, (List.range (stepSz c).toNat).map fun k : Nat => menuAt M (c / 6 + (k : Int)))
theorem stepSz_b (c : Int) : 1 ≤ stepSz c ∧ stepSz c ≤ 7 := by
  unfold stepSz
  split
  · have h0 := Int.emod_nonneg (c * 48271 % 1009) (show (5 : Int) ≠ 0 by decide)
    have h1 := Int.emod_lt_of_pos (c * 48271 % 1009) (show (0 : Int) < 5 by decide)
    generalize (c * 48271 % 1009 % 5) = z at h0 h1
    have h2 : z.toNat < 5 := by omega
    generalize z.toNat = n at h2
    match n, h2 with
    | 0, _ | 1, _ | 2, _ | 3, _ | 4, _ => decide
  · decide
theorem menuAt_get {M : List (List Nat)} (hM : M.length = 12) (i : Int) : ixD (tL M) (.int (i % 12)) = some (tS (menuAt M i)) := by
  have h0 := Int.emod_nonneg i (show (12 : Int) ≠ 0 by decide)
  have h1 := Int.emod_lt_of_pos i (show (0 : Int) < 12 by decide)
  exact tab_at tS M [] h0 (by omega)
theorem menuAt_word {M : List (List Nat)} (hM : M.length = 12) (hw : Words M) (i : Int) : isWordL (menuAt M i) = true := by
  have h0 := Int.emod_nonneg i (show (12 : Int) ≠ 0 by decide)
  have h1 := Int.emod_lt_of_pos i (show (0 : Int) < 12 by decide)
  have hl : (i % 12).toNat < M.length := by omega
  unfold menuAt
  rw [getD_lt hl]
  exact hw _ (List.getElem_mem hl)
theorem step_ok {M : List (List Nat)} (hM : M.length = 12) (c : Int) : f_law_step (tL M) (.int c) = .ok (sD (stepOf M c)) := by
  have hs := sizeLine_is
  have hb := stepSz_b c
  have a0 := Int.emod_nonneg c (show (6 : Int) ≠ 0 by decide)
  have a1 := Int.emod_lt_of_pos c (show (0 : Int) < 6 by decide)
  have b0 := Int.emod_nonneg (c * 48271 % 1009) (show (5 : Int) ≠ 0 by decide)
  have b1 := Int.emod_lt_of_pos (c * 48271 % 1009) (show (0 : Int) < 5 by decide)
  have m1 : modD (.int c) (.int 6) = some (.int (c % 6)) := modD_int (by omega)
  have m2 : mulD (.int c) (.int 48271) = some (.int (c * 48271)) := mulD_int (cmul_r (by omega) (by omega))
  have m3 : modD (.int (c * 48271)) (.int 1009) = some (.int (c * 48271 % 1009)) := modD_int (by omega)
  have m4 : modD (.int (c * 48271 % 1009)) (.int 5) = some (.int (c * 48271 % 1009 % 5)) := modD_int (by omega)
  have m5 : divD (.int c) (.int 6) = some (.int (c / 6)) := divD_int (by omega)
  have m6 : ∀ z : Int, modD (.int z) (.int 12) = some (.int (z % 12)) := fun z => modD_int (by omega)
  have t1 : ixD (.lst [tS [107, 101, 101, 112], tS [107, 101, 101, 112], tS [99, 117, 116], tS [112, 117, 116], tS [99, 117, 116], tS [112, 117, 116]]) (.int (c % 6)) = some (tS (kL (stepKd c))) := tab_at (fun k => tS (kL k)) stepK .keep a0 (by simpa [stepK] using a1)
  have t2 : ixD (.lst [.int 2, .int 3, .int 2, .int 3, .int 7]) (.int (c * 48271 % 1009 % 5)) = some (.int (stepN.getD (c * 48271 % 1009 % 5).toNat 2)) := tab_at D.int stepN 2 b0 (by simpa [stepN] using b1)
  have r1 : rng1 (.int (stepSz c)) = some ((List.range (stepSz c).toNat).map fun i : Nat => .int (i : Int)) := by
    conv => lhs; rw [show stepSz c = (((stepSz c).toNat : Nat) : Int) by omega]
    exact rng1_nat _ (by omega)
  have hc : ∀ e2 e3, compR [4] (tgt1 4) tYes b_law_step_c1 [.sh (tL M), .sh (.int c), e2, e3, .un] ((List.range (stepSz c).toNat).map fun i : Nat => .int (i : Int)) = .ok ((stepOf M c).2.map tS) := fun e2 e3 => by
    unfold stepOf
    rw [List.map_map]
    refine compR_of _ fun k hk => ?_
    simp [b_law_step_c1, m5, m6, menuAt_get hM]
  have hz : (stepSz c).toNat ≤ sizeLine := by omega
  have hz6 : 6 ≤ sizeLine := by omega
  have hz5 : 5 ≤ sizeLine := by omega
  have hz2 : 2 ≤ sizeLine := by omega
  have e0 : startE 5 [tL M, .int c] = [.sh (tL M), .sh (.int c), .un, .un, .un] := rfl
  have s1 : sSet 2 (xIx (xL (lLst (aCons (xC (.str "keep")) (aCons (xC (.str "keep")) (aCons (xC (.str "cut")) (aCons (xC (.str "put")) (aCons (xC (.str "cut")) (aCons (xC (.str "put")) aNil)))))))) (xOp modD (xPk 1) (xC (.int 6)))) [.sh (tL M), .sh (.int c), .un, .un, .un] = .ok (.nx [.sh (tL M), .sh (.int c), .sh (tS (kL (stepKd c))), .un, .un]) := by
    simp [m1, t1, hz6]
  have s2 : seqO (sSet 3 (xC (.int 1)) [.sh (tL M), .sh (.int c), .sh (tS (kL (stepKd c))), .un, .un]) (sIf (tB (xOp gtD (xOp modD (xPk 1) (xC (.int 6))) (xC (.int 3))))
      (sSet 3 (xIx (xL (lLst (aCons (xC (.int 2)) (aCons (xC (.int 3)) (aCons (xC (.int 2)) (aCons (xC (.int 3)) (aCons (xC (.int 7)) aNil))))))) (xOp modD (xOp modD (xOp mulD (xPk 1) (xC (.int 48271))) (xC (.int 1009))) (xC (.int 5))))) sNil)
      = .ok (.nx [.sh (tL M), .sh (.int c), .sh (tS (kL (stepKd c))), .sh (.int (stepSz c)), .un]) := by
    unfold stepSz
    by_cases h : c % 6 > 3
    · rw [if_pos h]
      simp [m1, m2, m3, m4, t2, hz5, h]
    · rw [if_neg h]
      simp [m1, h]
  unfold f_law_step b_law_step
  rw [e0, run_seq s1, run_seq2 s2]
  refine run_ret ?_
  unfold sD
  simp [r1, hz, hc, hz2]
  exact ⟨rfl, rfl⟩
theorem stepOf_words {M : List (List Nat)} (hM : M.length = 12) (hw : Words M) (c : Int) : Words (stepOf M c).2 := by
  intro w h
  obtain ⟨k, _, rfl⟩ := List.mem_map.mp h
  exact menuAt_word hM hw _
theorem stepOf_len (M : List (List Nat)) (c : Int) : 1 ≤ (stepOf M c).2.length ∧ (stepOf M c).2.length ≤ 7 := by
  have := stepSz_b c
  simp [stepOf]; omega
theorem stepOf_kind (M : List (List Nat)) (c : Int) : (stepOf M c).1 = .keep ∨ (stepOf M c).1 = .cut ∨ (stepOf M c).1 = .put := by
  have h0 := Int.emod_nonneg c (show (6 : Int) ≠ 0 by decide)
  have h1 := Int.emod_lt_of_pos c (show (0 : Int) < 6 by decide)
  show stepKd c = _ ∨ stepKd c = _ ∨ stepKd c = _
  unfold stepKd
  generalize (c % 6) = z at h0 h1
  have h2 : z.toNat < 6 := by omega
  generalize z.toNat = n at h2
  match n, h2 with
  | 0, _ | 1, _ | 2, _ | 3, _ | 4, _ | 5, _ => decide

/-! the words of a side -/
def sideOf (k : Kd) (l : List Step) : List (List Nat) := (l.filter fun s => decide (s.1 = .keep) || decide (s.1 = k)).flatMap (·.2)
def total (l : List Step) : Nat := (l.map fun s => s.2.length).sum
theorem sideOf_cons (k : Kd) (s : Step) (l : List Step) : sideOf k (s :: l) = (if (decide (s.1 = .keep) || decide (s.1 = k)) = true then s.2 else []) ++ sideOf k l := by
  unfold sideOf
  rw [List.filter_cons]
  split <;> simp
theorem sideOf_len (k : Kd) : ∀ l, (sideOf k l).length ≤ total l
  | [] => by simp [sideOf]
  | s :: l => by
    have := sideOf_len k l
    rw [sideOf_cons]
    unfold total at this ⊢
    split <;> simp <;> omega
theorem sideOf_words (k : Kd) {l : List Step} (h : ∀ s ∈ l, Words s.2) : Words (sideOf k l) := by
  intro w hw
  obtain ⟨s, hs, hw⟩ := List.mem_flatMap.mp hw
  exact h s (List.mem_filter.mp hs).1 w hw
theorem side_loop (k : Kd) (a : D) : ∀ (l : List Step) (ws : List (List Nat)) (e : Ent), ws.length + total l ≤ sizeLine →
    ∃ e', forR (tgt1 3) b_law_side_f1 (l.map sD) [.sh a, .sh (tS (kL k)), .sh (tL ws), e] = .ok (.nx [.sh a, .sh (tS (kL k)), .sh (tL (ws ++ sideOf k l)), e'])
  | [], ws, e, _ => ⟨e, by simp [sideOf]⟩
  | s :: l, ws, e, h => by
    have ht : total (s :: l) = s.2.length + total l := by simp [total]
    rw [ht] at h
    rw [List.map_cons, forR_cons, sideOf_cons]
    by_cases hk : (decide (s.1 = .keep) || decide (s.1 = k)) = true
    · rw [if_pos hk]
      obtain ⟨e', ih⟩ := side_loop k a l (ws ++ s.2) (.sh (sD s)) (by simp; omega)
      refine ⟨e', ?_⟩
      have ha : addD (tL ws) (tL s.2) = some (tL (ws ++ s.2)) := by
        unfold tL; rw [addD_lst (by simp; omega), List.map_append]
      have hb : b_law_side_f1 [.sh a, .sh (tS (kL k)), .sh (tL ws), .sh (sD s)] = .ok (.nx [.sh a, .sh (tS (kL k)), .sh (tL (ws ++ s.2)), .sh (sD s)]) := by
        have e1 : ixD (sD s) (.int 0) = some (tS (kL s.1)) := ixD_tup0 _ _
        have e2 : ixD (sD s) (.int 1) = some (tL s.2) := ixD_tup1 _ _ _
        rw [Bool.or_eq_true, decide_eq_true_eq, decide_eq_true_eq] at hk
        simp [b_law_side_f1, e1, e2, eqD_k, hk, ha, -eqD_tS]
      show lift (some [Ent.sh a, Ent.sh (tS (kL k)), Ent.sh (tL ws), Ent.sh (sD s)]) >>= _ = _
      rw [lift_some, ok_bind, hb, seqO_nx, ih, List.append_assoc]
    · rw [if_neg hk, List.nil_append]
      obtain ⟨e', ih⟩ := side_loop k a l ws (.sh (sD s)) (by omega)
      refine ⟨e', ?_⟩
      have hb : b_law_side_f1 [.sh a, .sh (tS (kL k)), .sh (tL ws), .sh (sD s)] = .ok (.nx [.sh a, .sh (tS (kL k)), .sh (tL ws), .sh (sD s)]) := by
        have e1 : ixD (sD s) (.int 0) = some (tS (kL s.1)) := ixD_tup0 _ _
        rw [Bool.or_eq_true, decide_eq_true_eq, decide_eq_true_eq] at hk
        simp [b_law_side_f1, e1, eqD_k, hk, -eqD_tS]
      show lift (some [Ent.sh a, Ent.sh (tS (kL k)), Ent.sh (tL ws), Ent.sh (sD s)]) >>= _ = _
      rw [lift_some, ok_bind, hb, seqO_nx, ih]
theorem side_ok (k : Kd) {l : List Step} (h : total l ≤ sizeLine) : f_law_side (.lst (l.map sD)) (tS (kL k)) = .ok (tL (sideOf k l)) := by
  obtain ⟨e', hl⟩ := side_loop k (.lst (l.map sD)) l [] .un (by simpa using h)
  have e0 : startE 4 [.lst (l.map sD), tS (kL k)] = [.sh (.lst (l.map sD)), .sh (tS (kL k)), .un, .un] := rfl
  have s1 : sSet 2 (xL (lLst aNil)) [.sh (.lst (l.map sD)), .sh (tS (kL k)), .un, .un] = .ok (.nx [.sh (.lst (l.map sD)), .sh (tS (kL k)), .sh (tL []), .un]) := by
    simp [tL]
  have s2 : sFor (iList (xSh 0)) (tgt1 3) b_law_side_f1 [.sh (.lst (l.map sD)), .sh (tS (kL k)), .sh (tL []), .un] = .ok (.nx [.sh (.lst (l.map sD)), .sh (tS (kL k)), .sh (tL ([] ++ sideOf k l)), e']) := by
    unfold sFor
    rw [show iList (xSh 0) [.sh (.lst (l.map sD)), .sh (tS (kL k)), .sh (tL []), .un] = .ok (l.map sD) from rfl, ok_bind]
    exact hl
  unfold f_law_side b_law_side
  rw [e0, run_seq s1, run_seq s2]
  rfl
end DL

set_option Elab.async false
set_option linter.all false
set_option maxRecDepth 100000
set_option maxHeartbeats 2000000
/-! P6: the ways of the laws -/
namespace DL
open PySem

def stepsOf (ns : List Int) (many : Nat) : List Step := ((ns.take (4 + many)).drop 4).map (stepOf (menuL ns))
def frontOf (ns : List Int) : List Step := [(.keep, menuL ns), (.cut, (menuL ns).take 2), (.keep, ((menuL ns).take 6).drop 2)]
def front2Of (ns : List Int) : List Step := [(.cut, (menuL ns ++ menuL ns).take 14), (.keep, menuL ns ++ menuL ns), (.put, ((menuL ns ++ menuL ns).take 17).drop 3)]
def wayOf (ns : List Int) (many : Nat) : List Step := if cellAt ns 3 / 4 % 8 = 3 then frontOf ns ++ (stepsOf ns many).take (many / 2) else stepsOf ns many
def way2Of (ns : List Int) (many : Nat) : List Step :=
  if cellAt ns 3 / 4 % 8 = 3 then frontOf ns ++ (stepsOf ns many).take (many / 2)
  else if cellAt ns 3 / 4 % 16 = 5 then front2Of ns ++ (stepsOf ns many).take 2 else stepsOf ns many
structure SOk (l : List Step) : Prop where
  words : ∀ s ∈ l, Words s.2
  kind : ∀ s ∈ l, s.1 = .keep ∨ s.1 = .cut ∨ s.1 = .put
  some : ∀ s ∈ l, 1 ≤ s.2.length
theorem SOk.app {a b : List Step} (h : SOk a) (h' : SOk b) : SOk (a ++ b) :=
  ⟨fun s hs => (List.mem_append.mp hs).elim (h.words s) (h'.words s), fun s hs => (List.mem_append.mp hs).elim (h.kind s) (h'.kind s), fun s hs => (List.mem_append.mp hs).elim (h.some s) (h'.some s)⟩
theorem SOk.take {a : List Step} (h : SOk a) (n : Nat) : SOk (a.take n) :=
  ⟨fun s hs => h.words s (List.mem_of_mem_take hs), fun s hs => h.kind s (List.mem_of_mem_take hs), fun s hs => h.some s (List.mem_of_mem_take hs)⟩
theorem total_app (a b : List Step) : total (a ++ b) = total a + total b := by simp [total]
theorem total_le {l : List Step} (h : ∀ s ∈ l, s.2.length ≤ 7) : total l ≤ 7 * l.length := by
  induction l with
  | nil => simp [total]
  | cons s l ih =>
    have h1 := h s (by simp)
    have h2 := ih fun x hx => h x (by simp [hx])
    simp [total] at h2 ⊢; omega
theorem stepsOf_ok (ns : List Int) (many : Nat) : SOk (stepsOf ns many) := by
  refine ⟨fun s hs => ?_, fun s hs => ?_, fun s hs => ?_⟩ <;> obtain ⟨c, _, rfl⟩ := List.mem_map.mp hs
  · exact stepOf_words (menuL_len ns) (menuL_words ns) c
  · exact stepOf_kind _ c
  · exact (stepOf_len _ c).1
theorem stepsOf_7 (ns : List Int) (many : Nat) : ∀ s ∈ stepsOf ns many, s.2.length ≤ 7 := fun s hs => by
  obtain ⟨c, _, rfl⟩ := List.mem_map.mp hs
  exact (stepOf_len _ c).2
theorem stepsOf_len (ns : List Int) (many : Nat) : (stepsOf ns many).length ≤ many := by simp [stepsOf]; omega
theorem words_take {l : List (List Nat)} (h : Words l) (n : Nat) : Words (l.take n) := fun w hw => h w (List.mem_of_mem_take hw)
theorem words_drop {l : List (List Nat)} (h : Words l) (n : Nat) : Words (l.drop n) := fun w hw => h w (List.mem_of_mem_drop hw)
theorem words_app {a b : List (List Nat)} (h : Words a) (h' : Words b) : Words (a ++ b) := fun w hw => (List.mem_append.mp hw).elim (h w) (h' w)
theorem frontOf_ok (ns : List Int) : SOk (frontOf ns) := by
  have hw := menuL_words ns
  have hl := menuL_len ns
  refine ⟨fun s hs => ?_, fun s hs => ?_, fun s hs => ?_⟩ <;> simp only [frontOf, List.mem_cons, List.not_mem_nil, or_false] at hs <;> rcases hs with rfl | rfl | rfl <;> dsimp only
  · exact hw
  · exact words_take hw _
  · exact words_drop (words_take hw _) _
  · exact .inl rfl
  · exact .inr (.inl rfl)
  · exact .inl rfl
  · omega
  · simp; omega
  · simp; omega
theorem front2Of_ok (ns : List Int) : SOk (front2Of ns) := by
  have hw := words_app (menuL_words ns) (menuL_words ns)
  have hl := menuL_len ns
  refine ⟨fun s hs => ?_, fun s hs => ?_, fun s hs => ?_⟩ <;> simp only [front2Of, List.mem_cons, List.not_mem_nil, or_false] at hs <;> rcases hs with rfl | rfl | rfl <;> dsimp only
  · exact words_take hw _
  · exact hw
  · exact words_drop (words_take hw _) _
  · exact .inr (.inl rfl)
  · exact .inl rfl
  · exact .inr (.inr rfl)
  · simp; omega
  · simp; omega
  · simp; omega
theorem frontOf_total (ns : List Int) : total (frontOf ns) = 18 := by
  have hl := menuL_len ns
  simp [total, frontOf]; omega
theorem front2Of_total (ns : List Int) : total (front2Of ns) = 52 := by
  have hl := menuL_len ns
  simp [total, front2Of]; omega
theorem take_total {l : List Step} (h : ∀ s ∈ l, s.2.length ≤ 7) (n : Nat) : total (l.take n) ≤ 7 * n := by
  have h1 := total_le (l := l.take n) fun s hs => h s (List.mem_of_mem_take hs)
  have h2 := List.length_take_le n l
  omega
theorem wayOf_ok (ns : List Int) (many : Nat) (hm : many ≤ 15) : SOk (wayOf ns many) ∧ total (wayOf ns many) ≤ 105 := by
  have h1 := stepsOf_ok ns many
  have h7 := stepsOf_7 ns many
  unfold wayOf
  split
  · refine ⟨(frontOf_ok ns).app (h1.take _), ?_⟩
    have := take_total h7 (many / 2)
    rw [total_app, frontOf_total]; omega
  · refine ⟨h1, ?_⟩
    have := total_le h7
    have := stepsOf_len ns many
    omega
theorem way2Of_ok (ns : List Int) (many : Nat) (hm : many ≤ 15) : SOk (way2Of ns many) ∧ total (way2Of ns many) ≤ 105 := by
  have h1 := stepsOf_ok ns many
  have h7 := stepsOf_7 ns many
  unfold way2Of
  split
  · refine ⟨(frontOf_ok ns).app (h1.take _), ?_⟩
    have := take_total h7 (many / 2)
    rw [total_app, frontOf_total]; omega
  · split
    · refine ⟨(front2Of_ok ns).app (h1.take _), ?_⟩
      have := take_total h7 2
      rw [total_app, front2Of_total]; omega
    · refine ⟨h1, ?_⟩
      have := total_le h7
      have := stepsOf_len ns many
      omega
theorem total_len {l : List Step} (h : SOk l) : l.length ≤ total l := by
  have : ∀ l : List Step, (∀ s ∈ l, 1 ≤ s.2.length) → l.length ≤ total l := fun l => by
    induction l with
    | nil => simp
    | cons s l ih =>
      intro h
      have h1 := h s (by simp)
      have h2 := ih fun x hx => h x (by simp [hx])
      simp [total] at h2 ⊢; omega
  exact this l h.some
/-- the first two statements -/
theorem way_start (ns : List Int) (many : Nat) (hm : many ≤ 15) (el : Env → R D) (he : el = fun r => xCall (fun2 f_law_step) (aCons (xSh 2) (aCons (xSh 4) aNil)) r) :
    sSet 2 (xCall (fun1 f_law_menu) (aCons (xSh 0) aNil)) [.sh (.scr ns), .sh (.int (many : Int)), .un, .un, .un, .un] = .ok (.nx [.sh (.scr ns), .sh (.int (many : Int)), .sh (tL (menuL ns)), .un, .un, .un]) ∧
    sComp false 3 (lComp [4] (tgt1 4) tYes el (iList (xSl (xPk 0) (oSome (xC (.int 4))) (oSome (xOp addD (xC (.int 4)) (xPk 1)))))) [.sh (.scr ns), .sh (.int (many : Int)), .sh (tL (menuL ns)), .un, .un, .un] =
      .ok (.nx [.sh (.scr ns), .sh (.int (many : Int)), .sh (tL (menuL ns)), .sh (.lst ((stepsOf ns many).map sD)), .un, .un]) := by
  have hs := sizeLine_is
  refine ⟨by simp [menu_ok], ?_⟩
  have hc : compR [4] (tgt1 4) tYes el [.sh (.scr ns), .sh (.int (many : Int)), .sh (tL (menuL ns)), .un, .un, .un] (((ns.take (4 + many)).drop 4).map D.int) = .ok ((stepsOf ns many).map sD) := by
    unfold stepsOf
    rw [List.map_map]
    refine compR_of _ fun c hc => ?_
    rw [he]
    simp [step_ok (menuL_len ns)]
  have hsl : slD (.scr ns) (some 4) (some (4 + (many : Int))) = some (.lst (((ns.take (4 + many)).drop 4).map D.int)) := by
    rw [slD_scr, show (4 : Int) + (many : Int) = ((4 + many : Nat) : Int) by omega]
    have := cut_mid ns 4 (4 + many)
    rw [← this]; rfl
  have hl : ((ns.take (4 + many)).drop 4).length ≤ sizeLine := by simp; omega
  have hi : iList (xSl (xPk 0) (oSome (xC (.int 4))) (oSome (xOp addD (xC (.int 4)) (xPk 1)))) [.sh (.scr ns), .sh (.int (many : Int)), .sh (tL (menuL ns)), .un, .un, .un] = .ok (((ns.take (4 + many)).drop 4).map D.int) := by
    simp [hsl, -List.map_drop, -List.map_take]
  have hlc : lComp [4] (tgt1 4) tYes el (iList (xSl (xPk 0) (oSome (xC (.int 4))) (oSome (xOp addD (xC (.int 4)) (xPk 1))))) [.sh (.scr ns), .sh (.int (many : Int)), .sh (tL (menuL ns)), .un, .un, .un] = .ok ((stepsOf ns many).map sD) := by
    unfold lComp
    rw [hi, ok_bind, if_pos (by rw [List.length_map]; exact hl), hc]
  unfold sComp
  rw [hlc]
  rfl
theorem sD_lst (l : List Step) : D.lst (l.map sD) = .lst (l.map sD) := rfl
theorem way_ok (ns : List Int) (many : Nat) (hm : many ≤ 15) : f_law_way (.scr ns) (.int (many : Int)) = .ok (.lst ((wayOf ns many).map sD)) := by
  have hs := sizeLine_is
  have hl := menuL_len ns
  obtain ⟨s1, s2⟩ := way_start ns many hm b_law_way_c1 rfl
  have c3 : f_law_cell_at (.scr ns) (.int 3) = .ok (.int (cellAt ns 3)) := cell_at_ok ns 3
  have m1 : divD (.int (cellAt ns 3)) (.int 4) = some (.int (cellAt ns 3 / 4)) := divD_int (by omega)
  have m2 : modD (.int (cellAt ns 3 / 4)) (.int 8) = some (.int (cellAt ns 3 / 4 % 8)) := modD_int (by omega)
  have m3 : divD (.int (many : Int)) (.int 2) = some (.int ((many : Int) / 2)) := divD_int (by omega)
  have t1 : slD (tL (menuL ns)) none (some 2) = some (tL ((menuL ns).take 2)) := by
    unfold tL; rw [slD_lst]
    have := cut_take ((menuL ns).map tS) 2
    rw [List.map_take, ← this]; rfl
  have t2 : slD (tL (menuL ns)) (some 2) (some 6) = some (tL (((menuL ns).take 6).drop 2)) := by
    unfold tL; rw [slD_lst]
    have := cut_mid ((menuL ns).map tS) 2 6
    rw [List.map_drop, List.map_take, ← this]; rfl
  have t3 : slD (.lst ((stepsOf ns many).map sD)) none (some ((many : Int) / 2)) = some (.lst (((stepsOf ns many).take (many / 2)).map sD)) := by
    rw [show (many : Int) / 2 = ((many / 2 : Nat) : Int) by omega, slD_lst, cut_take, List.map_take]
  have t4 : addD (.lst ((frontOf ns).map sD)) (.lst (((stepsOf ns many).take (many / 2)).map sD)) = some (.lst ((frontOf ns ++ (stepsOf ns many).take (many / 2)).map sD)) := by
    rw [addD_lst (by simp [frontOf]; omega), List.map_append]
  have hf : D.lst [.tup [tS [107, 101, 101, 112], tL (menuL ns)], .tup [tS [99, 117, 116], tL ((menuL ns).take 2)], .tup [tS [107, 101, 101, 112], tL (((menuL ns).take 6).drop 2)]] = .lst ((frontOf ns).map sD) := rfl
  have hz2 : 2 ≤ sizeLine := by omega
  have hz3 : 3 ≤ sizeLine := by omega
  have e0 : startE 6 [D.scr ns, .int (many : Int)] = [.sh (.scr ns), .sh (.int (many : Int)), .un, .un, .un, .un] := rfl
  unfold f_law_way b_law_way
  rw [e0, run_seq s1, run_seq s2]
  refine run_ret ?_
  unfold wayOf
  by_cases h : cellAt ns 3 / 4 % 8 = 3
  · rw [if_pos h]
    simp [c3, m1, m2, m3, h, t1, t2, t3, t4, hf, hz2, hz3, -List.map_append, -List.map_take, -List.drop_take]
  · rw [if_neg h]
    simp [c3, m1, m2, h]
theorem way2_ok (ns : List Int) (many : Nat) (hm : many ≤ 15) : f_law_way_k07 (.scr ns) (.int (many : Int)) = .ok (.lst ((way2Of ns many).map sD)) := by
  have hs := sizeLine_is
  have hl := menuL_len ns
  obtain ⟨s1, s2⟩ := way_start ns many hm b_law_way_k07_c1 rfl
  have c3 : f_law_cell_at (.scr ns) (.int 3) = .ok (.int (cellAt ns 3)) := cell_at_ok ns 3
  have m1 : divD (.int (cellAt ns 3)) (.int 4) = some (.int (cellAt ns 3 / 4)) := divD_int (by omega)
  have m2 : modD (.int (cellAt ns 3 / 4)) (.int 8) = some (.int (cellAt ns 3 / 4 % 8)) := modD_int (by omega)
  have m4 : modD (.int (cellAt ns 3 / 4)) (.int 16) = some (.int (cellAt ns 3 / 4 % 16)) := modD_int (by omega)
  have m3 : divD (.int (many : Int)) (.int 2) = some (.int ((many : Int) / 2)) := divD_int (by omega)
  have tk : ∀ (l : List (List Nat)) (n : Nat), slD (tL l) none (some (n : Int)) = some (tL (l.take n)) := fun l n => by
    unfold tL; rw [slD_lst, cut_take, List.map_take]
  have tm : ∀ (l : List (List Nat)) (m n : Nat), slD (tL l) (some (m : Int)) (some (n : Int)) = some (tL ((l.take n).drop m)) := fun l m n => by
    unfold tL; rw [slD_lst, cut_mid, List.map_drop, List.map_take]
  have t1 : slD (tL (menuL ns)) none (some 2) = some (tL ((menuL ns).take 2)) := tk _ 2
  have t2 : slD (tL (menuL ns)) (some 2) (some 6) = some (tL (((menuL ns).take 6).drop 2)) := tm _ 2 6
  have t3 : slD (.lst ((stepsOf ns many).map sD)) none (some ((many : Int) / 2)) = some (.lst (((stepsOf ns many).take (many / 2)).map sD)) := by
    rw [show (many : Int) / 2 = ((many / 2 : Nat) : Int) by omega, slD_lst, cut_take, List.map_take]
  have t4 : addD (.lst ((frontOf ns).map sD)) (.lst (((stepsOf ns many).take (many / 2)).map sD)) = some (.lst ((frontOf ns ++ (stepsOf ns many).take (many / 2)).map sD)) := by
    rw [addD_lst (by simp [frontOf]; omega), List.map_append]
  have hf : D.lst [.tup [tS [107, 101, 101, 112], tL (menuL ns)], .tup [tS [99, 117, 116], tL ((menuL ns).take 2)], .tup [tS [107, 101, 101, 112], tL (((menuL ns).take 6).drop 2)]] = .lst ((frontOf ns).map sD) := rfl
  have x2 : mulD (tL (menuL ns)) (.int 2) = some (tL (menuL ns ++ menuL ns)) := by
    have h3 : (0 : Int) ≤ 2 ∧ (2 : Int) < 2 ^ 63 ∧ ((menuL ns).map tS).length * (2 : Int).toNat ≤ sizeLine := by
      rw [List.length_map, hl]; refine ⟨by decide, by decide, ?_⟩
      show 12 * 2 ≤ sizeLine; omega
    unfold tL
    simp only [mulD]
    rw [if_pos h3, List.map_append]
    show some (D.lst (List.map tS (menuL ns) ++ (List.map tS (menuL ns) ++ []))) = _
    rw [List.append_nil]
  have t5 : slD (tL (menuL ns ++ menuL ns)) none (some 14) = some (tL ((menuL ns ++ menuL ns).take 14)) := tk _ 14
  have t6 : slD (tL (menuL ns ++ menuL ns)) (some 3) (some 17) = some (tL (((menuL ns ++ menuL ns).take 17).drop 3)) := tm _ 3 17
  have t7 : slD (.lst ((stepsOf ns many).map sD)) none (some 2) = some (.lst (((stepsOf ns many).take 2).map sD)) := by
    have := cut_take ((stepsOf ns many).map sD) 2
    rw [slD_lst, List.map_take, ← this]; rfl
  have t8 : addD (.lst ((front2Of ns).map sD)) (.lst (((stepsOf ns many).take 2).map sD)) = some (.lst ((front2Of ns ++ (stepsOf ns many).take 2).map sD)) := by
    rw [addD_lst (by simp [front2Of]; omega), List.map_append]
  have hf2 : D.lst [.tup [tS [99, 117, 116], tL ((menuL ns ++ menuL ns).take 14)], .tup [tS [107, 101, 101, 112], tL (menuL ns ++ menuL ns)], .tup [tS [112, 117, 116], tL (((menuL ns ++ menuL ns).take 17).drop 3)]] = .lst ((front2Of ns).map sD) := rfl
  have hz2 : 2 ≤ sizeLine := by omega
  have hz3 : 3 ≤ sizeLine := by omega
  have e0 : startE 6 [D.scr ns, .int (many : Int)] = [.sh (.scr ns), .sh (.int (many : Int)), .un, .un, .un, .un] := rfl
  unfold f_law_way_k07 b_law_way_k07
  rw [e0, run_seq s1, run_seq s2]
  refine run_ret ?_
  unfold way2Of
  by_cases h : cellAt ns 3 / 4 % 8 = 3
  · rw [if_pos h]
    simp [c3, m1, m2, m3, h, t1, t2, t3, t4, hf, hz2, hz3, -List.map_append, -List.map_take, -List.drop_take, -List.take_append]
  · rw [if_neg h]
    by_cases h2 : cellAt ns 3 / 4 % 16 = 5
    · rw [if_pos h2]
      simp [c3, m1, m2, m4, h, h2, x2, t5, t6, t7, t8, hf2, hz2, hz3, -List.map_append, -List.map_take, -List.drop_take, -List.take_append]
    · rw [if_neg h2]
      simp [c3, m1, m2, m4, h, h2]
end DL

set_option Elab.async false
set_option linter.all false
set_option maxRecDepth 100000
set_option maxHeartbeats 2000000
/-! P7: alike, row_of, told (redraft/telling.py) -/
namespace DL
open PySem

def lcp : List (List Nat) → List (List Nat) → Nat
  | x :: a, y :: b => if x = y then lcp a b + 1 else 0
  | _, _ => 0
theorem lcp_le : ∀ a b, lcp a b ≤ a.length ∧ lcp a b ≤ b.length
  | [], b => by simp [lcp]
  | x :: a, [] => by simp [lcp]
  | x :: a, y :: b => by
    have := lcp_le a b
    unfold lcp
    split <;> simp <;> omega
theorem lcp_take : ∀ a b : List (List Nat), a.take (lcp a b) = b.take (lcp a b)
  | [], b => by simp [lcp]
  | x :: a, [] => by simp [lcp]
  | x :: a, y :: b => by
    have := lcp_take a b
    unfold lcp
    split
    · rename_i h; simp [h, this]
    · rfl
/-- what a list or a tuple of texts answers -/
structure Seq (A : D) (ws : List (List Nat)) : Prop where
  len : lenD [A] = some (.int (ws.length : Int))
  ix : ∀ (i : Nat) (h : i < ws.length), ixD A (.int (i : Int)) = some (tS ws[i])
theorem seq_tL (ws : List (List Nat)) : Seq (tL ws) ws :=
  ⟨by unfold tL; rw [lenD_lst, List.length_map], fun i h => ixD_lst (by rw [List.getElem?_map, List.getElem?_eq_getElem h]; rfl)⟩
theorem seq_tT (ws : List (List Nat)) : Seq (tT ws) ws :=
  ⟨by unfold tT; rw [lenD_tup, List.length_map], fun i h => ixD_tup (by rw [List.getElem?_map, List.getElem?_eq_getElem h]; rfl)⟩
theorem alike_loop {A B : D} {a b : List (List Nat)} (hA : Seq A a) (hB : Seq B b) (i j : Nat) : ∀ (fuel m : Nat), lcp (a.drop (i + m)) (b.drop (j + m)) < fuel →
    whileR b_alike_v1 b_alike_w1 fuel [.sh A, .sh B, .sh (.int (i : Int)), .sh (.int (j : Int)), .sh (.int (m : Int))] =
      .ok (.nx [.sh A, .sh B, .sh (.int (i : Int)), .sh (.int (j : Int)), .sh (.int ((m + lcp (a.drop (i + m)) (b.drop (j + m)) : Nat) : Int))])
  | 0, m, h => absurd h (by omega)
  | fuel + 1, m, h => by
    unfold whileR
    have l1 := hA.len
    have l2 := hB.len
    by_cases h1 : i + m < a.length
    · have h1' : (i : Int) + (m : Int) < (a.length : Int) := by omega
      by_cases h2 : j + m < b.length
      · have h2' : (j : Int) + (m : Int) < (b.length : Int) := by omega
        have x1 : ixD A (.int ((i : Int) + (m : Int))) = some (tS a[i + m]) := hA.ix (i + m) h1
        have x2 : ixD B (.int ((j : Int) + (m : Int))) = some (tS b[j + m]) := hB.ix (j + m) h2
        have d1 : a.drop (i + m) = a[i + m] :: a.drop (i + m + 1) := List.drop_eq_getElem_cons h1
        have d2 : b.drop (j + m) = b[j + m] :: b.drop (j + m + 1) := List.drop_eq_getElem_cons h2
        by_cases hw : a[i + m] = b[j + m]
        · have e : lcp (a.drop (i + m)) (b.drop (j + m)) = lcp (a.drop (i + (m + 1))) (b.drop (j + (m + 1))) + 1 := by
            rw [d1, d2, lcp, if_pos hw]; rfl
          rw [e] at h ⊢
          have ih := alike_loop hA hB i j fuel (m + 1) (by omega)
          have hv : b_alike_v1 [.sh A, .sh B, .sh (.int (i : Int)), .sh (.int (j : Int)), .sh (.int (m : Int))] = .ok true := by
            simp [b_alike_v1, l1, l2, h1', h2', x1, x2, hw]
          have hb : b_alike_w1 [.sh A, .sh B, .sh (.int (i : Int)), .sh (.int (j : Int)), .sh (.int (m : Int))] = .ok (.nx [.sh A, .sh B, .sh (.int (i : Int)), .sh (.int (j : Int)), .sh (.int ((m + 1 : Nat) : Int))]) := by
            simp [b_alike_w1]
          rw [hv, ok_bind, if_pos rfl, hb, seqO_nx, ih, show m + 1 + lcp (a.drop (i + (m + 1))) (b.drop (j + (m + 1))) = m + (lcp (a.drop (i + (m + 1))) (b.drop (j + (m + 1))) + 1) by omega]
        · have e : lcp (a.drop (i + m)) (b.drop (j + m)) = 0 := by rw [d1, d2, lcp, if_neg hw]
          have hv : b_alike_v1 [.sh A, .sh B, .sh (.int (i : Int)), .sh (.int (j : Int)), .sh (.int (m : Int))] = .ok false := by
            simp [b_alike_v1, l1, l2, h1', h2', x1, x2, hw]
          rw [hv, ok_bind, if_neg (by decide), e]
          rfl
      · have h2' : ¬ (j : Int) + (m : Int) < (b.length : Int) := by omega
        have e : lcp (a.drop (i + m)) (b.drop (j + m)) = 0 := by rw [List.drop_eq_nil_of_le (as := b) (by omega)]; cases a.drop (i + m) <;> rfl
        have hv : b_alike_v1 [.sh A, .sh B, .sh (.int (i : Int)), .sh (.int (j : Int)), .sh (.int (m : Int))] = .ok false := by
          simp [b_alike_v1, l1, l2, h1', h2']
        rw [hv, ok_bind, if_neg (by decide), e]
        rfl
    · have h1' : ¬ (i : Int) + (m : Int) < (a.length : Int) := by omega
      have e : lcp (a.drop (i + m)) (b.drop (j + m)) = 0 := by rw [List.drop_eq_nil_of_le (as := a) (by omega)]; rfl
      have hv : b_alike_v1 [.sh A, .sh B, .sh (.int (i : Int)), .sh (.int (j : Int)), .sh (.int (m : Int))] = .ok false := by
        simp [b_alike_v1, l1, h1']
      rw [hv, ok_bind, if_neg (by decide), e]
      rfl
theorem alikeR_ok {A B : D} {a b : List (List Nat)} (hA : Seq A a) (hB : Seq B b) (hl : a.length ≤ 99999) (i j : Nat) :
    f_alike A B (.int (i : Int)) (.int (j : Int)) = .ok (.int (lcp (a.drop i) (b.drop j) : Int)) := by
  have h := alike_loop hA hB i j 100000 0 (by have := (lcp_le (a.drop (i + 0)) (b.drop (j + 0))).1; rw [List.length_drop] at this; omega)
  have e0 : startE 5 [A, B, .int (i : Int), .int (j : Int)] = [.sh A, .sh B, .sh (.int (i : Int)), .sh (.int (j : Int)), .un] := rfl
  have s1 : sSet 4 (xC (.int 0)) [.sh A, .sh B, .sh (.int (i : Int)), .sh (.int (j : Int)), .un] = .ok (.nx [.sh A, .sh B, .sh (.int (i : Int)), .sh (.int (j : Int)), .sh (.int ((0 : Nat) : Int))]) := rfl
  unfold f_alike b_alike
  rw [e0, run_seq s1, run_seq h]
  simp

/-! rows -/
abbrev Row := Kd × Int × List (List Nat)
def rD (r : Row) : D := .tup [tS (kL r.1), .int r.2.1, tT r.2.2]
def rowOf (k : Kd) (ws : List (List Nat)) : List Row := if ws = [] then [] else [(k, 0, ws)]
theorem row_of_gen {k : Kd} {A : D} {ws : List (List Nat)} (hl : lenD [A] = some (.int (ws.length : Int))) (ht : tupleD [A] = some (tT ws)) : f_row_of (tS (kL k)) A = .ok (.lst ((rowOf k ws).map rD)) := by
  have hs := sizeLine_is
  have hz1 : 1 ≤ sizeLine := by omega
  have hz3 : 3 ≤ sizeLine := by omega
  simp only [f_row_of, b_row_of, startE]
  unfold rowOf
  by_cases h : ws = []
  · subst h
    simp [hl]
  · have h1 : ¬ ((ws.length : Int) = 0) := by
      have := List.length_pos_iff.mpr h
      omega
    rw [if_neg h]
    simp [hl, h, ht, hz1, hz3, rD]
theorem row_of_ok (k : Kd) (ws : List (List Nat)) : f_row_of (tS (kL k)) (tL ws) = .ok (.lst ((rowOf k ws).map rD)) := row_of_gen (seq_tL ws).len rfl
theorem row_of_okT (k : Kd) (ws : List (List Nat)) : f_row_of (tS (kL k)) (tT ws) = .ok (.lst ((rowOf k ws).map rD)) := row_of_gen (seq_tT ws).len rfl

/-! told -/
def gap : List (List Nat) → List (List Nat) → List (List Nat) × List (List Nat) × List (List Nat) × List (List Nat)
  | [], [] => ([], [], [], [])
  | x :: a, [] => let g := gap a []; (x :: g.1, g.2.1, g.2.2.1, g.2.2.2)
  | [], y :: b => let g := gap [] b; (g.1, y :: g.2.1, g.2.2.1, g.2.2.2)
  | x :: a, y :: b =>
    if x = y then ([], [], x :: a, y :: b)
    else if dist a (y :: b) ≤ dist (x :: a) b then (let g := gap a (y :: b); (x :: g.1, g.2.1, g.2.2.1, g.2.2.2))
    else (let g := gap (x :: a) b; (g.1, y :: g.2.1, g.2.2.1, g.2.2.2))
termination_by a b => a.length + b.length
theorem gap_nn : gap [] [] = ([], [], [], []) := by rw [gap]
theorem gap_cn (x : List Nat) (a : List (List Nat)) : gap (x :: a) [] = (x :: (gap a []).1, (gap a []).2.1, (gap a []).2.2.1, (gap a []).2.2.2) := by rw [gap]
theorem gap_nc (y : List Nat) (b : List (List Nat)) : gap [] (y :: b) = ((gap [] b).1, y :: (gap [] b).2.1, (gap [] b).2.2.1, (gap [] b).2.2.2) := by rw [gap]
theorem gap_cc (x y : List Nat) (a b : List (List Nat)) : gap (x :: a) (y :: b) = if x = y then ([], [], x :: a, y :: b)
    else if dist a (y :: b) ≤ dist (x :: a) b then (x :: (gap a (y :: b)).1, (gap a (y :: b)).2.1, (gap a (y :: b)).2.2.1, (gap a (y :: b)).2.2.2)
    else ((gap (x :: a) b).1, y :: (gap (x :: a) b).2.1, (gap (x :: a) b).2.2.1, (gap (x :: a) b).2.2.2) := by rw [gap]
theorem lcp_cc (x y : List Nat) (a b : List (List Nat)) : lcp (x :: a) (y :: b) = if x = y then lcp a b + 1 else 0 := by rw [lcp]
/-- what the gap takes, and where it ends -/
structure GapOk (a b : List (List Nat)) : Prop where
  left : a = (gap a b).1 ++ (gap a b).2.2.1
  right : b = (gap a b).2.1 ++ (gap a b).2.2.2
  cost : dist a b = (gap a b).1.length + (gap a b).2.1.length + dist (gap a b).2.2.1 (gap a b).2.2.2
  ends : ((gap a b).2.2.1 = [] ∧ (gap a b).2.2.2 = []) ∨ 0 < lcp (gap a b).2.2.1 (gap a b).2.2.2
  moves : lcp a b = 0 → (a = [] ∧ b = []) ∨ 0 < (gap a b).1.length + (gap a b).2.1.length
theorem gap_ok : ∀ a b, GapOk a b
  | [], [] => by
    constructor <;> simp [gap_nn]
  | x :: a, [] => by
    have ih := gap_ok a []
    have h := ih.cost
    rw [dist_nil_r] at h
    constructor <;> rw [gap_cn] <;> dsimp only
    · rw [List.cons_append, ← ih.left]
    · exact ih.right
    · rw [dist_nil_r]; simp only [List.length_cons]; omega
    · exact ih.ends
    · intro _; simp only [List.length_cons]; omega
  | [], y :: b => by
    have ih := gap_ok [] b
    have h := ih.cost
    rw [dist_nil_l] at h
    constructor <;> rw [gap_nc] <;> dsimp only
    · exact ih.left
    · rw [List.cons_append, ← ih.right]
    · rw [dist_nil_l]; simp only [List.length_cons]; omega
    · exact ih.ends
    · intro _; simp only [List.length_cons]; omega
  | x :: a, y :: b => by
    by_cases hw : x = y
    · have e : gap (x :: a) (y :: b) = ([], [], x :: a, y :: b) := by rw [gap_cc, if_pos hw]
      constructor <;> rw [e] <;> dsimp only
      · rfl
      · rfl
      · simp
      · right; rw [lcp_cc, if_pos hw]; omega
      · intro h; rw [lcp_cc, if_pos hw] at h; omega
    · by_cases hd : dist a (y :: b) ≤ dist (x :: a) b
      · have ih := gap_ok a (y :: b)
        have h := ih.cost
        have e : gap (x :: a) (y :: b) = (x :: (gap a (y :: b)).1, (gap a (y :: b)).2.1, (gap a (y :: b)).2.2.1, (gap a (y :: b)).2.2.2) := by rw [gap_cc, if_neg hw, if_pos hd]
        constructor <;> rw [e] <;> dsimp only
        · rw [List.cons_append, ← ih.left]
        · exact ih.right
        · rw [dist_cons, if_neg hw, Nat.min_eq_left hd]; simp only [List.length_cons]; omega
        · exact ih.ends
        · intro _; simp only [List.length_cons]; omega
      · have ih := gap_ok (x :: a) b
        have h := ih.cost
        have e : gap (x :: a) (y :: b) = ((gap (x :: a) b).1, y :: (gap (x :: a) b).2.1, (gap (x :: a) b).2.2.1, (gap (x :: a) b).2.2.2) := by rw [gap_cc, if_neg hw, if_neg hd]
        constructor <;> rw [e] <;> dsimp only
        · exact ih.left
        · rw [List.cons_append, ← ih.right]
        · rw [dist_cons, if_neg hw, Nat.min_eq_right (by omega)]; simp only [List.length_cons]; omega
        · exact ih.ends
        · intro _; simp only [List.length_cons]; omega
termination_by a b => a.length + b.length
def toldF : Nat → List (List Nat) → List (List Nat) → List Row
  | 0, _, _ => []
  | n + 1, a, b =>
    if a = [] ∧ b = [] then [] else
    rowOf .keep (a.take (lcp a b)) ++ rowOf .cut (gap (a.drop (lcp a b)) (b.drop (lcp a b))).1 ++ rowOf .put (gap (a.drop (lcp a b)) (b.drop (lcp a b))).2.1 ++
      toldF n (gap (a.drop (lcp a b)) (b.drop (lcp a b))).2.2.1 (gap (a.drop (lcp a b)) (b.drop (lcp a b))).2.2.2
def toldP (a b : List (List Nat)) : List Row := toldF (a.length + b.length) a b

def tdEnv (old new : List (List Nat)) (rows : List Row) (i j : Nat) (e6 e7 e8 : Ent) : Env :=
  [.sh (tL old), .sh (tL new), .sh (tableD old new), .sh (.lst (rows.map rD)), .sh (.int (i : Int)), .sh (.int (j : Int)), e6, e7, e8]
theorem table_ix (old new : List (List Nat)) {i : Nat} (h : i ≤ old.length) : ixD (tableD old new) (.int (i : Int)) = some (rowD new (old.drop i)) := ixD_lst (by rw [List.getElem?_map, List.getElem?_range (by omega)]; rfl)
theorem row_ix (new a : List (List Nat)) {k : Nat} (h : k ≤ new.length) : ixD (rowD new a) (.int (k : Int)) = some (.int (dist a (new.drop k) : Int)) := ixD_lst (row_get h)
theorem told_loop1 (old new : List (List Nat)) (rows : List Row) (e6 e7 e8 : Ent) (ho : old.length ≤ 120) (hn : new.length ≤ 120) : ∀ (fuel i j : Nat), i ≤ old.length → j ≤ new.length → (old.length - i) + (new.length - j) < fuel →
    whileR b_told_v1 b_told_w1 fuel (tdEnv old new rows i j e6 e7 e8) =
      .ok (.nx (tdEnv old new rows (i + (gap (old.drop i) (new.drop j)).1.length) (j + (gap (old.drop i) (new.drop j)).2.1.length) e6 e7 e8))
  | 0, i, j, hi, hj, h => absurd h (by omega)
  | fuel + 1, i, j, hi, hj, h => by
    unfold whileR
    have l1 := (seq_tL old).len
    have l2 := (seq_tL new).len
    have al := alikeR_ok (seq_tL old) (seq_tL new) (by omega) i j
    have cutStep : ∀ x a, old.drop i = x :: a → i < old.length → gap (old.drop i) (new.drop j) = (x :: (gap a (new.drop j)).1, (gap a (new.drop j)).2.1, (gap a (new.drop j)).2.2.1, (gap a (new.drop j)).2.2.2) →
        b_told_v1 (tdEnv old new rows i j e6 e7 e8) = .ok true → b_told_w1 (tdEnv old new rows i j e6 e7 e8) = .ok (.nx (tdEnv old new rows (i + 1) j e6 e7 e8)) →
        (b_told_v1 (tdEnv old new rows i j e6 e7 e8) >>= fun k => if k = true then seqO (b_told_w1 (tdEnv old new rows i j e6 e7 e8)) (whileR b_told_v1 b_told_w1 fuel) else .ok (.nx (tdEnv old new rows i j e6 e7 e8))) =
          .ok (.nx (tdEnv old new rows (i + (gap (old.drop i) (new.drop j)).1.length) (j + (gap (old.drop i) (new.drop j)).2.1.length) e6 e7 e8)) := fun x a hx h1 hg hv hb => by
      have ih := told_loop1 old new rows e6 e7 e8 ho hn fuel (i + 1) j (by omega) hj (by omega)
      have hd : old.drop (i + 1) = a := by
        have := List.drop_eq_getElem_cons h1
        rw [hx] at this
        exact (List.cons.inj this).2.symm
      rw [hd] at ih
      rw [hv, ok_bind, if_pos rfl, hb, seqO_nx, ih, hg]
      dsimp only
      rw [List.length_cons, show i + 1 + (gap a (new.drop j)).1.length = i + ((gap a (new.drop j)).1.length + 1) by omega]
    have putStep : ∀ y b, new.drop j = y :: b → j < new.length → gap (old.drop i) (new.drop j) = ((gap (old.drop i) b).1, y :: (gap (old.drop i) b).2.1, (gap (old.drop i) b).2.2.1, (gap (old.drop i) b).2.2.2) →
        b_told_v1 (tdEnv old new rows i j e6 e7 e8) = .ok true → b_told_w1 (tdEnv old new rows i j e6 e7 e8) = .ok (.nx (tdEnv old new rows i (j + 1) e6 e7 e8)) →
        (b_told_v1 (tdEnv old new rows i j e6 e7 e8) >>= fun k => if k = true then seqO (b_told_w1 (tdEnv old new rows i j e6 e7 e8)) (whileR b_told_v1 b_told_w1 fuel) else .ok (.nx (tdEnv old new rows i j e6 e7 e8))) =
          .ok (.nx (tdEnv old new rows (i + (gap (old.drop i) (new.drop j)).1.length) (j + (gap (old.drop i) (new.drop j)).2.1.length) e6 e7 e8)) := fun y b hy h1 hg hv hb => by
      have ih := told_loop1 old new rows e6 e7 e8 ho hn fuel i (j + 1) hi (by omega) (by omega)
      have hd : new.drop (j + 1) = b := by
        have := List.drop_eq_getElem_cons h1
        rw [hy] at this
        exact (List.cons.inj this).2.symm
      rw [hd] at ih
      rw [hv, ok_bind, if_pos rfl, hb, seqO_nx, ih, hg]
      dsimp only
      rw [List.length_cons, show j + 1 + (gap (old.drop i) b).2.1.length = j + ((gap (old.drop i) b).2.1.length + 1) by omega]
    by_cases h1 : i < old.length
    · have h1' : (i : Int) < (old.length : Int) := by omega
      have d1 : old.drop i = old[i] :: old.drop (i + 1) := List.drop_eq_getElem_cons h1
      by_cases h2 : j < new.length
      · have h2' : (j : Int) < (new.length : Int) := by omega
        have n2 : ¬ ((j : Int) = (new.length : Int)) := by omega
        have d2 : new.drop j = new[j] :: new.drop (j + 1) := List.drop_eq_getElem_cons h2
        by_cases hw : old[i] = new[j]
        · have hg : gap (old.drop i) (new.drop j) = ([], [], old.drop i, new.drop j) := by
            rw [d1, d2, gap_cc, if_pos hw]
          have hl : lcp (old.drop i) (new.drop j) ≠ 0 := by rw [d1, d2, lcp_cc, if_pos hw]; omega
          have hl' : ¬ ((lcp (old.drop i) (new.drop j) : Int) = 0) := by omega
          have hv : b_told_v1 (tdEnv old new rows i j e6 e7 e8) = .ok false := by
            unfold tdEnv
            simp [b_told_v1, l1, l2, h1', h2', al, hl]
          rw [hv, ok_bind, if_neg (by decide), hg]
          rfl
        · have hl : lcp (old.drop i) (new.drop j) = 0 := by rw [d1, d2, lcp_cc, if_neg hw]
          have hv : b_told_v1 (tdEnv old new rows i j e6 e7 e8) = .ok true := by
            unfold tdEnv
            simp [b_told_v1, l1, l2, h1', h2', al, hl]
          have t1 : ixD (tableD old new) (.int ((i : Int) + 1)) = some (rowD new (old.drop (i + 1))) := table_ix old new (i := i + 1) (by omega)
          have t2 := table_ix old new hi
          have t3 := row_ix new (old.drop (i + 1)) hj
          have t4 : ixD (rowD new (old.drop i)) (.int ((j : Int) + 1)) = some (.int (dist (old.drop i) (new.drop (j + 1)) : Int)) := row_ix new (old.drop i) (k := j + 1) (by omega)
          by_cases hd : dist (old.drop (i + 1)) (new.drop j) ≤ dist (old.drop i) (new.drop (j + 1))
          · have hd' : (dist (old.drop (i + 1)) (new.drop j) : Int) ≤ (dist (old.drop i) (new.drop (j + 1)) : Int) := by omega
            refine cutStep _ _ d1 h1 ?_ hv ?_
            · conv => lhs; rw [d1, d2]
              rw [gap_cc, if_neg hw, ← d1, ← d2, if_pos hd]
            · unfold tdEnv
              simp [b_told_w1, l1, l2, n2, h1', t1, t2, t3, t4, hd]
          · have hd' : ¬ (dist (old.drop (i + 1)) (new.drop j) : Int) ≤ (dist (old.drop i) (new.drop (j + 1)) : Int) := by omega
            refine putStep _ _ d2 h2 ?_ hv ?_
            · conv => lhs; rw [d1, d2]
              rw [gap_cc, if_neg hw, ← d1, ← d2, if_neg hd]
            · unfold tdEnv
              simp [b_told_w1, l1, l2, n2, h1', t1, t2, t3, t4, hd]
      · have hj2 : j = new.length := by omega
        have d2 : new.drop j = [] := List.drop_eq_nil_of_le (by omega)
        have hl : lcp (old.drop i) (new.drop j) = 0 := by rw [d1, d2]; rfl
        have hv : b_told_v1 (tdEnv old new rows i j e6 e7 e8) = .ok true := by
          unfold tdEnv
          simp [b_told_v1, l1, l2, h1', al, hl]
        refine cutStep _ _ d1 h1 ?_ hv ?_
        · conv => lhs; rw [d1, d2]
          rw [gap_cn, d2]
        · unfold tdEnv
          simp [b_told_w1, l1, l2, hj2]
    · have d1 : old.drop i = [] := List.drop_eq_nil_of_le (by omega)
      have h1' : ¬ (i : Int) < (old.length : Int) := by omega
      by_cases h2 : j < new.length
      · have h2' : (j : Int) < (new.length : Int) := by omega
        have n2 : ¬ ((j : Int) = (new.length : Int)) := by omega
        have d2 : new.drop j = new[j] :: new.drop (j + 1) := List.drop_eq_getElem_cons h2
        have hl : lcp (old.drop i) (new.drop j) = 0 := by rw [d1]; rfl
        have hv : b_told_v1 (tdEnv old new rows i j e6 e7 e8) = .ok true := by
          unfold tdEnv
          simp [b_told_v1, l1, l2, h1', h2', al, hl]
        refine putStep _ _ d2 h2 ?_ hv ?_
        · conv => lhs; rw [d1, d2]
          rw [gap_nc, d1]
        · unfold tdEnv
          simp [b_told_w1, l1, l2, n2, h1']
      · have d2 : new.drop j = [] := List.drop_eq_nil_of_le (by omega)
        have h2' : ¬ (j : Int) < (new.length : Int) := by omega
        have hv : b_told_v1 (tdEnv old new rows i j e6 e7 e8) = .ok false := by
          unfold tdEnv
          simp [b_told_v1, l1, l2, h1', h2']
        rw [hv, ok_bind, if_neg (by decide), d1, d2, gap_nn]
        rfl
end DL

set_option Elab.async false
set_option linter.all false
set_option maxRecDepth 100000
set_option maxHeartbeats 2000000
/-! P8: told, the whole; what it tells -/
namespace DL
open PySem

theorem rows_add {r s : List Row} (h : r.length + s.length ≤ sizeLine) : addD (.lst (r.map rD)) (.lst (s.map rD)) = some (.lst ((r ++ s).map rD)) := by
  rw [addD_lst (by simpa using h), List.map_append]
theorem rowOf_len (k : Kd) (ws : List (List Nat)) : (rowOf k ws).length ≤ 1 := by unfold rowOf; split <;> simp
theorem sl_tL (l : List (List Nat)) (i k : Nat) : slD (tL l) (some (i : Int)) (some ((i : Int) + (k : Int))) = some (tL ((l.drop i).take k)) := by
  unfold tL
  rw [show (i : Int) + (k : Int) = ((i + k : Nat) : Int) by omega, slD_lst, cut_mid, List.map_take, List.map_drop, List.drop_take, show i + k - i = k by omega]
theorem take_left {l c r : List (List Nat)} (h : l = c ++ r) : l.take c.length = c := by rw [h]; simp
theorem drop_left {l c r : List (List Nat)} (h : l = c ++ r) : l.drop c.length = r := by rw [h]; simp
theorem told_w2_ok (old new : List (List Nat)) (ho : old.length ≤ 120) (hn : new.length ≤ 120) (rows : List Row) (hr : rows.length ≤ 1000) (i j : Nat) (hi : i ≤ old.length) (hj : j ≤ new.length) (e6 e7 e8 : Ent) (k : Nat) (hk : k = lcp (old.drop i) (new.drop j))
    (c p : List (List Nat)) (hc : c = (gap ((old.drop i).drop k) ((new.drop j).drop k)).1) (hp : p = (gap ((old.drop i).drop k) ((new.drop j).drop k)).2.1) :
    b_told_w2 (tdEnv old new rows i j e6 e7 e8) = .ok (.nx (tdEnv old new (rows ++ rowOf .keep ((old.drop i).take k) ++ rowOf .cut c ++ rowOf .put p) (i + k + c.length) (j + k + p.length) (.sh (.int (k : Int))) (.sh (.int ((i + k : Nat) : Int))) (.sh (.int ((j + k : Nat) : Int))))) := by
  have hs := sizeLine_is
  have al := alikeR_ok (seq_tL old) (seq_tL new) (by omega) i j
  rw [← hk] at al
  have lk := lcp_le (old.drop i) (new.drop j)
  rw [← hk, List.length_drop, List.length_drop] at lk
  have hi2 : i + k ≤ old.length := by omega
  have hj2 : j + k ≤ new.length := by omega
  rw [List.drop_drop, List.drop_drop] at hc hp
  have g := gap_ok (old.drop (i + k)) (new.drop (j + k))
  have gl := g.left
  have gr := g.right
  rw [← hc] at gl
  rw [← hp] at gr
  have k1 := rowOf_len .keep ((old.drop i).take k)
  have k2 := rowOf_len .cut c
  have k3 := rowOf_len .put p
  have s1 : sSet 6 (xCall (fun4 f_alike) (aCons (xSh 0) (aCons (xSh 1) (aCons (xSh 4) (aCons (xSh 5) aNil))))) (tdEnv old new rows i j e6 e7 e8) = .ok (.nx (tdEnv old new rows i j (.sh (.int (k : Int))) e7 e8)) := by
    unfold tdEnv
    simp [al]
  have s2 : sSet 3 (xOp addD (xPk 3) (xCall (fun2 f_row_of) (aCons (xC (.str "keep")) (aCons (xSl (xPk 0) (oSome (xPk 4)) (oSome (xOp addD (xPk 4) (xPk 6)))) aNil)))) (tdEnv old new rows i j (.sh (.int (k : Int))) e7 e8) =
      .ok (.nx (tdEnv old new (rows ++ rowOf .keep ((old.drop i).take k)) i j (.sh (.int (k : Int))) e7 e8)) := by
    have h1 := sl_tL old i k
    have h2 : f_row_of (tS [107, 101, 101, 112]) (tL ((old.drop i).take k)) = .ok (.lst ((rowOf .keep ((old.drop i).take k)).map rD)) := row_of_ok .keep _
    have h3 := rows_add (r := rows) (s := rowOf .keep ((old.drop i).take k)) (by omega)
    unfold tdEnv
    simp [h1, h2, h3, -List.map_append, -List.map_take]
  have s3 : sSet 4 (xOp addD (xPk 4) (xPk 6)) (tdEnv old new (rows ++ rowOf .keep ((old.drop i).take k)) i j (.sh (.int (k : Int))) e7 e8) = .ok (.nx (tdEnv old new (rows ++ rowOf .keep ((old.drop i).take k)) (i + k) j (.sh (.int (k : Int))) e7 e8)) := rfl
  have s4 : sSet 5 (xOp addD (xPk 5) (xPk 6)) (tdEnv old new (rows ++ rowOf .keep ((old.drop i).take k)) (i + k) j (.sh (.int (k : Int))) e7 e8) = .ok (.nx (tdEnv old new (rows ++ rowOf .keep ((old.drop i).take k)) (i + k) (j + k) (.sh (.int (k : Int))) e7 e8)) := rfl
  have s5 : sSet 7 (xSh 4) (tdEnv old new (rows ++ rowOf .keep ((old.drop i).take k)) (i + k) (j + k) (.sh (.int (k : Int))) e7 e8) = .ok (.nx (tdEnv old new (rows ++ rowOf .keep ((old.drop i).take k)) (i + k) (j + k) (.sh (.int (k : Int))) (.sh (.int ((i + k : Nat) : Int))) e8)) := rfl
  have s6 : sSet 8 (xSh 5) (tdEnv old new (rows ++ rowOf .keep ((old.drop i).take k)) (i + k) (j + k) (.sh (.int (k : Int))) (.sh (.int ((i + k : Nat) : Int))) e8) = .ok (.nx (tdEnv old new (rows ++ rowOf .keep ((old.drop i).take k)) (i + k) (j + k) (.sh (.int (k : Int))) (.sh (.int ((i + k : Nat) : Int))) (.sh (.int ((j + k : Nat) : Int))))) := rfl
  have s7 := told_loop1 old new (rows ++ rowOf .keep ((old.drop i).take k)) (.sh (.int (k : Int))) (.sh (.int ((i + k : Nat) : Int))) (.sh (.int ((j + k : Nat) : Int))) ho hn 100000 (i + k) (j + k) hi2 hj2 (by omega)
  rw [← hc, ← hp] at s7
  have s8 : sSet 3 (xOp addD (xOp addD (xPk 3) (xCall (fun2 f_row_of) (aCons (xC (.str "cut")) (aCons (xSl (xPk 0) (oSome (xPk 7)) (oSome (xPk 4))) aNil)))) (xCall (fun2 f_row_of) (aCons (xC (.str "put")) (aCons (xSl (xPk 1) (oSome (xPk 8)) (oSome (xPk 5))) aNil))))
      (tdEnv old new (rows ++ rowOf .keep ((old.drop i).take k)) (i + k + c.length) (j + k + p.length) (.sh (.int (k : Int))) (.sh (.int ((i + k : Nat) : Int))) (.sh (.int ((j + k : Nat) : Int)))) =
      .ok (.nx (tdEnv old new (rows ++ rowOf .keep ((old.drop i).take k) ++ rowOf .cut c ++ rowOf .put p) (i + k + c.length) (j + k + p.length) (.sh (.int (k : Int))) (.sh (.int ((i + k : Nat) : Int))) (.sh (.int ((j + k : Nat) : Int))))) := by
    have h1 : slD (tL old) (some ((i + k : Nat) : Int)) (some ((i + k + c.length : Nat) : Int)) = some (tL c) := by
      rw [show ((i + k + c.length : Nat) : Int) = ((i + k : Nat) : Int) + (c.length : Int) by omega, sl_tL, take_left gl]
    have h2 : slD (tL new) (some ((j + k : Nat) : Int)) (some ((j + k + p.length : Nat) : Int)) = some (tL p) := by
      rw [show ((j + k + p.length : Nat) : Int) = ((j + k : Nat) : Int) + (p.length : Int) by omega, sl_tL, take_left gr]
    have h3 : f_row_of (tS [99, 117, 116]) (tL c) = .ok (.lst ((rowOf .cut c).map rD)) := row_of_ok .cut _
    have h4 : f_row_of (tS [112, 117, 116]) (tL p) = .ok (.lst ((rowOf .put p).map rD)) := row_of_ok .put _
    have h5 := rows_add (r := rows ++ rowOf .keep ((old.drop i).take k)) (s := rowOf .cut c) (by rw [List.length_append]; omega)
    have h6 := rows_add (r := rows ++ rowOf .keep ((old.drop i).take k) ++ rowOf .cut c) (s := rowOf .put p) (by rw [List.length_append, List.length_append]; omega)
    generalize hz : rows ++ rowOf .keep ((old.drop i).take k) = Z at h5 h6
    generalize ha : i + k + c.length = u at h1
    generalize hb : j + k + p.length = v at h2
    generalize i + k = u0 at h1
    generalize j + k = v0 at h2
    unfold tdEnv
    simp [h1, h2, h3, h4, h5, h6, -List.map_append, -List.append_assoc]
  unfold b_told_w2
  rw [run_seq s1, run_seq s2, run_seq s3, run_seq s4, run_seq s5, run_seq s6, run_seq s7]
  exact s8
theorem told_loop2 (old new : List (List Nat)) (ho : old.length ≤ 120) (hn : new.length ≤ 120) : ∀ (n fuel i j : Nat) (rows : List Row) (e6 e7 e8 : Ent), (old.length - i) + (new.length - j) ≤ n → n < fuel → i ≤ old.length → j ≤ new.length → rows.length + 3 * n ≤ 1000 →
    ∃ e6' e7' e8', whileR b_told_v2 b_told_w2 fuel (tdEnv old new rows i j e6 e7 e8) = .ok (.nx (tdEnv old new (rows ++ toldF n (old.drop i) (new.drop j)) old.length new.length e6' e7' e8'))
  | n, 0, _, _, _, _, _, _, _, h, _, _, _ => absurd h (by omega)
  | 0, fuel + 1, i, j, rows, e6, e7, e8, h, _, hi, hj, _ => by
    refine ⟨e6, e7, e8, ?_⟩
    have l1 := (seq_tL old).len
    have l2 := (seq_tL new).len
    have hi' : i = old.length := by omega
    have hj' : j = new.length := by omega
    subst hi' hj'
    have hv : b_told_v2 (tdEnv old new rows old.length new.length e6 e7 e8) = .ok false := by
      unfold tdEnv
      simp [b_told_v2, l1, l2]
    unfold whileR
    rw [hv, ok_bind, if_neg (by decide), toldF, List.append_nil]
  | n + 1, fuel + 1, i, j, rows, e6, e7, e8, h, hf, hi, hj, hr => by
    have l1 := (seq_tL old).len
    have l2 := (seq_tL new).len
    by_cases he : i = old.length ∧ j = new.length
    · obtain ⟨hi', hj'⟩ := he
      subst hi' hj'
      refine ⟨e6, e7, e8, ?_⟩
      have hv : b_told_v2 (tdEnv old new rows old.length new.length e6 e7 e8) = .ok false := by
        unfold tdEnv
        simp [b_told_v2, l1, l2]
      unfold whileR
      rw [hv, ok_bind, if_neg (by decide), toldF, List.drop_length, List.drop_length, if_pos ⟨rfl, rfl⟩, List.append_nil]
    · have hv : b_told_v2 (tdEnv old new rows i j e6 e7 e8) = .ok true := by
        unfold tdEnv
        by_cases h1 : i < old.length
        · have h1' : (i : Int) < (old.length : Int) := by omega
          simp [b_told_v2, l1, l2, h1']
        · have h2' : (j : Int) < (new.length : Int) := by omega
          simp [b_told_v2, l1, l2, h2']
      have hne : ¬ (old.drop i = [] ∧ new.drop j = []) := fun hh => he ⟨by have := congrArg List.length hh.1; rw [List.length_drop] at this; simp at this; omega, by have := congrArg List.length hh.2; rw [List.length_drop] at this; simp at this; omega⟩
      obtain ⟨k, hk⟩ : ∃ k, k = lcp (old.drop i) (new.drop j) := ⟨_, rfl⟩
      obtain ⟨c, hc⟩ : ∃ c, c = (gap ((old.drop i).drop k) ((new.drop j).drop k)).1 := ⟨_, rfl⟩
      obtain ⟨p, hp⟩ : ∃ p, p = (gap ((old.drop i).drop k) ((new.drop j).drop k)).2.1 := ⟨_, rfl⟩
      have hw := told_w2_ok old new ho hn rows (by omega) i j hi hj e6 e7 e8 k hk c p hc hp
      have g := gap_ok ((old.drop i).drop k) ((new.drop j).drop k)
      have gl := g.left
      have gr := g.right
      have gm := g.moves
      rw [← hc] at gl gm
      rw [← hp] at gr gm
      have lk := lcp_le (old.drop i) (new.drop j)
      rw [← hk, List.length_drop, List.length_drop] at lk
      have ll := congrArg List.length gl
      have lr := congrArg List.length gr
      rw [List.length_append, List.length_drop, List.length_drop] at ll lr
      have da : (gap ((old.drop i).drop k) ((new.drop j).drop k)).2.2.1 = old.drop (i + k + c.length) := by
        rw [← drop_left gl, List.drop_drop, List.drop_drop, Nat.add_assoc]
      have db : (gap ((old.drop i).drop k) ((new.drop j).drop k)).2.2.2 = new.drop (j + k + p.length) := by
        rw [← drop_left gr, List.drop_drop, List.drop_drop, Nat.add_assoc]
      have hmove : 0 < k + c.length + p.length := by
        rcases Nat.eq_zero_or_pos k with h0 | h0
        · have hl0 : lcp ((old.drop i).drop k) ((new.drop j).drop k) = 0 := by rw [h0, List.drop_zero, List.drop_zero, ← hk, h0]
          rcases gm hl0 with ⟨g1, g2⟩ | g1
          · rw [h0, List.drop_zero] at g1 g2
            exact absurd ⟨g1, g2⟩ hne
          · omega
        · omega
      have k1 := rowOf_len .keep ((old.drop i).take k)
      have k2 := rowOf_len .cut c
      have k3 := rowOf_len .put p
      obtain ⟨x6, x7, x8, ih⟩ := told_loop2 old new ho hn n fuel (i + k + c.length) (j + k + p.length) (rows ++ rowOf .keep ((old.drop i).take k) ++ rowOf .cut c ++ rowOf .put p) (.sh (.int (k : Int))) (.sh (.int ((i + k : Nat) : Int))) (.sh (.int ((j + k : Nat) : Int)))
        (by omega) (by omega) (by omega) (by omega) (by simp only [List.length_append]; omega)
      refine ⟨x6, x7, x8, ?_⟩
      unfold whileR
      rw [hv, ok_bind, if_pos rfl, hw, seqO_nx, ih]
      rw [toldF, if_neg hne, ← hk, ← hc, ← hp, da, db]
      simp only [List.append_assoc]
theorem told_ok {old new : List (List Nat)} (wo : Words old) (wn : Words new) (ho : old.length ≤ 120) (hn : new.length ≤ 120) : f_told (tL old) (tL new) = .ok (.lst ((toldP old new).map rD)) := by
  have ht := table_ok wo wn ho hn
  obtain ⟨x6, x7, x8, hl⟩ := told_loop2 old new ho hn (old.length + new.length) 100000 0 0 [] .un .un .un (by omega) (by omega) (by omega) (by omega) (by simp; omega)
  rw [List.drop_zero, List.drop_zero, List.nil_append] at hl
  have e0 : startE 9 [tL old, tL new] = [.sh (tL old), .sh (tL new), .un, .un, .un, .un, .un, .un, .un] := rfl
  have s1 : sSet 2 (xCall (fun2 f_table) (aCons (xSh 0) (aCons (xSh 1) aNil))) [.sh (tL old), .sh (tL new), .un, .un, .un, .un, .un, .un, .un] = .ok (.nx [.sh (tL old), .sh (tL new), .sh (tableD old new), .un, .un, .un, .un, .un, .un]) := by
    simp [ht]
  have s2 : sSet 3 (xL (lLst aNil)) [.sh (tL old), .sh (tL new), .sh (tableD old new), .un, .un, .un, .un, .un, .un] = .ok (.nx [.sh (tL old), .sh (tL new), .sh (tableD old new), .sh (.lst []), .un, .un, .un, .un, .un]) := by
    simp
  have s3 : sSet 4 (xC (.int 0)) [.sh (tL old), .sh (tL new), .sh (tableD old new), .sh (.lst []), .un, .un, .un, .un, .un] = .ok (.nx [.sh (tL old), .sh (tL new), .sh (tableD old new), .sh (.lst []), .sh (.int 0), .un, .un, .un, .un]) := rfl
  have s4 : sSet 5 (xC (.int 0)) [.sh (tL old), .sh (tL new), .sh (tableD old new), .sh (.lst []), .sh (.int 0), .un, .un, .un, .un] = .ok (.nx (tdEnv old new [] 0 0 .un .un .un)) := rfl
  unfold f_told b_told
  rw [e0, run_seq s1, run_seq s2, run_seq s3, run_seq s4, run_seq hl]
  rfl

/-! ### what it tells -/
structure PRow (r : Row) : Prop where
  kind : r.1 = .keep ∨ r.1 = .cut ∨ r.1 = .put
  num : r.2.1 = 0
  some : r.2.2 ≠ []
theorem rowOf_p {k : Kd} (hk : k = .keep ∨ k = .cut ∨ k = .put) (ws : List (List Nat)) : ∀ r ∈ rowOf k ws, PRow r ∧ r.1 = k ∧ r.2.2 = ws := by
  intro r hr
  unfold rowOf at hr
  split at hr
  · cases hr
  · rename_i h
    rw [List.mem_singleton] at hr
    subst hr
    exact ⟨⟨hk, rfl, h⟩, rfl, rfl⟩
/-- the words that the rows leave of the old text and make of the new one -/
def oldOf (l : List Row) : List (List Nat) := (l.filter fun r => decide (r.1 = .keep) || (decide (r.1 = .cut) || decide (r.1 = .take))).flatMap (·.2.2)
def newOf (l : List Row) : List (List Nat) := (l.filter fun r => decide (r.1 = .keep) || (decide (r.1 = .put) || decide (r.1 = .lay))).flatMap (·.2.2)
def priceOf (l : List Row) : Nat := ((l.filter fun r => decide (r.1 = .cut) || decide (r.1 = .put)).map fun r => r.2.2.length).sum
theorem oldOf_app (a b : List Row) : oldOf (a ++ b) = oldOf a ++ oldOf b := by simp [oldOf]
theorem newOf_app (a b : List Row) : newOf (a ++ b) = newOf a ++ newOf b := by simp [newOf]
theorem priceOf_app (a b : List Row) : priceOf (a ++ b) = priceOf a + priceOf b := by simp [priceOf]
theorem rowOf_keep (ws : List (List Nat)) : oldOf (rowOf .keep ws) = ws ∧ newOf (rowOf .keep ws) = ws ∧ priceOf (rowOf .keep ws) = 0 := by
  unfold rowOf; split
  · rename_i h; subst h; simp [oldOf, newOf, priceOf]
  · simp [oldOf, newOf, priceOf]
theorem rowOf_cut (ws : List (List Nat)) : oldOf (rowOf .cut ws) = ws ∧ newOf (rowOf .cut ws) = [] ∧ priceOf (rowOf .cut ws) = ws.length := by
  unfold rowOf; split
  · rename_i h; subst h; simp [oldOf, newOf, priceOf]
  · simp [oldOf, newOf, priceOf]
theorem rowOf_put (ws : List (List Nat)) : oldOf (rowOf .put ws) = [] ∧ newOf (rowOf .put ws) = ws ∧ priceOf (rowOf .put ws) = ws.length := by
  unfold rowOf; split
  · rename_i h; subst h; simp [oldOf, newOf, priceOf]
  · simp [oldOf, newOf, priceOf]
theorem dist_lcp : ∀ a b : List (List Nat), dist (a.drop (lcp a b)) (b.drop (lcp a b)) = dist a b
  | [], b => by simp [lcp]
  | x :: a, [] => by simp [lcp]
  | x :: a, y :: b => by
    rw [lcp_cc]
    split
    · rename_i h
      rw [List.drop_succ_cons, List.drop_succ_cons, dist_lcp a b, dist_cons, if_pos h]
    · simp
structure ToldOk (l : List Row) (a b : List (List Nat)) : Prop where
  rows : ∀ r ∈ l, PRow r
  old : oldOf l = a
  new : newOf l = b
  cost : priceOf l = dist a b
theorem toldF_ok : ∀ (n : Nat) (a b : List (List Nat)), a.length + b.length ≤ n → ToldOk (toldF n a b) a b
  | 0, a, b, h => by
    have ha : a = [] := List.length_eq_zero_iff.mp (by omega)
    have hb : b = [] := List.length_eq_zero_iff.mp (by omega)
    subst ha hb
    constructor <;> simp [toldF, oldOf, newOf, priceOf, dist_nil_l]
  | n + 1, a, b, h => by
    unfold toldF
    split
    · rename_i he
      obtain ⟨ha, hb⟩ := he
      subst ha hb
      constructor <;> simp [oldOf, newOf, priceOf, dist_nil_l]
    · rename_i he
      obtain ⟨k, hk⟩ : ∃ k, k = lcp a b := ⟨_, rfl⟩
      rw [← hk]
      have g := gap_ok (a.drop k) (b.drop k)
      have gl := g.left
      have gr := g.right
      have gc := g.cost
      have gm := g.moves
      obtain ⟨c, hc⟩ : ∃ c, c = (gap (a.drop k) (b.drop k)).1 := ⟨_, rfl⟩
      obtain ⟨p, hp⟩ : ∃ p, p = (gap (a.drop k) (b.drop k)).2.1 := ⟨_, rfl⟩
      obtain ⟨a', ha'⟩ : ∃ a', a' = (gap (a.drop k) (b.drop k)).2.2.1 := ⟨_, rfl⟩
      obtain ⟨b', hb'⟩ : ∃ b', b' = (gap (a.drop k) (b.drop k)).2.2.2 := ⟨_, rfl⟩
      rw [← hc, ← ha'] at gl
      rw [← hp, ← hb'] at gr
      rw [← hc, ← hp, ← ha', ← hb'] at gc
      rw [← hc, ← hp] at gm
      rw [← hc, ← hp, ← ha', ← hb']
      have hl := lcp_le a b
      rw [← hk] at hl
      have hmove : 0 < k + c.length + p.length := by
        rcases Nat.eq_zero_or_pos k with h0 | h0
        · have hl0 : lcp (a.drop k) (b.drop k) = 0 := by rw [h0, List.drop_zero, List.drop_zero, ← hk, h0]
          rcases gm hl0 with ⟨g1, g2⟩ | g1
          · rw [h0, List.drop_zero] at g1 g2
            exact absurd ⟨g1, g2⟩ he
          · omega
        · omega
      have ll := congrArg List.length gl
      have lr := congrArg List.length gr
      rw [List.length_append, List.length_drop] at ll lr
      have ih := toldF_ok n a' b' (by omega)
      have r1 := rowOf_keep (a.take k)
      have r2 := rowOf_cut c
      have r3 := rowOf_put p
      have ht : b.take k = a.take k := by rw [hk]; exact (lcp_take a b).symm
      constructor
      · intro r hr
        simp only [List.mem_append] at hr
        rcases hr with ((hr | hr) | hr) | hr
        · exact (rowOf_p (.inl rfl) _ r hr).1
        · exact (rowOf_p (.inr (.inl rfl)) _ r hr).1
        · exact (rowOf_p (.inr (.inr rfl)) _ r hr).1
        · exact ih.rows r hr
      · rw [oldOf_app, oldOf_app, oldOf_app, r1.1, r2.1, r3.1, ih.old, List.append_nil, List.append_assoc, ← gl, List.take_append_drop]
      · rw [newOf_app, newOf_app, newOf_app, r1.2.1, r2.2.1, r3.2.1, ih.new, List.append_nil, List.append_assoc, ← gr, ← ht, List.take_append_drop]
      · rw [priceOf_app, priceOf_app, priceOf_app, r1.2.2, r2.2.2, r3.2.2, ih.cost, ← dist_lcp a b, ← hk, gc]
        omega
theorem told_is {a b : List (List Nat)} : ToldOk (toldP a b) a b := toldF_ok _ a b (Nat.le_refl _)
end DL

set_option Elab.async false
set_option linter.all false
set_option maxRecDepth 100000
set_option maxHeartbeats 2000000
/-! P9: how far apart two texts are; what stands beside what in a telling -/
namespace DL
open PySem

theorem dist_symm : ∀ a b : List (List Nat), dist a b = dist b a
  | [], b => by rw [dist_nil_l, dist_nil_r]
  | x :: a, [] => by rw [dist_nil_l, dist_nil_r]
  | x :: a, y :: b => by
    rw [dist_cons, dist_cons]
    by_cases h : x = y
    · rw [if_pos h, if_pos h.symm, dist_symm a b]
    · rw [if_neg h, if_neg (Ne.symm h), dist_symm a (y :: b), dist_symm (x :: a) b, Nat.min_comm]
termination_by a b => a.length + b.length
theorem dist_lip : ∀ (n : Nat) (a c : List (List Nat)), a.length + c.length ≤ n → (∀ x, dist (x :: a) c ≤ 1 + dist a c) ∧ (∀ z, dist a c ≤ 1 + dist a (z :: c))
  | n, [], [], _ => by
    refine ⟨fun x => ?_, fun z => ?_⟩
    · rw [dist_nil_r, dist_nil_r]; simp
    · rw [dist_nil_l, dist_nil_l]; simp
  | n, [], z :: c, h => by
    refine ⟨fun x => ?_, fun w => ?_⟩
    · rw [dist_nil_l, dist_cons]
      split
      · rw [dist_nil_l]; simp; omega
      · rw [dist_nil_l]; simp only [List.length_cons]; omega
    · rw [dist_nil_l, dist_nil_l]; simp; omega
  | n, x :: a, [], h => by
    refine ⟨fun w => ?_, fun z => ?_⟩
    · rw [dist_nil_r, dist_nil_r]; simp; omega
    · match n, h with
      | n + 1, h =>
        have h1 := (dist_lip n a [] (by simp at h ⊢; omega))
        rw [dist_nil_r, dist_cons]
        have h2 := h1.2 z
        rw [dist_nil_r] at h2
        have h3 := dist_nil_r a
        have h4 := dist_nil_r (x :: a)
        simp only [List.length_cons] at h4 ⊢
        split <;> omega
  | 0, x :: a, z :: c, h => by simp at h
  | n + 1, x :: a, z :: c, h => by
    simp only [List.length_cons] at h
    refine ⟨fun w => ?_, fun w => ?_⟩
    · rw [dist_cons w z]
      split
      · exact (dist_lip n (x :: a) c (by simp only [List.length_cons]; omega)).2 z
      · omega
    · rw [dist_cons x w]
      have h1 := (dist_lip n a (z :: c) (by simp only [List.length_cons]; omega))
      split
      · exact h1.1 x
      · have h2 := h1.1 x
        have h3 := h1.2 w
        omega
theorem dist_l (x : List Nat) (a c : List (List Nat)) : dist (x :: a) c ≤ 1 + dist a c := (dist_lip _ a c (Nat.le_refl _)).1 x
theorem dist_r (x : List Nat) (a c : List (List Nat)) : dist a (x :: c) ≤ 1 + dist a c := by
  rw [dist_symm a (x :: c), dist_symm a c]; exact dist_l x c a
theorem dist_l' (x : List Nat) (a c : List (List Nat)) : dist a c ≤ 1 + dist (x :: a) c := by
  rw [dist_symm a c, dist_symm (x :: a) c]; exact (dist_lip _ c a (Nat.le_refl _)).2 x
theorem dist_r' (x : List Nat) (a c : List (List Nat)) : dist a c ≤ 1 + dist a (x :: c) := (dist_lip _ a c (Nat.le_refl _)).2 x
theorem dist_up : ∀ a b : List (List Nat), dist a b ≤ a.length + b.length
  | [], b => by rw [dist_nil_l]; simp
  | x :: a, b => by
    have h1 := dist_l x a b
    have h2 := dist_up a b
    simp only [List.length_cons]; omega
theorem dist_low : ∀ a b : List (List Nat), a.length ≤ b.length + dist a b
  | [], b => by simp
  | x :: a, [] => by rw [dist_nil_r]; simp
  | x :: a, y :: b => by
    rw [dist_cons]
    have h1 := dist_low a b
    have h2 := dist_low a (y :: b)
    have h3 := dist_low (x :: a) b
    simp only [List.length_cons] at h2 h3 ⊢
    split <;> omega
termination_by a b => a.length + b.length
theorem dist_even : ∀ a b : List (List Nat), dist a b % 2 = (a.length + b.length) % 2
  | [], b => by rw [dist_nil_l]; simp
  | x :: a, [] => by rw [dist_nil_r]; simp
  | x :: a, y :: b => by
    rw [dist_cons]
    have h1 := dist_even a b
    have h2 := dist_even a (y :: b)
    have h3 := dist_even (x :: a) b
    simp only [List.length_cons] at h2 h3 ⊢
    split
    · omega
    · rcases Nat.le_total (dist a (y :: b)) (dist (x :: a) b) with h | h
      · rw [Nat.min_eq_left h]; omega
      · rw [Nat.min_eq_right h]; omega
termination_by a b => a.length + b.length
theorem dist_zero : ∀ a b : List (List Nat), dist a b = 0 ↔ a = b
  | [], b => by rw [dist_nil_l, List.length_eq_zero_iff, eq_comm]
  | x :: a, [] => by rw [dist_nil_r]; simp
  | x :: a, y :: b => by
    rw [dist_cons]
    by_cases h : x = y
    · rw [if_pos h, dist_zero a b, h]; simp
    · rw [if_neg h]
      simp [h]
termination_by a b => a.length + b.length
theorem dist_tri : ∀ (n : Nat) (a b c : List (List Nat)), a.length + b.length + c.length ≤ n → dist a c ≤ dist a b + dist b c
  | n, [], b, c, _ => by
    rw [dist_nil_l, dist_nil_l, dist_symm b c]
    exact dist_low c b
  | n, x :: a, [], c, _ => by
    rw [dist_nil_l, dist_nil_r]
    exact dist_up _ _
  | n, x :: a, y :: b, [], _ => by
    rw [dist_nil_r (y :: b), dist_nil_r (x :: a)]
    have := dist_low (x :: a) (y :: b)
    omega
  | 0, x :: a, y :: b, z :: c, h => by simp at h
  | n + 1, x :: a, y :: b, z :: c, h => by
    simp only [List.length_cons] at h
    have i1 := dist_tri n a b c (by omega)
    have i2 := dist_tri n a b (z :: c) (by simp only [List.length_cons]; omega)
    have i3 := dist_tri n (x :: a) (y :: b) c (by simp only [List.length_cons]; omega)
    have i4 := dist_tri n a (y :: b) (z :: c) (by simp only [List.length_cons]; omega)
    have i5 := dist_tri n (x :: a) b c (by simp only [List.length_cons]; omega)
    have i6 := dist_tri n (x :: a) b (z :: c) (by simp only [List.length_cons]; omega)
    have l1 := dist_l x a (z :: c)
    have l2 := dist_r z (x :: a) c
    by_cases hxy : x = y
    · by_cases hyz : y = z
      · rw [dist_cons x z, dist_cons x y, dist_cons y z, if_pos hxy, if_pos hyz, if_pos (hxy.trans hyz)]
        exact i1
      · have e1 : dist (x :: a) (y :: b) = dist a b := by rw [dist_cons, if_pos hxy]
        have e2 : dist (y :: b) (z :: c) = 1 + min (dist b (z :: c)) (dist (y :: b) c) := by rw [dist_cons, if_neg hyz]
        omega
    · by_cases hyz : y = z
      · have e1 : dist (x :: a) (y :: b) = 1 + min (dist a (y :: b)) (dist (x :: a) b) := by rw [dist_cons, if_neg hxy]
        have e2 : dist (y :: b) (z :: c) = dist b c := by rw [dist_cons, if_pos hyz]
        omega
      · have e1 : dist (x :: a) (y :: b) = 1 + min (dist a (y :: b)) (dist (x :: a) b) := by rw [dist_cons, if_neg hxy]
        have e2 : dist (y :: b) (z :: c) = 1 + min (dist b (z :: c)) (dist (y :: b) c) := by rw [dist_cons, if_neg hyz]
        omega
theorem dist_keep : ∀ (w a b : List (List Nat)), dist (w ++ a) (w ++ b) = dist a b
  | [], a, b => rfl
  | x :: w, a, b => by rw [List.cons_append, List.cons_append, dist_cons, if_pos rfl, dist_keep w a b]
theorem dist_cutw : ∀ (w a b : List (List Nat)), dist (w ++ a) b ≤ w.length + dist a b
  | [], a, b => by simp
  | x :: w, a, b => by
    have h1 := dist_l x (w ++ a) b
    have h2 := dist_cutw w a b
    rw [List.cons_append]; simp only [List.length_cons]; omega
theorem dist_putw (w a b : List (List Nat)) : dist a (w ++ b) ≤ w.length + dist a b := by
  rw [dist_symm a (w ++ b), dist_symm a b]; exact dist_cutw w b a

/-! ### what stands beside what -/
def nxt : Kd → Kd → Bool
  | .keep, k => decide (k ≠ .keep)
  | .cut, k => decide (k ≠ .cut)
  | _, k => decide (k = .keep)
def chainB : List Row → Bool
  | r :: s :: l => nxt r.1 s.1 && chainB (s :: l)
  | _ => true
theorem chain_get : ∀ {l : List Row}, chainB l = true → ∀ (k : Nat) (h : k + 1 < l.length), nxt (l[k]'(by omega)).1 (l[k + 1]).1 = true
  | [], _, k, h => by simp at h
  | [r], _, k, h => by simp at h
  | r :: s :: l, hc, k, h => by
    simp only [chainB, Bool.and_eq_true] at hc
    cases k with
    | zero => exact hc.1
    | succ k => exact chain_get hc.2 k (by simpa using h)
theorem lcp_rest : ∀ a b : List (List Nat), lcp (a.drop (lcp a b)) (b.drop (lcp a b)) = 0
  | [], b => by simp [lcp]
  | x :: a, [] => by simp [lcp]
  | x :: a, y :: b => by
    rw [lcp_cc]
    split
    · rename_i h
      rw [List.drop_succ_cons, List.drop_succ_cons, lcp_rest a b]
    · rename_i h
      simp [lcp_cc, h]
def startsKeep (l : List Row) : Prop := l = [] ∨ ∃ r m, l = r :: m ∧ r.1 = .keep
theorem toldF_chain : ∀ (n : Nat) (a b : List (List Nat)), a.length + b.length ≤ n → chainB (toldF n a b) = true ∧ ((a = [] ∧ b = []) ∨ 0 < lcp a b → startsKeep (toldF n a b))
  | 0, a, b, h => ⟨rfl, fun _ => .inl rfl⟩
  | n + 1, a, b, h => by
    unfold toldF
    split
    · exact ⟨rfl, fun _ => .inl rfl⟩
    · rename_i he
      obtain ⟨k, hk⟩ : ∃ k, k = lcp a b := ⟨_, rfl⟩
      have hrest := lcp_rest a b
      rw [← hk] at hrest ⊢
      have g := gap_ok (a.drop k) (b.drop k)
      have gl := g.left
      have gr := g.right
      have gm := g.moves hrest
      have ge := g.ends
      obtain ⟨c, hc⟩ : ∃ c, c = (gap (a.drop k) (b.drop k)).1 := ⟨_, rfl⟩
      obtain ⟨p, hp⟩ : ∃ p, p = (gap (a.drop k) (b.drop k)).2.1 := ⟨_, rfl⟩
      obtain ⟨a', ha'⟩ : ∃ a', a' = (gap (a.drop k) (b.drop k)).2.2.1 := ⟨_, rfl⟩
      obtain ⟨b', hb'⟩ : ∃ b', b' = (gap (a.drop k) (b.drop k)).2.2.2 := ⟨_, rfl⟩
      rw [← hc, ← ha'] at gl
      rw [← hp, ← hb'] at gr
      rw [← hc, ← hp] at gm
      rw [← ha', ← hb'] at ge
      rw [← hc, ← hp, ← ha', ← hb']
      have hl := lcp_le a b
      rw [← hk] at hl
      have ll := congrArg List.length gl
      have lr := congrArg List.length gr
      rw [List.length_append, List.length_drop] at ll lr
      have hmove : 0 < k + c.length + p.length := by
        rcases gm with ⟨g1, g2⟩ | g1
        · have z1 := congrArg List.length g1
          have z2 := congrArg List.length g2
          rw [List.length_drop] at z1 z2
          simp only [List.length_nil] at z1 z2
          rcases Nat.eq_zero_or_pos k with h0 | h0
          · exact absurd ⟨List.length_eq_zero_iff.mp (by omega), List.length_eq_zero_iff.mp (by omega)⟩ he
          · omega
        · omega
      obtain ⟨ic, is⟩ := toldF_chain n a' b' (by omega)
      have hs := is ge
      obtain ⟨R, hR⟩ : ∃ R, R = toldF n a' b' := ⟨_, rfl⟩
      rw [← hR] at ic hs ⊢
      have hnil : c = [] → p = [] → R = [] := fun h1 h2 => by
        rcases gm with ⟨g1, g2⟩ | g1
        · rw [g1, h1] at gl
          rw [g2, h2] at gr
          have x1 : a' = [] := by simpa using gl.symm
          have x2 : b' = [] := by simpa using gr.symm
          rw [hR, x1, x2]
          cases n <;> simp [toldF]
        · rw [h1, h2] at g1; simp at g1
      have cR : ∀ (kd : Kd) (n0 : Int) (ws : List (List Nat)), kd ≠ .keep → chainB ((kd, n0, ws) :: R) = true := fun kd n0 ws hkd => by
        rcases hs with h0 | ⟨r, m, h0, h1⟩
        · rw [h0]; rfl
        · rw [h0] at ic ⊢
          simp only [chainB, Bool.and_eq_true]
          refine ⟨?_, ic⟩
          rw [h1]
          cases kd <;> first | exact absurd rfl hkd | decide
      have cP : ∀ ws, chainB (rowOf .put p ++ R) = true ∧ (c = [] → chainB ((Kd.keep, (0 : Int), ws) :: (rowOf .put p ++ R)) = true) ∧ chainB ((Kd.cut, (0 : Int), ws) :: (rowOf .put p ++ R)) = true := fun ws => by
        unfold rowOf
        split
        · rename_i h
          refine ⟨ic, fun h1 => ?_, cR _ _ _ (by decide)⟩
          rw [List.nil_append, hnil h1 h]; rfl
        · refine ⟨cR _ _ _ (by decide), fun _ => ?_, ?_⟩
          · show (nxt .keep .put && chainB ((Kd.put, (0 : Int), p) :: R)) = true
            rw [cR _ _ _ (by decide)]; rfl
          · show (nxt .cut .put && chainB ((Kd.put, (0 : Int), p) :: R)) = true
            rw [cR _ _ _ (by decide)]; rfl
      have cC : ∀ ws, chainB (rowOf .cut c ++ (rowOf .put p ++ R)) = true ∧ chainB ((Kd.keep, (0 : Int), ws) :: (rowOf .cut c ++ (rowOf .put p ++ R))) = true := fun ws => by
        obtain ⟨q1, q2, q3⟩ := cP ws
        unfold rowOf at q1 q2 ⊢
        by_cases h : c = []
        · rw [if_pos h]
          exact ⟨q1, q2 h⟩
        · rw [if_neg h]
          have q4 := (cP c).2.2
          unfold rowOf at q4
          refine ⟨q4, ?_⟩
          show (nxt .keep .cut && chainB ((Kd.cut, (0 : Int), c) :: (_ ++ R))) = true
          rw [q4]; rfl
      rw [List.append_assoc, List.append_assoc]
      refine ⟨?_, fun hh => ?_⟩
      · rw [show rowOf Kd.keep (a.take k) = if a.take k = [] then [] else [(Kd.keep, (0 : Int), a.take k)] from rfl]
        split
        · exact (cC []).1
        · exact (cC _).2
      · rcases hh with hh | hh
        · exact absurd hh he
        · have hne : a.take k ≠ [] := fun h0 => by
            have := congrArg List.length h0
            rw [List.length_take] at this
            simp only [List.length_nil] at this
            omega
          rw [show rowOf Kd.keep (a.take k) = [(Kd.keep, (0 : Int), a.take k)] from if_neg hne]
          exact .inr ⟨_, _, rfl, rfl⟩
theorem told_chain (a b : List (List Nat)) : chainB (toldP a b) = true := (toldF_chain _ a b (Nat.le_refl _)).1
end DL

set_option Elab.async false
set_option linter.all false
set_option maxRecDepth 100000
set_option maxHeartbeats 2000000
/-! P10: rows (redraft/rows.py), and the laws' looks at rows -/
namespace DL
open PySem

theorem flatL_tS : ∀ l : List (List Nat), flatL (l.map tS) = some (l.map fun w => L2.V.str (mkS w))
  | [] => rfl
  | w :: l => by
    show (some (L2.V.str (mkS w))).bind _ = _
    rw [Option.bind_some, flatL_tS l]
    rfl
theorem inV_tS (a : List Nat) (l : List (List Nat)) : L2.inV (.str (mkS a)) (l.map fun w => L2.V.str (mkS w)) = decide (a ∈ l) := by
  unfold L2.inV
  induction l with
  | nil => simp
  | cons w l ih =>
    rw [List.map_cons, List.any_cons, ih]
    have : L2.eqV (.str (mkS w)) (.str (mkS a)) = decide (w = a) := mk_eq w a
    rw [this]
    by_cases h : w = a
    · simp [h]
    · simp [h, Ne.symm h]
theorem inB_tup (a : List Nat) (l : List (List Nat)) : inB (tS a) (.tup (l.map tS)) = some (decide (a ∈ l)) := by
  have : inB (tS a) (.tup (l.map tS)) = (flatD (tS a)).bind fun v => (flatL (l.map tS)).map fun vs => L2.inV v vs := rfl
  rw [this, flatL_tS]
  show some (L2.inV (.str (mkS a)) _) = _
  rw [inV_tS]
theorem inD_tup (a : List Nat) (l : List (List Nat)) : inD (tS a) (.tup (l.map tS)) = some (.bl (decide (a ∈ l))) := by simp [inD, inB_tup]
theorem ninD_tup (a : List Nat) (l : List (List Nat)) : ninD (tS a) (.tup (l.map tS)) = some (.bl (!decide (a ∈ l))) := by simp [ninD, inB_tup]
def allK : List (List Nat) := [[107, 101, 101, 112], [99, 117, 116], [112, 117, 116], [116, 97, 107, 101], [108, 97, 121]]
theorem ninD_kinds (k : Kd) : ninD (tS (kL k)) (.tup [tS [107, 101, 101, 112], tS [99, 117, 116], tS [112, 117, 116], tS [116, 97, 107, 101], tS [108, 97, 121]]) = some (.bl false) := by
  have := ninD_tup (kL k) allK
  have h : (!decide (kL k ∈ allK)) = false := by cases k <;> decide
  rw [h] at this
  exact this

/-- a whole row -/
structure RowOk (r : Row) : Prop where
  words : Words r.2.2
  some : r.2.2 ≠ []
  len : r.2.2.length ≤ 1000
  num : if r.1 = .take ∨ r.1 = .lay then 1 ≤ r.2.1 ∧ r.2.1 ≤ 999999999 else r.2.1 = 0
theorem all_words {ws : List (List Nat)} (h : Words ws) : allD [.lst (ws.map fun w => D.bl (isWordL w))] = some (.bl true) := by
  have e : (ws.map fun w => D.bl (isWordL w)) = (ws.map isWordL).map D.bl := by rw [List.map_map]; rfl
  rw [e, allD_map]
  congr 2
  rw [List.all_eq_true]
  intro b hb
  obtain ⟨w, hw, rfl⟩ := List.mem_map.mp hb
  exact h w hw
theorem is_row_ok {r : Row} (h : RowOk r) : f_is_row (rD r) = .ok (.bl true) := by
  have hs := sizeLine_is
  obtain ⟨k, n, ws⟩ := r
  have hw : Words ws := h.words
  have hl : ws.length ≤ 1000 := h.len
  have hne : ws ≠ [] := h.some
  have hlen := (seq_tT ws).len
  have hz : (ws.map tS).length ≤ sizeLine := by rw [List.length_map]; omega
  have h0 : ¬ ((ws.length : Int) = 0) := by have := List.length_pos_iff.mpr hne; omega
  have hc : compR [1] (tgt1 1) tYes b_is_row_c1 [.sh (rD (k, n, ws)), .un] (ws.map tS) = .ok (ws.map fun w => D.bl (isWordL w)) := by
    refine compR_of _ fun w hwm => ?_
    simp [b_is_row_c1, is_word_tS (small_word (hw w hwm))]
  have ha := all_words hw
  have x0 : ixD (rD (k, n, ws)) (.int 0) = some (tS (kL k)) := ixD_tup0 _ _
  have x1 : ixD (rD (k, n, ws)) (.int 1) = some (.int n) := ixD_tup1 _ _ _
  have x2 : ixD (rD (k, n, ws)) (.int 2) = some (tT ws) := ixD_tup2 _ _ _ _
  have l3 : lenD [rD (k, n, ws)] = some (.int 3) := lenD_tup _
  have t3 : isT "tuple" (rD (k, n, ws)) = some (.bl true) := isT_tup_tup _
  have t4 : isT "tuple" (tT ws) = some (.bl true) := isT_tup_tup _
  have it : tupItems (tT ws) = some (ws.map tS) := rfl
  have nk := ninD_kinds k
  have hnum := h.num
  simp only at hnum
  have e0 : startE 2 [rD (k, n, ws)] = [.sh (rD (k, n, ws)), .un] := rfl
  have s1 : sIf (tOr (tNot (tB (xIsi "tuple" (xPk 0)))) (tB (xOp neD (xB lenD (aCons (xPk 0) aNil)) (xC (.int 3))))) (sRet (xC (.bl false))) sNil [.sh (rD (k, n, ws)), .un] = .ok (.nx [.sh (rD (k, n, ws)), .un]) := by
    simp [t3, l3]
  have s2 : sIf (tOr (tNot (tB (xIsi "str" (xIx (xPk 0) (xC (.int 0)))))) (tB (xOp ninD (xIx (xPk 0) (xC (.int 0))) (xC (.tup [(.str "keep"), (.str "cut"), (.str "put"), (.str "take"), (.str "lay")]))))) (sRet (xC (.bl false))) sNil [.sh (rD (k, n, ws)), .un] = .ok (.nx [.sh (rD (k, n, ws)), .un]) := by
    simp [x0, nk]
  have s3 : sIf (tOr (tNot (tB (xIsi "int" (xIx (xPk 0) (xC (.int 1)))))) (tB (xIsi "bool" (xIx (xPk 0) (xC (.int 1)))))) (sRet (xC (.bl false))) sNil [.sh (rD (k, n, ws)), .un] = .ok (.nx [.sh (rD (k, n, ws)), .un]) := by
    simp [x1]
  have s4 : sIf (tOr (tNot (tB (xIsi "tuple" (xIx (xPk 0) (xC (.int 2)))))) (tB (xOp eqD (xB lenD (aCons (xIx (xPk 0) (xC (.int 2))) aNil)) (xC (.int 0))))) (sRet (xC (.bl false))) sNil [.sh (rD (k, n, ws)), .un] = .ok (.nx [.sh (rD (k, n, ws)), .un]) := by
    simp [x2, t4, hlen, hne]
  have s5 : sIf (tNot (tB (xB allD (aCons (xL (lComp [1] (tgt1 1) tYes b_is_row_c1 (iTup (xIx (xPk 0) (xC (.int 2)))))) aNil)))) (sRet (xC (.bl false))) sNil [.sh (rD (k, n, ws)), .un] = .ok (.nx [.sh (rD (k, n, ws)), .un]) := by
    have hlc : lComp [1] (tgt1 1) tYes b_is_row_c1 (iTup (xIx (xPk 0) (xC (.int 2)))) [.sh (rD (k, n, ws)), .un] = .ok (ws.map fun w => D.bl (isWordL w)) := by
      unfold lComp
      rw [show iTup (xIx (xPk 0) (xC (.int 2))) [.sh (rD (k, n, ws)), .un] = .ok (ws.map tS) by simp [x2, it], ok_bind, if_pos hz, hc]
    have hb : tB (xB allD (aCons (xL (lComp [1] (tgt1 1) tYes b_is_row_c1 (iTup (xIx (xPk 0) (xC (.int 2)))))) aNil)) [.sh (rD (k, n, ws)), .un] = .ok true := by
      unfold tB xB aCons xL
      rw [hlc, mkL_ok, ok_bind]
      unfold aNil
      rw [ok_bind, ok_bind, ha, lift_some]
      rfl
    unfold sIf tNot
    rw [hb]
    rfl
  unfold f_is_row b_is_row
  rw [e0]
  refine run_ret ?_
  rw [run_seq s1, run_seq s2, run_seq s3, run_seq s4, run_seq s5]
  by_cases hk : k = .take ∨ k = .lay
  · rw [if_pos hk] at hnum
    rcases hk with rfl | rfl
    · simp [x0, x1, hnum, -eqD_tS]
    · simp [x0, x1, hnum, -eqD_tS]
  · rw [if_neg hk] at hnum
    have hk1 : k ≠ .take := fun e => hk (.inl e)
    have hk2 : k ≠ .lay := fun e => hk (.inr e)
    subst hnum
    simp [x0, x1, hk1, hk2, -eqD_tS]
theorem need_rows_loop (a : D) : ∀ (l : List Row) (e : Ent), (∀ r ∈ l, RowOk r) → ∃ e', forR (tgt1 1) b_need_rows_f1 (l.map rD) [.sh a, e] = .ok (.nx [.sh a, e'])
  | [], e, _ => ⟨e, rfl⟩
  | r :: l, e, h => by
    obtain ⟨e', ih⟩ := need_rows_loop a l (.sh (rD r)) fun x hx => h x (by simp [hx])
    refine ⟨e', ?_⟩
    have h1 := is_row_ok (h r (by simp))
    have hb : b_need_rows_f1 [.sh a, .sh (rD r)] = .ok (.nx [.sh a, .sh (rD r)]) := by
      simp [b_need_rows_f1, h1]
    rw [List.map_cons, forR_cons]
    show lift (some [Ent.sh a, Ent.sh (rD r)]) >>= _ = _
    rw [lift_some, ok_bind, hb, seqO_nx, ih]
theorem need_rows_ok {l : List Row} (h : ∀ r ∈ l, RowOk r) : f_need_rows (.lst (l.map rD)) = .ok .non := by
  obtain ⟨e', hl⟩ := need_rows_loop (.lst (l.map rD)) l .un h
  simp only [f_need_rows, b_need_rows, startE]
  simp [hl]

/-! cost -/
def costOf (l : List Row) : Nat := (l.map fun r => if r.1 = .cut ∨ r.1 = .put then r.2.2.length else if r.1 = .take then 3 else 0).sum
theorem cost_loop (a : D) : ∀ (l : List Row) (c : Nat) (e2 e3 e4 : Ent), ∃ e2' e3' e4', forR (tgtT [2, 3, 4]) b_cost_f1 (l.map rD) [.sh a, .sh (.int (c : Int)), e2, e3, e4] = .ok (.nx [.sh a, .sh (.int ((c + costOf l : Nat) : Int)), e2', e3', e4'])
  | [], c, e2, e3, e4 => ⟨e2, e3, e4, rfl⟩
  | (k, n, ws) :: l, c, e2, e3, e4 => by
    obtain ⟨x2, x3, x4, ih⟩ := cost_loop a l (c + (if k = .cut ∨ k = .put then ws.length else if k = .take then 3 else 0)) (.sh (tS (kL k))) (.sh (.int n)) (.sh (tT ws))
    refine ⟨x2, x3, x4, ?_⟩
    have hlen := (seq_tT ws).len
    have hb : b_cost_f1 [.sh a, .sh (.int (c : Int)), .sh (tS (kL k)), .sh (.int n), .sh (tT ws)] = .ok (.nx [.sh a, .sh (.int ((c + (if k = .cut ∨ k = .put then ws.length else if k = .take then 3 else 0) : Nat) : Int)), .sh (tS (kL k)), .sh (.int n), .sh (tT ws)]) := by
      cases k <;> simp [b_cost_f1, hlen, -eqD_tS]
    rw [List.map_cons, forR_cons]
    show lift (tgtT [2, 3, 4] (.tup [tS (kL k), .int n, tT ws]) _) >>= _ = _
    rw [tgtT_ok _ _ _ rfl]
    show lift (some [Ent.sh a, Ent.sh (.int (c : Int)), Ent.sh (tS (kL k)), Ent.sh (.int n), Ent.sh (tT ws)]) >>= _ = _
    rw [lift_some, ok_bind, hb, seqO_nx, ih]
    simp only [costOf, List.map_cons, List.sum_cons, Nat.add_assoc]
theorem cost_ok {l : List Row} (h : ∀ r ∈ l, RowOk r) : f_cost (.lst (l.map rD)) = .ok (.int (costOf l : Int)) := by
  have hn := need_rows_ok h
  obtain ⟨x2, x3, x4, hl⟩ := cost_loop (.lst (l.map rD)) l 0 .un .un .un
  rw [Nat.zero_add] at hl
  have e0 : startE 5 [D.lst (l.map rD)] = [.sh (.lst (l.map rD)), .un, .un, .un, .un] := rfl
  have s1 : sExpr (xCall (fun1 f_need_rows) (aCons (xSh 0) aNil)) [.sh (.lst (l.map rD)), .un, .un, .un, .un] = .ok (.nx [.sh (.lst (l.map rD)), .un, .un, .un, .un]) := by simp [hn]
  have s2 : sSet 1 (xC (.int 0)) [.sh (.lst (l.map rD)), .un, .un, .un, .un] = .ok (.nx [.sh (.lst (l.map rD)), .sh (.int ((0 : Nat) : Int)), .un, .un, .un]) := rfl
  have s3 : sFor (iList (xSh 0)) (tgtT [2, 3, 4]) b_cost_f1 [.sh (.lst (l.map rD)), .sh (.int ((0 : Nat) : Int)), .un, .un, .un] = .ok (.nx [.sh (.lst (l.map rD)), .sh (.int (costOf l : Int)), x2, x3, x4]) := by
    unfold sFor
    rw [show iList (xSh 0) [.sh (.lst (l.map rD)), .sh (.int ((0 : Nat) : Int)), .un, .un, .un] = .ok (l.map rD) from rfl, ok_bind]
    exact hl
  unfold f_cost b_cost
  rw [e0]
  refine run_ret ?_
  rw [run_seq s1, run_seq s2, run_seq s3]
  rfl
theorem price_cost : ∀ {l : List Row}, (∀ r ∈ l, r.1 ≠ .take) → priceOf l = costOf l
  | [], _ => rfl
  | r :: l, h => by
    have ih := price_cost (l := l) fun x hx => h x (by simp [hx])
    have h1 := h r (by simp)
    unfold priceOf costOf at ih ⊢
    rw [List.filter_cons, List.map_cons, List.sum_cons, ← ih]
    by_cases hk : r.1 = .cut ∨ r.1 = .put
    · rw [if_pos hk, if_pos (by simpa using hk), List.map_cons, List.sum_cons]
    · rw [if_neg hk, if_neg h1, if_neg (by simpa using hk), Nat.zero_add]

/-! ### the laws' looks -/
theorem texts_ok {ws : List (List Nat)} (h : ws.length ≤ 1000) : f_law_texts (tT ws) = .ok (.bl true) := by
  have hs := sizeLine_is
  have hc : compR [1] (tgt1 1) tYes b_law_texts_c1 [.sh (tT ws), .un] (ws.map tS) = .ok (ws.map fun _ => D.bl true) := by
    refine compR_of _ fun w _ => ?_
    simp [b_law_texts_c1]
  have e : (ws.map fun _ => D.bl true) = (ws.map fun _ => true).map D.bl := by simp [Function.comp_def]
  have ha : allD [.lst (ws.map fun _ => D.bl true)] = some (.bl true) := by rw [e, allD_map]; simp [List.all_map]
  have hz : ws.length ≤ sizeLine := by omega
  have it : tupItems (tT ws) = some (ws.map tS) := rfl
  simp only [f_law_texts, b_law_texts, startE]
  simp [it, hz, hc, ha]
theorem wholeI (i : Int) : f_law_whole (.int i) = .ok (.bl true) := by
  simp [f_law_whole, b_law_whole, startE]
theorem rows_told_loop (a : D) : ∀ (l : List Row) (e : Ent), (∀ r ∈ l, r.2.2 ≠ [] ∧ r.2.2.length ≤ 1000) → ∃ e', forR (tgt1 1) b_law_rows_told_f1 (l.map rD) [.sh a, e] = .ok (.nx [.sh a, e'])
  | [], e, _ => ⟨e, rfl⟩
  | (k, n, ws) :: l, e, h => by
    obtain ⟨e', ih⟩ := rows_told_loop a l (.sh (rD (k, n, ws))) fun x hx => h x (by simp [hx])
    refine ⟨e', ?_⟩
    obtain ⟨hne, hl⟩ := h (k, n, ws) (by simp)
    have h0 : ¬ ((ws.length : Int) = 0) := by have := List.length_pos_iff.mpr hne; simp only at this; omega
    have hlen := (seq_tT ws).len
    have x0 : ixD (rD (k, n, ws)) (.int 0) = some (tS (kL k)) := ixD_tup0 _ _
    have x1 : ixD (rD (k, n, ws)) (.int 1) = some (.int n) := ixD_tup1 _ _ _
    have x2 : ixD (rD (k, n, ws)) (.int 2) = some (tT ws) := ixD_tup2 _ _ _ _
    have l3 : lenD [rD (k, n, ws)] = some (.int 3) := lenD_tup _
    have t3 : isT "tuple" (rD (k, n, ws)) = some (.bl true) := isT_tup_tup _
    have t4 : isT "tuple" (tT ws) = some (.bl true) := isT_tup_tup _
    have tx := texts_ok (ws := ws) hl
    have hne' : ws ≠ [] := hne
    have hb : b_law_rows_told_f1 [.sh a, .sh (rD (k, n, ws))] = .ok (.nx [.sh a, .sh (rD (k, n, ws))]) := by
      simp [b_law_rows_told_f1, x0, x1, x2, l3, t3, t4, tx, hlen, hne', wholeI]
    rw [List.map_cons, forR_cons]
    show lift (some [Ent.sh a, Ent.sh (rD (k, n, ws))]) >>= _ = _
    rw [lift_some, ok_bind, hb, seqO_nx, ih]
theorem rows_told_ok {l : List Row} (h : ∀ r ∈ l, r.2.2 ≠ [] ∧ r.2.2.length ≤ 1000) : f_law_rows_told (.lst (l.map rD)) = .ok (.bl true) := by
  obtain ⟨e', hl⟩ := rows_told_loop (.lst (l.map rD)) l .un h
  simp only [f_law_rows_told, b_law_rows_told, startE]
  simp [hl]
/-! walked -/
theorem in_old (k : Kd) : inD (tS (kL k)) (.tup [tS [107, 101, 101, 112], tS [99, 117, 116], tS [116, 97, 107, 101]]) = some (.bl (decide (k = .keep) || (decide (k = .cut) || decide (k = .take)))) := by
  have := inD_tup (kL k) [[107, 101, 101, 112], [99, 117, 116], [116, 97, 107, 101]]
  rw [show (decide (k = .keep) || (decide (k = .cut) || decide (k = .take))) = decide (kL k ∈ [[107, 101, 101, 112], [99, 117, 116], [116, 97, 107, 101]]) by cases k <;> decide]
  exact this
theorem in_new (k : Kd) : inD (tS (kL k)) (.tup [tS [107, 101, 101, 112], tS [112, 117, 116], tS [108, 97, 121]]) = some (.bl (decide (k = .keep) || (decide (k = .put) || decide (k = .lay)))) := by
  have := inD_tup (kL k) [[107, 101, 101, 112], [112, 117, 116], [108, 97, 121]]
  rw [show (decide (k = .keep) || (decide (k = .put) || decide (k = .lay))) = decide (kL k ∈ [[107, 101, 101, 112], [112, 117, 116], [108, 97, 121]]) by cases k <;> decide]
  exact this
theorem oldOf_cons (r : Row) (l : List Row) : oldOf (r :: l) = (if (decide (r.1 = .keep) || (decide (r.1 = .cut) || decide (r.1 = .take))) = true then r.2.2 else []) ++ oldOf l := by
  unfold oldOf
  rw [List.filter_cons]
  split <;> simp
theorem newOf_cons (r : Row) (l : List Row) : newOf (r :: l) = (if (decide (r.1 = .keep) || (decide (r.1 = .put) || decide (r.1 = .lay))) = true then r.2.2 else []) ++ newOf l := by
  unfold newOf
  rw [List.filter_cons]
  split <;> simp
theorem walked_loop (a : D) (old : List (List Nat)) (wo : Words old) : ∀ (l : List Row) (at' : Nat) (new : List (List Nat)) (e : Ent), old.drop at' = oldOf l → at' ≤ old.length → new.length + (newOf l).length ≤ sizeLine →
    ∃ e', forR (tgt1 4) b_law_walked_f1 (l.map rD) [.sh a, .sh (tL old), .sh (.int (at' : Int)), .sh (tL new), e] = .ok (.nx [.sh a, .sh (tL old), .sh (.int (old.length : Int)), .sh (tL (new ++ newOf l)), e'])
  | [], at', new, e, h, hle, _ => ⟨e, by
    have h1 := congrArg List.length h
    rw [List.length_drop] at h1
    simp [oldOf] at h1
    have : at' = old.length := by omega
    subst this
    simp [newOf]⟩
  | (k, n, ws) :: l, at', new, e, h, hle, hz => by
    have hs := sizeLine_is
    rw [oldOf_cons] at h
    rw [newOf_cons] at hz ⊢
    simp only at h hz ⊢
    have x0 : ixD (rD (k, n, ws)) (.int 0) = some (tS (kL k)) := ixD_tup0 _ _
    have x2 : ixD (rD (k, n, ws)) (.int 2) = some (tT ws) := ixD_tup2 _ _ _ _
    have hlen := (seq_tT ws).len
    have hli : listO (tT ws) = some (ws.map tS) := rfl
    have hlt : D.lst (ws.map tS) = tL ws := rfl
    have io := in_old k
    have iw := in_new k
    have z3 : 3 ≤ sizeLine := by omega
    -- first the old words
    have first : ∃ at2 : Nat, at2 ≤ old.length ∧ old.drop at2 = oldOf l ∧
        sIf (tB (xOp inD (xIx (xPk 4) (xC (.int 0))) (xTup (aCons (xC (.str "keep")) (aCons (xC (.str "cut")) (aCons (xC (.str "take")) aNil))))))
          (sSeq (sIf (tB (xOp neD (xSl (xPk 1) (oSome (xPk 2)) (oSome (xOp addD (xPk 2) (xB lenD (aCons (xIx (xPk 4) (xC (.int 2))) aNil))))) (xL (lList (xIx (xPk 4) (xC (.int 2))))))) (sRet (xC .non)) sNil)
            (sSet 2 (xOp addD (xPk 2) (xB lenD (aCons (xIx (xPk 4) (xC (.int 2))) aNil))))) sNil
          [.sh a, .sh (tL old), .sh (.int (at' : Int)), .sh (tL new), .sh (rD (k, n, ws))] = .ok (.nx [.sh a, .sh (tL old), .sh (.int (at2 : Int)), .sh (tL new), .sh (rD (k, n, ws))]) := by
      by_cases hk : (decide (k = .keep) || (decide (k = .cut) || decide (k = .take))) = true
      · rw [hk, if_pos rfl] at h
        have ht : (old.drop at').take ws.length = ws := take_left h
        have hd := drop_left h
        rw [List.drop_drop] at hd
        have hl := congrArg List.length h
        rw [List.length_append, List.length_drop] at hl
        refine ⟨at' + ws.length, by omega, hd, ?_⟩
        have hsl := sl_tL old at' ws.length
        rw [ht] at hsl
        have wsw : Words ws := by rw [← ht]; exact words_take (words_drop wo _) _
        have hne := neD_tL wsw.ok1 wsw.ok1
        rw [hk] at io
        simp [x0, x2, io, z3, hlen, hsl, hli, hlt, hne]
      · have hk' : (decide (k = .keep) || (decide (k = .cut) || decide (k = .take))) = false := by simpa using hk
        rw [hk'] at h io
        refine ⟨at', hle, by simpa using h, ?_⟩
        simp [x0, io, z3]
    obtain ⟨at2, hle2, hd2, s1⟩ := first
    have second : ∃ new2 : List (List Nat), new2 = new ++ (if (decide (k = .keep) || (decide (k = .put) || decide (k = .lay))) = true then ws else []) ∧
        sIf (tB (xOp inD (xIx (xPk 4) (xC (.int 0))) (xTup (aCons (xC (.str "keep")) (aCons (xC (.str "put")) (aCons (xC (.str "lay")) aNil))))))
          (sSet 3 (xOp addD (xPk 3) (xL (lList (xIx (xPk 4) (xC (.int 2))))))) sNil
          [.sh a, .sh (tL old), .sh (.int (at2 : Int)), .sh (tL new), .sh (rD (k, n, ws))] = .ok (.nx [.sh a, .sh (tL old), .sh (.int (at2 : Int)), .sh (tL new2), .sh (rD (k, n, ws))]) := by
      by_cases hk : (decide (k = .keep) || (decide (k = .put) || decide (k = .lay))) = true
      · rw [hk] at iw
        rw [if_pos hk] at hz
        rw [if_pos hk]
        refine ⟨_, rfl, ?_⟩
        have ha : addD (tL new) (tL ws) = some (tL (new ++ ws)) := by
          unfold tL; rw [addD_lst (by simp at hz ⊢; omega), List.map_append]
        simp [x0, x2, iw, z3, hli, hlt, ha]
      · have hk' : (decide (k = .keep) || (decide (k = .put) || decide (k = .lay))) = false := by simpa using hk
        rw [if_neg hk]
        rw [hk'] at iw
        refine ⟨_, rfl, ?_⟩
        rw [List.append_nil]
        simp [x0, iw, z3]
    obtain ⟨new2, hn2, s2⟩ := second
    obtain ⟨e', ih⟩ := walked_loop a old wo l at2 new2 (.sh (rD (k, n, ws))) hd2 hle2 (by rw [hn2, List.length_append]; rw [List.length_append] at hz; omega)
    refine ⟨e', ?_⟩
    have hb : b_law_walked_f1 [.sh a, .sh (tL old), .sh (.int (at' : Int)), .sh (tL new), .sh (rD (k, n, ws))] = .ok (.nx [.sh a, .sh (tL old), .sh (.int (at2 : Int)), .sh (tL new2), .sh (rD (k, n, ws))]) := by
      unfold b_law_walked_f1
      rw [run_seq s1]
      exact s2
    rw [List.map_cons, forR_cons]
    show lift (some [Ent.sh a, Ent.sh (tL old), Ent.sh (.int (at' : Int)), Ent.sh (tL new), Ent.sh (rD (k, n, ws))]) >>= _ = _
    rw [lift_some, ok_bind, hb, seqO_nx, ih, hn2, List.append_assoc]
theorem walked_ok {l : List Row} {old : List (List Nat)} (wo : Words old) (h : old = oldOf l) (hz : (newOf l).length ≤ sizeLine) : f_law_walked (.lst (l.map rD)) (tL old) = .ok (tL (newOf l)) := by
  obtain ⟨e', hl⟩ := walked_loop (.lst (l.map rD)) old wo l 0 [] .un (by simpa using h) (by omega) (by simpa using hz)
  rw [List.nil_append] at hl
  have l1 := (seq_tL old).len
  have e0 : startE 5 [D.lst (l.map rD), tL old] = [.sh (.lst (l.map rD)), .sh (tL old), .un, .un, .un] := rfl
  have s1 : sSet 2 (xC (.int 0)) [.sh (.lst (l.map rD)), .sh (tL old), .un, .un, .un] = .ok (.nx [.sh (.lst (l.map rD)), .sh (tL old), .sh (.int ((0 : Nat) : Int)), .un, .un]) := rfl
  have s2 : sSet 3 (xL (lLst aNil)) [.sh (.lst (l.map rD)), .sh (tL old), .sh (.int ((0 : Nat) : Int)), .un, .un] = .ok (.nx [.sh (.lst (l.map rD)), .sh (tL old), .sh (.int ((0 : Nat) : Int)), .sh (tL []), .un]) := by simp [tL]
  have s3 : sFor (iList (xSh 0)) (tgt1 4) b_law_walked_f1 [.sh (.lst (l.map rD)), .sh (tL old), .sh (.int ((0 : Nat) : Int)), .sh (tL []), .un] = .ok (.nx [.sh (.lst (l.map rD)), .sh (tL old), .sh (.int (old.length : Int)), .sh (tL (newOf l)), e']) := by
    unfold sFor
    rw [show iList (xSh 0) [.sh (.lst (l.map rD)), .sh (tL old), .sh (.int ((0 : Nat) : Int)), .sh (tL []), .un] = .ok (l.map rD) from rfl, ok_bind]
    exact hl
  unfold f_law_walked b_law_walked
  rw [e0]
  refine run_ret ?_
  rw [run_seq s1, run_seq s2, run_seq s3]
  simp [l1]
end DL

set_option Elab.async false
set_option linter.all false
set_option maxRecDepth 100000
set_option maxHeartbeats 2000000
/-! P11: a telling's rows are whole rows -/
namespace DL
open PySem
theorem row_in : ∀ {l : List Row} {r : Row}, r ∈ l → (r.1 = .keep ∨ r.1 = .cut ∨ r.1 = .put ∨ r.1 = .take ∨ r.1 = .lay) → r.2.2.length ≤ (oldOf l).length + (newOf l).length ∧ ∀ w ∈ r.2.2, w ∈ oldOf l ∨ w ∈ newOf l
  | s :: l, r, h, hk => by
    rw [oldOf_cons, newOf_cons]
    rcases List.mem_cons.mp h with rfl | h
    · rcases hk with hk | hk | hk | hk | hk <;> rw [hk] <;> simp <;> first | omega | (refine ⟨by omega, fun w hw => ?_⟩; simp [hw])
    · obtain ⟨h1, h2⟩ := row_in h hk
      refine ⟨by simp only [List.length_append]; omega, fun w hw => ?_⟩
      rcases h2 w hw with h3 | h3
      · exact .inl (List.mem_append_right _ h3)
      · exact .inr (List.mem_append_right _ h3)
theorem kd_any (k : Kd) : k = .keep ∨ k = .cut ∨ k = .put ∨ k = .take ∨ k = .lay := by cases k <;> simp
theorem told_rows {a b : List (List Nat)} (wa : Words a) (wb : Words b) (la : a.length ≤ 120) (lb : b.length ≤ 120) : ∀ r ∈ toldP a b, RowOk r := fun r hr => by
  have t := told_is (a := a) (b := b)
  obtain ⟨h1, h2⟩ := row_in hr (kd_any r.1)
  rw [t.old, t.new] at h1 h2
  have p := t.rows r hr
  refine ⟨fun w hw => (h2 w hw).elim (wa w) (wb w), p.some, by omega, ?_⟩
  rw [if_neg (by rcases p.kind with h | h | h <;> rw [h] <;> decide)]
  exact p.num
theorem next_ok (a b : Kd) : f_law_next (tS (kL a)) (tS (kL b)) = .ok (.bl (nxt a b)) := by
  cases a <;> cases b <;> simp [f_law_next, b_law_next, startE, nxt, -eqD_tS, -neD_tS]
theorem ninD_kcp (k : Kd) : ninD (tS (kL k)) (.tup [tS [107, 101, 101, 112], tS [99, 117, 116], tS [112, 117, 116]]) = some (.bl (!(decide (k = .keep ∨ k = .cut ∨ k = .put)))) := by
  have := ninD_tup (kL k) [[107, 101, 101, 112], [99, 117, 116], [112, 117, 116]]
  rw [show decide (k = .keep ∨ k = .cut ∨ k = .put) = decide (kL k ∈ [[107, 101, 101, 112], [99, 117, 116], [112, 117, 116]]) by cases k <;> decide]
  exact this
theorem toldF_short : ∀ (n : Nat) (a b : List (List Nat)), (toldF n a b).length ≤ 3 * n
  | 0, a, b => by simp [toldF]
  | n + 1, a, b => by
    unfold toldF
    split
    · simp
    · have h := toldF_short n (gap (a.drop (lcp a b)) (b.drop (lcp a b))).2.2.1 (gap (a.drop (lcp a b)) (b.drop (lcp a b))).2.2.2
      have k1 := rowOf_len .keep (a.take (lcp a b))
      have k2 := rowOf_len .cut (gap (a.drop (lcp a b)) (b.drop (lcp a b))).1
      have k3 := rowOf_len .put (gap (a.drop (lcp a b)) (b.drop (lcp a b))).2.1
      simp only [List.length_append]
      omega
theorem told_short (a b : List (List Nat)) : (toldP a b).length ≤ 3 * (a.length + b.length) := toldF_short _ a b
end DL

set_option Elab.async false
set_option linter.all false
set_option maxRecDepth 100000
set_option maxHeartbeats 2000000
/-! P12: lists of rows compared; rows of any kind; turned -/
namespace DL
open PySem

theorem toPd_rD (r : Row) : toPd (rD r) = .tuple [.str (mkS (kL r.1)), .int r.2.1, .tuple (toPds (r.2.2.map tS))] := by
  obtain ⟨k, n, ws⟩ := r
  simp only [rD, tT, toPd, toPds, toPd_tS]
theorem kL_ok (k : Kd) : (kL k).all (fun c => decide (c < 0x110000)) = true := by cases k <;> decide
theorem canLay_rows : ∀ {l : List Row}, (∀ r ∈ l, Ok1 r.2.2) → PyData.canLayAll0 (toPds (l.map rD)) = true
  | [], _ => by simp [toPds, PyData.canLayAll0]
  | r :: l, h => by
    have h1 := canLay_tS (h r (by simp))
    have h2 := canLay_rows (l := l) fun x hx => h x (by simp [hx])
    have h3 := strOk_of (kL_ok r.1)
    have h4 : PyData.canLay0 (.int r.2.1) = true := by simp [PyData.canLay0]
    simp only [List.map_cons, toPds, toPd_rD, PyData.canLayAll0, PyData.canLay0] at h1 h2 h3 h4 ⊢
    simp only [h1, h2, h3, h4, Bool.and_self]
theorem depth_rows : ∀ (l : List Row), PyData.depthAll (toPds (l.map rD)) ≤ 2
  | [] => by simp [toPds, PyData.depthAll]
  | r :: l => by
    have := depth_rows l
    simp only [List.map_cons, toPds, toPd_rD, PyData.depthAll, PyData.depth, depth_tS]
    omega
theorem eqv_rows : ∀ (l m : List Row), PyData.eqvAll (toPds (l.map rD)) (toPds (m.map rD)) = decide (l = m)
  | [], [] => by simp [toPds, PyData.eqvAll]
  | [], _ :: _ => by simp [toPds, PyData.eqvAll]
  | _ :: _, [] => by simp [toPds, PyData.eqvAll]
  | (k, n, ws) :: l, (k', n', ws') :: m => by
    have h2 := eqv_rows l m
    have h3 := eqv_tS ws ws'
    simp only [List.map_cons, toPds, toPd_rD, PyData.eqvAll, PyData.eqv, h2, h3]
    have h4 : (mkS (kL k) == mkS (kL k')) = decide (k = k') := (mk_eq _ _).trans (kL_eq k k')
    rw [h4]
    by_cases e1 : k = k' <;> by_cases e2 : n = n' <;> by_cases e3 : ws = ws' <;> by_cases e4 : l = m <;> simp [e1, e2, e3, e4]
theorem sh_rows {l : List Row} (h : ∀ r ∈ l, Ok1 r.2.2) : SeqAt.shaped (toPd (.lst (l.map rD))) = true := by
  refine shaped_flat ?_ ?_
  · simp only [toPd, PyData.canLay0, canLay_rows h]
  · have := depth_rows l
    simp only [toPd, PyData.depth]
    omega
theorem eqB_rows {l m : List Row} (h : ∀ r ∈ l, Ok1 r.2.2) (h' : ∀ r ∈ m, Ok1 r.2.2) : eqB (.lst (l.map rD)) (.lst (m.map rD)) = some (decide (l = m)) := by
  rw [eqB_sh rfl rfl (sh_rows h) (sh_rows h')]
  simp only [toPd, PyData.eqv, eqv_rows]
theorem eqD_rows {l m : List Row} (h : ∀ r ∈ l, Ok1 r.2.2) (h' : ∀ r ∈ m, Ok1 r.2.2) : eqD (.lst (l.map rD)) (.lst (m.map rD)) = some (.bl (decide (l = m))) := by simp [eqD, eqB_rows h h']
theorem neD_rows {l m : List Row} (h : ∀ r ∈ l, Ok1 r.2.2) (h' : ∀ r ∈ m, Ok1 r.2.2) : neD (.lst (l.map rD)) (.lst (m.map rD)) = some (.bl (!decide (l = m))) := by simp [neD, eqB_rows h h']

/-! a written table -/
def valV' (tab : List (Str × Str)) (k : Str) : Option Str := match tab with
  | [] => none
  | kv :: tab => if kv.1 = k then some kv.2 else valV' tab k
theorem valV'_none : ∀ {tab : List (Str × Str)} {k : Str}, k ∉ tab.map (·.1) → L2.valV (tabKV tab) (.inr k) = none
  | [], k, _ => rfl
  | kv :: tab, k, h => by
    simp only [List.map_cons, List.mem_cons, not_or] at h
    unfold tabKV
    rw [List.map_cons, L2.valV_neg (by intro e; exact h.1 (Sum.inr.inj e).symm)]
    exact valV'_none h.2
theorem valV'_ok : ∀ {tab : List (Str × Str)} {k z : Str}, valV' tab k = some z → L2.valV (tabKV tab) (.inr k) = some (.str z)
  | kv :: tab, k, z, h => by
    unfold valV' at h
    unfold tabKV
    rw [List.map_cons]
    by_cases e : kv.1 = k
    · rw [if_pos e] at h
      cases h
      exact L2.valV_pos (by rw [e])
    · rw [if_neg e] at h
      rw [L2.valV_neg (by intro e2; exact e (Sum.inr.inj e2))]
      exact valV'_ok h
theorem mergeK_app : ∀ (more acc : List (L2.Key × L2.V)), (∀ kv ∈ more, L2.valV acc kv.1 = none) → (more.map (·.1)).Nodup → L2.mergeK acc more = acc ++ more
  | [], acc, _, _ => by simp [L2.mergeK]
  | p :: r, acc, h, hn => by
    rw [List.map_cons, List.nodup_cons] at hn
    have h1 := h p (by simp)
    have e : L2.putK acc p.1 p.2 = acc ++ [p] := L2.putK_new p.2 h1
    have ih := mergeK_app r (acc ++ [p]) (fun kv hkv => by
      have := L2.valV_snoc p.1 kv.1 p.2 acc h1
      rw [this, if_neg (fun e2 => hn.1 (by rw [← e2]; exact List.mem_map.mpr ⟨kv, hkv, rfl⟩))]
      exact h kv (by simp [hkv])) hn.2
    show L2.mergeK (L2.putK acc p.1 p.2) r = _
    rw [e, ih, List.append_assoc]; rfl
theorem tabKV_nodup {tab : List (Str × Str)} (h : (tab.map (·.1)).Nodup) : ((tabKV tab).map (·.1)).Nodup := by
  unfold tabKV
  rw [List.map_map]
  induction tab with
  | nil => exact List.nodup_nil
  | cons kv tab ih =>
    rw [List.map_cons, List.nodup_cons] at h ⊢
    refine ⟨fun hm => ?_, ih h.2⟩
    obtain ⟨x, hx, e⟩ := List.mem_map.mp hm
    exact h.1 (List.mem_map.mpr ⟨x, hx, Sum.inr.inj e⟩)
theorem dgetT_of {tab : List (Str × Str)} {k z : List Nat} (hn : (tab.map (·.1)).Nodup) (h : valV' tab (mkS k) = some (mkS z)) : dgetT tab (tS k) = some (tS z) := by
  have e : L2.mergeK [] (tabKV tab) = tabKV tab := by
    rw [mergeK_app _ [] (fun _ _ => rfl) (tabKV_nodup hn)]; rfl
  unfold tS
  simp only [dgetT, e, valV'_ok h]
/-! turned -/
def oth : Kd → Kd
  | .keep => .keep
  | .cut => .put
  | .put => .cut
  | .take => .lay
  | .lay => .take
def turnR (r : Row) : Row := (oth r.1, r.2.1, r.2.2)
theorem other_ok (k : Kd) : f_other_kind (tS (kL k)) = .ok (tS (kL (oth k))) := by
  cases k <;> simp [f_other_kind, b_other_kind, startE, -eqD_tS] <;> rfl
theorem compR_T {α : Type} {own : List Nat} {is : List Nat} {el : Env → R D} {r : Env} {g : α → List D} {f : α → D} (l : List α) (h : ∀ a ∈ l, (g a).length = is.length ∧ ∃ r1, tgtN is (g a) (wipeE r own) = some r1 ∧ el r1 = .ok (f a)) :
    compR own (tgtT is) tYes el r (l.map fun a => .tup (g a)) = .ok (l.map f) := by
  induction l with
  | nil => rfl
  | cons a l ih =>
    obtain ⟨h1, r1, h2, h3⟩ := h a (by simp)
    have ih := ih fun x hx => h x (by simp [hx])
    rw [List.map_cons, List.map_cons]
    simp only [compR, tgtT_ok _ _ _ h1, h2, lift_some, ok_bind, h3] at ih ⊢
    simp [tYes, ih]
theorem turned_ok {l : List Row} (h : ∀ r ∈ l, RowOk r) (hl : l.length ≤ 1000) : f_turned (.lst (l.map rD)) = .ok (.lst ((l.map turnR).map rD)) := by
  have hs := sizeLine_is
  have hn := need_rows_ok h
  have z3 : 3 ≤ sizeLine := by omega
  have e0 : startE 4 [D.lst (l.map rD)] = [.sh (.lst (l.map rD)), .un, .un, .un] := rfl
  have s1 : sExpr (xCall (fun1 f_need_rows) (aCons (xSh 0) aNil)) [.sh (.lst (l.map rD)), .un, .un, .un] = .ok (.nx [.sh (.lst (l.map rD)), .un, .un, .un]) := by simp [hn]
  have hc : compR [1, 2, 3] (tgtT [1, 2, 3]) tYes b_turned_c1 [.sh (.lst (l.map rD)), .un, .un, .un] (l.map rD) = .ok ((l.map turnR).map rD) := by
    rw [List.map_map]
    refine compR_T (g := fun r : Row => [tS (kL r.1), .int r.2.1, tT r.2.2]) l fun r hr => ⟨rfl, _, rfl, ?_⟩
    simp [b_turned_c1, other_ok, z3, rD, turnR]
  have hz : (l.map rD).length ≤ sizeLine := by rw [List.length_map]; omega
  have s2 : sRet (xL (lComp [1, 2, 3] (tgtT [1, 2, 3]) tYes b_turned_c1 (iList (xSh 0)))) [.sh (.lst (l.map rD)), .un, .un, .un] = .ok (.rt (.lst ((l.map turnR).map rD))) := by
    have hi : iList (xSh 0) [.sh (.lst (l.map rD)), .un, .un, .un] = .ok (l.map rD) := rfl
    unfold sRet xL lComp
    rw [hi, ok_bind, if_pos hz, hc]
    rfl
  unfold f_turned b_turned
  rw [e0]
  refine run_ret ?_
  rw [run_seq s1]
  exact s2

/-! rows of any kind -/
def anyMore (c : Int) : Int := (c + 3) * 48271 % 1000003
def anyKinds : List Kd := [.keep, .cut, .put, .take, .lay]
def anyKind (c : Int) : Kd := anyKinds.getD (anyMore c % 5).toNat .keep
def anyBase (M : List (List Nat)) (c : Int) : List (List Nat) := (List.range (1 + anyMore c / 60 % 3).toNat).map fun k : Nat => menuAt M (anyMore c / 5 + (k : Int))
def anyWords (M : List (List Nat)) (c : Int) : List (List Nat) := if anyMore c / 180 % 9 = 4 then (List.replicate 30 (anyBase M c)).flatten else anyBase M c
def anyTab : List Int := [1, 9, 10, 999999999, 100000000, 7]
def anyNum (c : Int) : Int := if anyMore c / 1620 % 2 = 1 then anyTab.getD (anyMore c / 3240 % 6).toNat 1 else 1 + (c + 7) * 69621 % 999999999
def anyRow (M : List (List Nat)) (c : Int) : Row := (anyKind c, if anyKind c = .take ∨ anyKind c = .lay then anyNum c else 0, anyWords M c)
theorem anyMore_b (c : Int) : 0 ≤ anyMore c ∧ anyMore c < 1000003 := ⟨Int.emod_nonneg _ (by decide), Int.emod_lt_of_pos _ (by decide)⟩
theorem anyNum_b (c : Int) : 1 ≤ anyNum c ∧ anyNum c ≤ 999999999 := by
  unfold anyNum
  split
  · have h0 := Int.emod_nonneg (anyMore c / 3240) (show (6 : Int) ≠ 0 by decide)
    have h1 := Int.emod_lt_of_pos (anyMore c / 3240) (show (0 : Int) < 6 by decide)
    generalize (anyMore c / 3240 % 6) = z at h0 h1
    have h2 : z.toNat < 6 := by omega
    generalize z.toNat = n at h2
    match n, h2 with
    | 0, _ | 1, _ | 2, _ | 3, _ | 4, _ | 5, _ => decide
  · have h0 := Int.emod_nonneg ((c + 7) * 69621) (show (999999999 : Int) ≠ 0 by decide)
    have h1 := Int.emod_lt_of_pos ((c + 7) * 69621) (show (0 : Int) < 999999999 by decide)
    omega
theorem anyBase_len (M : List (List Nat)) (c : Int) : 1 ≤ (anyBase M c).length ∧ (anyBase M c).length ≤ 3 := by
  have h0 := Int.emod_nonneg (anyMore c / 60) (show (3 : Int) ≠ 0 by decide)
  have h1 := Int.emod_lt_of_pos (anyMore c / 60) (show (0 : Int) < 3 by decide)
  simp [anyBase]; omega
theorem rep_len' (l : List (List Nat)) : ∀ n, (List.replicate n l).flatten.length = n * l.length
  | 0 => by simp
  | n + 1 => by rw [List.replicate_succ, List.flatten_cons, List.length_append, rep_len' l n, Nat.succ_mul, Nat.add_comm]
theorem rep_len (l : List (List Nat)) : (List.replicate 30 l).flatten.length = 30 * l.length := rep_len' l 30
theorem anyRow_ok {M : List (List Nat)} (hM : M.length = 12) (wM : Words M) (c : Int) : RowOk (anyRow M c) := by
  have hb := anyBase_len M c
  have hbw : Words (anyBase M c) := fun w hw => by
    obtain ⟨k, _, rfl⟩ := List.mem_map.mp hw
    exact menuAt_word hM wM _
  have hl := rep_len (anyBase M c)
  refine ⟨?_, ?_, ?_, ?_⟩
  · show Words (anyWords M c)
    unfold anyWords
    split
    · intro w hw
      obtain ⟨x, hx, hw⟩ := List.mem_flatten.mp hw
      rw [(List.mem_replicate.mp hx).2] at hw
      exact hbw w hw
    · exact hbw
  · show anyWords M c ≠ []
    unfold anyWords
    intro h
    have := congrArg List.length h
    split at this
    · rw [hl] at this; simp at this; omega
    · simp at this; rw [this] at hb; simp at hb
  · show (anyWords M c).length ≤ 1000
    unfold anyWords
    split
    · omega
    · omega
  · have hn := anyNum_b c
    have q1 : (anyRow M c).1 = anyKind c := rfl
    have q2 : (anyRow M c).2.1 = if anyKind c = .take ∨ anyKind c = .lay then anyNum c else 0 := rfl
    rw [q1, q2]
    by_cases h : anyKind c = .take ∨ anyKind c = .lay
    · rw [if_pos h, if_pos h]; exact hn
    · rw [if_neg h, if_neg h]
theorem any_row_ok {M : List (List Nat)} (hM : M.length = 12) (c : Int) : f_law_any_row (tL M) (.int c) = .ok (rD (anyRow M c)) := by
  have hs := sizeLine_is
  have hb := anyMore_b c
  have z5 : 5 ≤ sizeLine := by omega
  have z6 : 6 ≤ sizeLine := by omega
  have z3 : 3 ≤ sizeLine := by omega
  obtain ⟨m, hm⟩ : ∃ m, m = anyMore c := ⟨_, rfl⟩
  have a0 := Int.emod_nonneg m (show (5 : Int) ≠ 0 by decide)
  have a1 := Int.emod_lt_of_pos m (show (0 : Int) < 5 by decide)
  have b0 := Int.emod_nonneg (m / 60) (show (3 : Int) ≠ 0 by decide)
  have b1 := Int.emod_lt_of_pos (m / 60) (show (0 : Int) < 3 by decide)
  have c0 := Int.emod_nonneg (m / 3240) (show (6 : Int) ≠ 0 by decide)
  have c1 := Int.emod_lt_of_pos (m / 3240) (show (0 : Int) < 6 by decide)
  have m1 : mulD (.int (c + 3)) (.int 48271) = some (.int ((c + 3) * 48271)) := mulD_int (cmul_r (by omega) (by omega))
  have m2 : modD (.int ((c + 3) * 48271)) (.int 1000003) = some (.int m) := by rw [hm]; exact modD_int (by omega)
  have m3 : modD (.int m) (.int 5) = some (.int (m % 5)) := modD_int (by omega)
  have m4 : divD (.int m) (.int 60) = some (.int (m / 60)) := divD_int (by omega)
  have m5 : modD (.int (m / 60)) (.int 3) = some (.int (m / 60 % 3)) := modD_int (by omega)
  have m6 : divD (.int m) (.int 180) = some (.int (m / 180)) := divD_int (by omega)
  have m7 : modD (.int (m / 180)) (.int 9) = some (.int (m / 180 % 9)) := modD_int (by omega)
  have m8 : mulD (.int (c + 7)) (.int 69621) = some (.int ((c + 7) * 69621)) := mulD_int (cmul_r (by omega) (by omega))
  have m9 : modD (.int ((c + 7) * 69621)) (.int 999999999) = some (.int ((c + 7) * 69621 % 999999999)) := modD_int (by omega)
  have m10 : divD (.int m) (.int 1620) = some (.int (m / 1620)) := divD_int (by omega)
  have m11 : modD (.int (m / 1620)) (.int 2) = some (.int (m / 1620 % 2)) := modD_int (by omega)
  have m12 : divD (.int m) (.int 3240) = some (.int (m / 3240)) := divD_int (by omega)
  have m13 : modD (.int (m / 3240)) (.int 6) = some (.int (m / 3240 % 6)) := modD_int (by omega)
  have m14 : divD (.int m) (.int 5) = some (.int (m / 5)) := divD_int (by omega)
  have m15 : ∀ z : Int, modD (.int z) (.int 12) = some (.int (z % 12)) := fun z => modD_int (by omega)
  have t1 : ixD (.lst [tS [107, 101, 101, 112], tS [99, 117, 116], tS [112, 117, 116], tS [116, 97, 107, 101], tS [108, 97, 121]]) (.int (m % 5)) = some (tS (kL (anyKind c))) := by
    unfold anyKind; rw [← hm]
    exact tab_at (fun k => tS (kL k)) anyKinds .keep a0 (by simpa [anyKinds] using a1)
  have t2 : ixD (.lst [.int 1, .int 9, .int 10, .int 999999999, .int 100000000, .int 7]) (.int (m / 3240 % 6)) = some (.int (anyTab.getD (m / 3240 % 6).toNat 1)) := tab_at D.int anyTab 1 c0 (by simpa [anyTab] using c1)
  have r1 : rng1 (.int (1 + m / 60 % 3)) = some ((List.range (1 + m / 60 % 3).toNat).map fun i : Nat => .int (i : Int)) := by
    conv => lhs; rw [show 1 + m / 60 % 3 = (((1 + m / 60 % 3).toNat : Nat) : Int) by omega]
    exact rng1_nat _ (by omega)
  have hbl := anyBase_len M c
  obtain ⟨B, hB⟩ : ∃ B, B = anyBase M c := ⟨_, rfl⟩
  have hc : ∀ e3 e4 e6 : Ent, compR [5] (tgt1 5) tYes b_law_any_row_c1 [.sh (tL M), .sh (.int c), .sh (.int m), e3, e4, .un, e6] ((List.range (1 + m / 60 % 3).toNat).map fun i : Nat => .int (i : Int)) = .ok (B.map tS) := fun e3 e4 e6 => by
    rw [hB]
    unfold anyBase
    rw [← hm, List.map_map]
    refine compR_of _ fun k hk => ?_
    simp [b_law_any_row_c1, m14, m15, menuAt_get hM]
  rw [← hB] at hbl
  have e0 : startE 7 [tL M, .int c] = [.sh (tL M), .sh (.int c), .un, .un, .un, .un, .un] := rfl
  have s1 : sSet 2 (xOp modD (xOp mulD (xOp addD (xPk 1) (xC (.int 3))) (xC (.int 48271))) (xC (.int 1000003))) [.sh (tL M), .sh (.int c), .un, .un, .un, .un, .un] = .ok (.nx [.sh (tL M), .sh (.int c), .sh (.int m), .un, .un, .un, .un]) := by
    simp [m1, m2]
  have s2 : sSet 3 (xIx (xL (lLst (aCons (xC (.str "keep")) (aCons (xC (.str "cut")) (aCons (xC (.str "put")) (aCons (xC (.str "take")) (aCons (xC (.str "lay")) aNil))))))) (xOp modD (xPk 2) (xC (.int 5)))) [.sh (tL M), .sh (.int c), .sh (.int m), .un, .un, .un, .un] = .ok (.nx [.sh (tL M), .sh (.int c), .sh (.int m), .sh (tS (kL (anyKind c))), .un, .un, .un]) := by
    simp [m3, t1, z5]
  have s3 : sSet 4 (xB tupleD (aCons (xL (lComp [5] (tgt1 5) tYes b_law_any_row_c1 (iR1 (xOp addD (xC (.int 1)) (xOp modD (xOp divD (xPk 2) (xC (.int 60))) (xC (.int 3))))))) aNil)) [.sh (tL M), .sh (.int c), .sh (.int m), .sh (tS (kL (anyKind c))), .un, .un, .un] = .ok (.nx [.sh (tL M), .sh (.int c), .sh (.int m), .sh (tS (kL (anyKind c))), .sh (tT B), .un, .un]) := by
    have hi : iR1 (xOp addD (xC (.int 1)) (xOp modD (xOp divD (xPk 2) (xC (.int 60))) (xC (.int 3)))) [.sh (tL M), .sh (.int c), .sh (.int m), .sh (tS (kL (anyKind c))), .un, .un, .un] = .ok ((List.range (1 + m / 60 % 3).toNat).map fun i : Nat => .int (i : Int)) := by
      simp [m4, m5, r1]
    have hz : ((List.range (1 + m / 60 % 3).toNat).map fun i : Nat => D.int (i : Int)).length ≤ sizeLine := by simp; omega
    have hlc : lComp [5] (tgt1 5) tYes b_law_any_row_c1 (iR1 (xOp addD (xC (.int 1)) (xOp modD (xOp divD (xPk 2) (xC (.int 60))) (xC (.int 3))))) [.sh (tL M), .sh (.int c), .sh (.int m), .sh (tS (kL (anyKind c))), .un, .un, .un] = .ok (B.map tS) := by
      unfold lComp
      rw [hi, ok_bind, if_pos hz, hc]
    unfold sSet xB aCons xL aNil
    rw [hlc]
    rfl
  obtain ⟨W, hW⟩ : ∃ W, W = anyWords M c := ⟨_, rfl⟩
  have s4 : sIf (tB (xOp eqD (xOp modD (xOp divD (xPk 2) (xC (.int 180))) (xC (.int 9))) (xC (.int 4)))) (sSet 4 (xOp mulD (xPk 4) (xC (.int 30)))) sNil [.sh (tL M), .sh (.int c), .sh (.int m), .sh (tS (kL (anyKind c))), .sh (tT B), .un, .un] = .ok (.nx [.sh (tL M), .sh (.int c), .sh (.int m), .sh (tS (kL (anyKind c))), .sh (tT W), .un, .un]) := by
    have hmul : mulD (tT B) (.int 30) = some (tT (List.replicate 30 B).flatten) := by
      have h0 : B ≠ [] := fun h => by rw [h] at hbl; simp at hbl
      have h3 : B.map tS ≠ [] ∧ (2 : Int) ≤ 30 ∧ (30 : Int) ≤ 1000 ∧ (B.map tS).length ≤ 1000 := ⟨by simpa using h0, by decide, by decide, by rw [List.length_map]; omega⟩
      unfold tT
      simp only [mulD]
      rw [if_pos h3, List.map_flatten, List.map_replicate]
      rfl
    rw [hW]
    unfold anyWords
    rw [← hm, ← hB]
    by_cases h : m / 180 % 9 = 4
    · rw [if_pos h]
      simp [m6, m7, h, hmul]
    · rw [if_neg h]
      simp [m6, m7, h]
  obtain ⟨N, hN⟩ : ∃ N, N = anyNum c := ⟨_, rfl⟩
  have s5 : seqO (sSet 6 (xOp addD (xC (.int 1)) (xOp modD (xOp mulD (xOp addD (xPk 1) (xC (.int 7))) (xC (.int 69621))) (xC (.int 999999999)))) [.sh (tL M), .sh (.int c), .sh (.int m), .sh (tS (kL (anyKind c))), .sh (tT W), .un, .un])
      (sIf (tB (xOp eqD (xOp modD (xOp divD (xPk 2) (xC (.int 1620))) (xC (.int 2))) (xC (.int 1))))
        (sSet 6 (xIx (xL (lLst (aCons (xC (.int 1)) (aCons (xC (.int 9)) (aCons (xC (.int 10)) (aCons (xC (.int 999999999)) (aCons (xC (.int 100000000)) (aCons (xC (.int 7)) aNil)))))))) (xOp modD (xOp divD (xPk 2) (xC (.int 3240))) (xC (.int 6))))) sNil)
      = .ok (.nx [.sh (tL M), .sh (.int c), .sh (.int m), .sh (tS (kL (anyKind c))), .sh (tT W), .un, .sh (.int N)]) := by
    rw [hN]
    unfold anyNum
    rw [← hm]
    by_cases h : m / 1620 % 2 = 1
    · rw [if_pos h]
      simp [m8, m9, m10, m11, m12, m13, h, t2, z6]
    · rw [if_neg h]
      simp [m8, m9, m10, m11, h]
  unfold f_law_any_row b_law_any_row
  rw [e0]
  refine run_ret ?_
  rw [run_seq s1, run_seq s2, run_seq s3, run_seq s4, run_seq2 s5]
  unfold anyRow rD
  rw [← hW, ← hN]
  generalize anyKind c = k
  cases k <;> simp [z3, -eqD_tS]
end DL

set_option Elab.async false
set_option linter.all false
set_option maxRecDepth 100000
set_option maxHeartbeats 2000000
/-! P13: notes (redraft/notes.py) -/
namespace DL
open PySem

def sgn : Kd → Nat
  | .keep => 61
  | .cut => 45
  | .put => 43
  | .take => 60
  | .lay => 62
def kIx : Kd → Nat
  | .keep => 0
  | .cut => 1
  | .put => 2
  | .take => 3
  | .lay => 4
def hasNum (k : Kd) : Bool := decide (k = .take) || decide (k = .lay)
theorem tidx (k : Kd) : tindexS [mkS [107, 101, 101, 112], mkS [99, 117, 116], mkS [112, 117, 116], mkS [116, 97, 107, 101], mkS [108, 97, 121]] (tS (kL k)) = some (.int (kIx k : Int)) := by
  have h1 : mkS (kL k) ∈ [mkS [107, 101, 101, 112], mkS [99, 117, 116], mkS [112, 117, 116], mkS [116, 97, 107, 101], mkS [108, 97, 121]] := by cases k <;> decide +kernel
  have h2 : [mkS [107, 101, 101, 112], mkS [99, 117, 116], mkS [112, 117, 116], mkS [116, 97, 107, 101], mkS [108, 97, 121]].idxOf (mkS (kL k)) = kIx k := by cases k <;> decide +kernel
  unfold tS
  simp only [tindexS]
  rw [if_pos h1, h2]
theorem sidx (k : Kd) : sindexS (mkS [61, 45, 43, 60, 62]) (tS [sgn k]) = some (.int (kIx k : Int)) := by
  have h1 : Builtin.Str.occurrences (mkS [61, 45, 43, 60, 62]) (mkS [sgn k]) 0 (mkS [61, 45, 43, 60, 62]).length 1 = [kIx k] := by cases k <;> decide +kernel
  unfold tS
  simp only [sindexS, h1]
theorem sgn_at (k : Kd) : ixD (tS [61, 45, 43, 60, 62]) (.int (kIx k : Int)) = some (tS [sgn k]) := by
  have hs := sizeLine_is
  refine ixD_tS (by omega) (by show 5 ≤ sizeLine; omega) ?_
  cases k <;> rfl
theorem kind_at (k : Kd) : ixD (.tup [tS [107, 101, 101, 112], tS [99, 117, 116], tS [112, 117, 116], tS [116, 97, 107, 101], tS [108, 97, 121]]) (.int (kIx k : Int)) = some (tS (kL k)) := by
  cases k <;> exact ixD_tup rfl
def partsOf (r : Row) : List (List Nat) := [sgn r.1] :: ((if hasNum r.1 = true then [TL.numL r.2.1.toNat] else []) ++ r.2.2)
def lineL (r : Row) : List Nat := TL.joinL [32] (partsOf r)
def textL (l : List Row) : List Nat := TL.joinL [10] (l.map lineL)
theorem joinL_cons (s a : List Nat) {ws : List (List Nat)} (h : ws ≠ []) : TL.joinL s (a :: ws) = a ++ (s ++ TL.joinL s ws) := by
  cases ws with
  | nil => exact absurd rfl h
  | cons w ws => rfl
theorem joinL_snoc (s y : List Nat) : ∀ {ws : List (List Nat)}, ws ≠ [] → TL.joinL s (ws ++ [y]) = TL.joinL s ws ++ s ++ y
  | [], h => absurd rfl h
  | [w], _ => by simp [TL.joinL]
  | w :: v :: ws, _ => by
    have ih := joinL_snoc s y (ws := v :: ws) (by simp)
    rw [List.cons_append, joinL_cons s w (by simp), ih, joinL_cons s w (by simp)]
    simp [List.append_assoc]
theorem joinL_flat (s : List Nat) : ∀ {ws : List (List Nat)}, ws ≠ [] → s ++ TL.joinL s ws = (ws.flatMap fun w => s ++ w)
  | [], h => absurd rfl h
  | [w], _ => by simp [TL.joinL]
  | w :: v :: ws, _ => by
    have ih := joinL_flat s (ws := v :: ws) (by simp)
    rw [joinL_cons s w (by simp), ih]
    simp [List.append_assoc]
theorem joinL_len (s : List Nat) : ∀ ws : List (List Nat), (TL.joinL s ws).length ≤ (ws.map List.length).sum + ws.length * s.length
  | [] => by simp [TL.joinL]
  | [w] => by simp [TL.joinL]
  | w :: v :: ws => by
    have ih := joinL_len s (v :: ws)
    rw [joinL_cons s w (by simp)]
    simp only [List.length_append, List.map_cons, List.sum_cons, List.length_cons] at ih ⊢
    rw [Nat.succ_mul] at ih ⊢
    rw [Nat.succ_mul]
    omega
theorem joinL_mem (s : List Nat) : ∀ (ws : List (List Nat)), ∀ c ∈ TL.joinL s ws, c ∈ s ∨ ∃ w ∈ ws, c ∈ w
  | [], c, h => by simp [TL.joinL] at h
  | [w], c, h => .inr ⟨w, by simp, h⟩
  | w :: v :: ws, c, h => by
    rw [joinL_cons s w (by simp)] at h
    rcases List.mem_append.mp h with h | h
    · exact .inr ⟨w, by simp, h⟩
    · rcases List.mem_append.mp h with h | h
      · exact .inl h
      · rcases joinL_mem s (v :: ws) c h with h | ⟨x, hx, h⟩
        · exact .inl h
        · exact .inr ⟨x, by simp [List.mem_cons.mp hx], h⟩
theorem row_num {r : Row} (h : RowOk r) : 0 ≤ r.2.1 ∧ r.2.1 ≤ 999999999 ∧ (0 < r.2.1 ↔ hasNum r.1 = true) := by
  have hn := h.num
  unfold hasNum
  by_cases hk : r.1 = .take ∨ r.1 = .lay
  · rw [if_pos hk] at hn
    exact ⟨by omega, by omega, by constructor <;> intro _ <;> first | simpa using hk | omega⟩
  · rw [if_neg hk] at hn
    rw [hn]
    refine ⟨by omega, by omega, by constructor <;> intro h2 <;> first | omega | exact absurd (by simpa using h2) hk⟩
theorem num_len {n : Int} (h0 : 0 ≤ n) (h : n ≤ 999999999) : (TL.numL n.toNat).length ≤ 9 := TL.numL_len (by omega) (by omega)
theorem strD_num {n : Int} (h0 : 0 ≤ n) (h : n ≤ 999999999) : strD [.int n] = some (tS (TL.numL n.toNat)) := by
  have e : n = ((n.toNat : Nat) : Int) := by omega
  have hl : n.natAbs.log2 < 1920 := by
    have h1 : n.natAbs ≤ 999999999 := by omega
    have h2 : n.natAbs < 2 ^ 30 := by omega
    by_cases h3 : n.natAbs = 0
    · rw [h3]; decide
    · have := (Nat.log2_lt h3).mpr h2
      omega
  simp only [strD]
  rw [if_pos hl]
  have h3 : Str.ofString (toString n) = mkS (TL.numL n.toNat) := by
    rw [← TL.tl_num, ← e]
    exact (mk_cps _).symm
  show some (D.str (Str.ofString (toString n))) = _
  rw [h3]; rfl
theorem sum_words {ws : List (List Nat)} (h : Words ws) (hl : ws.length ≤ 1000) : (ws.map List.length).sum ≤ 40000 := by
  have := sum_len h; omega
theorem parts_sum {r : Row} (h : RowOk r) : ((partsOf r).map List.length).sum ≤ 40010 ∧ (partsOf r).length ≤ 1002 := by
  have h1 := sum_words h.words h.len
  have h2 := row_num h
  have h3 := num_len h2.1 h2.2.1
  have h4 := h.len
  unfold partsOf
  split <;> simp <;> omega
theorem line_len {r : Row} (h : RowOk r) : (lineL r).length ≤ 42000 := by
  have h1 := parts_sum h
  have h2 := joinL_len [32] (partsOf r)
  unfold lineL
  simp only [List.length_cons, List.length_nil, Nat.mul_one] at h2
  omega
theorem line_eq {r : Row} (h : RowOk r) : lineL r = (if hasNum r.1 = true then [sgn r.1] ++ [32] ++ TL.numL r.2.1.toNat else [sgn r.1]) ++ [32] ++ TL.joinL [32] r.2.2 := by
  unfold lineL partsOf
  split
  · show TL.joinL [32] ([sgn r.1] :: TL.numL r.2.1.toNat :: r.2.2) = _
    rw [joinL_cons _ _ (by simp), joinL_cons _ _ h.some]
    simp [List.append_assoc]
  · rw [List.nil_append, joinL_cons _ _ h.some]
    simp [List.append_assoc]
theorem line_of_ok {r : Row} (h : RowOk r) : f_line_of (rD r) = .ok (tS (lineL r)) := by
  have hs := sizeLine_is
  obtain ⟨n0, n9, nk⟩ := row_num h
  have hnl := num_len n0 n9
  have hsn := strD_num n0 n9
  have hsw := sum_words h.words h.len
  have hjl := joinL_len [32] r.2.2
  simp only [List.length_cons, List.length_nil, Nat.mul_one] at hjl
  have hlen := h.len
  have hj := joinD_tT (s := [32]) (ws := r.2.2) (by simp only [List.length_cons, List.length_nil, Nat.mul_one]; omega)
  have x0 : ixD (rD r) (.int 0) = some (tS (kL r.1)) := ixD_tup0 _ _
  have x1 : ixD (rD r) (.int 1) = some (.int r.2.1) := ixD_tup1 _ _ _
  have x2 : ixD (rD r) (.int 2) = some (tT r.2.2) := ixD_tup2 _ _ _ _
  have ti := tidx r.1
  have sa := sgn_at r.1
  have le := line_eq h
  have a1 : addD (tS [sgn r.1]) (tS [32]) = some (tS ([sgn r.1] ++ [32])) := addD_tS (by show 2 ≤ sizeLine; omega)
  have a2 : addD (tS ([sgn r.1] ++ [32])) (tS (TL.numL r.2.1.toNat)) = some (tS ([sgn r.1] ++ [32] ++ TL.numL r.2.1.toNat)) := addD_tS (by simp only [List.length_append, List.length_cons, List.length_nil]; omega)
  obtain ⟨P, hP⟩ : ∃ P, P = if hasNum r.1 = true then [sgn r.1] ++ [32] ++ TL.numL r.2.1.toNat else [sgn r.1] := ⟨_, rfl⟩
  have hPl : P.length ≤ 20 := by rw [hP]; split <;> simp <;> omega
  rw [← hP] at le
  have a3 : addD (tS P) (tS [32]) = some (tS (P ++ [32])) := addD_tS (by simp only [List.length_cons, List.length_nil]; omega)
  have a4 : addD (tS (P ++ [32])) (tS (TL.joinL [32] r.2.2)) = some (tS (P ++ [32] ++ TL.joinL [32] r.2.2)) := addD_tS (by simp only [List.length_append, List.length_cons, List.length_nil]; omega)
  have e0 : startE 2 [rD r] = [.sh (rD r), .un] := rfl
  have s1 : sSet 1 (xIx (xC (.str "=-+<>")) (xTindex ["keep", "cut", "put", "take", "lay"] (xIx (xPk 0) (xC (.int 0))))) [.sh (rD r), .un] = .ok (.nx [.sh (rD r), .sh (tS [sgn r.1])]) := by
    simp [x0, ti, sa]
  have s2 : sIf (tB (xOp gtD (xIx (xPk 0) (xC (.int 1))) (xC (.int 0)))) (sSet 1 (xOp addD (xOp addD (xPk 1) (xC (.str " "))) (xB strD (aCons (xIx (xPk 0) (xC (.int 1))) aNil)))) sNil [.sh (rD r), .sh (tS [sgn r.1])] = .ok (.nx [.sh (rD r), .sh (tS P)]) := by
    rw [hP]
    by_cases hk : hasNum r.1 = true
    · have h0 := nk.mpr hk
      rw [if_pos hk]
      generalize [sgn r.1] ++ [32] = A at a1 a2 ⊢
      generalize A ++ TL.numL r.2.1.toNat = B at a2 ⊢
      simp [x1, h0, a1, a2, hsn]
    · have h0 : ¬ (0 < r.2.1) := fun h => hk (nk.mp h)
      rw [if_neg hk]
      simp [x1, h0]
  unfold f_line_of b_line_of
  rw [e0]
  refine run_ret ?_
  rw [run_seq s1, run_seq s2, le]
  simp [x2, a3, a4, hj, -List.append_assoc]
theorem sum_le {ws : List (List Nat)} {b : Nat} (h : ∀ w ∈ ws, w.length ≤ b) : (ws.map List.length).sum ≤ b * ws.length := by
  induction ws with
  | nil => simp
  | cons w ws ih =>
    have h1 := h w (by simp)
    have h2 := ih fun x hx => h x (by simp [hx])
    simp only [List.map_cons, List.sum_cons, List.length_cons, Nat.mul_succ]; omega
theorem lines_sum {l : List Row} (h : ∀ r ∈ l, RowOk r) : ((l.map lineL).map List.length).sum ≤ 42000 * l.length := by
  have := sum_le (ws := l.map lineL) (b := 42000) fun w hw => by
    obtain ⟨r, hr, rfl⟩ := List.mem_map.mp hw
    exact line_len (h r hr)
  simpa using this
theorem text_len {l : List Row} (h : ∀ r ∈ l, RowOk r) : (textL l).length ≤ 42001 * l.length := by
  have h1 := lines_sum h
  have h2 := joinL_len [10] (l.map lineL)
  unfold textL
  simp only [List.length_cons, List.length_nil, Nat.mul_one, List.length_map] at h2
  omega
theorem written_ok {l : List Row} (h : ∀ r ∈ l, RowOk r) (hl : l.length ≤ 100) : f_written (.lst (l.map rD)) = .ok (tS (textL l)) := by
  have hs := sizeLine_is
  have hn := need_rows_ok h
  have hsum := lines_sum h
  have hj := joinD_tL (s := [10]) (ws := l.map lineL) (by simp only [List.length_cons, List.length_nil, Nat.mul_one, List.length_map]; omega)
  have e0 : startE 2 [D.lst (l.map rD)] = [.sh (.lst (l.map rD)), .un] := rfl
  have s1 : sExpr (xCall (fun1 f_need_rows) (aCons (xSh 0) aNil)) [.sh (.lst (l.map rD)), .un] = .ok (.nx [.sh (.lst (l.map rD)), .un]) := by simp [hn]
  have hc : compR [1] (tgt1 1) tYes b_written_c1 [.sh (.lst (l.map rD)), .un] (l.map rD) = .ok ((l.map lineL).map tS) := by
    rw [List.map_map]
    refine compR_of _ fun r hr => ?_
    simp [b_written_c1, line_of_ok (h r hr)]
  have hz : (l.map rD).length ≤ sizeLine := by rw [List.length_map]; omega
  have hlc : lComp [1] (tgt1 1) tYes b_written_c1 (iList (xSh 0)) [.sh (.lst (l.map rD)), .un] = .ok ((l.map lineL).map tS) := by
    unfold lComp
    rw [show iList (xSh 0) [.sh (.lst (l.map rD)), .un] = .ok (l.map rD) from rfl, ok_bind, if_pos hz, hc]
  have hx : xL (lComp [1] (tgt1 1) tYes b_written_c1 (iList (xSh 0))) [.sh (.lst (l.map rD)), .un] = .ok (tL (l.map lineL)) := by
    unfold xL
    rw [hlc]; rfl
  unfold f_written b_written
  rw [e0]
  refine run_ret ?_
  rw [run_seq s1]
  unfold sRet xJoin xC
  rw [ok_bind]
  simp only [lit_01ba4719, strO_str, lift_some, ok_bind]
  rw [hx, ok_bind, hj]
  rfl
/-! read -/
theorem num_first {n : Nat} (h : 1 ≤ n) : ∃ d t, TL.numL n = d :: t ∧ d ≠ 48 := by
  induction n using Nat.strongRecOn with
  | _ n ih =>
    by_cases h10 : n < 10
    · exact ⟨48 + n, [], TL.numL_lt h10, by omega⟩
    · obtain ⟨d, t, e, hd⟩ := ih (n / 10) (by omega) (by omega)
      exact ⟨d, t ++ [48 + n % 10], by rw [TL.numL_step (by omega), e]; rfl, hd⟩
theorem number_ok {n : Int} (h1 : 1 ≤ n) (h : n ≤ 999999999) : f_number_of (tS (TL.numL n.toNat)) = .ok (.int n) := by
  have hs := sizeLine_is
  have hnl := num_len (by omega : 0 ≤ n) h
  obtain ⟨d, t, e, hd⟩ := num_first (n := n.toNat) (by omega)
  have hdig := TL.numL_digits n.toNat
  have hint : PySem.intText? (mkS (TL.numL n.toNat)) = some n := by
    have h3 := TL.int_num (n := n.toNat) (by omega)
    rw [show mkS (TL.numL n.toNat) = Str.ofString (toString ((n.toNat : Nat) : Int)) by rw [← TL.tl_num]; exact mk_cps _, h3]
    congr 1; omega
  have hd2 : intD [tS (TL.numL n.toNat)] = some (.int n) := by
    unfold tS
    simp only [intD]
    rw [if_pos (by rw [len_mk]; omega), hint]; rfl
  obtain ⟨N, hN⟩ : ∃ N, N = TL.numL n.toNat := ⟨_, rfl⟩
  rw [← hN] at hnl hdig hd2 e ⊢
  have hl : lenD [tS N] = some (.int (N.length : Int)) := lenD_tS (by omega)
  have hlen1 : 1 ≤ N.length := by rw [e]; simp
  have c1 : (1 : Int) ≤ (N.length : Int) ∧ (N.length : Int) ≤ 9 := by omega
  have x0 : ixD (tS N) (.int 0) = some (tS [d]) := ixD_tS (by omega) (by omega) (by rw [e]; rfl)
  have hc : compR [1] (tgt1 1) tYes b_number_of_c1 [.sh (tS N), .un] (N.map fun c => tS [c]) = .ok (N.map fun c => .bl (decide (c ∈ [48, 49, 50, 51, 52, 53, 54, 55, 56, 57]))) := by
    refine compR_of _ fun c _ => ?_
    simp [b_number_of_c1, -List.mem_cons]
  have ha : allD [.lst (N.map fun c => D.bl (decide (c ∈ [48, 49, 50, 51, 52, 53, 54, 55, 56, 57])))] = some (.bl true) := by
    have e2 : (N.map fun c => D.bl (decide (c ∈ [48, 49, 50, 51, 52, 53, 54, 55, 56, 57]))) = (N.map fun c => decide (c ∈ [48, 49, 50, 51, 52, 53, 54, 55, 56, 57])).map D.bl := by rw [List.map_map]; rfl
    rw [e2, allD_map]
    congr 2
    rw [List.all_eq_true]
    intro b hb
    obtain ⟨c, hc, rfl⟩ := List.mem_map.mp hb
    have := hdig c hc
    have h3 : c ∈ [48, 49, 50, 51, 52, 53, 54, 55, 56, 57] := by simp; omega
    rw [decide_eq_true h3]; rfl
  have hz : (N.map fun c => tS [c]).length ≤ sizeLine := by rw [List.length_map]; omega
  have e0 : startE 2 [tS N] = [.sh (tS N), .un] := rfl
  have s1 : sIf (tOr (tNot (tB (xChain leD leD (xC (.int 1)) (xB lenD (aCons (xPk 0) aNil)) (xC (.int 9))))) (tB (xOp eqD (xIx (xPk 0) (xC (.int 0))) (xC (.str "0"))))) (sRaise .noRow) sNil [.sh (tS N), .un] = .ok (.nx [.sh (tS N), .un]) := by
    simp [hl, c1, x0, hd]
  have s2 : sIf (tNot (tB (xB allD (aCons (xL (lComp [1] (tgt1 1) tYes b_number_of_c1 (iStr (xPk 0)))) aNil)))) (sRaise .noRow) sNil [.sh (tS N), .un] = .ok (.nx [.sh (tS N), .un]) := by
    have hlc : lComp [1] (tgt1 1) tYes b_number_of_c1 (iStr (xPk 0)) [.sh (tS N), .un] = .ok (N.map fun c => .bl (decide (c ∈ [48, 49, 50, 51, 52, 53, 54, 55, 56, 57]))) := by
      unfold lComp
      rw [show iStr (xPk 0) [.sh (tS N), .un] = .ok (N.map fun c => tS [c]) by simp [strItems_tS], ok_bind, if_pos hz, hc]
    have hb : tB (xB allD (aCons (xL (lComp [1] (tgt1 1) tYes b_number_of_c1 (iStr (xPk 0)))) aNil)) [.sh (tS N), .un] = .ok true := by
      unfold tB xB aCons xL
      rw [hlc, mkL_ok, ok_bind]
      unfold aNil
      rw [ok_bind, ok_bind, ha, lift_some]
      rfl
    unfold sIf tNot
    rw [hb]
    rfl
  unfold f_number_of b_number_of
  rw [e0]
  refine run_ret ?_
  rw [run_seq s1, run_seq s2]
  simp [hd2]
theorem split_ok {c : Nat} (hc : c < 256) {ws : List (List Nat)} (hne : ws ≠ []) (h : ∀ w ∈ ws, c ∉ w) (hl : (TL.joinL [c] ws).length + 2 ≤ sizeLine) : splitO (mkS (TL.joinL [c] ws)) (tS [c]) = some (ws.map tS) := by
  have e1 : mkS (TL.joinL [c] ws) = Txt.join (mkS [c]) (ws.map mkS) := (join_mk [c] ws).symm
  have e2 : Txt.split (Txt.join (mkS [c]) (ws.map mkS)) (mkS [c]) = ws.map mkS := by
    refine TL.split_join (s := c) (S := []) (cps_mk _) ?_ (by simpa using hne) fun p hp => ?_
    · simp [mkS, hc]
    · obtain ⟨w, hw, rfl⟩ := List.mem_map.mp hp
      show c ∉ (mkS w).cps.toList
      rw [cps_mk]; exact h w hw
  unfold tS
  simp only [splitO]
  rw [if_pos ⟨by simp, by rw [len_mk]; exact hl⟩, e1, e2, List.map_map]
  rfl
theorem parts_free {r : Row} (h : RowOk r) {c : Nat} (hc : c = 32 ∨ c = 10) : ∀ w ∈ partsOf r, c ∉ w := by
  intro w hw
  unfold partsOf at hw
  rcases List.mem_cons.mp hw with rfl | hw
  · cases r.1 <;> simp [sgn] <;> omega
  · rcases List.mem_append.mp hw with hw | hw
    · split at hw
      · rw [List.mem_singleton.mp hw]
        exact TL.numL_free (by omega)
      · cases hw
    · intro hm
      have := word_sign (h.words w hw) c hm
      simp only [isSign, decide_eq_true_eq] at this
      omega
theorem row_by_ok {r : Row} (h : RowOk r) : f_row_by (tS (lineL r)) = .ok (rD r) := by
  have hs := sizeLine_is
  have z3 : 3 ≤ sizeLine := by omega
  have hll := line_len h
  have hsp := split_ok (c := 32) (by omega) (ws := partsOf r) (by simp [partsOf]) (parts_free h (.inl rfl)) (by have : TL.joinL [32] (partsOf r) = lineL r := rfl; rw [this]; omega)
  have hsp' : splitO (mkS (lineL r)) (tS [32]) = some ((partsOf r).map tS) := hsp
  obtain ⟨n0, n9, nk⟩ := row_num h
  have hp : (partsOf r).map tS = tS [sgn r.1] :: ((if hasNum r.1 = true then [TL.numL r.2.1.toNat] else []) ++ r.2.2).map tS := rfl
  have x0 : ixD (.lst ((partsOf r).map tS)) (.int 0) = some (tS [sgn r.1]) := by rw [hp]; exact ixD_lst0 _ _
  have l1 : lenD [tS [sgn r.1]] = some (.int 1) := lenD_tS (by show 1 ≤ sizeLine; omega)
  have ni : ninD (tS [sgn r.1]) (tS [61, 45, 43, 60, 62]) = some (.bl false) := by
    rw [ninD_tS]; congr 2; cases r.1 <;> decide
  have si := sidx r.1
  have ka := kind_at r.1
  have lts : ∀ l : List (List Nat), D.tup (l.map tS) = tT l := fun l => rfl
  have e0 : startE 3 [tS (lineL r)] = [.sh (tS (lineL r)), .un, .un] := rfl
  have s1 : sSet 1 (xL (lSplit (xPk 0) (xC (.str " ")))) [.sh (tS (lineL r)), .un, .un] = .ok (.nx [.sh (tS (lineL r)), .sh (.lst ((partsOf r).map tS)), .un]) := by
    simp [hsp']
  have s2 : sIf (tOr (tB (xOp neD (xB lenD (aCons (xIx (xPk 1) (xC (.int 0))) aNil)) (xC (.int 1)))) (tB (xOp ninD (xIx (xPk 1) (xC (.int 0))) (xC (.str "=-+<>"))))) (sRaise .noRow) sNil [.sh (tS (lineL r)), .sh (.lst ((partsOf r).map tS)), .un] = .ok (.nx [.sh (tS (lineL r)), .sh (.lst ((partsOf r).map tS)), .un]) := by
    simp [x0, l1, ni, -ninD_tS]
  have s3 : sSet 2 (xIx (xC (.tup [(.str "keep"), (.str "cut"), (.str "put"), (.str "take"), (.str "lay")])) (xSindex "=-+<>" (xIx (xPk 1) (xC (.int 0))))) [.sh (tS (lineL r)), .sh (.lst ((partsOf r).map tS)), .un] = .ok (.nx [.sh (tS (lineL r)), .sh (.lst ((partsOf r).map tS)), .sh (tS (kL r.1))]) := by
    simp [x0, si, ka]
  unfold f_row_by b_row_by
  rw [e0]
  refine run_ret ?_
  rw [run_seq s1, run_seq s2, run_seq s3]
  by_cases hk : hasNum r.1 = true
  · have hn := number_ok (n := r.2.1) (by have := nk.mpr hk; omega) n9
    have hp2 : (partsOf r).map tS = tS [sgn r.1] :: tS (TL.numL r.2.1.toNat) :: r.2.2.map tS := by rw [hp, if_pos hk]; rfl
    have x1 : ixD (.lst ((partsOf r).map tS)) (.int 1) = some (tS (TL.numL r.2.1.toNat)) := by rw [hp2]; exact ixD_lst1 _ _ _
    have l2 : lenD [.lst ((partsOf r).map tS)] = some (.int ((r.2.2.length : Int) + 2)) := by rw [hp2, lenD_lst]; simp; omega
    have h2 : ¬ ((r.2.2.length : Int) + 2 < 2) := by omega
    have sl : slD (.lst ((partsOf r).map tS)) (some 2) none = some (.lst (r.2.2.map tS)) := by
      rw [slD_lst]
      have := cut_drop ((partsOf r).map tS) 2
      rw [hp2] at this
      rw [hp2]
      exact congrArg (fun x => some (D.lst x)) this
    have hk' : r.1 = .take ∨ r.1 = .lay := by simpa [hasNum] using hk
    have ht : rD r = .tup [tS (kL r.1), .int r.2.1, tT r.2.2] := rfl
    rcases hk' with hk' | hk' <;> simp [hk', x1, l2, h2, sl, hn, lts, z3, ht, -eqD_tS]
  · have hp2 : (partsOf r).map tS = tS [sgn r.1] :: r.2.2.map tS := by rw [hp, if_neg hk]; rfl
    have sl : slD (.lst ((partsOf r).map tS)) (some 1) none = some (.lst (r.2.2.map tS)) := by
      rw [slD_lst]
      have := cut_drop ((partsOf r).map tS) 1
      rw [hp2] at this
      rw [hp2]
      exact congrArg (fun x => some (D.lst x)) this
    have hk1 : r.1 ≠ .take := fun e => hk (by simp [hasNum, e])
    have hk2 : r.1 ≠ .lay := fun e => hk (by simp [hasNum, e])
    have h0 : r.2.1 = 0 := by
      have : ¬ 0 < r.2.1 := fun h => hk (nk.mp h)
      omega
    have ht : rD r = .tup [tS (kL r.1), .int 0, tT r.2.2] := by unfold rD; rw [h0]
    rw [ht]
    simp [hk1, hk2, sl, lts, z3, -eqD_tS]
theorem line_free {r : Row} (h : RowOk r) : 10 ∉ lineL r := fun hm => by
  rcases joinL_mem [32] (partsOf r) 10 hm with h1 | ⟨w, hw, h1⟩
  · simp at h1
  · exact parts_free h (.inr rfl) w hw h1
theorem line_ne (r : Row) : lineL r ≠ [] := by
  unfold lineL partsOf
  cases ((if hasNum r.1 = true then [TL.numL r.2.1.toNat] else []) ++ r.2.2) <;> simp [TL.joinL]
theorem text_ne {l : List Row} (h : l ≠ []) : textL l ≠ [] := by
  cases l with
  | nil => exact absurd rfl h
  | cons r l =>
    unfold textL
    rw [List.map_cons]
    cases l with
    | nil => exact line_ne r
    | cons s l =>
      rw [joinL_cons _ _ (by simp)]
      have := line_ne r
      simp
theorem read_ok {l : List Row} (h : ∀ r ∈ l, RowOk r) (hl : l.length ≤ 100) : f_read (tS (textL l)) = .ok (.lst (l.map rD)) := by
  have hs := sizeLine_is
  have hn := need_rows_ok h
  have htl := text_len h
  have e0 : startE 3 [tS (textL l)] = [.sh (tS (textL l)), .un, .un] := rfl
  by_cases hne : l = []
  · subst hne
    have : textL [] = [] := rfl
    rw [this]
    simp [f_read, b_read, startE]
  · have ht := text_ne hne
    have hsp := split_ok (c := 10) (by omega) (ws := l.map lineL) (by simpa using hne) (fun w hw => by
      obtain ⟨r, hr, rfl⟩ := List.mem_map.mp hw
      exact line_free (h r hr)) (by have : TL.joinL [10] (l.map lineL) = textL l := rfl; rw [this]; omega)
    have hsp' : splitO (mkS (textL l)) (tS [10]) = some ((l.map lineL).map tS) := hsp
    have hi : iList (xL (lSplit (xPk 0) (xC (.str "\n")))) [.sh (tS (textL l)), .un, .un] = .ok ((l.map lineL).map tS) := by
      simp [hsp', -List.map_map]
    have hc : compR [2] (tgt1 2) tYes b_read_c1 [.sh (tS (textL l)), .un, .un] ((l.map lineL).map tS) = .ok (l.map rD) := by
      rw [List.map_map]
      refine compR_of _ fun r hr => ?_
      simp [b_read_c1, row_by_ok (h r hr)]
    have hz : ((l.map lineL).map tS).length ≤ sizeLine := by rw [List.length_map, List.length_map]; omega
    have s1 : sIf (tNot (tB (xIsi "str" (xPk 0)))) (sRaise .noRow) sNil [.sh (tS (textL l)), .un, .un] = .ok (.nx [.sh (tS (textL l)), .un, .un]) := by simp
    have s2 : sIf (tB (xOp eqD (xPk 0) (xC (.str "")))) (sRet (xL (lLst aNil))) sNil [.sh (tS (textL l)), .un, .un] = .ok (.nx [.sh (tS (textL l)), .un, .un]) := by simp [ht]
    have s3 : sComp false 1 (lComp [2] (tgt1 2) tYes b_read_c1 (iList (xL (lSplit (xPk 0) (xC (.str "\n")))))) [.sh (tS (textL l)), .un, .un] = .ok (.nx [.sh (tS (textL l)), .sh (.lst (l.map rD)), .un]) := by
      have hlc : lComp [2] (tgt1 2) tYes b_read_c1 (iList (xL (lSplit (xPk 0) (xC (.str "\n"))))) [.sh (tS (textL l)), .un, .un] = .ok (l.map rD) := by
        unfold lComp
        rw [hi, ok_bind, if_pos hz, hc]
      unfold sComp
      rw [hlc]
      rfl
    have s4 : sExpr (xCall (fun1 f_need_rows) (aCons (xSh 1) aNil)) [.sh (tS (textL l)), .sh (.lst (l.map rD)), .un] = .ok (.nx [.sh (tS (textL l)), .sh (.lst (l.map rD)), .un]) := by simp [hn]
    unfold f_read b_read
    rw [e0]
    refine run_ret ?_
    rw [run_seq s1, run_seq s2, run_seq s3, run_seq s4]
    simp
end DL

set_option Elab.async false
set_option linter.all false
set_option maxRecDepth 100000
set_option maxHeartbeats 2000000
/-! P30: a telling done (redraft/rows.py's done), walked by hand -/
namespace DL
open PySem
abbrev Tk := List (Int × List (List Nat))
def tkD (t : Tk) : List (Int × D) := t.map fun p => (p.1, tT p.2)
def tkFind (t : Tk) (n : Int) : Option (List (List Nat)) := (t.find? fun p => decide (p.1 = n)).map (·.2)
def tkSame (a b : Tk) : Bool := a.length == b.length && a.all fun p => decide (tkFind b p.1 = some p.2)
structure DSt where
  at' : Nat
  new : List (List Nat)
  tk : Tk
  ld : Tk
def isOldK (k : Kd) : Bool := decide (k = .keep) || (decide (k = .cut) || decide (k = .take))
def isNewK (k : Kd) : Bool := decide (k = .keep) || (decide (k = .put) || decide (k = .lay))
def dstep (old : List (List Nat)) (s : DSt) (r : Row) : Option DSt :=
  if isOldK r.1 = true ∧ (old.drop s.at').take r.2.2.length ≠ r.2.2 then none
  else if r.1 = .take ∧ (tkFind s.tk r.2.1).isSome = true then none
  else if r.1 = .lay ∧ (tkFind s.ld r.2.1).isSome = true then none
  else some ⟨if isOldK r.1 = true then s.at' + r.2.2.length else s.at', if isNewK r.1 = true then s.new ++ r.2.2 else s.new, if r.1 = .take then s.tk ++ [(r.2.1, r.2.2)] else s.tk, if r.1 = .lay then s.ld ++ [(r.2.1, r.2.2)] else s.ld⟩
def dall (old : List (List Nat)) : List Row → DSt → Option DSt
  | [], s => some s
  | r :: l, s => (dstep old s r).bind (dall old l)
def doneP (l : List Row) (old : List (List Nat)) : R D := match dall old l ⟨0, [], [], []⟩ with
  | none => .ex .noFit
  | some s => if s.at' ≠ old.length ∨ tkSame s.tk s.ld = false then .ex .noFit else if 120 < s.new.length then .ex .tooLong else .ok (tL s.new)
structure DOk (l : List Row) (old : List (List Nat)) : Prop where
  rows : ∀ r ∈ l, RowOk r
  words : Words old
  few : l.length ≤ 1000
  short : old.length ≤ 120
theorem rD_inj {a b : Row} (h : rD a = rD b) : a = b := by
  obtain ⟨k, n, ws⟩ := a
  obtain ⟨k', n', ws'⟩ := b
  simp only [rD, D.tup.injEq, List.cons.injEq, and_true, D.int.injEq] at h
  obtain ⟨h1, h2, h3⟩ := h
  have e1 := mk_inj (D.str.inj h1)
  have e3 : k = k' := by
    have := kL_eq k k'
    rw [decide_eq_true e1] at this
    exact of_decide_eq_true this.symm
  have e4 : ws = ws' := by
    refine (List.map_inj_right (f := tS) fun a b hab => mk_inj (D.str.inj hab)).mp ?_
    simpa [tT] using h3
  rw [e3, h2, e4]
theorem rows_inj {l m : List Row} (h : l.map rD = m.map rD) : l = m := (List.map_inj_right (f := rD) fun _ _ => rD_inj).mp h
theorem tL_inj {l m : List (List Nat)} (h : tL l = tL m) : l = m := (List.map_inj_right (f := tS) fun a b hab => mk_inj (D.str.inj hab)).mp (D.lst.inj h)
open Classical in
noncomputable def doneD (a b : D) : R D := f_need_rows a >>= fun _ => f_need_words b >>= fun _ => if h : ∃ q : List Row × List (List Nat), DOk q.1 q.2 ∧ a = .lst (q.1.map rD) ∧ b = tL q.2 then doneP (choose h).1 (choose h).2 else .no
theorem doneD_ok {l : List Row} {old : List (List Nat)} (h : DOk l old) : doneD (.lst (l.map rD)) (tL old) = doneP l old := by
  unfold doneD
  rw [need_rows_ok h.rows, ok_bind, need_words_ok h.words h.short, ok_bind]
  have hx : ∃ q : List Row × List (List Nat), DOk q.1 q.2 ∧ D.lst (l.map rD) = .lst (q.1.map rD) ∧ tL old = tL q.2 := ⟨(l, old), h, rfl, rfl⟩
  rw [dif_pos hx]
  obtain ⟨_, e1, e2⟩ := Classical.choose_spec hx
  rw [← rows_inj (D.lst.inj e1), ← tL_inj e2]
noncomputable def b_done (r : Env) : R Out := match r with
  | [.sh a, .sh b, .un, .un, .un, .un, .un, .un, .un] => doneD a b >>= fun d => .ok (.rt d)
  | _ => .no
noncomputable def f_done (a b : D) : R D := bodyR (b_done (startE 9 [a, b]))
theorem f_done_is (a b : D) : f_done a b = doneD a b := by
  show bodyR (doneD a b >>= fun d => R.ok (Out.rt d)) = _
  cases doneD a b <;> rfl
/-! its statements -/
def dR (rows : D) (old : List (List Nat)) (s : DSt) (a b : PySem.Addr) (k n w : Ent) : Env := [.sh rows, .sh (tL old), .sh (.int (s.at' : Int)), .sh (tL s.new), .sh (.adr a), .sh (.adr b), k, n, w]
theorem cut_two {α : Type} (xs : List α) (m n : Nat) : cut xs (some (m : Int)) (some ((m : Int) + (n : Int))) = (xs.drop m).take n := by
  have := cut_mid xs m (m + n)
  rw [show ((m + n : Nat) : Int) = (m : Int) + (n : Int) by omega] at this
  rw [this, List.drop_take]
  congr 1; omega
theorem ev_b1 (rows : D) {old : List (List Nat)} (s : DSt) (a b : PySem.Addr) (k : Kd) (n : D) {ws : List (List Nat)} (ho : Ok1 old) (hw : Ok1 ws) :
    b_done_b1 (dR rows old s a b (.sh (tS (kL k))) (.sh n) (.sh (tT ws))) = if isOldK k = true then (if (old.drop s.at').take ws.length = ws then .ok (.nx (dR rows old ⟨s.at' + ws.length, s.new, s.tk, s.ld⟩ a b (.sh (tS (kL k))) (.sh n) (.sh (tT ws)))) else .ex .noFit) else .ok (.nx (dR rows old s a b (.sh (tS (kL k))) (.sh n) (.sh (tT ws)))) := by
  have hs := sizeLine_is
  have z3 : 3 ≤ sizeLine := by omega
  have hin := in_old k
  have hl : lenD [tT ws] = some (.int (ws.length : Int)) := (seq_tT ws).len
  have hsl : slD (tL old) (some (s.at' : Int)) (some ((s.at' : Int) + (ws.length : Int))) = some (tL ((old.drop s.at').take ws.length)) := by
    unfold tL
    rw [slD_lst, cut_two, ← List.map_drop, ← List.map_take]
  have htp : tupleD [tL ((old.drop s.at').take ws.length)] = some (tT ((old.drop s.at').take ws.length)) := rfl
  have hok : Ok1 ((old.drop s.at').take ws.length) := fun w hw => ho w (List.mem_of_mem_drop (List.mem_of_mem_take hw))
  have hne : neD (tT ((old.drop s.at').take ws.length)) (tT ws) = some (.bl (!decide ((old.drop s.at').take ws.length = ws))) := by simp [neD, eqB_tT hok hw]
  unfold dR
  unfold isOldK
  generalize (decide (k = .keep) || (decide (k = .cut) || decide (k = .take))) = q at hin ⊢
  generalize tL old = O at hsl ⊢
  generalize hG : (old.drop s.at').take ws.length = G at hsl htp hne ⊢
  generalize tL G = G1 at hsl htp
  generalize tT G = G2 at htp hne
  have e : ((s.at' + ws.length : Nat) : Int) = (s.at' : Int) + (ws.length : Int) := by omega
  rw [e]
  generalize tT ws = T at hl hne ⊢
  cases q with
  | false => simp [b_done_b1, z3, hin]
  | true =>
    by_cases hgw : G = ws
    · rw [decide_eq_true hgw] at hne
      rw [if_pos rfl, if_pos hgw]
      simp [b_done_b1, z3, hin, hl, hsl, htp, hne]
    · rw [decide_eq_false hgw] at hne
      rw [if_pos rfl, if_neg hgw]
      simp [b_done_b1, z3, hin, hl, hsl, htp, hne]
theorem ev_b2 (rows : D) {old : List (List Nat)} (s : DSt) (a b : PySem.Addr) (k : Kd) (n : D) {ws : List (List Nat)} (hl : s.new.length + ws.length ≤ sizeLine) :
    b_done_b2 (dR rows old s a b (.sh (tS (kL k))) (.sh n) (.sh (tT ws))) = .ok (.nx (dR rows old ⟨s.at', if isNewK k = true then s.new ++ ws else s.new, s.tk, s.ld⟩ a b (.sh (tS (kL k))) (.sh n) (.sh (tT ws)))) := by
  have hs := sizeLine_is
  have z3 : 3 ≤ sizeLine := by omega
  have hin := in_new k
  have hli : listO (tT ws) = some (ws.map tS) := rfl
  have hadd : addD (tL s.new) (.lst (ws.map tS)) = some (tL (s.new ++ ws)) := by
    unfold tL
    rw [addD_lst (by simp; omega), List.map_append]
  unfold dR
  unfold isNewK
  generalize (decide (k = .keep) || (decide (k = .put) || decide (k = .lay))) = q at hin ⊢
  generalize tL old = O
  generalize hA : tL s.new = A at hadd ⊢
  generalize ws.map tS = Z at hli hadd
  generalize tT ws = T at hli ⊢
  cases q with
  | false => simp [b_done_b2, z3, hin, hA]
  | true => simp [b_done_b2, z3, hin, hli, hadd]
theorem ev_t3 (rows : D) (old : List (List Nat)) (s : DSt) (a b : PySem.Addr) (k : Kd) (n w : Ent) : b_done_t3 (dR rows old s a b (.sh (tS (kL k))) n w) = .ok (decide (k = .take)) := by
  have := eqD_k k .take
  simp only [kL] at this
  simp [b_done_t3, dR, this, -eqD_tS]
theorem ev_t4 (rows : D) (old : List (List Nat)) (s : DSt) (a b : PySem.Addr) (k : Kd) (n w : Ent) : b_done_t4 (dR rows old s a b (.sh (tS (kL k))) n w) = .ok (decide (k = .lay)) := by
  have := eqD_k k .lay
  simp only [kL] at this
  simp [b_done_t4, dR, this, -eqD_tS]
theorem ev_t5 (rows : D) (old : List (List Nat)) (s : DSt) (a b : PySem.Addr) (k n w : Ent) : b_done_t5 (dR rows old s a b k n w) = .ok (!decide (s.at' = old.length)) := by
  have hl : lenD [tL old] = some (.int (old.length : Int)) := by unfold tL; rw [lenD_lst, List.length_map]
  unfold dR
  generalize tL old = O at hl ⊢
  have e : decide ((s.at' : Int) = (old.length : Int)) = decide (s.at' = old.length) := by
    by_cases h : s.at' = old.length
    · rw [decide_eq_true h, decide_eq_true (by omega)]
    · rw [decide_eq_false h, decide_eq_false (by omega)]
  rw [← e]
  simp [b_done_t5, hl]
theorem ev_z2 (rows : D) (old : List (List Nat)) (s : DSt) (a b : PySem.Addr) (k n w : Ent) : b_done_z (dR rows old s a b k n w) = if 120 < s.new.length then .ex .tooLong else .ok (.rt (tL s.new)) := by
  have hl : lenD [tL s.new] = some (.int (s.new.length : Int)) := by unfold tL; rw [lenD_lst, List.length_map]
  unfold dR
  generalize tL old = O
  generalize tL s.new = N at hl ⊢
  by_cases h : 120 < s.new.length
  · rw [if_pos h]
    have h' : (120 : Int) < (s.new.length : Int) := by omega
    simp [b_done_z, hl, h']
  · rw [if_neg h]
    have h' : ¬ (120 : Int) < (s.new.length : Int) := by omega
    simp [b_done_z, hl, h']
/-! what the dicts hold -/
theorem tkGet_D (n : Int) : ∀ t : Tk, tkGet (tkD t) n = (tkFind t n).map tT
  | [] => rfl
  | p :: t => by
    have ih := tkGet_D n t
    show tkGet ((p.1, tT p.2) :: tkD t) n = _
    rw [tkGet_cons, ih]
    unfold tkFind
    rw [List.find?_cons]
    by_cases h : p.1 = n <;> simp [h]
theorem tkFind_mem {t : Tk} {n : Int} {ws : List (List Nat)} (h : tkFind t n = some ws) : (n, ws) ∈ t := by
  unfold tkFind at h
  rw [Option.map_eq_some_iff] at h
  obtain ⟨p, h1, h2⟩ := h
  have h3 := List.mem_of_find?_eq_some h1
  have h4 := List.find?_some h1
  simp only [decide_eq_true_eq] at h4
  obtain ⟨a, b⟩ := p
  simp only at h2 h4
  subst h2; subst h4
  exact h3
theorem tkHits_D {ld : Tk} (hl : ∀ p ∈ ld, Ok1 p.2) : ∀ {t : Tk}, (∀ p ∈ t, Ok1 p.2) → tkHits (tkD ld) (tkD t) = some (t.all fun p => decide (tkFind ld p.1 = some p.2))
  | [], _ => rfl
  | p :: t, h => by
    have ih := tkHits_D hl (t := t) fun x hx => h x (by simp [hx])
    show tkHits (tkD ld) ((p.1, tT p.2) :: tkD t) = _
    unfold tkHits
    rw [List.all_cons]
    have hg := tkGet_D p.1 ld
    cases hf : tkFind ld p.1 with
    | none =>
      rw [hf] at hg
      simp only [hg, Option.map_none]
      simp
    | some ws =>
      rw [hf] at hg
      simp only [hg, Option.map_some]
      have h1 := h p (by simp)
      have h2 := hl _ (tkFind_mem hf)
      rw [if_pos ⟨sh_tT h1, sh_tT h2⟩, ih]
      have he := eqB_tT h1 h2
      rw [eqB_sh rfl rfl (sh_tT h1) (sh_tT h2)] at he
      have he := Option.some.inj he
      rw [Option.map_some, he]
      congr 2
      by_cases hw : p.2 = ws
      · rw [decide_eq_true hw, hw]; simp
      · rw [decide_eq_false hw]
        symm
        rw [decide_eq_false_iff_not]
        intro e
        exact hw (Option.some.inj e).symm
theorem tkD_snoc (t : Tk) (n : Int) (ws : List (List Nat)) : tkD (t ++ [(n, ws)]) = tkD t ++ [(n, tT ws)] := by unfold tkD; rw [List.map_append]; rfl
structure DIn (s : DSt) (i : Nat) : Prop where
  new : s.new.length ≤ 1000 * i
  tk : s.tk.length ≤ i
  ld : s.ld.length ≤ i
  ok : ∀ p ∈ s.tk, Ok1 p.2
  ok' : ∀ p ∈ s.ld, Ok1 p.2
theorem dstep_in {old : List (List Nat)} {s s' : DSt} {r : Row} {i : Nat} (h : DIn s i) (hr : RowOk r) (e : dstep old s r = some s') : DIn s' (i + 1) := by
  unfold dstep at e
  split at e
  · cases e
  · split at e
    · cases e
    · split at e
      · cases e
      · cases e
        have h1 := h.new
        have h2 := h.tk
        have h3 := h.ld
        have h4 := hr.len
        have app : ∀ (t : Tk), (∀ p ∈ t, Ok1 p.2) → ∀ p ∈ t ++ [(r.2.1, r.2.2)], Ok1 p.2 := fun t ht p hp => by
          rcases List.mem_append.mp hp with hp | hp
          · exact ht p hp
          · rw [List.mem_singleton.mp hp]; exact hr.words.ok1
        refine ⟨?_, ?_, ?_, ?_, ?_⟩
        · show (if isNewK r.1 = true then s.new ++ r.2.2 else s.new).length ≤ _
          split
          · rw [List.length_append]; omega
          · omega
        · show (if r.1 = .take then s.tk ++ [(r.2.1, r.2.2)] else s.tk).length ≤ _
          split
          · rw [List.length_append, List.length_singleton]; omega
          · omega
        · show (if r.1 = .lay then s.ld ++ [(r.2.1, r.2.2)] else s.ld).length ≤ _
          split
          · rw [List.length_append, List.length_singleton]; omega
          · omega
        · show ∀ p ∈ (if r.1 = .take then s.tk ++ [(r.2.1, r.2.2)] else s.tk), Ok1 p.2
          split
          · exact app _ h.ok
          · exact h.ok
        · show ∀ p ∈ (if r.1 = .lay then s.ld ++ [(r.2.1, r.2.2)] else s.ld), Ok1 p.2
          split
          · exact app _ h.ok'
          · exact h.ok'
end DL

set_option Elab.async false
set_option linter.all false
set_option maxRecDepth 100000
set_option maxHeartbeats 2000000
/-! P31: done, the walk -/
namespace DL
open PySem PySem.Spec PyProof.Rows L2
def finD (old : List (List Nat)) : Option DSt → R D
  | none => .ex .noFit
  | some s => if s.at' ≠ old.length ∨ tkSame s.tk s.ld = false then .ex .noFit else if 120 < s.new.length then .ex .tooLong else .ok (tL s.new)
theorem doneP_fin (l : List Row) (old : List (List Nat)) : doneP l old = finD old (dall old l ⟨0, [], [], []⟩) := by
  unfold doneP finD
  cases dall old l ⟨0, [], [], []⟩ <;> rfl
theorem dall_cons (old : List (List Nat)) (r : Row) (l : List Row) (s : DSt) : dall old (r :: l) s = (dstep old s r).bind (dall old l) := rfl
structure DInv (K : PySem.W.Frag) (F0 H0 F1 : Hp) (rows : D) (old : List (List Nat)) (s : DSt) (σ : L2.St) (H : Hp) : Prop where
  ex : ∃ (a b : Addr) (k n w : Ent) (F : Hp) (ka kb : List (Key × V)), a ≠ b ∧ Held K F0 H0 (dR rows old s a b k n w) σ F H [b, a] ∧ Same F1 F ∧ H a = some (.dK ka) ∧ DnT K F ka (tkD s.tk) ∧ H b = some (.dK kb) ∧ DnT K F kb (tkD s.ld)
theorem rz_is (r : Env) : b_done_rz r = .ex .noFit := rfl
theorem done_walk {X : Cx} {ca : Exn → Addr} {W : WX} {s1 s2 s3 s4 d1 d2 b1 b2 n3 n4 : Stmt} {tg iter t3 t4 c1 ne : Expr} {rz rest : List Stmt} {pos3 pos4 pos5 pos6 pos7 : Pos} (hp : PassesOwn (model X.prog X.w) X.A X.env X.xe) (hc : X.calm = true)
    (A1 : SD X ca W s1 b_done_s1) (A2 : SD X ca W s2 b_done_s2) (A3 : SD X ca W s3 b_done_s3) (A4 : SD X ca W s4 b_done_s4) (D1 : DictNew X 4 d1) (D2 : DictNew X 5 d2) (IT : ID X ca W tg iter b_done_it) (TG : GD X tg [6, 7, 8] (tgtT [6, 7, 8]))
    (B1 : SD X ca W b1 b_done_b1) (B2 : SD X ca W b2 b_done_b2) (T3 : TD X ca W t3 b_done_t3) (N3 : NoteCall X ca W 4 7 8 n3) (T4 : TD X ca W t4 b_done_t4) (N4 : NoteCall X ca W 5 7 8 n4) (T5 : TD X ca W c1 b_done_t5) (NE : HeldNe X 4 5 ne) (RZ : SDs X ca W rz b_done_rz) (ZZ : SDs X ca W rest b_done_z)
    (hs : ∀ x, foldedSetIterable iter X.env x = pure x := by intro _; rfl) :
    SDs X ca W (s1 :: s2 :: s3 :: s4 :: d1 :: d2 :: .For tg iter [b1, b2, .If t3 [n3] [] pos3, .If t4 [n4] [] pos4] [] pos5 :: .If (.BoolOp .Or [c1, ne] pos6) rz [] pos7 :: rest) b_done := by
  obtain ⟨u1, p1, q1⟩ := A1
  obtain ⟨u2, p2, q2⟩ := A2
  obtain ⟨u3, p3, q3⟩ := A3
  obtain ⟨u4, p4, q4⟩ := A4
  obtain ⟨v1, pd1, qd1⟩ := D1
  obtain ⟨v2, pd2, qd2⟩ := D2
  obtain ⟨wi, pi, qi⟩ := IT
  obtain ⟨g, pg, qg⟩ := TG
  obtain ⟨ub1, pb1, qb1⟩ := B1
  obtain ⟨ub2, pb2, qb2⟩ := B2
  obtain ⟨tt3, pt3, qt3⟩ := T3
  obtain ⟨tn3, pn3, qn3⟩ := N3
  obtain ⟨tt4, pt4, qt4⟩ := T4
  obtain ⟨tn4, pn4, qn4⟩ := N4
  obtain ⟨tt5, pt5, qt5⟩ := T5
  obtain ⟨tne, pne, qne⟩ := NE
  obtain ⟨trz, prz, qrz⟩ := RZ
  obtain ⟨tz, pz, qz⟩ := ZZ
  refine ⟨_, pss_cons p1 (pss_cons p2 (pss_cons p3 (pss_cons p4 (pss_cons pd1 (pss_cons pd2 (pss_cons (ps_for hp hc pi pg (pss_cons pb1 (pss_cons pb2 (pss_cons (ps_if pt3 (pss_one pn3) pss_nil) (pss_one (ps_if pt4 (pss_one pn4) pss_nil))))) hs) (pss_cons (ps_if (PW.pt (pw_or pt5 (pw_or1 pne))) prz pss_nil) pz))))))), fun F0 H0 r σ F H E S w => ?_⟩
  unfold b_done at w
  split at w
  case h_2 => exact False.elim w
  case h_1 x y =>
  have hsz := sizeLine_is
  have hs1 : b_done_s1 [.sh x, .sh y, .un, .un, .un, .un, .un, .un, .un] = f_need_rows x >>= fun _ => .ok (.nx [.sh x, .sh y, .un, .un, .un, .un, .un, .un, .un]) := rfl
  have hs2 : b_done_s2 [.sh x, .sh y, .un, .un, .un, .un, .un, .un, .un] = f_need_words y >>= fun _ => .ok (.nx [.sh x, .sh y, .un, .un, .un, .un, .un, .un, .un]) := rfl
  have w := w.bind
  unfold doneD at w
  refine q1 F0 H0 _ σ F H _ S ?_
  show Wp (b_done_s1 [.sh x, .sh y, .un, .un, .un, .un, .un, .un, .un]) _ _
  rw [hs1]
  cases hA : f_need_rows x with
  | no => rw [hA] at w; exact False.elim w
  | ex c => rw [hA] at w; exact w
  | ok u =>
  rw [hA, ok_bind] at w
  rw [ok_bind]
  intro σ1 F1 H1 S1 sm1
  refine q2 F0 H0 _ σ1 F1 H1 _ S1 ?_
  show Wp (b_done_s2 [.sh x, .sh y, .un, .un, .un, .un, .un, .un, .un]) _ _
  rw [hs2]
  cases hB : f_need_words y with
  | no => rw [hB] at w; exact False.elim w
  | ex c => rw [hB] at w; exact w
  | ok u' =>
  rw [hB, ok_bind] at w
  rw [ok_bind]
  intro σ2 F2 H2 S2 sm2
  split at w
  case isFalse => exact False.elim w
  rename_i hdom
  obtain ⟨hdk, ex, ey⟩ := Classical.choose_spec hdom
  generalize Classical.choose hdom = q at hdk ex ey w
  obtain ⟨l, old⟩ := q
  simp only at hdk ex ey w
  clear hdom hs1 hs2 hA hB
  have w : Wp (finD old (dall old l ⟨0, [], [], []⟩)) (fun d => ∀ v F' H', Grow F0 H0 F' H' → Dn X.K F' v d → E.rt v H') (ExK ca W F0 H0) := by
    rw [← doneP_fin]; exact w
  rw [ex, ey] at S2
  obtain ⟨rows, hrows⟩ : ∃ rows, rows = D.lst (l.map rD) := ⟨_, rfl⟩
  rw [← hrows] at S2
  have hold := hdk.words.ok1
  -- at = 0, new = []
  refine q3 F0 H0 _ σ2 F2 H2 _ S2 ?_
  show Wp (R.ok (Out.nx [.sh rows, .sh (tL old), .sh (.int 0), .un, .un, .un, .un, .un, .un])) _ _
  intro σ3 F3 H3 S3 sm3
  refine q4 F0 H0 _ σ3 F3 H3 _ S3 ?_
  have e4 : b_done_s4 [.sh rows, .sh (tL old), .sh (.int 0), .un, .un, .un, .un, .un, .un] = .ok (.nx [.sh rows, .sh (tL old), .sh (.int 0), .sh (tL []), .un, .un, .un, .un, .un]) := rfl
  show Wp (b_done_s4 [.sh rows, .sh (tL old), .sh (.int 0), .un, .un, .un, .un, .un, .un]) _ _
  rw [e4]
  intro σ4 F4 H4 S4 sm4
  -- two dicts
  refine qd1 F0 H0 _ σ4 F4 H4 [] _ S4.held0 fun a σ5 H5 h5 _ ha5 _ => ?_
  refine qd2 F0 H0 _ σ5 F4 H5 [a] _ h5 fun b σ6 H6 h6 hab hb6 hk6 => ?_
  have ha6 : H6 a = some (.dK []) := by rw [hk6 a (by simp)]; exact ha5
  have hab' : a ≠ b := fun z => hab (by simp [z])
  have h6 : Held X.K F0 H0 (dR rows old ⟨0, [], [], []⟩ a b .un .un .un) σ6 F4 H6 [b, a] := h6
  -- the loop
  refine qi F0 (ext H0 H6 [b, a]) _ σ6 F4 H6 _ h6.sim ?_
  have eit : b_done_it (dR rows old ⟨0, [], [], []⟩ a b .un .un .un) = .ok (l.map rD) := by rw [hrows]; rfl
  rw [eit]
  intro J F7 H7 G7 it
  obtain ⟨h7, k7⟩ := h6.grow G7
  have ha7 : H7 a = some (.dK []) := by rw [k7 a (by simp)]; exact ha6
  have hb7 : H7 b = some (.dK []) := by rw [k7 b (by simp)]; exact hb6
  have nlen : (l.map rD).length = l.length := List.length_map _
  have hfew := hdk.few
  refine ⟨fun i k σ H => k = l.length - i ∧ i ≤ l.length ∧ ∃ s, DInv X.K F0 H0 F7 rows old s σ H ∧ DIn s i ∧ Wp (finD old (dall old (l.drop i) s)) (fun d => ∀ v F' H', Grow F0 H0 F' H' → Dn X.K F' v d → E.rt v H') (ExK ca W F0 H0),
    ⟨l.length, rfl, Nat.zero_le _, _, ⟨a, b, _, _, _, F7, [], [], hab', h7, Same.refl _, ha7, .nil, hb7, .nil⟩, ⟨Nat.zero_le _, Nat.zero_le _, Nat.zero_le _, fun _ h => (by cases h), fun _ h => (by cases h)⟩, w⟩, ?_⟩
  rintro i k σ8 H8 ⟨rfl, hi, s, ⟨a, b, ek, en, ew, F8, ka, kb, hab, h8, sm8, ha8, na8, hb8, nb8⟩, hin, w⟩
  by_cases hlt : i < l.length
  · obtain ⟨⟨kd, n, ws⟩, hrow⟩ : ∃ r, r = l[i] := ⟨_, rfl⟩
    rw [List.drop_eq_getElem_cons hlt, dall_cons, ← hrow] at w
    have hrok := hdk.rows _ (List.getElem_mem hlt)
    rw [← hrow] at hrok
    refine .inr ⟨it.go i F8 H8 (by rw [nlen]; exact hlt) sm8 h8.sim.sub, fun σ' H' => ∃ s', dstep old s (kd, n, ws) = some s' ∧ DInv X.K F0 H0 F7 rows old s' σ' H', fun σ' H' z => ?_, fun z H9 y => ?_⟩
    · obtain ⟨s', e1, e2⟩ := z
      rw [e1, Option.bind_some] at w
      exact ⟨l.length - (i + 1), by omega, rfl, hlt, s', e2, dstep_in hin hrok e1, w⟩
    obtain ⟨rfl, nx⟩ := it.yld i F8 H8 z H9 (rD l[i]) (by rw [List.getElem?_map, List.getElem?_eq_getElem hlt]; rfl) sm8 h8.sim.sub y
    rw [← hrow] at nx
    have wf : dstep old s (kd, n, ws) = none → ExK ca W F0 H0 .noFit := fun e => by
      rw [e] at w
      exact w
    refine qg F0 (ext H0 H9 [b, a]) _ (dR rows old s a b (.sh (tS (kL kd))) (.sh (.int n)) (.sh (tT ws))) σ8 F8 H9 z _ _ h8.sim nx rfl fun σ9 S9 _ => ?_
    obtain ⟨h9, _⟩ := h8.same S9 (Same.refl _)
    have hw1 := hrok.words.ok1
    have hwl := hrok.len
    simp only at hw1 hwl
    have hnew := hin.new
    have htk := hin.tk
    have hld := hin.ld
    -- the places of the state behind the row
    obtain ⟨A, hA⟩ : ∃ A, A = if isOldK kd = true then s.at' + ws.length else s.at' := ⟨_, rfl⟩
    obtain ⟨N, hN⟩ : ∃ N, N = if isNewK kd = true then s.new ++ ws else s.new := ⟨_, rfl⟩
    by_cases hbad : isOldK kd = true ∧ (old.drop s.at').take ws.length ≠ ws
    · refine heldSD qb1 h9 ?_
      rw [ev_b1 rows s a b kd (.int n) hold hw1, if_pos hbad.1, if_neg hbad.2]
      exact wf (by unfold dstep; rw [if_pos hbad])
    · -- the words fit
      refine heldSD qb1 h9 ?_
      have eb1 : b_done_b1 (dR rows old s a b (.sh (tS (kL kd))) (.sh (.int n)) (.sh (tT ws))) = .ok (.nx (dR rows old ⟨A, s.new, s.tk, s.ld⟩ a b (.sh (tS (kL kd))) (.sh (.int n)) (.sh (tT ws)))) := by
        rw [ev_b1 rows s a b kd (.int n) hold hw1, hA]
        by_cases ho : isOldK kd = true
        · rw [if_pos ho, if_pos ho, if_pos (Classical.byContradiction fun h => hbad ⟨ho, h⟩)]
        · rw [if_neg ho, if_neg ho]
      rw [eb1]
      intro σ10 F10 H10 h10 k10 sm10
      refine heldSD qb2 h10 ?_
      have eb2 := ev_b2 rows (old := old) ⟨A, s.new, s.tk, s.ld⟩ a b kd (.int n) (ws := ws) (by show s.new.length + ws.length ≤ _; omega)
      rw [eb2]
      show OutH _ _ _ _ _ _ _ (.nx (dR rows old ⟨A, if isNewK kd = true then s.new ++ ws else s.new, s.tk, s.ld⟩ a b (.sh (tS (kL kd))) (.sh (.int n)) (.sh (tT ws))))
      rw [← hN]
      intro σ11 F11 H11 h11 k11 sm11
      have ha11 : H11 a = some (.dK ka) := by rw [k11 a (by simp), k10 a (by simp)]; exact ha8
      have hb11 : H11 b = some (.dK kb) := by rw [k11 b (by simp), k10 b (by simp)]; exact hb8
      have na11 := (na8.same sm10).same sm11
      have nb11 := (nb8.same sm10).same sm11
      have sm11' := (sm8.trans sm10).trans sm11
      -- the lay
      have C4 : ∀ (E' : Ends) (tk' : Tk) σ12 F12 H12 ka', Held X.K F0 H0 (dR rows old ⟨A, N, tk', s.ld⟩ a b (.sh (tS (kL kd))) (.sh (.int n)) (.sh (tT ws))) σ12 F12 H12 [b, a] → Same F7 F12 → H12 a = some (.dK ka') → DnT X.K F12 ka' (tkD tk') → H12 b = some (.dK kb) → DnT X.K F12 kb (tkD s.ld) →
          (kd = .lay → (tkFind s.ld n).isSome = true → ExK ca W F0 H0 .noFit) → (¬ (kd = .lay ∧ (tkFind s.ld n).isSome = true) → ∀ σ' H', DInv X.K F0 H0 F7 rows old ⟨A, N, tk', if kd = .lay then s.ld ++ [(n, ws)] else s.ld⟩ σ' H' → E'.nx σ' H') → tIfS tt4 tn4 tNext E' σ12 H12 := by
        intro E' tk' σ12 F12 H12 ka' h12 sm12 ha12 na12 hb12 nb12 kf kn
        refine qt4 F0 (ext H0 H12 [b, a]) _ σ12 F12 H12 _ h12.sim ?_
        rw [ev_t4]
        intro F13 H13 G13
        obtain ⟨h13, k13⟩ := h12.grow G13
        have ha13 : H13 a = some (.dK ka') := by rw [k13 a (by simp)]; exact ha12
        have hb13 : H13 b = some (.dK kb) := by rw [k13 b (by simp)]; exact hb12
        have na13 := na12.same G13.ff
        have nb13 := nb12.same G13.ff
        by_cases hk : kd = .lay
        · rw [decide_eq_true hk, if_pos rfl]
          refine qn4 F0 H0 _ σ12 F13 H13 [b, a] E' b n (tT ws) kb (tkD s.ld) h13 rfl rfl rfl (by simp) hb13 nb13 (by unfold tkD; rw [List.length_map]; omega) (fun hg H14 kb' h14 hb14 nb14 kc => ?_) fun hg F' H' G => ?_
          · rw [tkGet_D] at hg
            have hnone : tkFind s.ld n = none := by simpa using hg
            refine kn (fun h => by rw [hnone] at h; exact absurd h.2 (by simp)) σ12 H14 ?_
            rw [if_pos hk]
            refine ⟨a, b, _, _, _, F13, ka', kb', hab, h14, sm12.trans G13.ff, by rw [kc a (by simp) hab]; exact ha13, na13, hb14, ?_⟩
            rw [tkD_snoc]; exact nb14
          · rw [tkGet_D] at hg
            exact kf hk (by simpa using hg) σ12 F' H' G
        · rw [decide_eq_false hk, if_neg Bool.false_ne_true]
          refine kn (fun h => hk h.1) σ12 H13 ?_
          rw [if_neg hk]
          exact ⟨a, b, _, _, _, F13, ka', kb, hab, h13, sm12.trans G13.ff, ha13, na13, hb13, nb13⟩
      -- the take
      refine qt3 F0 (ext H0 H11 [b, a]) _ σ11 F11 H11 _ h11.sim ?_
      rw [ev_t3]
      intro F12 H12 G12
      obtain ⟨h12, k12⟩ := h11.grow G12
      have ha12 : H12 a = some (.dK ka) := by rw [k12 a (by simp)]; exact ha11
      have hb12 : H12 b = some (.dK kb) := by rw [k12 b (by simp)]; exact hb11
      have na12 := na11.same G12.ff
      have nb12 := nb11.same G12.ff
      by_cases hk : kd = .take
      · rw [decide_eq_true hk, if_pos rfl]
        refine qn3 F0 H0 _ σ11 F12 H12 [b, a] _ a n (tT ws) ka (tkD s.tk) h12 rfl rfl rfl (by simp) ha12 na12 (by unfold tkD; rw [List.length_map]; omega) (fun hg H14 ka' h14 ha14 na14 kc => ?_) fun hg F' H' G => ?_
        · rw [tkGet_D] at hg
          have hnone : tkFind s.tk n = none := by simpa using hg
          have hnl : kd ≠ .lay := by rw [hk]; decide
          refine C4 _ (s.tk ++ [(n, ws)]) σ11 F12 H14 ka' h14 (sm11'.trans G12.ff) ha14 (by rw [tkD_snoc]; exact na14) (by rw [kc b (by simp) (Ne.symm hab)]; exact hb12) nb12 (fun h => absurd h hnl) fun _ σ' H' z => ?_
          refine ⟨_, ?_, z⟩
          unfold dstep
          rw [if_neg hbad, if_neg (by rw [hnone]; simp), if_neg (by simp [hnl]), ← hA, ← hN, if_pos hk]
        · rw [tkGet_D] at hg
          have hsome : (tkFind s.tk n).isSome = true := by simpa using hg
          exact wf (by unfold dstep; rw [if_neg hbad, if_pos ⟨hk, hsome⟩]) σ11 F' H' G
      · rw [decide_eq_false hk, if_neg Bool.false_ne_true]
        refine C4 _ s.tk σ11 F12 H12 ka h12 (sm11'.trans G12.ff) ha12 na12 hb12 nb12 (fun h1 h2 => ?_) fun hno σ' H' z => ?_
        · exact wf (by unfold dstep; rw [if_neg hbad, if_neg (by simp [hk]), if_pos ⟨h1, h2⟩])
        · refine ⟨_, ?_, z⟩
          unfold dstep
          rw [if_neg hbad, if_neg (by simp [hk]), if_neg hno, ← hA, ← hN, if_neg hk]
  · have e : i = l.length := by omega
    subst e
    rw [List.drop_length] at w
    refine .inl ⟨by have := it.stop F8 H8 sm8 h8.sim.sub; rw [nlen] at this; exact this, ?_⟩
    have w : Wp (if s.at' ≠ old.length ∨ tkSame s.tk s.ld = false then R.ex .noFit else if 120 < s.new.length then .ex .tooLong else .ok (tL s.new)) (fun d => ∀ v F' H', Grow F0 H0 F' H' → Dn X.K F' v d → E.rt v H') (ExK ca W F0 H0) := w
    -- behind the loop
    refine qt5 F0 (ext H0 H8 [b, a]) _ σ8 F8 H8 _ h8.sim ?_
    rw [ev_t5]
    intro F9 H9 G9
    obtain ⟨h9, k9⟩ := h8.grow G9
    have ha9 : H9 a = some (.dK ka) := by rw [k9 a (by simp)]; exact ha8
    have hb9 : H9 b = some (.dK kb) := by rw [k9 b (by simp)]; exact hb8
    by_cases hat : s.at' = old.length
    · rw [decide_eq_true hat, if_neg (by decide)]
      refine qne F0 H0 _ σ8 F9 H9 [b, a] _ a b ka kb (tkD s.tk) (tkD s.ld) _ h9 rfl rfl ha9 hb9 (na8.same G9.ff) (nb8.same G9.ff) (tkHits_D hin.ok' hin.ok) ?_
      have hsame : (!((tkD s.tk).length == (tkD s.ld).length && s.tk.all fun p => decide (tkFind s.ld p.1 = some p.2))) = !(tkSame s.tk s.ld) := by
        unfold tkSame tkD
        rw [List.length_map, List.length_map]
      rw [hsame]
      cases hss : tkSame s.tk s.ld with
      | false =>
        rw [hss, if_pos (.inr rfl)] at w
        rw [if_pos (by decide)]
        refine qrz F0 H0 _ σ8 F9 H9 _ h9.drop ?_
        rw [rz_is]
        exact w
      | true =>
        rw [if_neg (by rw [hss]; simp [hat])] at w
        rw [if_neg (by decide)]
        refine qz F0 H0 _ σ8 F9 H9 E h9.drop ?_
        rw [ev_z2]
        split at w
        · rename_i h; rw [if_pos h]; exact w
        · rename_i h; rw [if_neg h]; exact w
    · rw [decide_eq_false hat, if_pos (by decide)]
      rw [if_pos (.inl hat)] at w
      show trz _ σ8 H9
      refine qrz F0 H0 _ σ8 F9 H9 _ h9.drop ?_
      rw [rz_is]
      exact w
end DL

set_option Elab.async false
set_option linter.all false
set_option maxRecDepth 100000
/-! Sem: the defs of the program and of the laws, as terms (printed by mk.py) -/
namespace DL
open PySem
noncomputable section
def b_law_k04_s1 (r : Env) : R Out :=
  (sSet 1 (xCall (fun2 f_law_built) (aCons (xSh 0) (aCons (xC (.int 30)) aNil)))) r
def b_law_k04_s2 (r : Env) : R Out :=
  (sSet 2 (xCall (fun2 f_law_words_of) (aCons (xSh 1) (aCons (xTup (aCons (xC (.str "keep")) (aCons (xC (.str "cut")) (aCons (xC (.str "take")) aNil)))) aNil)))) r
def b_law_k04_s3 (r : Env) : R Out :=
  (sSet 3 (xCall (fun2 f_law_words_of) (aCons (xSh 1) (aCons (xTup (aCons (xC (.str "keep")) (aCons (xC (.str "put")) (aCons (xC (.str "lay")) aNil)))) aNil)))) r
def b_law_k04_s4 (r : Env) : R Out :=
  (sIf (tB (xOp eqD (xOp modD (xOp divD (xCall (fun2 f_law_cell_at) (aCons (xSh 0) (aCons (xC (.int 3)) aNil))) (xC (.int 4))) (xC (.int 5))) (xC (.int 2))))
  (sSeq (sSet 1 (xOp addD (xOp addD (xL (lLst (aCons (xTup (aCons (xC (.str "put")) (aCons (xC (.int 0)) (aCons (xOp mulD (xTup (aCons (xC (.str "w")) aNil)) (xOp subD (xC (.int 120)) (xB lenD (aCons (xPk 3) aNil)))) aNil)))) aNil))) (xPk 1)) (xL (lLst (aCons (xTup (aCons (xC (.str "cut")) (aCons (xC (.int 0)) (aCons (xOp mulD (xTup (aCons (xC (.str "v")) aNil)) (xOp subD (xC (.int 120)) (xB lenD (aCons (xPk 2) aNil)))) aNil)))) aNil)))))
  (sSeq (sSet 3 (xOp addD (xOp mulD (xL (lLst (aCons (xC (.str "w")) aNil))) (xOp subD (xC (.int 120)) (xB lenD (aCons (xPk 3) aNil)))) (xPk 3)))
  (sSet 2 (xOp addD (xPk 2) (xOp mulD (xL (lLst (aCons (xC (.str "v")) aNil))) (xOp subD (xC (.int 120)) (xB lenD (aCons (xPk 2) aNil))))))))
  sNil) r
def b_law_k04_s5 (r : Env) : R Out :=
  (sSet 4 (xL (lLst (aCons (xL (lList (xPk 1))) (aCons (xL (lList (xPk 2))) aNil))))) r
def b_law_k04_s6 (r : Env) : R Out :=
  (sSet 5 (xCall (fun2 f_done) (aCons (xIx (xPk 4) (xC (.int 0))) (aCons (xIx (xPk 4) (xC (.int 1))) aNil)))) r
def b_law_k04_s7 (r : Env) : R Out :=
  (sIf (tOr (tNot (tB (xCall (fun2 f_law_alike) (aCons (xSh 5) (aCons (xSh 3) aNil))))) (tOr (tB (xOp neD (xIx (xPk 4) (xC (.int 0))) (xPk 1))) (tB (xOp neD (xIx (xPk 4) (xC (.int 1))) (xPk 2)))))
  (sRet (xC (.bl false)))
  sNil) r
def b_law_k04_s8 (r : Env) : R Out :=
  (sSet 6 (xCall (fun1 f_turned) (aCons (xL (lList (xPk 1))) aNil))) r
def b_law_k04_s9 (r : Env) : R Out :=
  (sRet (xCall (fun2 f_law_alike) (aCons (xCall (fun2 f_done) (aCons (xSh 6) (aCons (xL (lList (xPk 3))) aNil))) (aCons (xSh 2) aNil)))) r
def b_law_k04 (r : Env) : R Out :=
  (sSeq b_law_k04_s1
  (sSeq b_law_k04_s2
  (sSeq b_law_k04_s3
  (sSeq b_law_k04_s4
  (sSeq b_law_k04_s5
  (sSeq b_law_k04_s6
  (sSeq b_law_k04_s7
  (sSeq b_law_k04_s8
  b_law_k04_s9)))))))) r
def f_law_k04 (a : D) : R D := bodyR (b_law_k04 (startE 7 [a]))
@[simp] theorem lit_4c94485e : (Str.ofString "v") = mkS [118] := by decide +kernel
@[simp] theorem lit_50e721e4 : (Str.ofString "w") = mkS [119] := by decide +kernel
end
end DL

set_option Elab.async false
set_option linter.all false
set_option maxRecDepth 100000
set_option maxHeartbeats 2000000
/-! P32: a telling whose blocks are taken and laid once each is done; what is built is one -/
namespace DL
open PySem
def takesOf (l : List Row) : Tk := l.filterMap fun r => if r.1 = .take then some (r.2.1, r.2.2) else none
def laysOf (l : List Row) : Tk := l.filterMap fun r => if r.1 = .lay then some (r.2.1, r.2.2) else none
theorem takesOf_app (a b : List Row) : takesOf (a ++ b) = takesOf a ++ takesOf b := by simp [takesOf]
theorem laysOf_app (a b : List Row) : laysOf (a ++ b) = laysOf a ++ laysOf b := by simp [laysOf]
theorem takesOf_cons (r : Row) (l : List Row) : takesOf (r :: l) = if r.1 = .take then (r.2.1, r.2.2) :: takesOf l else takesOf l := by
  unfold takesOf
  rw [List.filterMap_cons]
  by_cases h : r.1 = .take <;> simp [h]
theorem laysOf_cons (r : Row) (l : List Row) : laysOf (r :: l) = if r.1 = .lay then (r.2.1, r.2.2) :: laysOf l else laysOf l := by
  unfold laysOf
  rw [List.filterMap_cons]
  by_cases h : r.1 = .lay <;> simp [h]
theorem tkFind_none {t : Tk} {n : Int} (h : n ∉ t.map (·.1)) : tkFind t n = none := by
  unfold tkFind
  rw [List.find?_eq_none.mpr]
  · rfl
  · intro p hp e
    simp only [decide_eq_true_eq] at e
    exact h (List.mem_map.mpr ⟨p, hp, e⟩)
theorem tkFind_nodup : ∀ {t : Tk} {p : Int × List (List Nat)}, (t.map (·.1)).Nodup → p ∈ t → tkFind t p.1 = some p.2
  | [], p, _, h => by cases h
  | q :: t, p, nd, h => by
    rw [List.map_cons, List.nodup_cons] at nd
    unfold tkFind
    rw [List.find?_cons]
    rcases List.mem_cons.mp h with rfl | h
    · simp
    · have hne : q.1 ≠ p.1 := fun e => nd.1 (e ▸ List.mem_map.mpr ⟨p, h, rfl⟩)
      rw [decide_eq_false hne]
      exact tkFind_nodup nd.2 h
/-- the blocks: taken and laid once each -/
structure BlkOkR (l : List Row) : Prop where
  perm : (takesOf l).Perm (laysOf l)
  nodup : ((takesOf l).map (·.1)).Nodup
theorem BlkOkR.lays {l : List Row} (h : BlkOkR l) : ((laysOf l).map (·.1)).Nodup := (h.perm.map (·.1)).nodup_iff.mp h.nodup
theorem BlkOkR.same {l : List Row} (h : BlkOkR l) : tkSame (takesOf l) (laysOf l) = true := by
  unfold tkSame
  rw [h.perm.length_eq, beq_self_eq_true, Bool.true_and, List.all_eq_true]
  intro p hp
  rw [decide_eq_true_eq]
  exact tkFind_nodup h.lays (h.perm.mem_iff.mp hp)
theorem dall_ok {old : List (List Nat)} : ∀ (l : List Row) (s : DSt), old.drop s.at' = oldOf l → ((s.tk ++ takesOf l).map (·.1)).Nodup → ((s.ld ++ laysOf l).map (·.1)).Nodup →
    dall old l s = some ⟨s.at' + (oldOf l).length, s.new ++ newOf l, s.tk ++ takesOf l, s.ld ++ laysOf l⟩
  | [], s, _, _, _ => by
    obtain ⟨a, n, t, d⟩ := s
    simp [dall, oldOf, newOf, takesOf, laysOf]
  | r :: l, s, h, ht, hd => by
    obtain ⟨k, n, ws⟩ := r
    have eo := oldOf_cons (k, n, ws) l
    have en := newOf_cons (k, n, ws) l
    have et := takesOf_cons (k, n, ws) l
    have el := laysOf_cons (k, n, ws) l
    simp only at eo en et el
    have fo : (decide (k = .keep) || (decide (k = .cut) || decide (k = .take))) = isOldK k := rfl
    have fn : (decide (k = .keep) || (decide (k = .put) || decide (k = .lay))) = isNewK k := rfl
    rw [fo] at eo
    rw [fn] at en
    rw [eo] at h
    rw [et] at ht
    rw [el] at hd
    -- the step
    have c1 : ¬ (isOldK k = true ∧ (old.drop s.at').take ws.length ≠ ws) := by
      rintro ⟨h1, h2⟩
      rw [if_pos h1] at h
      rw [h] at h2
      simp at h2
    have c2 : ¬ (k = .take ∧ (tkFind s.tk n).isSome = true) := by
      rintro ⟨h1, h2⟩
      rw [if_pos h1] at ht
      rw [List.map_append, List.map_cons, List.nodup_append] at ht
      have : n ∉ s.tk.map (·.1) := fun hm => ht.2.2 n hm n (by simp) rfl
      rw [tkFind_none this] at h2
      cases h2
    have c3 : ¬ (k = .lay ∧ (tkFind s.ld n).isSome = true) := by
      rintro ⟨h1, h2⟩
      rw [if_pos h1] at hd
      rw [List.map_append, List.map_cons, List.nodup_append] at hd
      have : n ∉ s.ld.map (·.1) := fun hm => hd.2.2 n hm n (by simp) rfl
      rw [tkFind_none this] at h2
      cases h2
    have hst : dstep old s (k, n, ws) = some ⟨if isOldK k = true then s.at' + ws.length else s.at', if isNewK k = true then s.new ++ ws else s.new, if k = .take then s.tk ++ [(n, ws)] else s.tk, if k = .lay then s.ld ++ [(n, ws)] else s.ld⟩ := by
      unfold dstep
      rw [if_neg c1, if_neg c2, if_neg c3]
    have ih := dall_ok l ⟨if isOldK k = true then s.at' + ws.length else s.at', if isNewK k = true then s.new ++ ws else s.new, if k = .take then s.tk ++ [(n, ws)] else s.tk, if k = .lay then s.ld ++ [(n, ws)] else s.ld⟩ (by
      by_cases ho : isOldK k = true
      · simp only [ho, if_true] at h ⊢
        rw [← List.drop_drop, h]; simp
      · simp only [ho] at h ⊢
        simpa using h) (by
      by_cases hk : k = .take
      · simp only [hk, if_true] at ht ⊢; simpa using ht
      · simp only [hk, if_false] at ht ⊢; exact ht) (by
      by_cases hk : k = .lay
      · simp only [hk, if_true] at hd ⊢; simpa using hd
      · simp only [hk, if_false] at hd ⊢; exact hd)
    rw [dall_cons, hst, Option.bind_some, ih, eo, en, et, el]
    have g1 : (if isOldK k = true then s.at' + ws.length else s.at') + (oldOf l).length = s.at' + ((if isOldK k = true then ws else []) ++ oldOf l).length := by
      split
      · rw [List.length_append]; omega
      · simp
    have g2 : (if isNewK k = true then s.new ++ ws else s.new) ++ newOf l = s.new ++ ((if isNewK k = true then ws else []) ++ newOf l) := by
      split <;> simp
    have g3 : (if k = .take then s.tk ++ [(n, ws)] else s.tk) ++ takesOf l = s.tk ++ if k = .take then (n, ws) :: takesOf l else takesOf l := by
      split <;> simp
    have g4 : (if k = .lay then s.ld ++ [(n, ws)] else s.ld) ++ laysOf l = s.ld ++ if k = .lay then (n, ws) :: laysOf l else laysOf l := by
      split <;> simp
    simp only
    rw [g1, g2, g3, g4]
theorem doneP_ok {l : List Row} (h : BlkOkR l) (hn : (newOf l).length ≤ 120) : doneP l (oldOf l) = .ok (tL (newOf l)) := by
  rw [doneP_fin, dall_ok l ⟨0, [], [], []⟩ (by simp) (by simpa using h.nodup) (by simpa using h.lays)]
  unfold finD
  simp only [List.nil_append, Nat.zero_add]
  rw [if_neg (by rw [h.same]; simp), if_neg (by omega)]
theorem done_ok {l : List Row} (hr : ∀ r ∈ l, RowOk r) (hl : l.length ≤ 1000) (ho : (oldOf l).length ≤ 120) (hn : (newOf l).length ≤ 120) (h : BlkOkR l) : f_done (.lst (l.map rD)) (tL (oldOf l)) = .ok (tL (newOf l)) := by
  have hw : Words (oldOf l) := fun w hw => by
    unfold oldOf at hw
    obtain ⟨r, hr1, hr2⟩ := List.mem_flatMap.mp hw
    exact (hr r (List.mem_filter.mp hr1).1).words w hr2
  rw [f_done_is, doneD_ok ⟨hr, hw, hl, ho⟩, doneP_ok h hn]
/-! turned -/
theorem oth_take (k : Kd) : (oth k = .take ↔ k = .lay) ∧ (oth k = .lay ↔ k = .take) ∧ isOldK (oth k) = isNewK k ∧ isNewK (oth k) = isOldK k := by cases k <;> decide
theorem takes_turned : ∀ l : List Row, takesOf (l.map turnR) = laysOf l ∧ laysOf (l.map turnR) = takesOf l ∧ oldOf (l.map turnR) = newOf l ∧ newOf (l.map turnR) = oldOf l
  | [] => ⟨rfl, rfl, rfl, rfl⟩
  | r :: l => by
    obtain ⟨h1, h2, h3, h4⟩ := takes_turned l
    obtain ⟨g1, g2, g3, g4⟩ := oth_take r.1
    rw [List.map_cons, takesOf_cons, laysOf_cons, oldOf_cons, newOf_cons, laysOf_cons, takesOf_cons, oldOf_cons, newOf_cons, h1, h2, h3, h4]
    have e : (turnR r).1 = oth r.1 := rfl
    have e2 : (turnR r).2 = r.2 := rfl
    rw [e, e2]
    unfold isOldK isNewK at g3 g4
    refine ⟨?_, ?_, ?_, ?_⟩
    · by_cases h : r.1 = .lay
      · rw [if_pos (g1.mpr h), if_pos h]
      · rw [if_neg (fun z => h (g1.mp z)), if_neg h]
    · by_cases h : r.1 = .take
      · rw [if_pos (g2.mpr h), if_pos h]
      · rw [if_neg (fun z => h (g2.mp z)), if_neg h]
    · rw [g3]
    · rw [g4]
theorem turned_blk {l : List Row} (h : BlkOkR l) : BlkOkR (l.map turnR) := by
  obtain ⟨h1, h2, _, _⟩ := takes_turned l
  exact ⟨by rw [h1, h2]; exact h.perm.symm, by rw [h1]; exact h.lays⟩
theorem turned_row {r : Row} (h : RowOk r) : RowOk (turnR r) := by
  refine ⟨h.words, h.some, h.len, ?_⟩
  have hn := h.num
  obtain ⟨g1, g2, _, _⟩ := oth_take r.1
  show if oth r.1 = .take ∨ oth r.1 = .lay then _ else _
  by_cases hk : r.1 = .take ∨ r.1 = .lay
  · rw [if_pos hk] at hn
    rw [if_pos (hk.elim (fun e => .inr (g2.mpr e)) fun e => .inl (g1.mpr e))]
    exact hn
  · rw [if_neg hk] at hn
    rw [if_neg (fun z => hk (z.elim (fun e => .inr (g1.mp e)) fun e => .inl (g2.mp e)))]
    exact hn
/-! what is built -/
def bltWords (M : List (List Nat)) (c : Int) : List (List Nat) := (List.range (1 + c * 48271 % 1009 % 3).toNat).map fun k : Nat => menuAt M (c / 7 + (k : Int))
def bltK : List Kd := [.keep, .keep, .cut, .put, .keep, .keep, .keep]
def bltNum (c : Int) (n : Nat) : Int := if c * 48271 % 1013 % 3 = 1 then 999999999 - (n : Int) else 1 + 3 * (n : Int)
def bltA (c : Int) : Kd := if c % 7 = 4 then .take else .lay
def bltB (c : Int) : Kd := if c % 7 = 4 then .lay else .take
def bltStep (M : List (List Nat)) (s : List Row × List Row) (c : Int) : List Row × List Row :=
  if c % 7 < 4 ∨ c % 7 = 6 ∧ s.2 = [] then (s.1 ++ [(bltK.getD (c % 7).toNat .keep, 0, bltWords M c)], s.2)
  else if c % 7 = 6 then (s.1 ++ (s.2[(c / 7 % (s.2.length : Int)).toNat]?).toList, s.2.eraseIdx (c / 7 % (s.2.length : Int)).toNat)
  else (s.1 ++ [(bltA c, bltNum c s.1.length, bltWords M c)], s.2 ++ [(bltB c, bltNum c s.1.length, bltWords M c)])
def wOf (p : Kd → Bool) (l : List Row) : Nat := (l.map fun r => if p r.1 = true then r.2.2.length else 0).sum
theorem wOf_app (p : Kd → Bool) (a b : List Row) : wOf p (a ++ b) = wOf p a + wOf p b := by simp [wOf]
theorem wOf_cons (p : Kd → Bool) (r : Row) (b : List Row) : wOf p (r :: b) = (if p r.1 = true then r.2.2.length else 0) + wOf p b := by simp [wOf]
theorem wOf_old : ∀ l : List Row, (oldOf l).length = wOf isOldK l
  | [] => rfl
  | r :: l => by
    have ih := wOf_old l
    rw [oldOf_cons, wOf_cons, List.length_append, ih]
    show (if isOldK r.1 = true then r.2.2 else []).length + _ = _
    by_cases h : isOldK r.1 = true <;> simp [h]
theorem wOf_new : ∀ l : List Row, (newOf l).length = wOf isNewK l
  | [] => rfl
  | r :: l => by
    have ih := wOf_new l
    rw [newOf_cons, wOf_cons, List.length_append, ih]
    show (if isNewK r.1 = true then r.2.2 else []).length + _ = _
    by_cases h : isNewK r.1 = true <;> simp [h]
theorem wOf_perm {p : Kd → Bool} {a b : List Row} (h : a.Perm b) : wOf p a = wOf p b := by
  unfold wOf
  exact (h.map _).sum_nat
theorem bltWords_len (M : List (List Nat)) (c : Int) : 1 ≤ (bltWords M c).length ∧ (bltWords M c).length ≤ 3 := by
  unfold bltWords
  rw [List.length_map, List.length_range]
  omega
theorem bltWords_words {M : List (List Nat)} (hM : M.length = 12) (hw : Words M) (c : Int) : Words (bltWords M c) := fun w h => by
  obtain ⟨k, _, rfl⟩ := List.mem_map.mp h
  exact menuAt_word hM hw _
/-- of what is built so far; m cells -/
structure BltOk (s : List Row × List Row) (m : Nat) : Prop where
  rows : ∀ r ∈ s.1 ++ s.2, RowOk r
  len : s.1.length = m
  wait : s.2.length ≤ m
  old : wOf isOldK (s.1 ++ s.2) ≤ 3 * m
  new : wOf isNewK (s.1 ++ s.2) ≤ 3 * m
  blk : BlkOkR (s.1 ++ s.2)
  num : ∀ p ∈ takesOf (s.1 ++ s.2), ∃ j : Nat, j < m ∧ (p.1 = 1 + 3 * (j : Int) ∨ p.1 = 999999999 - (j : Int))
theorem BlkOkR.of_perm {a b : List Row} (p : a.Perm b) (h : BlkOkR a) : BlkOkR b :=
  ⟨((p.filterMap _).symm.trans h.perm).trans (p.filterMap _), (List.Perm.map (fun q : Int × List (List Nat) => q.1) (show (takesOf a).Perm (takesOf b) from p.filterMap _)).nodup_iff.mp h.nodup⟩
theorem perm_erase {α : Type} : ∀ (l : List α) (i : Nat) (h : i < l.length), (l[i] :: l.eraseIdx i).Perm l
  | x :: l, 0, _ => List.Perm.refl _
  | x :: l, i + 1, h => by
    have h' : i < l.length := by simpa using h
    exact (List.Perm.swap x l[i] (l.eraseIdx i)).trans (List.Perm.cons x (perm_erase l i h'))
theorem blt_step {M : List (List Nat)} (hM : M.length = 12) (hw : Words M) {s : List Row × List Row} {m : Nat} (h : BltOk s m) (hm : m < 1000) (c : Int) : BltOk (bltStep M s c) (m + 1) := by
  obtain ⟨rs, ws⟩ := s
  obtain ⟨h1, h2, h3, h4, h5, h6, h7⟩ := h
  simp only at h1 h2 h3 h4 h5 h6 h7
  have hl := bltWords_len M c
  have hww := bltWords_words hM hw c
  have a0 := Int.emod_nonneg c (show (7 : Int) ≠ 0 by decide)
  have a1 := Int.emod_lt_of_pos c (show (0 : Int) < 7 by decide)
  unfold bltStep
  split
  · -- keep, cut or put
    obtain ⟨K, hK⟩ : ∃ K, K = bltK.getD (c % 7).toNat .keep := ⟨_, rfl⟩
    have hK3 : K = .keep ∨ K = .cut ∨ K = .put := by
      rw [hK]
      generalize (c % 7).toNat = j
      match j with
      | 0 => decide
      | 1 => decide
      | 2 => decide
      | 3 => decide
      | 4 => decide
      | 5 => decide
      | 6 => decide
      | j + 7 => exact .inl rfl
    rw [← hK]
    have p : (rs ++ [(K, (0 : Int), bltWords M c)] ++ ws).Perm ((K, (0 : Int), bltWords M c) :: (rs ++ ws)) := by
      rw [List.append_assoc]
      exact List.perm_middle
    have hnt : K ≠ .take ∧ K ≠ .lay := by rcases hK3 with e | e | e <;> rw [e] <;> decide
    have hb : BlkOkR ((K, (0 : Int), bltWords M c) :: (rs ++ ws)) := by
      refine ⟨?_, ?_⟩
      · rw [takesOf_cons, laysOf_cons, if_neg hnt.1, if_neg hnt.2]; exact h6.perm
      · rw [takesOf_cons, if_neg hnt.1]; exact h6.nodup
    refine ⟨fun r hr => ?_, by simp [h2], by show ws.length ≤ m + 1; omega, ?_, ?_, hb.of_perm p.symm, fun q hq => ?_⟩
    · rcases List.mem_cons.mp (p.mem_iff.mp hr) with rfl | hr
      · refine ⟨hww, by intro e; simp only at e; rw [e] at hl; simp at hl, by simp only; omega, ?_⟩
        show if K = .take ∨ K = .lay then _ else (0 : Int) = 0
        rw [if_neg (by simp [hnt.1, hnt.2])]
      · exact h1 r hr
    · show wOf isOldK (rs ++ [(K, (0 : Int), bltWords M c)] ++ ws) ≤ _
      rw [wOf_perm p, wOf_cons]
      split
      · simp only; omega
      · omega
    · show wOf isNewK (rs ++ [(K, (0 : Int), bltWords M c)] ++ ws) ≤ _
      rw [wOf_perm p, wOf_cons]
      split
      · simp only; omega
      · omega
    · have hq := (p.filterMap _).mem_iff.mp hq
      have hq : q ∈ takesOf ((K, (0 : Int), bltWords M c) :: (rs ++ ws)) := hq
      rw [takesOf_cons, if_neg hnt.1] at hq
      obtain ⟨j, j1, j2⟩ := h7 q hq
      exact ⟨j, by omega, j2⟩
  · rename_i hc
    split
    · -- a waiting row
      rename_i hc6
      have hne : ws ≠ [] := fun e => hc (.inr ⟨hc6, e⟩)
      have hpos := List.length_pos_iff.mpr hne
      have b0 := Int.emod_nonneg (c / 7) (show (ws.length : Int) ≠ 0 by omega)
      have b1 := Int.emod_lt_of_pos (c / 7) (show (0 : Int) < (ws.length : Int) by omega)
      obtain ⟨i, hi⟩ : ∃ i : Nat, i = (c / 7 % (ws.length : Int)).toNat := ⟨_, rfl⟩
      have hil : i < ws.length := by omega
      simp only
      rw [← hi, List.getElem?_eq_getElem hil]
      show BltOk (rs ++ [ws[i]], ws.eraseIdx i) (m + 1)
      have p : (rs ++ [ws[i]] ++ ws.eraseIdx i).Perm (rs ++ ws) := by
        rw [List.append_assoc]
        refine List.Perm.append_left rs ?_
        exact perm_erase ws i hil
      refine ⟨fun r hr => h1 r (p.mem_iff.mp hr), by simp [h2], by show (ws.eraseIdx i).length ≤ m + 1; rw [List.length_eraseIdx]; split <;> omega, ?_, ?_, h6.of_perm p.symm, fun q hq => ?_⟩
      · show wOf isOldK (rs ++ [ws[i]] ++ ws.eraseIdx i) ≤ _
        rw [wOf_perm p]; omega
      · show wOf isNewK (rs ++ [ws[i]] ++ ws.eraseIdx i) ≤ _
        rw [wOf_perm p]; omega
      · obtain ⟨j, j1, j2⟩ := h7 q ((p.filterMap _).mem_iff.mp hq)
        exact ⟨j, by omega, j2⟩
    · -- a block
      rename_i hc6
      have hn0 : 1 ≤ bltNum c rs.length ∧ bltNum c rs.length ≤ 999999999 := by
        unfold bltNum; split <;> omega
      obtain ⟨n, hn⟩ : ∃ n, n = bltNum c rs.length := ⟨_, rfl⟩
      have hn2 : n = 1 + 3 * (m : Int) ∨ n = 999999999 - (m : Int) := by
        rw [hn]; unfold bltNum; split <;> omega
      simp only
      rw [← hn]
      rw [← hn] at hn0
      obtain ⟨W, hW⟩ : ∃ W, W = bltWords M c := ⟨_, rfl⟩
      rw [← hW] at hl hww ⊢
      have p : (rs ++ [(bltA c, n, W)] ++ (ws ++ [(bltB c, n, W)])).Perm ((bltA c, n, W) :: (bltB c, n, W) :: (rs ++ ws)) := by
        have p1 : (rs ++ [(bltA c, n, W)] ++ (ws ++ [(bltB c, n, W)])).Perm ((bltA c, n, W) :: (rs ++ (ws ++ [(bltB c, n, W)]))) := by
          rw [List.append_assoc]
          exact List.perm_middle
        refine p1.trans (List.Perm.cons _ ?_)
        rw [← List.append_assoc]
        exact List.perm_append_singleton _ _
      have fresh : n ∉ (takesOf (rs ++ ws)).map (·.1) := fun hm => by
        obtain ⟨q, hq, e⟩ := List.mem_map.mp hm
        obtain ⟨j, j1, j2⟩ := h7 q hq
        omega
      have hAB : (bltA c = .take ∧ bltB c = .lay) ∨ (bltA c = .lay ∧ bltB c = .take) := by
        unfold bltA bltB; split
        · exact .inl ⟨rfl, rfl⟩
        · exact .inr ⟨rfl, rfl⟩
      have ht : takesOf ((bltA c, n, W) :: (bltB c, n, W) :: (rs ++ ws)) = (n, W) :: takesOf (rs ++ ws) := by
        rw [takesOf_cons, takesOf_cons]
        rcases hAB with ⟨e1, e2⟩ | ⟨e1, e2⟩ <;> simp [e1, e2]
      have hly : laysOf ((bltA c, n, W) :: (bltB c, n, W) :: (rs ++ ws)) = (n, W) :: laysOf (rs ++ ws) := by
        rw [laysOf_cons, laysOf_cons]
        rcases hAB with ⟨e1, e2⟩ | ⟨e1, e2⟩ <;> simp [e1, e2]
      have hb : BlkOkR ((bltA c, n, W) :: (bltB c, n, W) :: (rs ++ ws)) := by
        refine ⟨?_, ?_⟩
        · rw [ht, hly]; exact h6.perm.cons _
        · rw [ht, List.map_cons, List.nodup_cons]; exact ⟨fresh, h6.nodup⟩
      have rok : ∀ k : Kd, k = .take ∨ k = .lay → RowOk (k, n, W) := fun k hk => by
        refine ⟨hww, by intro e; simp only at e; rw [e] at hl; simp at hl, by simp only; omega, ?_⟩
        simp only
        rw [if_pos hk]
        exact hn0
      have wsum : ∀ q : Kd → Bool, (q .take = true → q .lay = false) → wOf q (rs ++ ws) ≤ 3 * m → wOf q (rs ++ [(bltA c, n, W)] ++ (ws ++ [(bltB c, n, W)])) ≤ 3 * (m + 1) := fun q hq hle => by
        rw [wOf_perm p, wOf_cons, wOf_cons]
        simp only
        rcases hAB with ⟨e1, e2⟩ | ⟨e1, e2⟩
        · rw [e1, e2]
          cases h1 : q .take with
          | true => rw [hq h1]; simp; omega
          | false => cases q .lay <;> simp <;> omega
        · rw [e1, e2]
          cases h1 : q .take with
          | true => rw [hq h1]; simp; omega
          | false => cases q .lay <;> simp <;> omega
      refine ⟨fun r hr => ?_, by simp [h2], by show (ws ++ [(bltB c, n, W)]).length ≤ m + 1; rw [List.length_append, List.length_singleton]; omega, wsum isOldK (by decide) h4, wsum isNewK (by decide) h5, hb.of_perm p.symm, fun q hq => ?_⟩
      · rcases List.mem_cons.mp (p.mem_iff.mp hr) with rfl | hr
        · exact rok _ (by rcases hAB with ⟨e, _⟩ | ⟨e, _⟩ <;> simp [e])
        · rcases List.mem_cons.mp hr with rfl | hr
          · exact rok _ (by rcases hAB with ⟨_, e⟩ | ⟨_, e⟩ <;> simp [e])
          · exact h1 r hr
      · have hq := (p.filterMap _).mem_iff.mp hq
        have hq : q ∈ takesOf ((bltA c, n, W) :: (bltB c, n, W) :: (rs ++ ws)) := hq
        rw [ht] at hq
        rcases List.mem_cons.mp hq with rfl | hq
        · exact ⟨m, by omega, hn2⟩
        · obtain ⟨j, j1, j2⟩ := h7 q hq
          exact ⟨j, by omega, j2⟩
theorem blt_fold {M : List (List Nat)} (hM : M.length = 12) (hw : Words M) : ∀ (cs : List Int) (s : List Row × List Row) (m : Nat), BltOk s m → m + cs.length ≤ 1000 → BltOk (cs.foldl (bltStep M) s) (m + cs.length)
  | [], s, m, h, _ => h
  | c :: cs, s, m, h, hl => by
    simp only [List.length_cons] at hl
    have := blt_fold hM hw cs (bltStep M s c) (m + 1) (blt_step hM hw h (by omega) c) (by omega)
    rw [List.foldl_cons, List.length_cons]
    rw [show m + (cs.length + 1) = m + 1 + cs.length by omega]
    exact this
theorem blt_nil : BltOk ([], []) 0 := ⟨fun _ h => (by cases h), rfl, Nat.le_refl _, Nat.le_refl _, Nat.le_refl _, ⟨List.Perm.refl _, List.Pairwise.nil⟩, fun _ h => (by cases h)⟩
end DL

set_option Elab.async false
set_option linter.all false
set_option maxRecDepth 100000
set_option maxHeartbeats 2000000
/-! Pure_k04: a telling done -/
namespace DL
open PySem
theorem map_erase {α β : Type} (f : α → β) : ∀ (l : List α) (i : Nat), (l.map f).eraseIdx i = (l.eraseIdx i).map f
  | [], i => by simp
  | x :: l, 0 => by simp
  | x :: l, i + 1 => by simp [map_erase f l i]
theorem sIf_t {f : Env → R Bool} {g h : Env → R Out} {r : Env} (e : f r = .ok true) : sIf f g h r = g r := by
  unfold sIf
  rw [e]; rfl
theorem sIf_f {f : Env → R Bool} {g h : Env → R Out} {r : Env} (e : f r = .ok false) : sIf f g h r = h r := by
  unfold sIf
  rw [e]; rfl
theorem xOp_ok {g : D → D → Option D} {fa fb : Env → R D} {r : Env} {d e z : D} (h1 : fa r = .ok d) (h2 : fb r = .ok e) (h3 : g d e = some z) : xOp g fa fb r = .ok z := by
  unfold xOp
  rw [h1, ok_bind, h2, ok_bind, h3]; rfl
theorem sSet_ok {i : Nat} {f : Env → R D} {r : Env} {d : D} (h : f r = .ok d) : sSet i f r = .ok (.nx (r.set i (.sh d))) := by
  unfold sSet
  rw [h]; rfl
theorem built_row_ok {M : List (List Nat)} (hM : M.length = 12) (c : Int) {rs ws : List Row} (hw : ∀ r ∈ ws, Ok1 r.2.2) (h1 : rs.length ≤ 1000) (h2 : ws.length ≤ 1000) :
    f_law_built_row (tL M) (.int c) (rs.map rD) (ws.map rD) = .ok ((bltStep M (rs, ws) c).1.map rD, (bltStep M (rs, ws) c).2.map rD) := by
  have hs := sizeLine_is
  have z3 : 3 ≤ sizeLine := by omega
  have z7 : 7 ≤ sizeLine := by omega
  have z2 : 2 ≤ sizeLine := by omega
  have a0 := Int.emod_nonneg c (show (7 : Int) ≠ 0 by decide)
  have a1 := Int.emod_lt_of_pos c (show (0 : Int) < 7 by decide)
  have m1 : modD (.int c) (.int 7) = some (.int (c % 7)) := modD_int (by omega)
  have m2 : mulD (.int c) (.int 48271) = some (.int (c * 48271)) := mulD_int (cmul_r (by omega) (by omega))
  have m3 : modD (.int (c * 48271)) (.int 1009) = some (.int (c * 48271 % 1009)) := modD_int (by omega)
  have m4 : modD (.int (c * 48271 % 1009)) (.int 3) = some (.int (c * 48271 % 1009 % 3)) := modD_int (by omega)
  have m5 : divD (.int c) (.int 7) = some (.int (c / 7)) := divD_int (by omega)
  have m6 : ∀ z : Int, modD (.int z) (.int 12) = some (.int (z % 12)) := fun z => modD_int (by omega)
  have m7 : modD (.int (c * 48271)) (.int 1013) = some (.int (c * 48271 % 1013)) := modD_int (by omega)
  have m8 : modD (.int (c * 48271 % 1013)) (.int 3) = some (.int (c * 48271 % 1013 % 3)) := modD_int (by omega)
  obtain ⟨W, hW⟩ : ∃ W, W = bltWords M c := ⟨_, rfl⟩
  obtain ⟨R, hR⟩ : ∃ R, R = rs.map rD := ⟨_, rfl⟩
  obtain ⟨Y, hY⟩ : ∃ Y, Y = ws.map rD := ⟨_, rfl⟩
  have hRl : R.length = rs.length := by rw [hR, List.length_map]
  have hYl : Y.length = ws.length := by rw [hY, List.length_map]
  rw [← hR, ← hY]
  have e0 : startM 9 (tL M) (.int c) R Y = [.sh (tL M), .sh (.int c), .ow R, .ow Y, .un, .un, .un, .un, .un] := rfl
  have s1 : sSet 4 (xOp modD (xPk 1) (xC (.int 7))) [.sh (tL M), .sh (.int c), .ow R, .ow Y, .un, .un, .un, .un, .un] = .ok (.nx [.sh (tL M), .sh (.int c), .ow R, .ow Y, .sh (.int (c % 7)), .un, .un, .un, .un]) := by
    simp [m1]
  have s2 : sSet 5 (xB tupleD (aCons (xL (lComp [6] (tgt1 6) tYes b_law_built_row_c1 (iR1 (xOp addD (xC (.int 1)) (xOp modD (xOp modD (xOp mulD (xPk 1) (xC (.int 48271))) (xC (.int 1009))) (xC (.int 3))))))) aNil)) [.sh (tL M), .sh (.int c), .ow R, .ow Y, .sh (.int (c % 7)), .un, .un, .un, .un] = .ok (.nx [.sh (tL M), .sh (.int c), .ow R, .ow Y, .sh (.int (c % 7)), .sh (tT W), .un, .un, .un]) := by
    have r1 : rng1 (.int (1 + c * 48271 % 1009 % 3)) = some ((List.range (1 + c * 48271 % 1009 % 3).toNat).map fun i : Nat => .int (i : Int)) := by
      conv => lhs; rw [show 1 + c * 48271 % 1009 % 3 = (((1 + c * 48271 % 1009 % 3).toNat : Nat) : Int) by omega]
      exact rng1_nat _ (by omega)
    have hi : iR1 (xOp addD (xC (.int 1)) (xOp modD (xOp modD (xOp mulD (xPk 1) (xC (.int 48271))) (xC (.int 1009))) (xC (.int 3)))) [.sh (tL M), .sh (.int c), .ow R, .ow Y, .sh (.int (c % 7)), .un, .un, .un, .un] = .ok ((List.range (1 + c * 48271 % 1009 % 3).toNat).map fun i : Nat => .int (i : Int)) := by
      simp [m2, m3, m4, r1]
    have hc : compR [6] (tgt1 6) tYes b_law_built_row_c1 [.sh (tL M), .sh (.int c), .ow R, .ow Y, .sh (.int (c % 7)), .un, .un, .un, .un] ((List.range (1 + c * 48271 % 1009 % 3).toNat).map fun i : Nat => .int (i : Int)) = .ok (W.map tS) := by
      rw [hW]
      unfold bltWords
      rw [List.map_map]
      refine compR_of _ fun k hk => ?_
      simp [b_law_built_row_c1, m5, m6, menuAt_get hM]
    have hz : ((List.range (1 + c * 48271 % 1009 % 3).toNat).map fun i : Nat => D.int (i : Int)).length ≤ sizeLine := by rw [List.length_map, List.length_range]; omega
    have hlc : lComp [6] (tgt1 6) tYes b_law_built_row_c1 (iR1 (xOp addD (xC (.int 1)) (xOp modD (xOp modD (xOp mulD (xPk 1) (xC (.int 48271))) (xC (.int 1009))) (xC (.int 3))))) [.sh (tL M), .sh (.int c), .ow R, .ow Y, .sh (.int (c % 7)), .un, .un, .un, .un] = .ok (W.map tS) := by
      unfold lComp
      rw [hi, ok_bind, if_pos hz, hc]
    unfold sSet xB aCons xL
    rw [hlc, mkL_ok, ok_bind]
    rfl
  have hq : eqD (.lst Y) (.lst []) = some (.bl (decide (ws = []))) := by
    have := eqD_rows (l := ws) (m := []) hw (fun r h => by cases h)
    rw [← hY] at this
    exact this
  unfold f_law_built_row b_law_built_row
  rw [e0, run_seq s1, run_seq s2]
  unfold bltStep
  simp only
  rw [← hW]
  have hcond : tOr (tB (xOp ltD (xPk 4) (xC (.int 4)))) (tAnd (tB (xOp eqD (xPk 4) (xC (.int 6)))) (tB (xOp eqD (xPk 3) (xL (lLst aNil))))) [.sh (tL M), .sh (.int c), .ow R, .ow Y, .sh (.int (c % 7)), .sh (tT W), .un, .un, .un] = .ok (decide (c % 7 < 4 ∨ c % 7 = 6 ∧ ws = [])) := by
    by_cases h4 : c % 7 < 4
    · rw [decide_eq_true (.inl h4)]
      simp [h4]
    · by_cases h6 : c % 7 = 6
      · by_cases hws : ws = []
        · rw [decide_eq_true (.inr ⟨h6, hws⟩)]
          rw [decide_eq_true hws] at hq
          simp [h6, hq]
        · rw [decide_eq_false (fun z => z.elim h4 fun z => hws z.2)]
          rw [decide_eq_false hws] at hq
          simp [h6, hq]
      · rw [decide_eq_false (fun z => z.elim h4 fun z => h6 z.1)]
        simp [h4, h6]
  by_cases hA : c % 7 < 4 ∨ c % 7 = 6 ∧ ws = []
  · rw [if_pos hA]
    rw [decide_eq_true hA] at hcond
    have ht : ixD (.lst [tS [107, 101, 101, 112], tS [107, 101, 101, 112], tS [99, 117, 116], tS [112, 117, 116], tS [107, 101, 101, 112], tS [107, 101, 101, 112], tS [107, 101, 101, 112]]) (.int (c % 7)) = some (tS (kL (bltK.getD (c % 7).toNat .keep))) := tab_at (fun k => tS (kL k)) bltK .keep a0 (by simpa [bltK] using a1)
    have hrow : D.tup [tS (kL (bltK.getD (c % 7).toNat .keep)), .int 0, tT W] = rD (bltK.getD (c % 7).toNat .keep, 0, W) := rfl
    have hlt : R.length < sizeLine := by omega
    generalize bltK.getD (c % 7).toNat .keep = K at ht hrow ⊢
    have s3 : sApp 2 (xTup (aCons (xIx (xL (lLst (aCons (xC (.str "keep")) (aCons (xC (.str "keep")) (aCons (xC (.str "cut")) (aCons (xC (.str "put")) (aCons (xC (.str "keep")) (aCons (xC (.str "keep")) (aCons (xC (.str "keep")) aNil))))))))) (xPk 4)) (aCons (xC (.int 0)) (aCons (xSh 5) aNil)))) [.sh (tL M), .sh (.int c), .ow R, .ow Y, .sh (.int (c % 7)), .sh (tT W), .un, .un, .un] = .ok (.nx [.sh (tL M), .sh (.int c), .ow (R ++ [rD (K, 0, W)]), .ow Y, .sh (.int (c % 7)), .sh (tT W), .un, .un, .un]) := by
      simp [z3, z7, ht, hrow, hlt]
    rw [sIf_t hcond, s3, bodyM_nx rfl rfl, nox_ok]
    rw [hR, hY]
    simp
  · rw [if_neg hA]
    rw [decide_eq_false hA] at hcond
    rw [sIf_f hcond]
    by_cases h6 : c % 7 = 6
    · -- a waiting row
      have hws : ws ≠ [] := fun e => hA (.inr ⟨h6, e⟩)
      have hpos := List.length_pos_iff.mpr hws
      rw [if_pos h6]
      have b0 := Int.emod_nonneg (c / 7) (show (ws.length : Int) ≠ 0 by omega)
      have b1 := Int.emod_lt_of_pos (c / 7) (show (0 : Int) < (ws.length : Int) by omega)
      have m9 : modD (.int (c / 7)) (.int (Y.length : Int)) = some (.int (c / 7 % (ws.length : Int))) := by rw [hYl]; exact modD_int (by omega)
      obtain ⟨z, hz⟩ : ∃ z, z = c / 7 % (ws.length : Int) := ⟨_, rfl⟩
      rw [← hz] at b0 b1 m9 ⊢
      have hzl : z.toNat < ws.length := by omega
      have hse : seqIndex? z Y.length = some z.toNat := by
        unfold seqIndex?
        have h1 : ¬ z < 0 := by omega
        have h2 : (decide (0 ≤ z) && decide (z < (Y.length : Int))) = true := by rw [hYl]; simp; omega
        simp only [h1, if_false]
        rw [if_pos h2]
      have hy : Y[z.toNat]? = some (rD ws[z.toNat]) := by rw [hY, List.getElem?_map, List.getElem?_eq_getElem hzl]; rfl
      have hb : -(2 ^ 63 : Int) ≤ z ∧ z < 2 ^ 63 ∧ R.length < sizeLine := ⟨by omega, by omega, by omega⟩
      have s3 : sAppPop 2 3 (xOp modD (xOp divD (xPk 1) (xC (.int 7))) (xB lenD (aCons (xPk 3) aNil))) [.sh (tL M), .sh (.int c), .ow R, .ow Y, .sh (.int (c % 7)), .sh (tT W), .un, .un, .un] = .ok (.nx [.sh (tL M), .sh (.int c), .ow (R ++ [rD ws[z.toNat]]), .ow (Y.eraseIdx z.toNat), .sh (.int (c % 7)), .sh (tT W), .un, .un, .un]) := by
        have hf : (xOp modD (xOp divD (xPk 1) (xC (.int 7))) (xB lenD (aCons (xPk 3) aNil))) [.sh (tL M), .sh (.int c), .ow R, .ow Y, .sh (.int (c % 7)), .sh (tT W), .un, .un, .un] = .ok (.int z) := by
          simp [m5, m9]
        unfold sAppPop
        rw [hf]
        simp only [owO_s, owO_0, lift_some, ok_bind, isI_int]
        rw [if_pos hb, hse, lift_some, ok_bind, hy, lift_some, ok_bind]
        rfl
      have hc6 : tB (xOp eqD (xPk 4) (xC (.int 6))) [.sh (tL M), .sh (.int c), .ow R, .ow Y, .sh (.int (c % 7)), .sh (tT W), .un, .un, .un] = .ok true := by simp [h6]
      rw [sIf_t hc6, s3, bodyM_nx rfl rfl, nox_ok, List.getElem?_eq_getElem hzl, hR, hY]
      congr 2
      · simp
      · exact map_erase rD ws z.toNat
    · -- a block
      rw [if_neg h6]
      have hk : c % 7 = 4 ∨ c % 7 = 5 := by
        have : ¬ c % 7 < 4 := fun h => hA (.inl h)
        omega
      have hc6 : tB (xOp eqD (xPk 4) (xC (.int 6))) [.sh (tL M), .sh (.int c), .ow R, .ow Y, .sh (.int (c % 7)), .sh (tT W), .un, .un, .un] = .ok false := by simp [h6]
      rw [sIf_f hc6]
      obtain ⟨n, hn⟩ : ∃ n, n = bltNum c rs.length := ⟨_, rfl⟩
      have hR3 : mulD (.int 3) (.int (R.length : Int)) = some (.int (3 * (R.length : Int))) := mulD_int (cmul_l (by omega) (by omega))
      have s3 : sSet 7 (xOp addD (xC (.int 1)) (xOp mulD (xC (.int 3)) (xB lenD (aCons (xPk 2) aNil)))) [.sh (tL M), .sh (.int c), .ow R, .ow Y, .sh (.int (c % 7)), .sh (tT W), .un, .un, .un] = .ok (.nx [.sh (tL M), .sh (.int c), .ow R, .ow Y, .sh (.int (c % 7)), .sh (tT W), .un, .sh (.int (1 + 3 * (R.length : Int))), .un]) := by
        simp [hR3]
      have s4 : sIf (tB (xOp eqD (xOp modD (xOp modD (xOp mulD (xPk 1) (xC (.int 48271))) (xC (.int 1013))) (xC (.int 3))) (xC (.int 1)))) (sSet 7 (xOp subD (xC (.int 999999999)) (xB lenD (aCons (xPk 2) aNil)))) sNil [.sh (tL M), .sh (.int c), .ow R, .ow Y, .sh (.int (c % 7)), .sh (tT W), .un, .sh (.int (1 + 3 * (R.length : Int))), .un] = .ok (.nx [.sh (tL M), .sh (.int c), .ow R, .ow Y, .sh (.int (c % 7)), .sh (tT W), .un, .sh (.int n), .un]) := by
        rw [hn, hRl]
        unfold bltNum
        by_cases h : c * 48271 % 1013 % 3 = 1
        · rw [if_pos h]
          simp [m2, m7, m8, h, hRl]
        · rw [if_neg h]
          simp [m2, m7, m8, h]
      have hnm : ∃ A B : Kd, A = bltA c ∧ B = bltB c ∧ ixD (.lst [.lst [tS [116, 97, 107, 101], tS [108, 97, 121]], .lst [tS [108, 97, 121], tS [116, 97, 107, 101]]]) (.int (c % 7 - 4)) = some (.lst [tS (kL A), tS (kL B)]) := by
        rcases hk with e | e
        · refine ⟨.take, .lay, by unfold bltA; rw [if_pos e], by unfold bltB; rw [if_pos e], ?_⟩
          rw [e]
          exact ixD_lst0 _ _
        · refine ⟨.lay, .take, by unfold bltA; rw [if_neg (by omega)], by unfold bltB; rw [if_neg (by omega)], ?_⟩
          rw [e]
          exact ixD_lst1 _ _ _
      obtain ⟨A, B, eA, eB, hix⟩ := hnm
      have s5 : sSet 8 (xIx (xL (lLst (aCons (xL (lLst (aCons (xC (.str "take")) (aCons (xC (.str "lay")) aNil)))) (aCons (xL (lLst (aCons (xC (.str "lay")) (aCons (xC (.str "take")) aNil)))) aNil)))) (xOp subD (xPk 4) (xC (.int 4)))) [.sh (tL M), .sh (.int c), .ow R, .ow Y, .sh (.int (c % 7)), .sh (tT W), .un, .sh (.int n), .un] = .ok (.nx [.sh (tL M), .sh (.int c), .ow R, .ow Y, .sh (.int (c % 7)), .sh (tT W), .un, .sh (.int n), .sh (.lst [tS (kL A), tS (kL B)])]) := by
        simp [z2, hix]
      have hlt : R.length < sizeLine := by omega
      have hltY : Y.length < sizeLine := by omega
      have r1 : D.tup [tS (kL A), .int n, tT W] = rD (A, n, W) := rfl
      have r2 : D.tup [tS (kL B), .int n, tT W] = rD (B, n, W) := rfl
      have s6 : sApp 2 (xTup (aCons (xIx (xPk 8) (xC (.int 0))) (aCons (xSh 7) (aCons (xSh 5) aNil)))) [.sh (tL M), .sh (.int c), .ow R, .ow Y, .sh (.int (c % 7)), .sh (tT W), .un, .sh (.int n), .sh (.lst [tS (kL A), tS (kL B)])] = .ok (.nx [.sh (tL M), .sh (.int c), .ow (R ++ [rD (A, n, W)]), .ow Y, .sh (.int (c % 7)), .sh (tT W), .un, .sh (.int n), .sh (.lst [tS (kL A), tS (kL B)])]) := by
        simp [z3, hlt, r1]
      have s7 : sApp 3 (xTup (aCons (xIx (xPk 8) (xC (.int 1))) (aCons (xSh 7) (aCons (xSh 5) aNil)))) [.sh (tL M), .sh (.int c), .ow (R ++ [rD (A, n, W)]), .ow Y, .sh (.int (c % 7)), .sh (tT W), .un, .sh (.int n), .sh (.lst [tS (kL A), tS (kL B)])] = .ok (.nx [.sh (tL M), .sh (.int c), .ow (R ++ [rD (A, n, W)]), .ow (Y ++ [rD (B, n, W)]), .sh (.int (c % 7)), .sh (tT W), .un, .sh (.int n), .sh (.lst [tS (kL A), tS (kL B)])]) := by
        simp [z3, hltY, r2]
      rw [run_seq s3, run_seq s4, run_seq s5, run_seq s6, s7, bodyM_nx rfl rfl, nox_ok, ← eA, ← eB, ← hn, hR, hY]
      simp
/-! the whole of it -/
theorem built_loop (ns : List Int) {M : List (List Nat)} (hM : M.length = 12) (hW : Words M) (b : D) : ∀ (cs : List Int) (s : List Row × List Row) (m : Nat) (e : Ent), BltOk s m → m + cs.length ≤ 900 → ∃ e',
    forR (tgt1 5) b_law_built_f1 (cs.map D.int) [.sh (.scr ns), .sh b, .sh (tL M), .ow (s.1.map rD), .ow (s.2.map rD), e] = .ok (.nx [.sh (.scr ns), .sh b, .sh (tL M), .ow ((cs.foldl (bltStep M) s).1.map rD), .ow ((cs.foldl (bltStep M) s).2.map rD), e'])
  | [], s, m, e, _, _ => ⟨e, rfl⟩
  | c :: cs, s, m, e, h, hl => by
    simp only [List.length_cons] at hl
    obtain ⟨e', ih⟩ := built_loop ns hM hW b cs (bltStep M s c) (m + 1) (.sh (.int c)) (blt_step hM hW h (by omega) c) (by omega)
    refine ⟨e', ?_⟩
    have hr := built_row_ok hM c (rs := s.1) (ws := s.2) (fun r hr => (h.rows r (by simp [hr])).words.ok1) (by have := h.len; omega) (by have := h.wait; omega)
    have hb : b_law_built_f1 [.sh (.scr ns), .sh b, .sh (tL M), .ow (s.1.map rD), .ow (s.2.map rD), .sh (.int c)] = .ok (.nx [.sh (.scr ns), .sh b, .sh (tL M), .ow ((bltStep M s c).1.map rD), .ow ((bltStep M s c).2.map rD), .sh (.int c)]) := by
      unfold b_law_built_f1 sCallM
      show (nox (f_law_built_row (tL M) (.int c) (s.1.map rD) (s.2.map rD)) >>= fun p => R.ok (Out.nx [.sh (.scr ns), .sh b, .sh (tL M), .ow p.1, .ow p.2, .sh (.int c)])) = _
      rw [hr]
      rfl
    rw [List.map_cons, forR_cons]
    show lift (some [Ent.sh (.scr ns), Ent.sh b, Ent.sh (tL M), Ent.ow (s.1.map rD), Ent.ow (s.2.map rD), Ent.sh (.int c)]) >>= _ = _
    rw [lift_some, ok_bind, hb, seqO_nx, List.foldl_cons, ih]
def bltCells (ns : List Int) (many : Nat) : List Int := (ns.take (4 + many)).drop 4
def bltL (ns : List Int) (many : Nat) : List Row := ((bltCells ns many).foldl (bltStep (menuL ns)) ([], [])).1 ++ ((bltCells ns many).foldl (bltStep (menuL ns)) ([], [])).2
theorem bltL_ok (ns : List Int) (many : Nat) (hm : many ≤ 30) : ∃ m, m ≤ many ∧ BltOk ((bltCells ns many).foldl (bltStep (menuL ns)) ([], [])) m := by
  have hl : (bltCells ns many).length ≤ many := by unfold bltCells; rw [List.length_drop, List.length_take]; omega
  have := blt_fold (menuL_len ns) (menuL_words ns) (bltCells ns many) ([], []) 0 blt_nil (by omega)
  exact ⟨0 + (bltCells ns many).length, by omega, this⟩
theorem built_ok (ns : List Int) (many : Nat) (hm : many ≤ 30) : f_law_built (.scr ns) (.int (many : Int)) = .ok (.lst ((bltL ns many).map rD)) := by
  have hs := sizeLine_is
  have hcl : (bltCells ns many).length ≤ many := by unfold bltCells; rw [List.length_drop, List.length_take]; omega
  have hmn := menu_ok ns
  obtain ⟨e', hlp⟩ := built_loop ns (menuL_len ns) (menuL_words ns) (.int (many : Int)) (bltCells ns many) ([], []) 0 .un blt_nil (by omega)
  obtain ⟨m, hm2, hB⟩ := bltL_ok ns many hm
  have hsl : slD (.scr ns) (some 4) (some (4 + (many : Int))) = some (.lst ((bltCells ns many).map D.int)) := by
    rw [slD_scr]
    have := cut_mid ns 4 (4 + many)
    rw [show ((4 + many : Nat) : Int) = 4 + (many : Int) by omega] at this
    unfold bltCells
    rw [← this]
    rfl
  unfold bltL
  obtain ⟨S, hS⟩ : ∃ S, S = (bltCells ns many).foldl (bltStep (menuL ns)) ([], []) := ⟨_, rfl⟩
  rw [← hS] at hlp hB ⊢
  obtain ⟨rs, ws⟩ := S
  have h1 := hB.len
  have h2 := hB.wait
  simp only at h1 h2 hlp ⊢
  have e0 : startE 6 [D.scr ns, .int (many : Int)] = [.sh (.scr ns), .sh (.int (many : Int)), .un, .un, .un, .un] := rfl
  generalize tL (menuL ns) = M at hmn hlp
  have s1 : sSet 2 (xCall (fun1 f_law_menu) (aCons (xSh 0) aNil)) [.sh (.scr ns), .sh (.int (many : Int)), .un, .un, .un, .un] = .ok (.nx [.sh (.scr ns), .sh (.int (many : Int)), .sh M, .un, .un, .un]) := by
    simp [hmn]
  have s2 : sOwn 3 (lLst aNil) [.sh (.scr ns), .sh (.int (many : Int)), .sh M, .un, .un, .un] = .ok (.nx [.sh (.scr ns), .sh (.int (many : Int)), .sh M, .ow [], .un, .un]) := rfl
  have s3 : sOwn 4 (lLst aNil) [.sh (.scr ns), .sh (.int (many : Int)), .sh M, .ow [], .un, .un] = .ok (.nx [.sh (.scr ns), .sh (.int (many : Int)), .sh M, .ow [], .ow [], .un]) := rfl
  have s4 : sFor (iList (xSl (xPk 0) (oSome (xC (.int 4))) (oSome (xOp addD (xC (.int 4)) (xPk 1))))) (tgt1 5) b_law_built_f1 [.sh (.scr ns), .sh (.int (many : Int)), .sh M, .ow [], .ow [], .un] = .ok (.nx [.sh (.scr ns), .sh (.int (many : Int)), .sh M, .ow (rs.map rD), .ow (ws.map rD), e']) := by
    have hi : iList (xSl (xPk 0) (oSome (xC (.int 4))) (oSome (xOp addD (xC (.int 4)) (xPk 1)))) [.sh (.scr ns), .sh (.int (many : Int)), .sh M, .ow [], .ow [], .un] = .ok ((bltCells ns many).map D.int) := by
      generalize (bltCells ns many).map D.int = Z at hsl ⊢
      simp [hsl]
    unfold sFor
    rw [hi, ok_bind]
    exact hlp
  have hadd : addD (.lst (rs.map rD)) (.lst (ws.map rD)) = some (.lst ((rs ++ ws).map rD)) := by
    rw [addD_lst (by rw [List.length_map, List.length_map]; omega), List.map_append]
  unfold f_law_built b_law_built
  rw [e0]
  refine run_ret ?_
  rw [run_seq s1, run_seq s2, run_seq s3, run_seq s4]
  generalize rs.map rD = A at hadd ⊢
  generalize ws.map rD = B at hadd ⊢
  simp [hadd]
theorem words_of_loop (p : Kd → Bool) (kinds : D) (hk : ∀ k, inD (tS (kL k)) kinds = some (.bl (p k))) (a : D) : ∀ (l : List Row) (acc : List (List Nat)) (e : Ent), acc.length + wOf p l ≤ 10000000 → ∃ e',
    forR (tgt1 3) b_law_words_of_f1 (l.map rD) [.sh a, .sh kinds, .sh (tL acc), e] = .ok (.nx [.sh a, .sh kinds, .sh (tL (acc ++ (l.filter fun r => p r.1).flatMap (·.2.2))), e'])
  | [], acc, e, _ => ⟨e, by simp⟩
  | r :: l, acc, e, hl => by
    have hs := sizeLine_is
    rw [wOf_cons] at hl
    have x0 : ixD (rD r) (.int 0) = some (tS (kL r.1)) := ixD_tup0 _ _
    have x2 : ixD (rD r) (.int 2) = some (tT r.2.2) := ixD_tup2 _ _ _ _
    have hli : listO (tT r.2.2) = some (r.2.2.map tS) := rfl
    obtain ⟨acc2, ha2⟩ : ∃ acc2, acc2 = if p r.1 = true then acc ++ r.2.2 else acc := ⟨_, rfl⟩
    have hb : b_law_words_of_f1 [.sh a, .sh kinds, .sh (tL acc), .sh (rD r)] = .ok (.nx [.sh a, .sh kinds, .sh (tL acc2), .sh (rD r)]) := by
      have hin := hk r.1
      rw [ha2]
      by_cases h : p r.1 = true
      · rw [if_pos h] at hl ⊢
        rw [h] at hin
        have hadd : addD (tL acc) (.lst (r.2.2.map tS)) = some (tL (acc ++ r.2.2)) := by
          unfold tL
          rw [addD_lst (by rw [List.length_map, List.length_map]; omega), List.map_append]
        generalize r.2.2.map tS = Z at hli hadd
        simp [b_law_words_of_f1, x0, hin, x2, hli, hadd]
      · rw [if_neg h]
        have h' : p r.1 = false := by simpa using h
        rw [h'] at hin
        simp [b_law_words_of_f1, x0, hin]
    obtain ⟨e', ih⟩ := words_of_loop p kinds hk a l acc2 (.sh (rD r)) (by rw [ha2]; split <;> first | (rename_i h; rw [if_pos h] at hl; rw [List.length_append]; omega) | (rename_i h; rw [if_neg h] at hl; omega))
    refine ⟨e', ?_⟩
    rw [List.map_cons, forR_cons]
    show lift (some [Ent.sh a, Ent.sh kinds, Ent.sh (tL acc), Ent.sh (rD r)]) >>= _ = _
    rw [lift_some, ok_bind, hb, seqO_nx, ih, ha2]
    by_cases h : p r.1 = true <;> simp [h]
theorem words_of_ok (p : Kd → Bool) (kinds : D) (hk : ∀ k, inD (tS (kL k)) kinds = some (.bl (p k))) {l : List Row} (hl : wOf p l ≤ 1000000) : f_law_words_of (.lst (l.map rD)) kinds = .ok (tL ((l.filter fun r => p r.1).flatMap (·.2.2))) := by
  obtain ⟨e', hlp⟩ := words_of_loop p kinds hk (.lst (l.map rD)) l [] .un (by simp; omega)
  rw [List.nil_append] at hlp
  have e0 : startE 4 [D.lst (l.map rD), kinds] = [.sh (.lst (l.map rD)), .sh kinds, .un, .un] := rfl
  have s1 : sSet 2 (xL (lLst aNil)) [.sh (.lst (l.map rD)), .sh kinds, .un, .un] = .ok (.nx [.sh (.lst (l.map rD)), .sh kinds, .sh (tL []), .un]) := rfl
  have s2 : sFor (iList (xSh 0)) (tgt1 3) b_law_words_of_f1 [.sh (.lst (l.map rD)), .sh kinds, .sh (tL []), .un] = .ok (.nx [.sh (.lst (l.map rD)), .sh kinds, .sh (tL ((l.filter fun r => p r.1).flatMap (·.2.2))), e']) := by
    unfold sFor
    rw [show iList (xSh 0) [.sh (.lst (l.map rD)), .sh kinds, .sh (tL []), .un] = .ok (l.map rD) from rfl, ok_bind]
    exact hlp
  unfold f_law_words_of b_law_words_of
  rw [e0]
  refine run_ret ?_
  rw [run_seq s1, run_seq s2]
  rfl
/-! the law -/
/-- a telling that the law asks of -/
structure Told (l : List Row) : Prop where
  rows : ∀ r ∈ l, RowOk r
  few : l.length ≤ 1000
  old : (oldOf l).length ≤ 120
  new : (newOf l).length ≤ 120
  blk : BlkOkR l
theorem Told.done {l : List Row} (h : Told l) : f_done (.lst (l.map rD)) (tL (oldOf l)) = .ok (tL (newOf l)) := done_ok h.rows h.few h.old h.new h.blk
theorem Told.turn {l : List Row} (h : Told l) : Told (l.map turnR) := by
  obtain ⟨_, _, h3, h4⟩ := takes_turned l
  refine ⟨fun r hr => ?_, by rw [List.length_map]; exact h.few, by rw [h3]; exact h.new, by rw [h4]; exact h.old, turned_blk h.blk⟩
  obtain ⟨q, hq, rfl⟩ := List.mem_map.mp hr
  exact turned_row (h.rows q hq)
theorem Told.w1 {l : List Row} (h : Told l) : Words (oldOf l) := fun w hw => by
  unfold oldOf at hw
  obtain ⟨r, hr1, hr2⟩ := List.mem_flatMap.mp hw
  exact (h.rows r (List.mem_filter.mp hr1).1).words w hr2
theorem Told.w2 {l : List Row} (h : Told l) : Words (newOf l) := fun w hw => by
  unfold newOf at hw
  obtain ⟨r, hr1, hr2⟩ := List.mem_flatMap.mp hw
  exact (h.rows r (List.mem_filter.mp hr1).1).words w hr2
theorem blt_told (ns : List Int) (many : Nat) (hm : many ≤ 30) : Told (bltL ns many) ∧ (oldOf (bltL ns many)).length ≤ 3 * many ∧ (newOf (bltL ns many)).length ≤ 3 * many ∧ (bltL ns many).length ≤ 2 * many := by
  obtain ⟨m, hm2, h⟩ := bltL_ok ns many hm
  have h1 := h.len
  have h2 := h.wait
  have h3 := h.old
  have h4 := h.new
  rw [← wOf_old] at h3
  rw [← wOf_new] at h4
  have hl : (bltL ns many).length ≤ 2 * many := by unfold bltL; rw [List.length_append]; omega
  have h3' : (oldOf (bltL ns many)).length ≤ 3 * m := h3
  have h4' : (newOf (bltL ns many)).length ≤ 3 * m := h4
  exact ⟨⟨h.rows, by omega, by omega, by omega, h.blk⟩, by omega, by omega, hl⟩
theorem rep_flat (w : List Nat) : ∀ k : Nat, (List.replicate k [tS w]).flatten = (List.replicate k w).map tS
  | 0 => rfl
  | k + 1 => by
    have := rep_flat w k
    simp [List.replicate_succ, this]
theorem told_pad {l : List Row} (h : Told l) (h1 : (oldOf l).length ≤ 90) (h2 : (newOf l).length ≤ 90) (h3 : l.length ≤ 900) :
    Told ((.put, 0, List.replicate (120 - (newOf l).length) [119]) :: l ++ [(.cut, 0, List.replicate (120 - (oldOf l).length) [118])]) ∧
    oldOf ((.put, 0, List.replicate (120 - (newOf l).length) [119]) :: l ++ [(.cut, 0, List.replicate (120 - (oldOf l).length) [118])]) = oldOf l ++ List.replicate (120 - (oldOf l).length) [118] ∧
    newOf ((.put, 0, List.replicate (120 - (newOf l).length) [119]) :: l ++ [(.cut, 0, List.replicate (120 - (oldOf l).length) [118])]) = List.replicate (120 - (newOf l).length) [119] ++ newOf l := by
  obtain ⟨a, ha⟩ : ∃ a, a = 120 - (newOf l).length := ⟨_, rfl⟩
  obtain ⟨b, hb⟩ : ∃ b, b = 120 - (oldOf l).length := ⟨_, rfl⟩
  rw [← ha, ← hb]
  have e1 : oldOf ((.put, 0, List.replicate a [119]) :: l ++ [(.cut, 0, List.replicate b [118])]) = oldOf l ++ List.replicate b [118] := by
    rw [List.cons_append, oldOf_cons, oldOf_app, oldOf_cons]
    simp [oldOf]
  have e2 : newOf ((.put, 0, List.replicate a [119]) :: l ++ [(.cut, 0, List.replicate b [118])]) = List.replicate a [119] ++ newOf l := by
    rw [List.cons_append, newOf_cons, newOf_app, newOf_cons]
    simp [newOf]
  refine ⟨⟨fun r hr => ?_, by simp; omega, by rw [e1, List.length_append, List.length_replicate]; omega, by rw [e2, List.length_append, List.length_replicate]; omega, ?_⟩, e1, e2⟩
  · have hw : ∀ (n : Nat) (c : Nat), isWordL [c] = true → Words (List.replicate n [c]) := fun n c hc w hw => by rw [List.eq_of_mem_replicate hw]; exact hc
    rcases List.mem_append.mp hr with hr | hr
    · rcases List.mem_cons.mp hr with rfl | hr
      · refine ⟨hw a 119 (by decide), ?_, by simp only [List.length_replicate]; omega, rfl⟩
        simp only
        intro e
        have := congrArg List.length e
        rw [List.length_replicate] at this
        simp at this; omega
      · exact h.rows r hr
    · rw [List.mem_singleton.mp hr]
      refine ⟨hw b 118 (by decide), ?_, by simp only [List.length_replicate]; omega, rfl⟩
      simp only
      intro e
      have := congrArg List.length e
      rw [List.length_replicate] at this
      simp at this; omega
  · have t1 : takesOf ((.put, 0, List.replicate a [119]) :: l ++ [(.cut, 0, List.replicate b [118])]) = takesOf l := by
      rw [List.cons_append, takesOf_cons, takesOf_app, takesOf_cons]; simp [takesOf]
    have t2 : laysOf ((.put, 0, List.replicate a [119]) :: l ++ [(.cut, 0, List.replicate b [118])]) = laysOf l := by
      rw [List.cons_append, laysOf_cons, laysOf_app, laysOf_cons]; simp [laysOf]
    exact ⟨by rw [t1, t2]; exact h.blk.perm, by rw [t1]; exact h.blk.nodup⟩
theorem pad_step (ns : List Int) {x : Int} (hc3 : f_law_cell_at (.scr ns) (.int 3) = .ok (.int x)) (hx : x / 4 % 5 = 2) {L : List Row} (hT : Told L) (ho : (oldOf L).length ≤ 90) (hn : (newOf L).length ≤ 90) (hl : L.length ≤ 60) :
    ∃ P, Told P ∧ b_law_k04_s4 [.sh (.scr ns), .sh (.lst (L.map rD)), .sh (tL (oldOf L)), .sh (tL (newOf L)), .un, .un, .un] = .ok (.nx [.sh (.scr ns), .sh (.lst (P.map rD)), .sh (tL (oldOf P)), .sh (tL (newOf P)), .un, .un, .un]) := by
  have hs := sizeLine_is
  have z3 : 3 ≤ sizeLine := by omega
  have z1 : 1 ≤ sizeLine := by omega
  have d1 : divD (.int x) (.int 4) = some (.int (x / 4)) := divD_int (by omega)
  have m1 : modD (.int (x / 4)) (.int 5) = some (.int (x / 4 % 5)) := modD_int (by omega)
  obtain ⟨q1, q2, q3⟩ := told_pad hT (by omega) (by omega) (by omega)
  refine ⟨_, q1, ?_⟩
  rw [q2, q3]
  obtain ⟨a, ha⟩ : ∃ a, a = 120 - (newOf L).length := ⟨_, rfl⟩
  obtain ⟨b, hb⟩ : ∃ b, b = 120 - (oldOf L).length := ⟨_, rfl⟩
  rw [← ha, ← hb]
  have ea : (120 : Int) - ((newOf L).length : Int) = (a : Int) := by omega
  have eb : (120 : Int) - ((oldOf L).length : Int) = (b : Int) := by omega
  have lo : lenD [tL (oldOf L)] = some (.int ((oldOf L).length : Int)) := by unfold tL; rw [lenD_lst, List.length_map]
  have ln : lenD [tL (newOf L)] = some (.int ((newOf L).length : Int)) := by unfold tL; rw [lenD_lst, List.length_map]
  have mt : ∀ (w : List Nat) (k : Nat), 2 ≤ k → k ≤ 120 → mulD (.tup [tS w]) (.int (k : Int)) = some (tT (List.replicate k w)) := fun w k h1 h2 => by
    unfold tT
    simp only [mulD]
    rw [if_pos ⟨by simp, by omega, by omega, by simp⟩, show ((k : Nat) : Int).toNat = k by omega, rep_flat]
  have ml : ∀ (w : List Nat) (k : Nat), 2 ≤ k → k ≤ 120 → mulD (.lst [tS w]) (.int (k : Int)) = some (tL (List.replicate k w)) := fun w k h1 h2 => by
    unfold tL
    simp only [mulD]
    rw [if_pos ⟨by omega, by omega, by simp; omega⟩, show ((k : Nat) : Int).toNat = k by omega, rep_flat]
  have ta := mt [119] a (by omega) (by omega)
  have tb := mt [118] b (by omega) (by omega)
  have la := ml [119] a (by omega) (by omega)
  have lb := ml [118] b (by omega) (by omega)
  have r1 : D.tup [tS [112, 117, 116], .int 0, tT (List.replicate a [119])] = rD (.put, 0, List.replicate a [119]) := rfl
  have r2 : D.tup [tS [99, 117, 116], .int 0, tT (List.replicate b [118])] = rD (.cut, 0, List.replicate b [118]) := rfl
  have c1 : addD (.lst [rD (.put, 0, List.replicate a [119])]) (.lst (L.map rD)) = some (.lst (rD (.put, 0, List.replicate a [119]) :: L.map rD)) := addD_lst (by rw [List.length_map]; simp; omega)
  have c2 : addD (.lst (rD (.put, 0, List.replicate a [119]) :: L.map rD)) (.lst [rD (.cut, 0, List.replicate b [118])]) = some (.lst (((Kd.put, (0 : Int), List.replicate a [119]) :: L ++ [(Kd.cut, (0 : Int), List.replicate b [118])]).map rD)) := by
    rw [addD_lst (by simp; omega)]
    exact congrArg (fun z => some (D.lst z)) (by simp only [List.map_append, List.map_cons, List.map_nil, List.cons_append])
  have c3 : addD (tL (List.replicate a [119])) (tL (newOf L)) = some (tL (List.replicate a [119] ++ newOf L)) := by
    unfold tL
    rw [addD_lst (by simp; omega), List.map_append]
  have c4 : addD (tL (oldOf L)) (tL (List.replicate b [118])) = some (tL (oldOf L ++ List.replicate b [118])) := by
    unfold tL
    rw [addD_lst (by simp; omega), List.map_append]
  generalize (((Kd.put, (0 : Int), List.replicate a [119]) :: L ++ [(Kd.cut, (0 : Int), List.replicate b [118])]).map rD) = Z1 at c2 ⊢
  generalize rD (.put, 0, List.replicate a [119]) = R1 at r1 c1 c2
  generalize rD (.cut, 0, List.replicate b [118]) = R2 at r2 c2
  generalize L.map rD = Z at c1 c2 ⊢
  generalize tL (List.replicate a [119] ++ newOf L) = N2 at c3 ⊢
  generalize tL (oldOf L ++ List.replicate b [118]) = O2 at c4 ⊢
  generalize tL (List.replicate a [119]) = A1 at la c3
  generalize tL (List.replicate b [118]) = B1 at lb c4
  generalize tT (List.replicate a [119]) = A2 at ta r1
  generalize tT (List.replicate b [118]) = B2 at tb r2
  generalize ((newOf L).length : Int) = u at ea ln
  generalize ((oldOf L).length : Int) = v at eb lo
  generalize tL (newOf L) = N1 at ln c3 ⊢
  generalize tL (oldOf L) = O1 at lo c4 ⊢
  generalize (a : Int) = ai at ea ta la
  generalize (b : Int) = bi at eb tb lb
  clear ha hb mt ml q1 q2 q3 ho hn hT
  have sa : subD (.int 120) (.int u) = some (.int ai) := by rw [subD_int, ea]
  have sb : subD (.int 120) (.int v) = some (.int bi) := by rw [subD_int, eb]
  have hcond : tB (xOp eqD (xOp modD (xOp divD (xCall (fun2 f_law_cell_at) (aCons (xSh 0) (aCons (xC (.int 3)) aNil))) (xC (.int 4))) (xC (.int 5))) (xC (.int 2))) [.sh (.scr ns), .sh (.lst Z), .sh O1, .sh N1, .un, .un, .un] = .ok true := by
    simp [hc3, d1, m1, hx]
  clear ea eb
  have p1 : sSet 1 (xOp addD (xOp addD (xL (lLst (aCons (xTup (aCons (xC (.str "put")) (aCons (xC (.int 0)) (aCons (xOp mulD (xTup (aCons (xC (.str "w")) aNil)) (xOp subD (xC (.int 120)) (xB lenD (aCons (xPk 3) aNil)))) aNil)))) aNil))) (xPk 1)) (xL (lLst (aCons (xTup (aCons (xC (.str "cut")) (aCons (xC (.int 0)) (aCons (xOp mulD (xTup (aCons (xC (.str "v")) aNil)) (xOp subD (xC (.int 120)) (xB lenD (aCons (xPk 2) aNil)))) aNil)))) aNil)))) [.sh (.scr ns), .sh (.lst Z), .sh O1, .sh N1, .un, .un, .un] = .ok (.nx [.sh (.scr ns), .sh (.lst Z1), .sh O1, .sh N1, .un, .un, .un]) := by
    simp [z1, z3, lo, ln, sa, sb, ta, tb, r1, r2, c1, c2, -subD_int]
  have p2 : sSet 3 (xOp addD (xOp mulD (xL (lLst (aCons (xC (.str "w")) aNil))) (xOp subD (xC (.int 120)) (xB lenD (aCons (xPk 3) aNil)))) (xPk 3)) [.sh (.scr ns), .sh (.lst Z1), .sh O1, .sh N1, .un, .un, .un] = .ok (.nx [.sh (.scr ns), .sh (.lst Z1), .sh O1, .sh N2, .un, .un, .un]) := by
    have q1 : xL (lLst (aCons (xC (.str "w")) aNil)) [.sh (.scr ns), .sh (.lst Z1), .sh O1, .sh N1, .un, .un, .un] = .ok (.lst [tS [119]]) := by simp [z1]
    have q2 : xOp subD (xC (.int 120)) (xB lenD (aCons (xPk 3) aNil)) [.sh (.scr ns), .sh (.lst Z1), .sh O1, .sh N1, .un, .un, .un] = .ok (.int ai) := by simp [ln, sa, -subD_int]
    exact sSet_ok (xOp_ok (xOp_ok q1 q2 la) rfl c3)
  have p3 : sSet 2 (xOp addD (xPk 2) (xOp mulD (xL (lLst (aCons (xC (.str "v")) aNil))) (xOp subD (xC (.int 120)) (xB lenD (aCons (xPk 2) aNil))))) [.sh (.scr ns), .sh (.lst Z1), .sh O1, .sh N2, .un, .un, .un] = .ok (.nx [.sh (.scr ns), .sh (.lst Z1), .sh O2, .sh N2, .un, .un, .un]) := by
    have q1 : xL (lLst (aCons (xC (.str "v")) aNil)) [.sh (.scr ns), .sh (.lst Z1), .sh O1, .sh N2, .un, .un, .un] = .ok (.lst [tS [118]]) := by simp [z1]
    have q2 : xOp subD (xC (.int 120)) (xB lenD (aCons (xPk 2) aNil)) [.sh (.scr ns), .sh (.lst Z1), .sh O1, .sh N2, .un, .un, .un] = .ok (.int bi) := by simp [lo, sb, -subD_int]
    exact sSet_ok (xOp_ok rfl (xOp_ok q1 q2 lb) c4)
  unfold b_law_k04_s4
  rw [sIf_t hcond, run_seq p1, run_seq p2, p3]
theorem law_ok_k04 (ns : List Int) (hns : ns.length ≤ 63) : f_law_k04 (.scr ns) = .ok (.bl true) := by
  have hs := sizeLine_is
  have z3 : 3 ≤ sizeLine := by omega
  have z2 : 2 ≤ sizeLine := by omega
  have z1 : 1 ≤ sizeLine := by omega
  have hbl := built_ok ns 30 (by omega)
  obtain ⟨hT, ho, hn, hl⟩ := blt_told ns 30 (by omega)
  have hwo : wOf isOldK (bltL ns 30) ≤ 1000000 := by rw [← wOf_old]; omega
  have hwn : wOf isNewK (bltL ns 30) ≤ 1000000 := by rw [← wOf_new]; omega
  have wo := words_of_ok isOldK (.tup [tS [107, 101, 101, 112], tS [99, 117, 116], tS [116, 97, 107, 101]]) in_old hwo
  have wn := words_of_ok isNewK (.tup [tS [107, 101, 101, 112], tS [112, 117, 116], tS [108, 97, 121]]) in_new hwn
  have wo : f_law_words_of (.lst ((bltL ns 30).map rD)) (.tup [tS [107, 101, 101, 112], tS [99, 117, 116], tS [116, 97, 107, 101]]) = .ok (tL (oldOf (bltL ns 30))) := wo
  have wn : f_law_words_of (.lst ((bltL ns 30).map rD)) (.tup [tS [107, 101, 101, 112], tS [112, 117, 116], tS [108, 97, 121]]) = .ok (tL (newOf (bltL ns 30))) := wn
  generalize bltL ns 30 = L at hbl hT ho hn hl wo wn
  have hc3 : f_law_cell_at (.scr ns) (.int 3) = .ok (.int (cellAt ns 3)) := cell_at_ok ns 3
  generalize cellAt ns 3 = x at hc3
  have d1 : divD (.int x) (.int 4) = some (.int (x / 4)) := divD_int (by omega)
  have m1 : modD (.int (x / 4)) (.int 5) = some (.int (x / 4 % 5)) := modD_int (by omega)
  have e0 : startE 7 [D.scr ns] = [.sh (.scr ns), .un, .un, .un, .un, .un, .un] := rfl
  have s1 : b_law_k04_s1 [.sh (.scr ns), .un, .un, .un, .un, .un, .un] = .ok (.nx [.sh (.scr ns), .sh (.lst (L.map rD)), .un, .un, .un, .un, .un]) := by
    have hbl : f_law_built (.scr ns) (.int 30) = .ok (.lst (L.map rD)) := hbl
    generalize L.map rD = Z at hbl ⊢
    simp [b_law_k04_s1, hbl]
  have s2 : b_law_k04_s2 [.sh (.scr ns), .sh (.lst (L.map rD)), .un, .un, .un, .un, .un] = .ok (.nx [.sh (.scr ns), .sh (.lst (L.map rD)), .sh (tL (oldOf L)), .un, .un, .un, .un]) := by
    generalize L.map rD = Z at wo ⊢
    simp [b_law_k04_s2, z3, wo]
  have s3 : b_law_k04_s3 [.sh (.scr ns), .sh (.lst (L.map rD)), .sh (tL (oldOf L)), .un, .un, .un, .un] = .ok (.nx [.sh (.scr ns), .sh (.lst (L.map rD)), .sh (tL (oldOf L)), .sh (tL (newOf L)), .un, .un, .un]) := by
    generalize L.map rD = Z at wn ⊢
    simp [b_law_k04_s3, z3, wn]
  obtain ⟨P, hP, s4⟩ : ∃ P, Told P ∧ b_law_k04_s4 [.sh (.scr ns), .sh (.lst (L.map rD)), .sh (tL (oldOf L)), .sh (tL (newOf L)), .un, .un, .un] = .ok (.nx [.sh (.scr ns), .sh (.lst (P.map rD)), .sh (tL (oldOf P)), .sh (tL (newOf P)), .un, .un, .un]) := by
    by_cases hx : x / 4 % 5 = 2
    · exact pad_step ns hc3 hx hT (by omega) (by omega) (by omega)
    · exact ⟨L, hT, by simp [b_law_k04_s4, hc3, d1, m1, hx]⟩
  have hd := hP.done
  have hd2 := hP.turn.done
  obtain ⟨_, _, g3, g4⟩ := takes_turned P
  rw [g3, g4] at hd2
  have htn := turned_ok hP.rows hP.few
  have ok1 := hP.w1.ok1
  have ok2 := hP.w2.ok1
  have al1 := alike_ok ok2 ok2 (by have := hP.new; omega)
  have al2 := alike_ok ok1 ok1 (by have := hP.old; omega)
  rw [decide_eq_true rfl] at al1 al2
  have ne1 := neD_rows (fun r h => (hP.rows r h).words.ok1) (fun r h => (hP.rows r h).words.ok1) (l := P) (m := P)
  have ne2 := neD_tL ok1 ok1
  rw [decide_eq_true rfl] at ne1 ne2
  have lo1 : listO (.lst (P.map rD)) = some (P.map rD) := rfl
  have lo2 : listO (tL (oldOf P)) = some ((oldOf P).map tS) := rfl
  have lo3 : listO (tL (newOf P)) = some ((newOf P).map tS) := rfl
  have eo : D.lst ((oldOf P).map tS) = tL (oldOf P) := rfl
  have en : D.lst ((newOf P).map tS) = tL (newOf P) := rfl
  unfold f_law_k04 b_law_k04
  rw [e0]
  refine run_ret ?_
  rw [run_seq s1, run_seq s2, run_seq s3, run_seq s4]
  generalize (P.map turnR).map rD = T at htn hd2
  generalize P.map rD = R at hd htn ne1 lo1 ⊢
  generalize (oldOf P).map tS = O' at lo2 eo
  generalize (newOf P).map tS = N' at lo3 en
  generalize tL (oldOf P) = O at hd hd2 al2 ne2 lo2 eo ⊢
  generalize tL (newOf P) = N at hd hd2 al1 lo3 en ⊢
  have s5 : b_law_k04_s5 [.sh (.scr ns), .sh (.lst R), .sh O, .sh N, .un, .un, .un] = .ok (.nx [.sh (.scr ns), .sh (.lst R), .sh O, .sh N, .sh (.lst [.lst R, O]), .un, .un]) := by
    simp [b_law_k04_s5, z2, lo1, lo2, eo]
  have s6 : b_law_k04_s6 [.sh (.scr ns), .sh (.lst R), .sh O, .sh N, .sh (.lst [.lst R, O]), .un, .un] = .ok (.nx [.sh (.scr ns), .sh (.lst R), .sh O, .sh N, .sh (.lst [.lst R, O]), .sh N, .un]) := by
    simp [b_law_k04_s6, hd]
  have s7 : b_law_k04_s7 [.sh (.scr ns), .sh (.lst R), .sh O, .sh N, .sh (.lst [.lst R, O]), .sh N, .un] = .ok (.nx [.sh (.scr ns), .sh (.lst R), .sh O, .sh N, .sh (.lst [.lst R, O]), .sh N, .un]) := by
    simp [b_law_k04_s7, al1, ne1, ne2]
  have s8 : b_law_k04_s8 [.sh (.scr ns), .sh (.lst R), .sh O, .sh N, .sh (.lst [.lst R, O]), .sh N, .un] = .ok (.nx [.sh (.scr ns), .sh (.lst R), .sh O, .sh N, .sh (.lst [.lst R, O]), .sh N, .sh (.lst T)]) := by
    simp [b_law_k04_s8, lo1, htn]
  rw [run_seq s5, run_seq s6, run_seq s7, run_seq s8]
  simp [b_law_k04_s9, lo3, en, hd2, al2]
end DL

set_option Elab.async false
set_option linter.all false
set_option maxRecDepth 100000
set_option maxHeartbeats 4000000
namespace DL.K04
open PySem PySem.Spec PyProof.Rows L2 DL
def topS (i : Nat) : Stmt := PySem.Challenge.pw_redraft_k04_a_telling_done.main.body.getD i (.Pass ⟨0, 0, 0, 0⟩)
theorem sc_is_sign : FnScope ["sign"] ["sign"] (defScope (topS 9)) := ⟨rfl, rfl, rfl, by decide +kernel, rfl, by decide +kernel, by decide +kernel⟩
theorem sc_is_word : FnScope ["word", "sign"] ["word"] (defScope (topS 10)) := ⟨rfl, rfl, rfl, by decide +kernel, rfl, by decide +kernel, by decide +kernel⟩
theorem sc_need_words : FnScope ["words", "word"] ["words"] (defScope (topS 11)) := ⟨rfl, rfl, rfl, by decide +kernel, rfl, by decide +kernel, by decide +kernel⟩
theorem sc_is_row : FnScope ["row", "word"] ["row"] (defScope (topS 15)) := ⟨rfl, rfl, rfl, by decide +kernel, rfl, by decide +kernel, by decide +kernel⟩
theorem sc_need_rows : FnScope ["rows", "row"] ["rows"] (defScope (topS 16)) := ⟨rfl, rfl, rfl, by decide +kernel, rfl, by decide +kernel, by decide +kernel⟩
theorem sc_noted : FnScope ["blocks", "number", "words"] ["blocks", "number", "words"] (defScope (topS 17)) := ⟨rfl, rfl, rfl, by decide +kernel, rfl, by decide +kernel, by decide +kernel⟩
theorem sc_done : FnScope ["rows", "old", "at", "new", "taken", "laid", "kind", "number", "words"] ["rows", "old"] (defScope (topS 18)) := ⟨rfl, rfl, rfl, by decide +kernel, rfl, by decide +kernel, by decide +kernel⟩
theorem sc_other_kind : FnScope ["kind"] ["kind"] (defScope (topS 19)) := ⟨rfl, rfl, rfl, by decide +kernel, rfl, by decide +kernel, by decide +kernel⟩
theorem sc_turned : FnScope ["rows", "kind", "number", "words"] ["rows"] (defScope (topS 20)) := ⟨rfl, rfl, rfl, by decide +kernel, rfl, by decide +kernel, by decide +kernel⟩
theorem sc_law_cell_at : FnScope ["_law_script", "_law_k"] ["_law_script", "_law_k"] (defScope (topS 22)) := ⟨rfl, rfl, rfl, by decide +kernel, rfl, by decide +kernel, by decide +kernel⟩
theorem sc_law_sign_by : FnScope ["_law_cell", "_law_some"] ["_law_cell"] (defScope (topS 23)) := ⟨rfl, rfl, rfl, by decide +kernel, rfl, by decide +kernel, by decide +kernel⟩
theorem sc_law_word_by : FnScope ["_law_cell", "_law_more", "_law_size", "_law_k"] ["_law_cell"] (defScope (topS 24)) := ⟨rfl, rfl, rfl, by decide +kernel, rfl, by decide +kernel, by decide +kernel⟩
theorem sc_law_near : FnScope ["_law_word", "_law_cell", "_law_at"] ["_law_word", "_law_cell"] (defScope (topS 25)) := ⟨rfl, rfl, rfl, by decide +kernel, rfl, by decide +kernel, by decide +kernel⟩
theorem sc_law_menu : FnScope ["_law_script", "_law_base", "_law_k"] ["_law_script"] (defScope (topS 26)) := ⟨rfl, rfl, rfl, by decide +kernel, rfl, by decide +kernel, by decide +kernel⟩
theorem sc_law_built_row : FnScope ["_law_menu_here", "_law_cell", "_law_rows", "_law_waiting", "_law_kind", "_law_words", "_law_k", "_law_number", "_law_names"] ["_law_menu_here", "_law_cell", "_law_rows", "_law_waiting"] (defScope (topS 27)) := ⟨rfl, rfl, rfl, by decide +kernel, rfl, by decide +kernel, by decide +kernel⟩
theorem sc_law_built : FnScope ["_law_script", "_law_many", "_law_menu_here", "_law_rows", "_law_waiting", "_law_cell"] ["_law_script", "_law_many"] (defScope (topS 28)) := ⟨rfl, rfl, rfl, by decide +kernel, rfl, by decide +kernel, by decide +kernel⟩
theorem sc_law_words_of : FnScope ["_law_rows", "_law_kinds", "_law_found", "_law_row"] ["_law_rows", "_law_kinds"] (defScope (topS 29)) := ⟨rfl, rfl, rfl, by decide +kernel, rfl, by decide +kernel, by decide +kernel⟩
theorem sc_law_alike : FnScope ["_law_found", "_law_due", "_law_one"] ["_law_found", "_law_due"] (defScope (topS 30)) := ⟨rfl, rfl, rfl, by decide +kernel, rfl, by decide +kernel, by decide +kernel⟩
theorem sc_law : FnScope ["_law_script", "_law_rows", "_law_old", "_law_new", "_law_handed", "_law_found", "_law_back"] ["_law_script"] (defScope (topS 31)) := ⟨rfl, rfl, rfl, by decide +kernel, rfl, by decide +kernel, by decide +kernel⟩
structure Tx (K : PySem.W.Frag) (mg : Str → Option Value) (ca : Exn → Addr) : Prop where
  f_is_sign : ∃ fa fd, Fun K "is_sign" "is_sign" (topS 9) fa fd ∧ mg "is_sign" = some (.ref fa) ∧ Binds K fd ["sign"] []
  f_is_word : ∃ fa fd, Fun K "is_word" "is_word" (topS 10) fa fd ∧ mg "is_word" = some (.ref fa) ∧ Binds K fd ["word"] []
  f_need_words : ∃ fa fd, Fun K "need_words" "need_words" (topS 11) fa fd ∧ mg "need_words" = some (.ref fa) ∧ Binds K fd ["words"] []
  f_is_row : ∃ fa fd, Fun K "is_row" "is_row" (topS 15) fa fd ∧ mg "is_row" = some (.ref fa) ∧ Binds K fd ["row"] []
  f_need_rows : ∃ fa fd, Fun K "need_rows" "need_rows" (topS 16) fa fd ∧ mg "need_rows" = some (.ref fa) ∧ Binds K fd ["rows"] []
  f_noted : ∃ fa fd, Fun K "noted" "noted" (topS 17) fa fd ∧ mg "noted" = some (.ref fa) ∧ Binds K fd ["blocks", "number", "words"] []
  f_done : ∃ fa fd, Fun K "done" "done" (topS 18) fa fd ∧ mg "done" = some (.ref fa) ∧ Binds K fd ["rows", "old"] []
  f_other_kind : ∃ fa fd, Fun K "other_kind" "other_kind" (topS 19) fa fd ∧ mg "other_kind" = some (.ref fa) ∧ Binds K fd ["kind"] []
  f_turned : ∃ fa fd, Fun K "turned" "turned" (topS 20) fa fd ∧ mg "turned" = some (.ref fa) ∧ Binds K fd ["rows"] []
  f_law_cell_at : ∃ fa fd, Fun K "_law_cell_at" "_law_cell_at" (topS 22) fa fd ∧ mg "_law_cell_at" = some (.ref fa) ∧ Binds K fd ["_law_script", "_law_k"] []
  f_law_sign_by : ∃ fa fd, Fun K "_law_sign_by" "_law_sign_by" (topS 23) fa fd ∧ mg "_law_sign_by" = some (.ref fa) ∧ Binds K fd ["_law_cell"] []
  f_law_word_by : ∃ fa fd, Fun K "_law_word_by" "_law_word_by" (topS 24) fa fd ∧ mg "_law_word_by" = some (.ref fa) ∧ Binds K fd ["_law_cell"] []
  f_law_near : ∃ fa fd, Fun K "_law_near" "_law_near" (topS 25) fa fd ∧ mg "_law_near" = some (.ref fa) ∧ Binds K fd ["_law_word", "_law_cell"] []
  f_law_menu : ∃ fa fd, Fun K "_law_menu" "_law_menu" (topS 26) fa fd ∧ mg "_law_menu" = some (.ref fa) ∧ Binds K fd ["_law_script"] []
  f_law_built_row : ∃ fa fd, Fun K "_law_built_row" "_law_built_row" (topS 27) fa fd ∧ mg "_law_built_row" = some (.ref fa) ∧ Binds K fd ["_law_menu_here", "_law_cell", "_law_rows", "_law_waiting"] []
  f_law_built : ∃ fa fd, Fun K "_law_built" "_law_built" (topS 28) fa fd ∧ mg "_law_built" = some (.ref fa) ∧ Binds K fd ["_law_script", "_law_many"] []
  f_law_words_of : ∃ fa fd, Fun K "_law_words_of" "_law_words_of" (topS 29) fa fd ∧ mg "_law_words_of" = some (.ref fa) ∧ Binds K fd ["_law_rows", "_law_kinds"] []
  f_law_alike : ∃ fa fd, Fun K "_law_alike" "_law_alike" (topS 30) fa fd ∧ mg "_law_alike" = some (.ref fa) ∧ Binds K fd ["_law_found", "_law_due"] []
  z_all : mg "all" = none
  z_bool : mg "bool" = none
  z_int : mg "int" = none
  z_isinstance : mg "isinstance" = none
  z_len : mg "len" = none
  z_list : mg "list" = none
  z_ord : mg "ord" = none
  z_range : mg "range" = none
  z_reversed : mg "reversed" = none
  z_str : mg "str" = none
  z_tuple : mg "tuple" = none
  g_LONGEST : GVK K mg "LONGEST" (.int 40)
  g_MOST : GVK K mg "MOST" (.int 120)
  g_KINDS : GVK K mg "KINDS" (.tup [(.str "keep"), (.str "cut"), (.str "put"), (.str "take"), (.str "lay")])
  i_KINDS : TupC K mg "KINDS" ["keep", "cut", "put", "take", "lay"]
  g_HIGHEST : GVK K mg "HIGHEST" (.int 999999999)
  e_NoWord : ExcK K mg ca "NoWord" .noWord
  e_TooLong : ExcK K mg ca "TooLong" .tooLong
  e_NoRow : ExcK K mg ca "NoRow" .noRow
  e_NoFit : ExcK K mg ca "NoFit" .noFit
section
variable {P : Program} {w : World} {K : PySem.W.Frag} {mg : Str → Option Value} {base : Heap} {ca : Exn → Addr}
theorem d_is_sign (T : Tx K mg ca) : DefD P w K mg base ca "is_sign" 1 (fun1 f_is_sign) := by
  obtain ⟨fa, fd, F, hm, hb⟩ := T.f_is_sign
  exact def_ok (body := b_is_sign) F sc_is_sign (ar1 _) hm hb (fun ds hl => match ds, hl with | [a], _ => rfl) (fun cdv A outer s H E hr => by
    have nd := sc_is_sign.nd
    exact ((q_one (q_ret (q_and (q_chain opd_le opd_le (q_pd q_int) (q_pd (q_callB cd_ord T.z_ord (q_pcons (q_pvar 0) q_pnil))) (q_pd q_int)) (q_bool1 (q_cmp (opd_ne (u64 hr)) (q_pd (q_callB cd_ord T.z_ord (q_pcons (q_pvar 0) q_pnil))) (q_pd q_int) (nomark _))))))))
theorem d_is_word (T : Tx K mg ca) : DefD P w K mg base ca "is_word" 2 (fun1 f_is_word) := by
  obtain ⟨fa, fd, F, hm, hb⟩ := T.f_is_word
  have h_is_sign : DefD P w K mg base ca "is_sign" 1 (fun1 f_is_sign) := d_is_sign T
  exact def_ok (body := b_is_word) F sc_is_word (ar1 _) hm hb (fun ds hl => match ds, hl with | [a], _ => rfl) (fun cdv A outer s H E hr => by
    have nd := sc_is_word.nd
    exact ((q_seq (q_if (q_twd (q_wor (q_tnot (q_tval (q_isi T.z_isinstance T.z_str (q_pvar 0)))) (q_wor1 (q_tnot (q_tchain opd_le opd_le (q_pd q_int) (q_pd (q_callB cd_len T.z_len (q_pcons (q_pvar 0) q_pnil))) (q_pd (q_glob T.g_LONGEST)))))))
  (q_one (q_ret q_bl))
  q_nil)
  (q_one (q_ret (q_callB (cd_all rfl) T.z_all (q_pcons (q_pd (q_fd (q_comp [("sign", 1)] rfl nd (q_istr (q_pvar 0)) (blkOk_by (own := [("sign", 1)]) (N := ["word", "sign"]) (sc := defScope (topS 10)) (by decide +kernel)) (fun _ _ _ _ _ => (gd_name 1 nd)) (fun _ _ _ _ _ => tsd_nil) (fun _ _ _ _ _ => (q_call h_is_sign (hr.mono (by decide)) takes0 (q_acons (q_var 1) q_anil)))))) q_pnil)))))))
theorem d_need_words (T : Tx K mg ca) : DefD P w K mg base ca "need_words" 3 (fun1 f_need_words) := by
  obtain ⟨fa, fd, F, hm, hb⟩ := T.f_need_words
  have h_is_word : DefD P w K mg base ca "is_word" 2 (fun1 f_is_word) := d_is_word T
  exact def_ok (body := b_need_words) F sc_need_words (ar1 _) hm hb (fun ds hl => match ds, hl with | [a], _ => rfl) (fun cdv A outer s H E hr => by
    have nd := sc_need_words.nd
    exact ((q_seq (q_if (q_tnot (q_tval (q_isi T.z_isinstance T.z_list (q_pvar 0))))
  (q_one (q_raise rfl tk_of T.e_NoWord))
  q_nil)
  (q_seq (q_for hp_of rfl (q_ilist (q_var 0)) (gd_name 1 nd)
  (q_one (q_if (q_tnot (q_tval (q_call h_is_word (hr.mono (by decide)) tk_of (q_acons (q_var 1) q_anil))))
  (q_one (q_raise rfl tk_of T.e_NoWord))
  q_nil)))
  (q_one (q_if (q_tcmp opd_gt (q_pd (q_callB cd_len T.z_len (q_pcons (q_pvar 0) q_pnil))) (q_pd (q_glob T.g_MOST)) (nomark _))
  (q_one (q_raise rfl tk_of T.e_TooLong))
  q_nil))))))
theorem d_is_row (T : Tx K mg ca) : DefD P w K mg base ca "is_row" 3 (fun1 f_is_row) := by
  obtain ⟨fa, fd, F, hm, hb⟩ := T.f_is_row
  have h_is_word : DefD P w K mg base ca "is_word" 2 (fun1 f_is_word) := d_is_word T
  exact def_ok (body := b_is_row) F sc_is_row (ar1 _) hm hb (fun ds hl => match ds, hl with | [a], _ => rfl) (fun cdv A outer s H E hr => by
    have nd := sc_is_row.nd
    exact ((q_seq (q_if (q_twd (q_wor (q_tnot (q_tval (q_isi T.z_isinstance T.z_tuple (q_pvar 0)))) (q_wor1 (q_tcmp (opd_ne (u64 hr)) (q_pd (q_callB cd_len T.z_len (q_pcons (q_pvar 0) q_pnil))) (q_pd q_int) (nomark _)))))
  (q_one (q_ret q_bl))
  q_nil)
  (q_seq (q_if (q_twd (q_wor (q_tnot (q_tval (q_isi T.z_isinstance T.z_str (q_pd (q_ix (q_pvar 0) (q_pd q_int) (fun _ _ => rfl)))))) (q_wor1 (q_tcmp (opd_nin (u65 hr)) (q_pd (q_ix (q_pvar 0) (q_pd q_int) (fun _ _ => rfl))) (q_pd (q_glob T.g_KINDS)) rfl))))
  (q_one (q_ret q_bl))
  q_nil)
  (q_seq (q_if (q_twd (q_wor (q_tnot (q_tval (q_isi T.z_isinstance T.z_int (q_pd (q_ix (q_pvar 0) (q_pd q_int) (fun _ _ => rfl)))))) (q_wor1 (q_tval (q_isi T.z_isinstance T.z_bool (q_pd (q_ix (q_pvar 0) (q_pd q_int) (fun _ _ => rfl))))))))
  (q_one (q_ret q_bl))
  q_nil)
  (q_seq (q_if (q_twd (q_wor (q_tnot (q_tval (q_isi T.z_isinstance T.z_tuple (q_pd (q_ix (q_pvar 0) (q_pd q_int) (fun _ _ => rfl)))))) (q_wor1 (q_tcmp (opd_eq (u64 hr)) (q_pd (q_callB cd_len T.z_len (q_pcons (q_pd (q_ix (q_pvar 0) (q_pd q_int) (fun _ _ => rfl))) q_pnil))) (q_pd q_int) (nomark _)))))
  (q_one (q_ret q_bl))
  q_nil)
  (q_seq (q_if (q_tnot (q_tval (q_callB (cd_all rfl) T.z_all (q_pcons (q_pd (q_fd (q_comp [("word", 1)] rfl nd (q_itup (q_ix (q_pvar 0) (q_pd q_int) (fun _ _ => rfl))) (blkOk_by (own := [("word", 1)]) (N := ["row", "word"]) (sc := defScope (topS 15)) (by decide +kernel)) (fun _ _ _ _ _ => (gd_name 1 nd)) (fun _ _ _ _ _ => tsd_nil) (fun _ _ _ _ _ => (q_call h_is_word (hr.mono (by decide)) takes0 (q_acons (q_var 1) q_anil)))))) q_pnil))))
  (q_one (q_ret q_bl))
  q_nil)
  (q_seq (q_if (q_twd (q_wor (q_tcmp (opd_eq (u64 hr)) (q_pd (q_ix (q_pvar 0) (q_pd q_int) (fun _ _ => rfl))) (q_pd q_str) (nomark _)) (q_wor1 (q_tcmp (opd_eq (u64 hr)) (q_pd (q_ix (q_pvar 0) (q_pd q_int) (fun _ _ => rfl))) (q_pd q_str) (nomark _)))))
  (q_one (q_ret (q_chain opd_le opd_le (q_pd q_int) (q_pd (q_ix (q_pvar 0) (q_pd q_int) (fun _ _ => rfl))) (q_pd (q_glob T.g_HIGHEST)))))
  q_nil)
  (q_one (q_ret (q_cmp (opd_eq (u64 hr)) (q_pd (q_ix (q_pvar 0) (q_pd q_int) (fun _ _ => rfl))) (q_pd q_int) (nomark _))))))))))))
theorem d_need_rows (T : Tx K mg ca) : DefD P w K mg base ca "need_rows" 4 (fun1 f_need_rows) := by
  obtain ⟨fa, fd, F, hm, hb⟩ := T.f_need_rows
  have h_is_row : DefD P w K mg base ca "is_row" 3 (fun1 f_is_row) := d_is_row T
  exact def_ok (body := b_need_rows) F sc_need_rows (ar1 _) hm hb (fun ds hl => match ds, hl with | [a], _ => rfl) (fun cdv A outer s H E hr => by
    have nd := sc_need_rows.nd
    exact ((q_seq (q_if (q_tnot (q_tval (q_isi T.z_isinstance T.z_list (q_pvar 0))))
  (q_one (q_raise rfl tk_of T.e_NoRow))
  q_nil)
  (q_one (q_for hp_of rfl (q_ilist (q_var 0)) (gd_name 1 nd)
  (q_one (q_if (q_tnot (q_tval (q_call h_is_row (hr.mono (by decide)) tk_of (q_acons (q_var 1) q_anil))))
  (q_one (q_raise rfl tk_of T.e_NoRow))
  q_nil)))))))
theorem d_noted (T : Tx K mg ca) : DefN P w K mg base ca "noted" 1 := by
  obtain ⟨fa, fd, F, hm, hb⟩ := T.f_noted
  exact defN_ok F sc_noted hm hb rfl (fun cdv A outer s H E hr => by
    have nd := sc_noted.nd
    exact ((noted_walk (u64 hr) (q_raise rfl tk_of T.e_NoFit))))
theorem d_done (T : Tx K mg ca) : DefD P w K mg base ca "done" 5 (fun2 f_done) := by
  obtain ⟨fa, fd, F, hm, hb⟩ := T.f_done
  have h_need_rows : DefD P w K mg base ca "need_rows" 4 (fun1 f_need_rows) := d_need_rows T
  have h_need_words : DefD P w K mg base ca "need_words" 3 (fun1 f_need_words) := d_need_words T
  have h_noted : DefN P w K mg base ca "noted" 1 := d_noted T
  exact def_ok (body := b_done) F sc_done (ar2 _) hm hb (fun ds hl => match ds, hl with | [a, b], _ => rfl) (fun cdv A outer s H E hr => by
    have nd := sc_done.nd
    exact ((done_walk hp_of rfl (q_expr (q_call h_need_rows (hr.mono (by decide)) tk_of (q_acons (q_var 0) q_anil))) (q_expr (q_call h_need_words (hr.mono (by decide)) tk_of (q_acons (q_var 1) q_anil))) (q_set 2 nd q_int) (q_set 3 nd (q_fd (q_lst q_anil))) (dict_new 4 nd) (dict_new 5 nd) (q_ilist (q_var 0)) (gd_tup rfl (gds_cons (gd_name 6 nd) (gds_cons (gd_name 7 nd) (gds_cons (gd_name 8 nd) gds_nil))))
  (q_if (q_tcmp (opd_in (u65 hr)) (q_pvar 6) (q_pd (q_tup (q_acons q_str (q_acons q_str (q_acons q_str q_anil))))) rfl)
  (q_seq (q_if (q_tcmp (opd_ne (u64 hr)) (q_pd (q_callT cd_tuple T.z_tuple (q_pcons (q_pd (q_sl (q_pvar 1) (q_osome (q_pvar 2)) (q_osome (q_pd (q_op opd_add (q_pvar 2) (q_pd (q_callB cd_len T.z_len (q_pcons (q_pvar 8) q_pnil)))))))) q_pnil))) (q_pvar 8) (nomark _))
  (q_one (q_raise rfl tk_of T.e_NoFit))
  q_nil)
  (q_one (q_set 2 nd (q_op opd_add (q_pvar 2) (q_pd (q_callB cd_len T.z_len (q_pcons (q_pvar 8) q_pnil)))))))
  q_nil)
  (q_if (q_tcmp (opd_in (u65 hr)) (q_pvar 6) (q_pd (q_tup (q_acons q_str (q_acons q_str (q_acons q_str q_anil))))) rfl)
  (q_one (q_set 3 nd (q_op opd_add (q_pvar 3) (q_pd (q_fd (q_list T.z_list (q_pvar 8)))))))
  q_nil)
  (q_tcmp (opd_eq (u64 hr)) (q_pvar 6) (q_pd q_str) (nomark _)) (note_call 4 7 8 h_noted (hr.mono (by decide)) tk_of)
  (q_tcmp (opd_eq (u64 hr)) (q_pvar 6) (q_pd q_str) (nomark _)) (note_call 5 7 8 h_noted (hr.mono (by decide)) tk_of)
  (q_tcmp (opd_ne (u64 hr)) (q_pvar 2) (q_pd (q_callB cd_len T.z_len (q_pcons (q_pvar 1) q_pnil))) (nomark _)) (held_ne 4 5 (u_0 (u65 hr)) (u_in1 (u65 hr))) (q_one (q_raise rfl tk_of T.e_NoFit))
  (q_seq (q_if (q_tcmp opd_gt (q_pd (q_callB cd_len T.z_len (q_pcons (q_pvar 3) q_pnil))) (q_pd (q_glob T.g_MOST)) (nomark _))
  (q_one (q_raise rfl tk_of T.e_TooLong))
  q_nil)
  (q_one (q_ret (q_var 3)))))))
theorem d_other_kind (T : Tx K mg ca) : DefD P w K mg base ca "other_kind" 1 (fun1 f_other_kind) := by
  obtain ⟨fa, fd, F, hm, hb⟩ := T.f_other_kind
  exact def_ok (body := b_other_kind) F sc_other_kind (ar1 _) hm hb (fun ds hl => match ds, hl with | [a], _ => rfl) (fun cdv A outer s H E hr => by
    have nd := sc_other_kind.nd
    exact ((q_seq (q_if (q_tcmp (opd_eq (u64 hr)) (q_pvar 0) (q_pd q_str) (nomark _))
  (q_one (q_ret q_str))
  q_nil)
  (q_seq (q_if (q_tcmp (opd_eq (u64 hr)) (q_pvar 0) (q_pd q_str) (nomark _))
  (q_one (q_ret q_str))
  q_nil)
  (q_seq (q_if (q_tcmp (opd_eq (u64 hr)) (q_pvar 0) (q_pd q_str) (nomark _))
  (q_one (q_ret q_str))
  q_nil)
  (q_seq (q_if (q_tcmp (opd_eq (u64 hr)) (q_pvar 0) (q_pd q_str) (nomark _))
  (q_one (q_ret q_str))
  q_nil)
  (q_one (q_ret (q_var 0)))))))))
theorem d_turned (T : Tx K mg ca) : DefD P w K mg base ca "turned" 5 (fun1 f_turned) := by
  obtain ⟨fa, fd, F, hm, hb⟩ := T.f_turned
  have h_need_rows : DefD P w K mg base ca "need_rows" 4 (fun1 f_need_rows) := d_need_rows T
  have h_other_kind : DefD P w K mg base ca "other_kind" 1 (fun1 f_other_kind) := d_other_kind T
  exact def_ok (body := b_turned) F sc_turned (ar1 _) hm hb (fun ds hl => match ds, hl with | [a], _ => rfl) (fun cdv A outer s H E hr => by
    have nd := sc_turned.nd
    exact ((q_seq (q_expr (q_call h_need_rows (hr.mono (by decide)) tk_of (q_acons (q_var 0) q_anil)))
  (q_one (q_ret (q_fd (q_comp [("kind", 1), ("number", 2), ("words", 3)] rfl nd (q_ilist (q_var 0)) (blkOk_by (own := [("kind", 1), ("number", 2), ("words", 3)]) (N := ["rows", "kind", "number", "words"]) (sc := defScope (topS 20)) (by decide +kernel)) (fun _ _ _ _ _ => (gd_tup rfl (gds_cons (gd_name 1 nd) (gds_cons (gd_name 2 nd) (gds_cons (gd_name 3 nd) gds_nil))))) (fun _ _ _ _ _ => tsd_nil) (fun _ _ _ _ _ => (q_tup (q_acons (q_call h_other_kind (hr.mono (by decide)) takes0 (q_acons (q_var 1) q_anil)) (q_acons (q_var 2) (q_acons (q_var 3) q_anil))))))))))))
theorem d_law_cell_at (T : Tx K mg ca) : DefD P w K mg base ca "_law_cell_at" 1 (fun2 f_law_cell_at) := by
  obtain ⟨fa, fd, F, hm, hb⟩ := T.f_law_cell_at
  exact def_ok (body := b_law_cell_at) F sc_law_cell_at (ar2 _) hm hb (fun ds hl => match ds, hl with | [a, b], _ => rfl) (fun cdv A outer s H E hr => by
    have nd := sc_law_cell_at.nd
    exact ((q_seq (q_if (q_tcmp opd_lt (q_pvar 1) (q_pd (q_callB cd_len T.z_len (q_pcons (q_pvar 0) q_pnil))) (nomark _))
  (q_one (q_ret (q_ix (q_pvar 0) (q_pvar 1) (fun _ _ => rfl))))
  q_nil)
  (q_one (q_ret q_int)))))
theorem d_law_sign_by (T : Tx K mg ca) : DefD P w K mg base ca "_law_sign_by" 1 (fun1 f_law_sign_by) := by
  obtain ⟨fa, fd, F, hm, hb⟩ := T.f_law_sign_by
  exact def_ok (body := b_law_sign_by) F sc_law_sign_by (ar1 _) hm hb (fun ds hl => match ds, hl with | [a], _ => rfl) (fun cdv A outer s H E hr => by
    have nd := sc_law_sign_by.nd
    exact ((q_seq (q_set 1 nd q_str)
  (q_seq (q_set 1 nd (q_op opd_add (q_pvar 1) (q_pd q_str)))
  (q_one (q_ret (q_ix (q_pvar 1) (q_pd (q_op opd_mod (q_pvar 0) (q_pd q_int))) (fun _ _ => rfl))))))))
theorem d_law_word_by (T : Tx K mg ca) : DefD P w K mg base ca "_law_word_by" 2 (fun1 f_law_word_by) := by
  obtain ⟨fa, fd, F, hm, hb⟩ := T.f_law_word_by
  have h_law_sign_by : DefD P w K mg base ca "_law_sign_by" 1 (fun1 f_law_sign_by) := d_law_sign_by T
  exact def_ok (body := b_law_word_by) F sc_law_word_by (ar1 _) hm hb (fun ds hl => match ds, hl with | [a], _ => rfl) (fun cdv A outer s H E hr => by
    have nd := sc_law_word_by.nd
    exact ((q_seq (q_set 1 nd (q_op opd_mod (q_pd (q_op opd_mul (q_pd (q_op opd_add (q_pvar 0) (q_pd q_int))) (q_pd q_int))) (q_pd q_int)))
  (q_seq (q_set 2 nd (q_op opd_add (q_pd q_int) (q_pd (q_op opd_mod (q_pvar 1) (q_pd q_int)))))
  (q_seq (q_if (q_tcmp (opd_eq (u64 hr)) (q_pd (q_op opd_mod (q_pd (q_op opd_div (q_pvar 1) (q_pd q_int))) (q_pd q_int))) (q_pd q_int) (nomark _))
  (q_one (q_set 2 nd (q_op opd_add (q_pd q_int) (q_pd (q_op opd_mod (q_pd (q_op opd_div (q_pvar 1) (q_pd q_int))) (q_pd q_int))))))
  q_nil)
  (q_one (q_ret (q_join (q_pd q_str) (q_pd (q_fd (q_comp [("_law_k", 3)] rfl nd (q_r1 T.z_range (q_pvar 2)) (blkOk_by (own := [("_law_k", 3)]) (N := ["_law_cell", "_law_more", "_law_size", "_law_k"]) (sc := defScope (topS 24)) (by decide +kernel)) (fun _ _ _ _ _ => (gd_name 3 nd)) (fun _ _ _ _ _ => tsd_nil) (fun _ _ _ _ _ => (q_call h_law_sign_by (hr.mono (by decide)) takes0 (q_acons (q_op opd_mod (q_pd (q_op opd_mul (q_pd (q_op opd_add (q_pd (q_op opd_add (q_pvar 1) (q_pd (q_op opd_mul (q_pd q_int) (q_pvar 3))))) (q_pd q_int))) (q_pd (q_op opd_add (q_pd (q_op opd_add (q_pvar 1) (q_pd (q_op opd_mul (q_pd q_int) (q_pvar 3))))) (q_pd q_int))))) (q_pd q_int)) q_anil))))))))))))))
theorem d_law_near (T : Tx K mg ca) : DefD P w K mg base ca "_law_near" 2 (fun2 f_law_near) := by
  obtain ⟨fa, fd, F, hm, hb⟩ := T.f_law_near
  have h_law_sign_by : DefD P w K mg base ca "_law_sign_by" 1 (fun1 f_law_sign_by) := d_law_sign_by T
  exact def_ok (body := b_law_near) F sc_law_near (ar2 _) hm hb (fun ds hl => match ds, hl with | [a, b], _ => rfl) (fun cdv A outer s H E hr => by
    have nd := sc_law_near.nd
    exact ((q_seq (q_set 2 nd (q_op opd_mod (q_pvar 1) (q_pd (q_callB cd_len T.z_len (q_pcons (q_pvar 0) q_pnil)))))
  (q_seq (q_if (q_tcmp (opd_eq (u64 hr)) (q_pd (q_op opd_mod (q_pd (q_op opd_div (q_pvar 1) (q_pd q_int))) (q_pd q_int))) (q_pd q_int) (nomark _))
  (q_one (q_ret (q_join (q_pd q_str) (q_pd (q_fd (q_lrev rfl T.z_list T.z_reversed (q_pvar 0)))))))
  q_nil)
  (q_seq (q_if (q_twd (q_wand (q_tcmp (opd_eq (u64 hr)) (q_pd (q_op opd_mod (q_pd (q_op opd_div (q_pvar 1) (q_pd q_int))) (q_pd q_int))) (q_pd q_int) (nomark _)) (q_wand1 (q_tcmp opd_gt (q_pd (q_callB cd_len T.z_len (q_pcons (q_pvar 0) q_pnil))) (q_pd q_int) (nomark _)))))
  (q_one (q_ret (q_op opd_add (q_pd (q_sl (q_pvar 0) q_onone (q_osome (q_pvar 2)))) (q_pd (q_sl (q_pvar 0) (q_osome (q_pd (q_op opd_add (q_pvar 2) (q_pd q_int)))) q_onone)))))
  q_nil)
  (q_one (q_ret (q_op opd_add (q_pd (q_op opd_add (q_pd (q_sl (q_pvar 0) q_onone (q_osome (q_pvar 2)))) (q_pd (q_call h_law_sign_by (hr.mono (by decide)) tk_of (q_acons (q_op opd_div (q_pvar 1) (q_pd q_int)) q_anil))))) (q_pd (q_sl (q_pvar 0) (q_osome (q_pd (q_op opd_add (q_pvar 2) (q_pd q_int)))) q_onone))))))))))
theorem d_law_menu (T : Tx K mg ca) : DefD P w K mg base ca "_law_menu" 3 (fun1 f_law_menu) := by
  obtain ⟨fa, fd, F, hm, hb⟩ := T.f_law_menu
  have h_law_cell_at : DefD P w K mg base ca "_law_cell_at" 1 (fun2 f_law_cell_at) := d_law_cell_at T
  have h_law_word_by : DefD P w K mg base ca "_law_word_by" 2 (fun1 f_law_word_by) := d_law_word_by T
  have h_law_near : DefD P w K mg base ca "_law_near" 2 (fun2 f_law_near) := d_law_near T
  exact def_ok (body := b_law_menu) F sc_law_menu (ar1 _) hm hb (fun ds hl => match ds, hl with | [a], _ => rfl) (fun cdv A outer s H E hr => by
    have nd := sc_law_menu.nd
    exact ((q_seq (q_scomp true 1 [("_law_k", 2)] rfl nd (q_r1 T.z_range (q_pd q_int)) (blkOk_by (own := [("_law_k", 2)]) (N := ["_law_script", "_law_base", "_law_k"]) (sc := defScope (topS 26)) (by decide +kernel)) (fun _ _ _ _ _ => (gd_name 2 nd)) (fun _ _ _ _ _ => tsd_nil) (fun _ _ _ _ _ => (q_call h_law_word_by (hr.mono (by decide)) takes0 (q_acons (q_op opd_add (q_pd (q_call h_law_cell_at (hr.mono (by decide)) takes0 (q_acons (q_var 0) (q_acons (q_var 2) q_anil)))) (q_pd (q_op opd_mul (q_pd q_int) (q_pvar 2)))) q_anil))) (sw_true rfl rfl rfl (by decide +kernel)))
  (q_seq (q_if (q_tcmp (opd_eq (u64 hr)) (q_pd (q_op opd_mod (q_pd (q_call h_law_cell_at (hr.mono (by decide)) tk_of (q_acons (q_var 0) (q_acons q_int q_anil)))) (q_pd q_int))) (q_pd q_int) (nomark _))
  (q_seq (q_put 1 (q_call h_law_near (hr.mono (by decide)) tk_of (q_acons (q_ix (q_pvar 1) (q_pd q_int) (fun _ _ => rfl)) (q_acons (q_call h_law_cell_at (hr.mono (by decide)) tk_of (q_acons (q_var 0) (q_acons q_int q_anil))) q_anil))) q_int)
  (q_one (q_put 1 (q_call h_law_near (hr.mono (by decide)) tk_of (q_acons (q_ix (q_pvar 1) (q_pd q_int) (fun _ _ => rfl)) (q_acons (q_call h_law_cell_at (hr.mono (by decide)) tk_of (q_acons (q_var 0) (q_acons q_int q_anil))) q_anil))) q_int)))
  q_nil)
  (q_seq (q_if (q_tcmp (opd_eq (u64 hr)) (q_pd (q_op opd_mod (q_pd (q_call h_law_cell_at (hr.mono (by decide)) tk_of (q_acons (q_var 0) (q_acons q_int q_anil)))) (q_pd q_int))) (q_pd q_int) (nomark _))
  (q_one (q_ret (q_op opd_add (q_pvar 1) (q_pd (q_fd (q_comp [("_law_k", 2)] rfl nd (q_r1 T.z_range (q_pd q_int)) (blkOk_by (own := [("_law_k", 2)]) (N := ["_law_script", "_law_base", "_law_k"]) (sc := defScope (topS 26)) (by decide +kernel)) (fun _ _ _ _ _ => (gd_name 2 nd)) (fun _ _ _ _ _ => tsd_nil) (fun _ _ _ _ _ => (q_call h_law_word_by (hr.mono (by decide)) takes0 (q_acons (q_op opd_add (q_pd (q_op opd_add (q_pd (q_call h_law_cell_at (hr.mono (by decide)) takes0 (q_acons (q_var 0) (q_acons (q_op opd_mod (q_pvar 2) (q_pd q_int)) q_anil)))) (q_pd (q_op opd_mul (q_pd q_int) (q_pvar 2))))) (q_pd q_int)) q_anil)))))))))
  q_nil)
  (q_one (q_ret (q_op opd_mul (q_pvar 1) (q_pd q_int)))))))))
theorem d_law_built_row (T : Tx K mg ca) : DefM P w K mg base "_law_built_row" 1 f_law_built_row := by
  obtain ⟨fa, fd, F, hm, hb⟩ := T.f_law_built_row
  exact defM_ok (ca := ca) (body := b_law_built_row) F sc_law_built_row hm hb rfl (by decide) (fun _ _ _ _ => rfl) (fun cdv A outer s H E hr => by
    have nd := sc_law_built_row.nd
    exact ((k_seq (k_set 4 nd (q_op opd_mod (q_pvar 1) (q_pd q_int)))
  (k_seq (k_set 5 nd (q_callT cd_tuple T.z_tuple (q_pcons (q_pd (q_fd (q_comp [("_law_k", 6)] rfl nd (q_r1 T.z_range (q_pd (q_op opd_add (q_pd q_int) (q_pd (q_op opd_mod (q_pd (q_op opd_mod (q_pd (q_op opd_mul (q_pvar 1) (q_pd q_int))) (q_pd q_int))) (q_pd q_int)))))) (blkOk_by (own := [("_law_k", 6)]) (N := ["_law_menu_here", "_law_cell", "_law_rows", "_law_waiting", "_law_kind", "_law_words", "_law_k", "_law_number", "_law_names"]) (sc := defScope (topS 27)) (by decide +kernel)) (fun _ _ _ _ _ => (gd_name 6 nd)) (fun _ _ _ _ _ => tsd_nil) (fun _ _ _ _ _ => (q_ix (q_pvar 0) (q_pd (q_op opd_mod (q_pd (q_op opd_add (q_pd (q_op opd_div (q_pvar 1) (q_pd q_int))) (q_pvar 6))) (q_pd q_int))) (fun _ _ => rfl)))))) q_pnil)))
  (k_one (k_if (q_twd (q_wor (q_tcmp opd_lt (q_pvar 4) (q_pd q_int) (nomark _)) (q_wor1 (q_twd (q_wand (q_tcmp (opd_eq (u64 hr)) (q_pvar 4) (q_pd q_int) (nomark _)) (q_wand1 (q_tcmp (opd_eq (u64 hr)) (q_pvar 3) (q_pd (q_fd (q_lst q_anil))) (nomark _))))))))
  (k_one (k_app 2 (q_tup (q_acons (q_ix (q_pd (q_fd (q_lst (q_acons q_str (q_acons q_str (q_acons q_str (q_acons q_str (q_acons q_str (q_acons q_str (q_acons q_str q_anil)))))))))) (q_pvar 4) (fun _ _ => rfl)) (q_acons q_int (q_acons (q_var 5) q_anil))))))
  (k_one (k_if (q_tcmp (opd_eq (u64 hr)) (q_pvar 4) (q_pd q_int) (nomark _))
  (k_one (k_appPop 2 3 (by decide) (q_pd (q_op opd_mod (q_pd (q_op opd_div (q_pvar 1) (q_pd q_int))) (q_pd (q_callB cd_len T.z_len (q_pcons (q_pvar 3) q_pnil)))))))
  (k_seq (k_set 7 nd (q_op opd_add (q_pd q_int) (q_pd (q_op opd_mul (q_pd q_int) (q_pd (q_callB cd_len T.z_len (q_pcons (q_pvar 2) q_pnil)))))))
  (k_seq (k_if (q_tcmp (opd_eq (u64 hr)) (q_pd (q_op opd_mod (q_pd (q_op opd_mod (q_pd (q_op opd_mul (q_pvar 1) (q_pd q_int))) (q_pd q_int))) (q_pd q_int))) (q_pd q_int) (nomark _))
  (k_one (k_set 7 nd (q_op opd_sub (q_pd q_int) (q_pd (q_callB cd_len T.z_len (q_pcons (q_pvar 2) q_pnil))))))
  k_nil)
  (k_seq (k_set 8 nd (q_ix (q_pd (q_fd (q_lst (q_acons (q_fd (q_lst (q_acons q_str (q_acons q_str q_anil)))) (q_acons (q_fd (q_lst (q_acons q_str (q_acons q_str q_anil)))) q_anil))))) (q_pd (q_op opd_sub (q_pvar 4) (q_pd q_int))) (fun _ _ => rfl)))
  (k_seq (k_app 2 (q_tup (q_acons (q_ix (q_pvar 8) (q_pd q_int) (fun _ _ => rfl)) (q_acons (q_var 7) (q_acons (q_var 5) q_anil)))))
  (k_one (k_app 3 (q_tup (q_acons (q_ix (q_pvar 8) (q_pd q_int) (fun _ _ => rfl)) (q_acons (q_var 7) (q_acons (q_var 5) q_anil))))))))))))))))))
theorem d_law_built (T : Tx K mg ca) : DefD P w K mg base ca "_law_built" 4 (fun2 f_law_built) := by
  obtain ⟨fa, fd, F, hm, hb⟩ := T.f_law_built
  have h_law_menu : DefD P w K mg base ca "_law_menu" 3 (fun1 f_law_menu) := d_law_menu T
  have h_law_built_row : DefM P w K mg base "_law_built_row" 1 f_law_built_row := d_law_built_row T
  exact def_ok (body := b_law_built) F sc_law_built (ar2 _) hm hb (fun ds hl => match ds, hl with | [a, b], _ => rfl) (fun cdv A outer s H E hr => by
    have nd := sc_law_built.nd
    exact ((q_seq (q_set 2 nd (q_call h_law_menu (hr.mono (by decide)) tk_of (q_acons (q_var 0) q_anil)))
  (q_seq (q_own 3 nd (q_lst q_anil))
  (q_seq (q_own 4 nd (q_lst q_anil))
  (q_seq (q_for hp_of rfl (q_ilist (q_sl (q_pvar 0) (q_osome (q_pd q_int)) (q_osome (q_pd (q_op opd_add (q_pd q_int) (q_pvar 1)))))) (gd_name 5 nd)
  (q_one (q_callM 3 4 (by decide) h_law_built_row (hr.mono (by decide)) (q_var 2) (q_var 5))))
  (q_one (q_ret (q_op opd_add (q_pvar 3) (q_pvar 4))))))))))
theorem d_law_words_of (T : Tx K mg ca) : DefD P w K mg base ca "_law_words_of" 1 (fun2 f_law_words_of) := by
  obtain ⟨fa, fd, F, hm, hb⟩ := T.f_law_words_of
  exact def_ok (body := b_law_words_of) F sc_law_words_of (ar2 _) hm hb (fun ds hl => match ds, hl with | [a, b], _ => rfl) (fun cdv A outer s H E hr => by
    have nd := sc_law_words_of.nd
    exact ((q_seq (q_set 2 nd (q_fd (q_lst q_anil)))
  (q_seq (q_for hp_of rfl (q_ilist (q_var 0)) (gd_name 3 nd)
  (q_one (q_if (q_tcmp (opd_in (u65 hr)) (q_pd (q_ix (q_pvar 3) (q_pd q_int) (fun _ _ => rfl))) (q_pvar 1) rfl)
  (q_one (q_set 2 nd (q_op opd_add (q_pvar 2) (q_pd (q_fd (q_list T.z_list (q_pd (q_ix (q_pvar 3) (q_pd q_int) (fun _ _ => rfl)))))))))
  q_nil)))
  (q_one (q_ret (q_var 2)))))))
theorem d_law_alike (T : Tx K mg ca) : DefD P w K mg base ca "_law_alike" 1 (fun2 f_law_alike) := by
  obtain ⟨fa, fd, F, hm, hb⟩ := T.f_law_alike
  exact def_ok (body := b_law_alike) F sc_law_alike (ar2 _) hm hb (fun ds hl => match ds, hl with | [a, b], _ => rfl) (fun cdv A outer s H E hr => by
    have nd := sc_law_alike.nd
    exact ((q_seq (q_if (q_twd (q_wor (q_tnot (q_tval (q_isi T.z_isinstance T.z_list (q_pvar 0)))) (q_wor1 (q_tcmp (opd_ne (u64 hr)) (q_pd (q_callB cd_len T.z_len (q_pcons (q_pvar 0) q_pnil))) (q_pd (q_callB cd_len T.z_len (q_pcons (q_pvar 1) q_pnil))) (nomark _)))))
  (q_one (q_ret q_bl))
  q_nil)
  (q_one (q_ret (q_and (q_callB (cd_all rfl) T.z_all (q_pcons (q_pd (q_fd (q_comp [("_law_one", 2)] rfl nd (q_ilist (q_var 0)) (blkOk_by (own := [("_law_one", 2)]) (N := ["_law_found", "_law_due", "_law_one"]) (sc := defScope (topS 30)) (by decide +kernel)) (fun _ _ _ _ _ => (gd_name 2 nd)) (fun _ _ _ _ _ => tsd_nil) (fun _ _ _ _ _ => (q_isi T.z_isinstance T.z_str (q_pvar 2)))))) q_pnil)) (q_bool1 (q_cmp (opd_eq (u64 hr)) (q_pvar 0) (q_pvar 1) (nomark _)))))))))
theorem d_law (T : Tx K mg ca) {fa : Addr} {fd : FuncData} (F : Fun K "law" "law" (topS 31) fa fd) : FnOk P w K mg base (L2.CX P w) 6 fa fd ["_law_script"] (SpD K ca (fun1 f_law_k04)) := by
  have h_law_built : DefD P w K mg base ca "_law_built" 4 (fun2 f_law_built) := d_law_built T
  have h_law_words_of : DefD P w K mg base ca "_law_words_of" 1 (fun2 f_law_words_of) := d_law_words_of T
  have h_law_cell_at : DefD P w K mg base ca "_law_cell_at" 1 (fun2 f_law_cell_at) := d_law_cell_at T
  have h_done : DefD P w K mg base ca "done" 5 (fun2 f_done) := d_done T
  have h_law_alike : DefD P w K mg base ca "_law_alike" 1 (fun2 f_law_alike) := d_law_alike T
  have h_turned : DefD P w K mg base ca "turned" 5 (fun1 f_turned) := d_turned T
  exact def_fn (body := b_law_k04) F sc_law (ar1 _) (fun ds hl => match ds, hl with | [a], _ => rfl) (fun cdv A outer s H E hr => by
    have nd := sc_law.nd
    exact ((q_seq (q_set 1 nd (q_call h_law_built (hr.mono (by decide)) tk_of (q_acons (q_var 0) (q_acons q_int q_anil))))
  (q_seq (q_set 2 nd (q_call h_law_words_of (hr.mono (by decide)) tk_of (q_acons (q_var 1) (q_acons (q_tup (q_acons q_str (q_acons q_str (q_acons q_str q_anil)))) q_anil))))
  (q_seq (q_set 3 nd (q_call h_law_words_of (hr.mono (by decide)) tk_of (q_acons (q_var 1) (q_acons (q_tup (q_acons q_str (q_acons q_str (q_acons q_str q_anil)))) q_anil))))
  (q_seq (q_if (q_tcmp (opd_eq (u64 hr)) (q_pd (q_op opd_mod (q_pd (q_op opd_div (q_pd (q_call h_law_cell_at (hr.mono (by decide)) tk_of (q_acons (q_var 0) (q_acons q_int q_anil)))) (q_pd q_int))) (q_pd q_int))) (q_pd q_int) (nomark _))
  (q_seq (q_set 1 nd (q_op opd_add (q_pd (q_op opd_add (q_pd (q_fd (q_lst (q_acons (q_tup (q_acons q_str (q_acons q_int (q_acons (q_op opd_mul (q_pd (q_tup (q_acons q_str q_anil))) (q_pd (q_op opd_sub (q_pd q_int) (q_pd (q_callB cd_len T.z_len (q_pcons (q_pvar 3) q_pnil)))))) q_anil)))) q_anil)))) (q_pvar 1))) (q_pd (q_fd (q_lst (q_acons (q_tup (q_acons q_str (q_acons q_int (q_acons (q_op opd_mul (q_pd (q_tup (q_acons q_str q_anil))) (q_pd (q_op opd_sub (q_pd q_int) (q_pd (q_callB cd_len T.z_len (q_pcons (q_pvar 2) q_pnil)))))) q_anil)))) q_anil))))))
  (q_seq (q_set 3 nd (q_op opd_add (q_pd (q_op opd_mul (q_pd (q_fd (q_lst (q_acons q_str q_anil)))) (q_pd (q_op opd_sub (q_pd q_int) (q_pd (q_callB cd_len T.z_len (q_pcons (q_pvar 3) q_pnil))))))) (q_pvar 3)))
  (q_one (q_set 2 nd (q_op opd_add (q_pvar 2) (q_pd (q_op opd_mul (q_pd (q_fd (q_lst (q_acons q_str q_anil)))) (q_pd (q_op opd_sub (q_pd q_int) (q_pd (q_callB cd_len T.z_len (q_pcons (q_pvar 2) q_pnil))))))))))))
  q_nil)
  (q_seq (q_set 4 nd (q_fd (q_lst (q_acons (q_fd (q_list T.z_list (q_pvar 1))) (q_acons (q_fd (q_list T.z_list (q_pvar 2))) q_anil)))))
  (q_seq (q_set 5 nd (q_call h_done (hr.mono (by decide)) tk_of (q_acons (q_ix (q_pvar 4) (q_pd q_int) (fun _ _ => rfl)) (q_acons (q_ix (q_pvar 4) (q_pd q_int) (fun _ _ => rfl)) q_anil))))
  (q_seq (q_if (q_twd (q_wor (q_tnot (q_tval (q_call h_law_alike (hr.mono (by decide)) tk_of (q_acons (q_var 5) (q_acons (q_var 3) q_anil))))) (q_wor (q_tcmp (opd_ne (u64 hr)) (q_pd (q_ix (q_pvar 4) (q_pd q_int) (fun _ _ => rfl))) (q_pvar 1) (nomark _)) (q_wor1 (q_tcmp (opd_ne (u64 hr)) (q_pd (q_ix (q_pvar 4) (q_pd q_int) (fun _ _ => rfl))) (q_pvar 2) (nomark _))))))
  (q_one (q_ret q_bl))
  q_nil)
  (q_seq (q_set 6 nd (q_call h_turned (hr.mono (by decide)) tk_of (q_acons (q_fd (q_list T.z_list (q_pvar 1))) q_anil)))
  (q_one (q_ret (q_call h_law_alike (hr.mono (by decide)) tk_of (q_acons (q_call h_done (hr.mono (by decide)) tk_of (q_acons (q_var 6) (q_acons (q_fd (q_list T.z_list (q_pvar 3))) q_anil))) (q_acons (q_var 2) q_anil)))))))))))))))
end
theorem all_mk {Pg : Program} {w : World} {K : PySem.W.Frag} {h : Heap} {mg : Str → Option Value} {fz : Addr} (X : K.In h) (G : h.Ns mainGlobals mg) (hfa : mg "law" = some (.ref fz))
    {od0 an0 : Option Addr} {sl0 : Array (Option Value)} {oc0 kV0 dc0 pm0 cd0 ct0 : Value} {f0 : Addr}
    {od1 an1 : Option Addr} {sl1 : Array (Option Value)} {oc1 kV1 dc1 pm1 cd1 ct1 : Value} {f1 : Addr}
    {od2 an2 : Option Addr} {sl2 : Array (Option Value)} {oc2 kV2 dc2 pm2 cd2 ct2 : Value} {f2 : Addr}
    {od3 an3 : Option Addr} {sl3 : Array (Option Value)} {oc3 kV3 dc3 pm3 cd3 ct3 : Value} {f3 : Addr}
    {od4 an4 : Option Addr} {sl4 : Array (Option Value)} {oc4 kV4 dc4 pm4 cd4 ct4 : Value} {f4 : Addr}
    {od5 an5 : Option Addr} {sl5 : Array (Option Value)} {oc5 kV5 dc5 pm5 cd5 ct5 : Value} {f5 : Addr}
    {od6 an6 : Option Addr} {sl6 : Array (Option Value)} {oc6 kV6 dc6 pm6 cd6 ct6 : Value} {f6 : Addr}
    {od7 an7 : Option Addr} {sl7 : Array (Option Value)} {oc7 kV7 dc7 pm7 cd7 ct7 : Value} {f7 : Addr}
    {od8 an8 : Option Addr} {sl8 : Array (Option Value)} {oc8 kV8 dc8 pm8 cd8 ct8 : Value} {f8 : Addr}
    {od9 an9 : Option Addr} {sl9 : Array (Option Value)} {oc9 kV9 dc9 pm9 cd9 ct9 : Value} {f9 : Addr}
    {od10 an10 : Option Addr} {sl10 : Array (Option Value)} {oc10 kV10 dc10 pm10 cd10 ct10 : Value} {f10 : Addr}
    {od11 an11 : Option Addr} {sl11 : Array (Option Value)} {oc11 kV11 dc11 pm11 cd11 ct11 : Value} {f11 : Addr}
    {od12 an12 : Option Addr} {sl12 : Array (Option Value)} {oc12 kV12 dc12 pm12 cd12 ct12 : Value} {f12 : Addr}
    {od13 an13 : Option Addr} {sl13 : Array (Option Value)} {oc13 kV13 dc13 pm13 cd13 ct13 : Value} {f13 : Addr}
    {od14 an14 : Option Addr} {sl14 : Array (Option Value)} {oc14 kV14 dc14 pm14 cd14 ct14 : Value} {f14 : Addr}
    {od15 an15 : Option Addr} {sl15 : Array (Option Value)} {oc15 kV15 dc15 pm15 cd15 ct15 : Value} {f15 : Addr}
    {od16 an16 : Option Addr} {sl16 : Array (Option Value)} {oc16 kV16 dc16 pm16 cd16 ct16 : Value} {f16 : Addr}
    {od17 an17 : Option Addr} {sl17 : Array (Option Value)} {oc17 kV17 dc17 pm17 cd17 ct17 : Value} {f17 : Addr}
    {od18 an18 : Option Addr} {sl18 : Array (Option Value)} {oc18 kV18 dc18 pm18 cd18 ct18 : Value} {f18 : Addr}
    {t_LONGEST : Tok}
    {t_MOST : Tok}
    {v_KINDS : Addr} {o_KINDS : Obj} {n_KINDS : Nat} {t0_KINDS t1_KINDS t2_KINDS t3_KINDS t4_KINDS : Tok}
    {t_HIGHEST : Tok}
    {x_NoWord : Addr}
    {x_TooLong : Addr}
    {x_NoRow : Addr}
    {x_NoFit : Addr}
    (a0 : PySem.W.nsIn K mainGlobals "is_sign" = some (some (.ref f0)))
    (l0 : K.lookup f0 = some ⟨oc0, od0, .func (PySem.W.fnOf "is_sign" "is_sign" (defArgs (topS 9)) (defBody (topS 9)) (defScope (topS 9)) .none kV0 dc0 pm0 an0 cd0 ct0), sl0⟩)
    (c0 : PySem.W.codeIn K cd0 "is_sign" = true) (k0 : PySem.W.keepIn K (.ref f0) = true)
    (a1 : PySem.W.nsIn K mainGlobals "is_word" = some (some (.ref f1)))
    (l1 : K.lookup f1 = some ⟨oc1, od1, .func (PySem.W.fnOf "is_word" "is_word" (defArgs (topS 10)) (defBody (topS 10)) (defScope (topS 10)) .none kV1 dc1 pm1 an1 cd1 ct1), sl1⟩)
    (c1 : PySem.W.codeIn K cd1 "is_word" = true) (k1 : PySem.W.keepIn K (.ref f1) = true)
    (a2 : PySem.W.nsIn K mainGlobals "need_words" = some (some (.ref f2)))
    (l2 : K.lookup f2 = some ⟨oc2, od2, .func (PySem.W.fnOf "need_words" "need_words" (defArgs (topS 11)) (defBody (topS 11)) (defScope (topS 11)) .none kV2 dc2 pm2 an2 cd2 ct2), sl2⟩)
    (c2 : PySem.W.codeIn K cd2 "need_words" = true) (k2 : PySem.W.keepIn K (.ref f2) = true)
    (a3 : PySem.W.nsIn K mainGlobals "is_row" = some (some (.ref f3)))
    (l3 : K.lookup f3 = some ⟨oc3, od3, .func (PySem.W.fnOf "is_row" "is_row" (defArgs (topS 15)) (defBody (topS 15)) (defScope (topS 15)) .none kV3 dc3 pm3 an3 cd3 ct3), sl3⟩)
    (c3 : PySem.W.codeIn K cd3 "is_row" = true) (k3 : PySem.W.keepIn K (.ref f3) = true)
    (a4 : PySem.W.nsIn K mainGlobals "need_rows" = some (some (.ref f4)))
    (l4 : K.lookup f4 = some ⟨oc4, od4, .func (PySem.W.fnOf "need_rows" "need_rows" (defArgs (topS 16)) (defBody (topS 16)) (defScope (topS 16)) .none kV4 dc4 pm4 an4 cd4 ct4), sl4⟩)
    (c4 : PySem.W.codeIn K cd4 "need_rows" = true) (k4 : PySem.W.keepIn K (.ref f4) = true)
    (a5 : PySem.W.nsIn K mainGlobals "noted" = some (some (.ref f5)))
    (l5 : K.lookup f5 = some ⟨oc5, od5, .func (PySem.W.fnOf "noted" "noted" (defArgs (topS 17)) (defBody (topS 17)) (defScope (topS 17)) .none kV5 dc5 pm5 an5 cd5 ct5), sl5⟩)
    (c5 : PySem.W.codeIn K cd5 "noted" = true) (k5 : PySem.W.keepIn K (.ref f5) = true)
    (a6 : PySem.W.nsIn K mainGlobals "done" = some (some (.ref f6)))
    (l6 : K.lookup f6 = some ⟨oc6, od6, .func (PySem.W.fnOf "done" "done" (defArgs (topS 18)) (defBody (topS 18)) (defScope (topS 18)) .none kV6 dc6 pm6 an6 cd6 ct6), sl6⟩)
    (c6 : PySem.W.codeIn K cd6 "done" = true) (k6 : PySem.W.keepIn K (.ref f6) = true)
    (a7 : PySem.W.nsIn K mainGlobals "other_kind" = some (some (.ref f7)))
    (l7 : K.lookup f7 = some ⟨oc7, od7, .func (PySem.W.fnOf "other_kind" "other_kind" (defArgs (topS 19)) (defBody (topS 19)) (defScope (topS 19)) .none kV7 dc7 pm7 an7 cd7 ct7), sl7⟩)
    (c7 : PySem.W.codeIn K cd7 "other_kind" = true) (k7 : PySem.W.keepIn K (.ref f7) = true)
    (a8 : PySem.W.nsIn K mainGlobals "turned" = some (some (.ref f8)))
    (l8 : K.lookup f8 = some ⟨oc8, od8, .func (PySem.W.fnOf "turned" "turned" (defArgs (topS 20)) (defBody (topS 20)) (defScope (topS 20)) .none kV8 dc8 pm8 an8 cd8 ct8), sl8⟩)
    (c8 : PySem.W.codeIn K cd8 "turned" = true) (k8 : PySem.W.keepIn K (.ref f8) = true)
    (a9 : PySem.W.nsIn K mainGlobals "_law_cell_at" = some (some (.ref f9)))
    (l9 : K.lookup f9 = some ⟨oc9, od9, .func (PySem.W.fnOf "_law_cell_at" "_law_cell_at" (defArgs (topS 22)) (defBody (topS 22)) (defScope (topS 22)) .none kV9 dc9 pm9 an9 cd9 ct9), sl9⟩)
    (c9 : PySem.W.codeIn K cd9 "_law_cell_at" = true) (k9 : PySem.W.keepIn K (.ref f9) = true)
    (a10 : PySem.W.nsIn K mainGlobals "_law_sign_by" = some (some (.ref f10)))
    (l10 : K.lookup f10 = some ⟨oc10, od10, .func (PySem.W.fnOf "_law_sign_by" "_law_sign_by" (defArgs (topS 23)) (defBody (topS 23)) (defScope (topS 23)) .none kV10 dc10 pm10 an10 cd10 ct10), sl10⟩)
    (c10 : PySem.W.codeIn K cd10 "_law_sign_by" = true) (k10 : PySem.W.keepIn K (.ref f10) = true)
    (a11 : PySem.W.nsIn K mainGlobals "_law_word_by" = some (some (.ref f11)))
    (l11 : K.lookup f11 = some ⟨oc11, od11, .func (PySem.W.fnOf "_law_word_by" "_law_word_by" (defArgs (topS 24)) (defBody (topS 24)) (defScope (topS 24)) .none kV11 dc11 pm11 an11 cd11 ct11), sl11⟩)
    (c11 : PySem.W.codeIn K cd11 "_law_word_by" = true) (k11 : PySem.W.keepIn K (.ref f11) = true)
    (a12 : PySem.W.nsIn K mainGlobals "_law_near" = some (some (.ref f12)))
    (l12 : K.lookup f12 = some ⟨oc12, od12, .func (PySem.W.fnOf "_law_near" "_law_near" (defArgs (topS 25)) (defBody (topS 25)) (defScope (topS 25)) .none kV12 dc12 pm12 an12 cd12 ct12), sl12⟩)
    (c12 : PySem.W.codeIn K cd12 "_law_near" = true) (k12 : PySem.W.keepIn K (.ref f12) = true)
    (a13 : PySem.W.nsIn K mainGlobals "_law_menu" = some (some (.ref f13)))
    (l13 : K.lookup f13 = some ⟨oc13, od13, .func (PySem.W.fnOf "_law_menu" "_law_menu" (defArgs (topS 26)) (defBody (topS 26)) (defScope (topS 26)) .none kV13 dc13 pm13 an13 cd13 ct13), sl13⟩)
    (c13 : PySem.W.codeIn K cd13 "_law_menu" = true) (k13 : PySem.W.keepIn K (.ref f13) = true)
    (a14 : PySem.W.nsIn K mainGlobals "_law_built_row" = some (some (.ref f14)))
    (l14 : K.lookup f14 = some ⟨oc14, od14, .func (PySem.W.fnOf "_law_built_row" "_law_built_row" (defArgs (topS 27)) (defBody (topS 27)) (defScope (topS 27)) .none kV14 dc14 pm14 an14 cd14 ct14), sl14⟩)
    (c14 : PySem.W.codeIn K cd14 "_law_built_row" = true) (k14 : PySem.W.keepIn K (.ref f14) = true)
    (a15 : PySem.W.nsIn K mainGlobals "_law_built" = some (some (.ref f15)))
    (l15 : K.lookup f15 = some ⟨oc15, od15, .func (PySem.W.fnOf "_law_built" "_law_built" (defArgs (topS 28)) (defBody (topS 28)) (defScope (topS 28)) .none kV15 dc15 pm15 an15 cd15 ct15), sl15⟩)
    (c15 : PySem.W.codeIn K cd15 "_law_built" = true) (k15 : PySem.W.keepIn K (.ref f15) = true)
    (a16 : PySem.W.nsIn K mainGlobals "_law_words_of" = some (some (.ref f16)))
    (l16 : K.lookup f16 = some ⟨oc16, od16, .func (PySem.W.fnOf "_law_words_of" "_law_words_of" (defArgs (topS 29)) (defBody (topS 29)) (defScope (topS 29)) .none kV16 dc16 pm16 an16 cd16 ct16), sl16⟩)
    (c16 : PySem.W.codeIn K cd16 "_law_words_of" = true) (k16 : PySem.W.keepIn K (.ref f16) = true)
    (a17 : PySem.W.nsIn K mainGlobals "_law_alike" = some (some (.ref f17)))
    (l17 : K.lookup f17 = some ⟨oc17, od17, .func (PySem.W.fnOf "_law_alike" "_law_alike" (defArgs (topS 30)) (defBody (topS 30)) (defScope (topS 30)) .none kV17 dc17 pm17 an17 cd17 ct17), sl17⟩)
    (c17 : PySem.W.codeIn K cd17 "_law_alike" = true) (k17 : PySem.W.keepIn K (.ref f17) = true)
    (a18 : PySem.W.nsIn K mainGlobals "law" = some (some (.ref f18)))
    (l18 : K.lookup f18 = some ⟨oc18, od18, .func (PySem.W.fnOf "law" "law" (defArgs (topS 31)) (defBody (topS 31)) (defScope (topS 31)) .none kV18 dc18 pm18 an18 cd18 ct18), sl18⟩)
    (c18 : PySem.W.codeIn K cd18 "law" = true) (k18 : PySem.W.keepIn K (.ref f18) = true)
    (z_all : PySem.W.nsIn K mainGlobals "all" = some none)
    (z_bool : PySem.W.nsIn K mainGlobals "bool" = some none)
    (z_int : PySem.W.nsIn K mainGlobals "int" = some none)
    (z_isinstance : PySem.W.nsIn K mainGlobals "isinstance" = some none)
    (z_len : PySem.W.nsIn K mainGlobals "len" = some none)
    (z_list : PySem.W.nsIn K mainGlobals "list" = some none)
    (z_ord : PySem.W.nsIn K mainGlobals "ord" = some none)
    (z_range : PySem.W.nsIn K mainGlobals "range" = some none)
    (z_reversed : PySem.W.nsIn K mainGlobals "reversed" = some none)
    (z_str : PySem.W.nsIn K mainGlobals "str" = some none)
    (z_tuple : PySem.W.nsIn K mainGlobals "tuple" = some none)
    (g_LONGEST : PySem.W.nsIn K mainGlobals "LONGEST" = some (some (.int 40 t_LONGEST)))
    (g_MOST : PySem.W.nsIn K mainGlobals "MOST" = some (some (.int 120 t_MOST)))
    (g_KINDS : PySem.W.nsIn K mainGlobals "KINDS" = some (some (.ref v_KINDS)))
    (gl_KINDS : K.lookup v_KINDS = some o_KINDS) (gc_KINDS : o_KINDS.cls = .type "tuple") (gd_KINDS : o_KINDS.data = .seq #[.str "keep" t0_KINDS, .str "cut" t1_KINDS, .str "put" t2_KINDS, .str "take" t3_KINDS, .str "lay" t4_KINDS] n_KINDS) (gx_KINDS : o_KINDS.dict = none)
    (g_HIGHEST : PySem.W.nsIn K mainGlobals "HIGHEST" = some (some (.int 999999999 t_HIGHEST)))
    (x_NoWord_g : PySem.W.nsIn K mainGlobals "NoWord" = some (some (.ref x_NoWord)))
    (x_NoWord_q : PySem.W.excIn K x_NoWord [.type "ValueError", .type "Exception", .type "BaseException", .type "object"] "ValueError.__new__" = true)
    (x_NoWord_k : PySem.W.keepIn K (.ref x_NoWord) = true) (x_NoWord_b : PySem.W.subIn K (.ref x_NoWord) (.type "BaseException") = some true) (x_NoWord_t : PySem.W.typeIn K (.ref x_NoWord) = some (.type "type"))
    (x_TooLong_g : PySem.W.nsIn K mainGlobals "TooLong" = some (some (.ref x_TooLong)))
    (x_TooLong_q : PySem.W.excIn K x_TooLong [.type "ValueError", .type "Exception", .type "BaseException", .type "object"] "ValueError.__new__" = true)
    (x_TooLong_k : PySem.W.keepIn K (.ref x_TooLong) = true) (x_TooLong_b : PySem.W.subIn K (.ref x_TooLong) (.type "BaseException") = some true) (x_TooLong_t : PySem.W.typeIn K (.ref x_TooLong) = some (.type "type"))
    (x_NoRow_g : PySem.W.nsIn K mainGlobals "NoRow" = some (some (.ref x_NoRow)))
    (x_NoRow_q : PySem.W.excIn K x_NoRow [.type "ValueError", .type "Exception", .type "BaseException", .type "object"] "ValueError.__new__" = true)
    (x_NoRow_k : PySem.W.keepIn K (.ref x_NoRow) = true) (x_NoRow_b : PySem.W.subIn K (.ref x_NoRow) (.type "BaseException") = some true) (x_NoRow_t : PySem.W.typeIn K (.ref x_NoRow) = some (.type "type"))
    (x_NoFit_g : PySem.W.nsIn K mainGlobals "NoFit" = some (some (.ref x_NoFit)))
    (x_NoFit_q : PySem.W.excIn K x_NoFit [.type "ValueError", .type "Exception", .type "BaseException", .type "object"] "ValueError.__new__" = true)
    (x_NoFit_k : PySem.W.keepIn K (.ref x_NoFit) = true) (x_NoFit_b : PySem.W.subIn K (.ref x_NoFit) (.type "BaseException") = some true) (x_NoFit_t : PySem.W.typeIn K (.ref x_NoFit) = some (.type "type")) :
    ∃ fd : FuncData, (∀ (s : Shared) (v : Value), BindsTo s fd ⟨[v], []⟩ [("_law_script", v)]) ∧ ∀ base : Heap, K.In base → base.Ns mainGlobals mg → ∃ ca : Exn → Addr, FnOk Pg w K mg base (L2.CX Pg w) 6 fz fd ["_law_script"] (SpD K ca (fun1 f_law_k04)) := by
  have e := hfa.symm.trans (PySem.W.mg_of X G a18)
  cases e
  have T : Tx K mg (fun c => match c with | .noWord => x_NoWord | .tooLong => x_TooLong | .noRow => x_NoRow | .noFit => x_NoFit) := {
    f_is_sign := ⟨_, _, fun_mk (st := topS 9) l0 c0 k0, PySem.W.mg_of X G a0, (fun_mk (st := topS 9) l0 c0 k0).binds (ps := ["sign"]) fun _ _ _ _ _ _ us hl => match us, hl with | [_], _ => rfl⟩
    f_is_word := ⟨_, _, fun_mk (st := topS 10) l1 c1 k1, PySem.W.mg_of X G a1, (fun_mk (st := topS 10) l1 c1 k1).binds (ps := ["word"]) fun _ _ _ _ _ _ us hl => match us, hl with | [_], _ => rfl⟩
    f_need_words := ⟨_, _, fun_mk (st := topS 11) l2 c2 k2, PySem.W.mg_of X G a2, (fun_mk (st := topS 11) l2 c2 k2).binds (ps := ["words"]) fun _ _ _ _ _ _ us hl => match us, hl with | [_], _ => rfl⟩
    f_is_row := ⟨_, _, fun_mk (st := topS 15) l3 c3 k3, PySem.W.mg_of X G a3, (fun_mk (st := topS 15) l3 c3 k3).binds (ps := ["row"]) fun _ _ _ _ _ _ us hl => match us, hl with | [_], _ => rfl⟩
    f_need_rows := ⟨_, _, fun_mk (st := topS 16) l4 c4 k4, PySem.W.mg_of X G a4, (fun_mk (st := topS 16) l4 c4 k4).binds (ps := ["rows"]) fun _ _ _ _ _ _ us hl => match us, hl with | [_], _ => rfl⟩
    f_noted := ⟨_, _, fun_mk (st := topS 17) l5 c5 k5, PySem.W.mg_of X G a5, (fun_mk (st := topS 17) l5 c5 k5).binds (ps := ["blocks", "number", "words"]) fun _ _ _ _ _ _ us hl => match us, hl with | [_, _, _], _ => rfl⟩
    f_done := ⟨_, _, fun_mk (st := topS 18) l6 c6 k6, PySem.W.mg_of X G a6, (fun_mk (st := topS 18) l6 c6 k6).binds (ps := ["rows", "old"]) fun _ _ _ _ _ _ us hl => match us, hl with | [_, _], _ => rfl⟩
    f_other_kind := ⟨_, _, fun_mk (st := topS 19) l7 c7 k7, PySem.W.mg_of X G a7, (fun_mk (st := topS 19) l7 c7 k7).binds (ps := ["kind"]) fun _ _ _ _ _ _ us hl => match us, hl with | [_], _ => rfl⟩
    f_turned := ⟨_, _, fun_mk (st := topS 20) l8 c8 k8, PySem.W.mg_of X G a8, (fun_mk (st := topS 20) l8 c8 k8).binds (ps := ["rows"]) fun _ _ _ _ _ _ us hl => match us, hl with | [_], _ => rfl⟩
    f_law_cell_at := ⟨_, _, fun_mk (st := topS 22) l9 c9 k9, PySem.W.mg_of X G a9, (fun_mk (st := topS 22) l9 c9 k9).binds (ps := ["_law_script", "_law_k"]) fun _ _ _ _ _ _ us hl => match us, hl with | [_, _], _ => rfl⟩
    f_law_sign_by := ⟨_, _, fun_mk (st := topS 23) l10 c10 k10, PySem.W.mg_of X G a10, (fun_mk (st := topS 23) l10 c10 k10).binds (ps := ["_law_cell"]) fun _ _ _ _ _ _ us hl => match us, hl with | [_], _ => rfl⟩
    f_law_word_by := ⟨_, _, fun_mk (st := topS 24) l11 c11 k11, PySem.W.mg_of X G a11, (fun_mk (st := topS 24) l11 c11 k11).binds (ps := ["_law_cell"]) fun _ _ _ _ _ _ us hl => match us, hl with | [_], _ => rfl⟩
    f_law_near := ⟨_, _, fun_mk (st := topS 25) l12 c12 k12, PySem.W.mg_of X G a12, (fun_mk (st := topS 25) l12 c12 k12).binds (ps := ["_law_word", "_law_cell"]) fun _ _ _ _ _ _ us hl => match us, hl with | [_, _], _ => rfl⟩
    f_law_menu := ⟨_, _, fun_mk (st := topS 26) l13 c13 k13, PySem.W.mg_of X G a13, (fun_mk (st := topS 26) l13 c13 k13).binds (ps := ["_law_script"]) fun _ _ _ _ _ _ us hl => match us, hl with | [_], _ => rfl⟩
    f_law_built_row := ⟨_, _, fun_mk (st := topS 27) l14 c14 k14, PySem.W.mg_of X G a14, (fun_mk (st := topS 27) l14 c14 k14).binds (ps := ["_law_menu_here", "_law_cell", "_law_rows", "_law_waiting"]) fun _ _ _ _ _ _ us hl => match us, hl with | [_, _, _, _], _ => rfl⟩
    f_law_built := ⟨_, _, fun_mk (st := topS 28) l15 c15 k15, PySem.W.mg_of X G a15, (fun_mk (st := topS 28) l15 c15 k15).binds (ps := ["_law_script", "_law_many"]) fun _ _ _ _ _ _ us hl => match us, hl with | [_, _], _ => rfl⟩
    f_law_words_of := ⟨_, _, fun_mk (st := topS 29) l16 c16 k16, PySem.W.mg_of X G a16, (fun_mk (st := topS 29) l16 c16 k16).binds (ps := ["_law_rows", "_law_kinds"]) fun _ _ _ _ _ _ us hl => match us, hl with | [_, _], _ => rfl⟩
    f_law_alike := ⟨_, _, fun_mk (st := topS 30) l17 c17 k17, PySem.W.mg_of X G a17, (fun_mk (st := topS 30) l17 c17 k17).binds (ps := ["_law_found", "_law_due"]) fun _ _ _ _ _ _ us hl => match us, hl with | [_, _], _ => rfl⟩
    z_all := PySem.W.mg_none_of X G z_all
    z_bool := PySem.W.mg_none_of X G z_bool
    z_int := PySem.W.mg_none_of X G z_int
    z_isinstance := PySem.W.mg_none_of X G z_isinstance
    z_len := PySem.W.mg_none_of X G z_len
    z_list := PySem.W.mg_none_of X G z_list
    z_ord := PySem.W.mg_none_of X G z_ord
    z_range := PySem.W.mg_none_of X G z_range
    z_reversed := PySem.W.mg_none_of X G z_reversed
    z_str := PySem.W.mg_none_of X G z_str
    z_tuple := PySem.W.mg_none_of X G z_tuple
    g_LONGEST := gvk_int (PySem.W.mg_of X G g_LONGEST)
    g_MOST := gvk_int (PySem.W.mg_of X G g_MOST)
    g_KINDS := gvk_tup (xs := ["keep", "cut", "put", "take", "lay"]) (PySem.W.mg_of X G g_KINDS) gl_KINDS gc_KINDS gd_KINDS (show 5 ≤ sizeLine by decide) (.cons ⟨_, rfl⟩ (.cons ⟨_, rfl⟩ (.cons ⟨_, rfl⟩ (.cons ⟨_, rfl⟩ (.cons ⟨_, rfl⟩ .nil)))))
    i_KINDS := ⟨_, _, _, _, PySem.W.mg_of X G g_KINDS, gl_KINDS, gc_KINDS, gx_KINDS, gd_KINDS, (show 5 ≤ sizeLine by decide), (.cons ⟨_, rfl⟩ (.cons ⟨_, rfl⟩ (.cons ⟨_, rfl⟩ (.cons ⟨_, rfl⟩ (.cons ⟨_, rfl⟩ .nil)))))⟩
    g_HIGHEST := gvk_int (PySem.W.mg_of X G g_HIGHEST)
    e_NoWord := ⟨x_NoWord_q, PySem.W.mg_of X G x_NoWord_g, x_NoWord_k, x_NoWord_b, x_NoWord_t⟩
    e_TooLong := ⟨x_TooLong_q, PySem.W.mg_of X G x_TooLong_g, x_TooLong_k, x_TooLong_b, x_TooLong_t⟩
    e_NoRow := ⟨x_NoRow_q, PySem.W.mg_of X G x_NoRow_g, x_NoRow_k, x_NoRow_b, x_NoRow_t⟩
    e_NoFit := ⟨x_NoFit_q, PySem.W.mg_of X G x_NoFit_g, x_NoFit_k, x_NoFit_b, x_NoFit_t⟩
  }
  exact ⟨_, fun s v => .of_eq rfl, fun base _ _ => ⟨_, d_law T (fun_mk (st := topS 31) l18 c18 k18)⟩⟩
end DL.K04
open PySem PySem.W PyProof.Rows
set_option maxRecDepth 100000 in
set_option maxHeartbeats 0 in
theorem PySem.Challenge.cw_redraft_k04_a_telling_done_holds : PySem.Challenge.rw_redraft_k04_a_telling_done.Holds := by
  w_on; o_law; k_head; (case hw => w_witness2)
  k_fill
  refine DL.walk_d (l := PySem.Challenge.rw_redraft_k04_a_telling_done) (n := 63) (k := 6) (x := "_law_script") (f := DL.f_law_k04) rfl (by decide) rfl ⟨rfl, by decide, by decide⟩ (fun w h Y => PySem.W.kIn_of Y) ?F DL.law_ok_k04
  case F =>
    intro w mg fa h KX G hmg
    refine' DL.K04.all_mk KX G hmg ?a0 ?l0 ?c0 ?k0 ?a1 ?l1 ?c1 ?k1 ?a2 ?l2 ?c2 ?k2 ?a3 ?l3 ?c3 ?k3 ?a4 ?l4 ?c4 ?k4 ?a5 ?l5 ?c5 ?k5 ?a6 ?l6 ?c6 ?k6 ?a7 ?l7 ?c7 ?k7 ?a8 ?l8 ?c8 ?k8 ?a9 ?l9 ?c9 ?k9 ?a10 ?l10 ?c10 ?k10 ?a11 ?l11 ?c11 ?k11 ?a12 ?l12 ?c12 ?k12 ?a13 ?l13 ?c13 ?k13 ?a14 ?l14 ?c14 ?k14 ?a15 ?l15 ?c15 ?k15 ?a16 ?l16 ?c16 ?k16 ?a17 ?l17 ?c17 ?k17 ?a18 ?l18 ?c18 ?k18 ?z_all ?z_bool ?z_int ?z_isinstance ?z_len ?z_list ?z_ord ?z_range ?z_reversed ?z_str ?z_tuple ?g_LONGEST ?g_MOST ?g_KINDS ?gl_KINDS ?gc_KINDS ?gd_KINDS ?gx_KINDS ?g_HIGHEST ?x_NoWord_g ?x_NoWord_q ?x_NoWord_k ?x_NoWord_b ?x_NoWord_t ?x_TooLong_g ?x_TooLong_q ?x_TooLong_k ?x_TooLong_b ?x_TooLong_t ?x_NoRow_g ?x_NoRow_q ?x_NoRow_k ?x_NoRow_b ?x_NoRow_t ?x_NoFit_g ?x_NoFit_q ?x_NoFit_k ?x_NoFit_b ?x_NoFit_t
    (case a0 => k_is); (case l0 => k_is); (case c0 => k_is); (case k0 => k_is); (case a1 => k_is); (case l1 => k_is)
    (case c1 => k_is); (case k1 => k_is); (case a2 => k_is); (case l2 => k_is); (case c2 => k_is); (case k2 => k_is)
    (case a3 => k_is); (case l3 => k_is); (case c3 => k_is); (case k3 => k_is); (case a4 => k_is); (case l4 => k_is)
    (case c4 => k_is); (case k4 => k_is); (case a5 => k_is); (case l5 => k_is); (case c5 => k_is); (case k5 => k_is)
    (case a6 => k_is); (case l6 => k_is); (case c6 => k_is); (case k6 => k_is); (case a7 => k_is); (case l7 => k_is)
    (case c7 => k_is); (case k7 => k_is); (case a8 => k_is); (case l8 => k_is); (case c8 => k_is); (case k8 => k_is)
    (case a9 => k_is); (case l9 => k_is); (case c9 => k_is); (case k9 => k_is); (case a10 => k_is); (case l10 => k_is)
    (case c10 => k_is); (case k10 => k_is); (case a11 => k_is); (case l11 => k_is); (case c11 => k_is); (case k11 => k_is)
    (case a12 => k_is); (case l12 => k_is); (case c12 => k_is); (case k12 => k_is); (case a13 => k_is); (case l13 => k_is)
    (case c13 => k_is); (case k13 => k_is); (case a14 => k_is); (case l14 => k_is); (case c14 => k_is); (case k14 => k_is)
    (case a15 => k_is); (case l15 => k_is); (case c15 => k_is); (case k15 => k_is); (case a16 => k_is); (case l16 => k_is)
    (case c16 => k_is); (case k16 => k_is); (case a17 => k_is); (case l17 => k_is); (case c17 => k_is); (case k17 => k_is)
    (case a18 => k_is); (case l18 => k_is); (case c18 => k_is); (case k18 => k_is); (case z_all => k_is); (case z_bool => k_is)
    (case z_int => k_is); (case z_isinstance => k_is); (case z_len => k_is); (case z_list => k_is); (case z_ord => k_is); (case z_range => k_is)
    (case z_reversed => k_is); (case z_str => k_is); (case z_tuple => k_is); (case g_LONGEST => k_is); (case g_MOST => k_is); (case g_KINDS => k_is)
    (case gl_KINDS => k_is); (case gc_KINDS => exact rfl); (case gd_KINDS => exact rfl); (case gx_KINDS => exact rfl); (case g_HIGHEST => k_is); (case x_NoWord_g => k_is)
    (case x_NoWord_q => k_exc); (case x_NoWord_k => k_is); (case x_NoWord_b => k_is); (case x_NoWord_t => k_is); (case x_TooLong_g => k_is); (case x_TooLong_q => k_exc)
    (case x_TooLong_k => k_is); (case x_TooLong_b => k_is); (case x_TooLong_t => k_is); (case x_NoRow_g => k_is); (case x_NoRow_q => k_exc); (case x_NoRow_k => k_is)
    (case x_NoRow_b => k_is); (case x_NoRow_t => k_is); (case x_NoFit_g => k_is); (case x_NoFit_q => k_exc); (case x_NoFit_k => k_is); (case x_NoFit_b => k_is)
    (case x_NoFit_t => k_is)
