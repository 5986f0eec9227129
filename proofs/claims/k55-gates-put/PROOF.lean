import PyProof.Rows.All
import Wide.All
import OpenK.AllK
import Wide.FinOn
import PySem.Challenge.RW_beatwright_k55_gates_put
import HandS.ForMost
import HandS.ForExc
import HandS.TryOnly
import HandS.Defaults
import HandS.WordsExc
import HandS.TupAny
import HandS.Deep
import HandS.Dict
import HandS.Text
import HandS.Iter
import HandS.More
import HandS.Comp
import HandS.RevRange
import HandS.IsInst
import HandS.SetFor
import HandS.Conv
import HandS.SortInts
import KE.SortData
import KE.KDictDisplayH
import HandS.Head0
import HandS.Head1
import HandS.Head2
import HandS.HeadEnd
import HandS.HeadHook1
import HandS.HeadHook2
set_option Elab.async false
set_option linter.all false
set_option maxRecDepth 100000
set_option maxHeartbeats 8000000
/-! VL1: plain data, ghosts, states. -/
namespace Vd
open PySem PySem.Spec PyProof.Rows L2
/-! ### data -/
inductive D where
  | non | bl (b : Bool) | int (i : Int) | str (s : Str) | scr (ns : List Int)
  | lst (xs : List D) | tup (xs : List D) | ktp (xs : List D)
  | dic (kvs : List (Key × D)) | dit (kvs : List (List Key × D))
  | obj (n : Nat)
inductive Bw where
  | slot (i : Nat) | fld (n : Nat) (f : Str)
inductive R where
  | fz (d : D) | own (d : D) | bor (b : Bw) (d : D)
def R.d : R → D
  | .fz d => d
  | .own d => d
  | .bor _ d => d
inductive Ob where
  | ins (C : Str) (fs : List (Str × R)) | box (d : D) | dead
abbrev Om := List Ob
abbrev En := List (Option R)
inductive Out (α : Type) where
  | ok (a : α) (o : Om) | exn (c : Str) (o : Om) | bad
def Out.bind {α β : Type} (x : Out α) (k : α → Om → Out β) : Out β :=
  match x with
  | .ok a o => k a o
  | .exn c o => .exn c o
  | .bad => .bad
/-! ### ghosts -/
inductive Wr where
  | tmp | slot (i : Nat) | obj (n : Nat) | fld (n : Nat) (f : Str)
  deriving DecidableEq
/-- what is seen: lists and dicts that never change again, tuples, the objects' places -/
structure Gh where
  hf : Hp
  tf : Hp
  io : List Addr
structure G where
  gh : Gh
  fr : Hp
  ow : Addr → Option Wr
mutual
def Rep (K : PySem.W.Frag) (g : Gh) : D → V → Prop
  | .non, v => v = .non
  | .bl b, v => v = .bl b
  | .int i, v => v = .int i
  | .str s, v => v = .str s
  | .scr ns, v => ∃ a, v = .ref a ∧ SqL K g.hf a (ns.map V.int)
  | .lst xs, v => ∃ a vs, v = .ref a ∧ g.hf a = some (.lst vs) ∧ Reps K g xs vs
  | .tup xs, v => ∃ a vs, v = .ref a ∧ g.tf a = some (.tup vs) ∧ Reps K g xs vs
  | .ktp xs, v => ∃ a vs, v = .ref a ∧ SqT K g.tf a vs ∧ Reps K g xs vs
  | .dic kvs, v => ∃ a vs, v = .ref a ∧ g.hf a = some (.dK vs) ∧ RepK K g kvs vs
  | .dit kvs, v => ∃ a vs, v = .ref a ∧ g.hf a = some (.dT vs) ∧ RepT K g kvs vs
  | .obj n, v => ∃ a, g.io[n]? = some a ∧ v = .ref a
def Reps (K : PySem.W.Frag) (g : Gh) : List D → List V → Prop
  | [], vs => vs = []
  | d :: ds, vs => ∃ v r, vs = v :: r ∧ Rep K g d v ∧ Reps K g ds r
def RepK (K : PySem.W.Frag) (g : Gh) : List (Key × D) → List (Key × V) → Prop
  | [], vs => vs = []
  | (k, d) :: ds, vs => ∃ v r, vs = (k, v) :: r ∧ Rep K g d v ∧ RepK K g ds r
def RepT (K : PySem.W.Frag) (g : Gh) : List (List Key × D) → List (List Key × V) → Prop
  | [], vs => vs = []
  | (k, d) :: ds, vs => ∃ v r, vs = (k, v) :: r ∧ Rep K g d v ∧ RepT K g ds r
end
structure GLe (g g' : Gh) : Prop where
  hf : ∀ p o, g.hf p = some o → g'.hf p = some o
  tf : ∀ p o, g.tf p = some o → g'.tf p = some o
  io : ∃ l, g'.io = g.io ++ l
theorem GLe.refl (g : Gh) : GLe g g := ⟨fun _ _ h => h, fun _ _ h => h, [], by simp⟩
theorem GLe.trans {a b c : Gh} (h : GLe a b) (k : GLe b c) : GLe a c :=
  ⟨fun p o e => k.hf p o (h.hf p o e), fun p o e => k.tf p o (h.tf p o e), by
    obtain ⟨l, e⟩ := h.io
    obtain ⟨m, e'⟩ := k.io
    exact ⟨l ++ m, by rw [e', e, List.append_assoc]⟩⟩
theorem sqL_mono {K : PySem.W.Frag} {A B : Hp} (h : ∀ p o, A p = some o → B p = some o) {a : Addr} {xs : List V} (q : SqL K A a xs) : SqL K B a xs := by
  rcases q with (q | ⟨o, q⟩) | q
  · exact .inl (.inl (h _ _ q))
  · exact .inl (.inr ⟨o, h _ _ q⟩)
  · exact .inr q
theorem sqT_mono {K : PySem.W.Frag} {A B : Hp} (h : ∀ p o, A p = some o → B p = some o) {a : Addr} {xs : List V} (q : SqT K A a xs) : SqT K B a xs := by
  rcases q with (q | ⟨o, q⟩) | q
  · exact .inl (.inl (h _ _ q))
  · exact .inl (.inr ⟨o, h _ _ q⟩)
  · exact .inr q
theorem io_at {l m : List Addr} {n : Nat} {a : Addr} (h : l[n]? = some a) : (l ++ m)[n]? = some a := by
  rw [List.getElem?_append_left (List.getElem?_eq_some_iff.mp h).1]
  exact h
mutual
theorem Rep.mono {K : PySem.W.Frag} {g g' : Gh} (l : GLe g g') : ∀ {d : D} {v : V}, Rep K g d v → Rep K g' d v
  | .non, _, h => h
  | .bl _, _, h => h
  | .int _, _, h => h
  | .str _, _, h => h
  | .scr _, _, ⟨a, e, q⟩ => ⟨a, e, sqL_mono l.hf q⟩
  | .lst _, _, ⟨a, vs, e, q, r⟩ => ⟨a, vs, e, l.hf _ _ q, Reps.mono l r⟩
  | .tup _, _, ⟨a, vs, e, q, r⟩ => ⟨a, vs, e, l.tf _ _ q, Reps.mono l r⟩
  | .ktp _, _, ⟨a, vs, e, q, r⟩ => ⟨a, vs, e, sqT_mono l.tf q, Reps.mono l r⟩
  | .dic _, _, ⟨a, vs, e, q, r⟩ => ⟨a, vs, e, l.hf _ _ q, RepK.mono l r⟩
  | .dit _, _, ⟨a, vs, e, q, r⟩ => ⟨a, vs, e, l.hf _ _ q, RepT.mono l r⟩
  | .obj _, _, ⟨a, e, q⟩ => by
    obtain ⟨m, em⟩ := l.io
    exact ⟨a, by rw [em]; exact io_at e, q⟩
theorem Reps.mono {K : PySem.W.Frag} {g g' : Gh} (l : GLe g g') : ∀ {ds : List D} {vs : List V}, Reps K g ds vs → Reps K g' ds vs
  | [], _, h => h
  | _ :: _, _, ⟨v, r, e, h, t⟩ => ⟨v, r, e, Rep.mono l h, Reps.mono l t⟩
theorem RepK.mono {K : PySem.W.Frag} {g g' : Gh} (l : GLe g g') : ∀ {ds : List (Key × D)} {vs : List (Key × V)}, RepK K g ds vs → RepK K g' ds vs
  | [], _, h => h
  | (_, _) :: _, _, ⟨v, r, e, h, t⟩ => ⟨v, r, e, Rep.mono l h, RepK.mono l t⟩
theorem RepT.mono {K : PySem.W.Frag} {g g' : Gh} (l : GLe g g') : ∀ {ds : List (List Key × D)} {vs : List (List Key × V)}, RepT K g ds vs → RepT K g' ds vs
  | [], _, h => h
  | (_, _) :: _, _, ⟨v, r, e, h, t⟩ => ⟨v, r, e, Rep.mono l h, RepT.mono l t⟩
end
/-- what stands at p now -/
def Cont (K : PySem.W.Frag) (g : Gh) (H : Hp) (p : Addr) : D → Prop
  | .lst xs => ∃ vs, H p = some (.lst vs) ∧ Reps K g xs vs
  | .dic kvs => ∃ vs, H p = some (.dK vs) ∧ RepK K g kvs vs
  | .dit kvs => ∃ vs, H p = some (.dT vs) ∧ RepT K g kvs vs
  | _ => False
theorem Cont.mono {K : PySem.W.Frag} {g g' : Gh} {H H' : Hp} {p : Addr} (l : GLe g g') (h : ∀ o, H p = some o → H' p = some o) : ∀ {d : D}, Cont K g H p d → Cont K g' H' p d
  | .lst _, ⟨vs, e, r⟩ => ⟨vs, h _ e, r.mono l⟩
  | .dic _, ⟨vs, e, r⟩ => ⟨vs, h _ e, r.mono l⟩
  | .dit _, ⟨vs, e, r⟩ => ⟨vs, h _ e, r.mono l⟩
theorem Cont.some {K : PySem.W.Frag} {g : Gh} {H : Hp} {p : Addr} : ∀ {d : D}, Cont K g H p d → ∃ o, H p = some o
  | .lst _, ⟨_, e, _⟩ => ⟨_, e⟩
  | .dic _, ⟨_, e, _⟩ => ⟨_, e⟩
  | .dit _, ⟨_, e, _⟩ => ⟨_, e⟩
/-- frozen at p, it shows d -/
theorem Cont.rep {K : PySem.W.Frag} {g : Gh} {H : Hp} {p : Addr} : ∀ {d : D}, Cont K g H p d → (∀ o, H p = Option.some o → g.hf p = Option.some o) → Rep K g d (.ref p)
  | .lst _, ⟨vs, e, r⟩, h => ⟨p, vs, rfl, h _ e, r⟩
  | .dic _, ⟨vs, e, r⟩, h => ⟨p, vs, rfl, h _ e, r⟩
  | .dit _, ⟨vs, e, r⟩, h => ⟨p, vs, rfl, h _ e, r⟩
def RepOwn (K : PySem.W.Frag) (g : G) (H : Hp) (w : Wr) (d : D) (v : V) : Prop := ∃ p, v = .ref p ∧ g.ow p = some w ∧ Cont K g.gh H p d
/-- in a slot, in a field -/
def RepS (K : PySem.W.Frag) (g : G) (H : Hp) (w : Wr) : R → V → Prop
  | .fz d, v => Rep K g.gh d v
  | .own d, v => RepOwn K g H w d v
  | .bor _ _, _ => False
def FsRel (K : PySem.W.Frag) (g : G) (H : Hp) (n : Nat) : List (Str × R) → List (Str × V) → Prop
  | [], vs => vs = []
  | (f, r) :: fs, vs => ∃ v t, vs = (f, v) :: t ∧ RepS K g H (.fld n f) r v ∧ FsRel K g H n fs t
structure Sg where
  K : PySem.W.Frag
  ca : Str → Addr
def RepO (S : Sg) (g : G) (H : Hp) (n : Nat) (a : Addr) : Ob → Prop
  | .ins C fs => (fs.map (·.1)).Nodup ∧ ∃ dx vfs, H a = some (.ins (S.ca C) dx vfs) ∧ FsRel S.K g H n fs vfs
  | .box d => Cont S.K g.gh H a d
  | .dead => True
def isD : HO → Bool
  | .dK _ => true
  | .dT _ => true
  | _ => false
/-- it stands at p, a dict perhaps locked by a loop -/
def Ld (H : Hp) (p : Addr) (o : HO) : Prop := H p = some o ∨ (isD o = true ∧ ∃ ob, H p = some (.frz ob o))
theorem Ld.mono {H H' : Hp} {p : Addr} {o : HO} (l : Ld H p o) (h : ∀ u, H p = some u → H' p = some u) : Ld H' p o := by
  rcases l with e | ⟨a, ob, e⟩
  · exact .inl (h _ e)
  · exact .inr ⟨a, ob, h _ e⟩
theorem Ld.ne {H : Hp} {p : Addr} {o : HO} (l : Ld H p o) : H p ≠ none := by
  rcases l with e | ⟨a, ob, e⟩ <;> rw [e] <;> simp
theorem Ld.rd {H : Hp} {p : Addr} {o : HO} (l : Ld H p o) : Rd H p o := by
  rcases l with e | ⟨a, ob, e⟩
  · exact .inl e
  · exact .inr ⟨ob, e⟩
theorem Ld.ex {H : Hp} {p : Addr} {o : HO} (l : Ld H p o) (h : isD o = false) : H p = some o := by
  rcases l with e | ⟨a, _⟩
  · exact e
  · rw [h] at a; cases a
structure Stt (S : Sg) (g : G) (H : Hp) (σ : L2.St) (ρ : En) (ω : Om) : Prop where
  xf : ∀ p o, g.gh.hf p = some o → Ld H p o
  xt : ∀ p o, g.gh.tf p = some o → H p = some o ∧ ¬ Mut (some o)
  xr : ∀ p o, g.fr p = some o → H p = some o
  df : ∀ p w, g.ow p = some w → g.gh.hf p = none ∧ g.fr p = none ∧ Mut (H p)
  dj : ∀ p o, g.gh.hf p = some o → g.fr p = none
  len : σ.length = ρ.length
  sl : ∀ i r, ρ[i]? = some (some r) → ∃ v, σ[i]? = some (some v) ∧ RepS S.K g H (.slot i) r v
  ol : g.gh.io.length = ω.length
  ob : ∀ n o, ω[n]? = some o → o ≠ .dead → ∃ a, g.gh.io[n]? = some a ∧ g.ow a = some (.obj n) ∧ RepO S g H n a o
structure Le (g g' : G) : Prop where
  gh : GLe g.gh g'.gh
  fr : g'.fr = g.fr
theorem Le.refl (g : G) : Le g g := ⟨.refl _, rfl⟩
theorem Le.trans {a b c : G} (h : Le a b) (k : Le b c) : Le a c := ⟨h.gh.trans k.gh, k.fr.trans h.fr⟩
def updW (f : Addr → Option Wr) (a : Addr) (w : Option Wr) : Addr → Option Wr := fun b => if b = a then w else f b
theorem updW_same {f : Addr → Option Wr} {a : Addr} {w : Option Wr} : updW f a w a = w := if_pos rfl
theorem updW_ne {f : Addr → Option Wr} {a b : Addr} {w : Option Wr} (h : b ≠ a) : updW f a w b = f b := if_neg h

section
variable {S : Sg} {g g' : G} {H H' : Hp} {σ : L2.St} {ρ : En} {ω : Om} {d : D} {v : V} {w : Wr} {p : Addr} {i : Nat}
/-- an owned thing stays: its owner's mark, its content -/
theorem RepOwn.keep (l : GLe g.gh g'.gh) (h : ∀ p o, g.ow p = some w → H p = some o → g'.ow p = some w ∧ H' p = some o) (q : RepOwn S.K g H w d v) : RepOwn S.K g' H' w d v := by
  obtain ⟨p, e, o, c⟩ := q
  obtain ⟨u, hu⟩ := c.some
  exact ⟨p, e, (h p u o hu).1, c.mono l fun o' ho => (h p o' o ho).2⟩
theorem RepS.keep (l : GLe g.gh g'.gh) (h : ∀ p o, g.ow p = some w → H p = some o → g'.ow p = some w ∧ H' p = some o) : ∀ {r : R}, RepS S.K g H w r v → RepS S.K g' H' w r v
  | .fz _, q => Rep.mono l q
  | .own _, q => RepOwn.keep (S := S) l h q
theorem FsRel.keep {n : Nat} (l : GLe g.gh g'.gh) (h : ∀ p o f, g.ow p = some (.fld n f) → H p = some o → g'.ow p = some (.fld n f) ∧ H' p = some o) : ∀ {fs : List (Str × R)} {vs : List (Str × V)}, FsRel S.K g H n fs vs → FsRel S.K g' H' n fs vs
  | [], _, q => q
  | (f, r) :: fs, _, ⟨v, t, e, q, qs⟩ => ⟨v, t, e, RepS.keep (S := S) l (fun p o => h p o f) q, FsRel.keep l h qs⟩
theorem RepO.keep {n : Nat} {a : Addr} (l : GLe g.gh g'.gh) (ha : ∀ o, H a = some o → H' a = some o) (h : ∀ p o f, g.ow p = some (.fld n f) → H p = some o → g'.ow p = some (.fld n f) ∧ H' p = some o) :
    ∀ {o : Ob}, RepO S g H n a o → RepO S g' H' n a o
  | .ins C fs, ⟨nd, dx, vfs, e, q⟩ => ⟨nd, dx, vfs, ha _ e, FsRel.keep (S := S) l h q⟩
  | .box d, q => Cont.mono l ha q
  | .dead, _ => trivial
/-- more may be tracked -/
theorem Stt.ext (st : Stt S g H σ ρ ω) (h : ∀ p o, H p = some o → H' p = some o) : Stt S g H' σ ρ ω := by
  refine ⟨fun p o e => (st.xf p o e).mono (h p), fun p o e => ⟨h p o (st.xt p o e).1, (st.xt p o e).2⟩, fun p o e => h p o (st.xr p o e), fun p w e => ?_, st.dj, st.len, fun i r e => ?_, st.ol, fun n o e hd => ?_⟩
  · obtain ⟨a, b, c⟩ := st.df p w e
    refine ⟨a, b, ?_⟩
    cases q : H p with
    | none => rw [q] at c; exact c.elim
    | some u => rw [h p u q, ← q]; exact c
  · obtain ⟨v, e1, q⟩ := st.sl i r e
    exact ⟨v, e1, q.keep (S := S) (.refl _) fun p o a b => ⟨a, h p o b⟩⟩
  · obtain ⟨a, e1, e2, q⟩ := st.ob n o e hd
    exact ⟨a, e1, e2, q.keep (S := S) (.refl _) (fun o => h a o) fun p o f a b => ⟨a, h p o b⟩⟩
theorem new_mono {o : HO} (hp : H p = none) : ∀ b u, H b = some u → upd H p o b = some u := fun b u e => by
  rw [upd_ne (ne_of_none e hp)]
  exact e
/-- a new owned object -/
theorem Stt.newOwn {o : HO} (st : Stt S g H σ ρ ω) (hp : H p = none) (mu : Mut (some o)) : Stt S { g with ow := updW g.ow p (some .tmp) } (upd H p o) σ ρ ω := by
  have st' := st.ext (H' := upd H p o) (new_mono hp)
  have ne : ∀ b w, g.ow b = some w → b ≠ p := fun b w e z => by
    have c := (st.df b w e).2.2
    rw [z, hp] at c
    exact c.elim
  refine ⟨st'.xf, st'.xt, st'.xr, fun b w e => ?_, st'.dj, st'.len, fun i r e => ?_, st'.ol, fun n o e hd => ?_⟩
  · by_cases hb : b = p
    · subst hb
      refine ⟨?_, ?_, by rw [upd_same]; exact mu⟩
      · cases q : g.gh.hf b with
        | none => rfl
        | some u => exact absurd hp (st.xf b u q).ne
      · cases q : g.fr b with
        | none => rfl
        | some u => rw [st.xr b u q] at hp; cases hp
    · exact st'.df b w (by rw [← e]; exact (updW_ne hb).symm)
  · obtain ⟨v, e1, q⟩ := st'.sl i r e
    exact ⟨v, e1, q.keep (S := S) (g := g) (g' := { g with ow := updW g.ow p (some .tmp) }) (.refl _) fun b o a c => ⟨(updW_ne (ne b _ a)).trans a, c⟩⟩
  · obtain ⟨a, e1, e2, q⟩ := st'.ob n o e hd
    exact ⟨a, e1, (updW_ne (ne a _ e2)).trans e2, q.keep (S := S) (g := g) (g' := { g with ow := updW g.ow p (some .tmp) }) (.refl _) (fun _ h => h) fun b o f a c => ⟨(updW_ne (ne b _ a)).trans a, c⟩⟩
/-- a new tuple -/
theorem Stt.newTup {vs : List V} (st : Stt S g H σ ρ ω) (hp : H p = none) :
    Le g { g with gh := { g.gh with tf := upd g.gh.tf p (.tup vs) } } ∧ Stt S { g with gh := { g.gh with tf := upd g.gh.tf p (.tup vs) } } (upd H p (.tup vs)) σ ρ ω := by
  have hn : g.gh.tf p = none := by
    cases q : g.gh.tf p with
    | none => rfl
    | some u => rw [(st.xt p u q).1] at hp; cases hp
  have l : Le g { g with gh := { g.gh with tf := upd g.gh.tf p (.tup vs) } } := ⟨⟨fun _ _ e => e, new_mono hn, [], by simp⟩, rfl⟩
  have st' := st.ext (H' := upd H p (.tup vs)) (new_mono hp)
  refine ⟨l, st'.xf, fun b o e => ?_, st'.xr, st'.df, st'.dj, st'.len, fun i r e => ?_, st'.ol, fun n o e hd => ?_⟩
  · by_cases hb : b = p
    · subst hb
      have e : upd g.gh.tf b (.tup vs) b = some o := e
      rw [upd_same] at e ⊢
      refine ⟨e, ?_⟩
      rw [← e]
      exact fun z => z
    · have e : upd g.gh.tf p (.tup vs) b = some o := e
      rw [upd_ne hb] at e
      exact st'.xt b o e
  · obtain ⟨v, e1, q⟩ := st'.sl i r e
    exact ⟨v, e1, q.keep (S := S) l.gh fun _ _ a c => ⟨a, c⟩⟩
  · obtain ⟨a, e1, e2, q⟩ := st'.ob n o e hd
    exact ⟨a, e1, e2, q.keep (S := S) l.gh (fun _ h => h) fun _ _ _ a c => ⟨a, c⟩⟩
/-- what nobody else holds is frozen -/
theorem Stt.frzAt {o : HO} (st : Stt S g H σ ρ ω) (hw : g.ow p = some w) (ho : H p = some o) (hn : ∀ i, w = .slot i → ∀ d, ρ[i]? ≠ some (some (.own d))) (hn2 : w = .tmp ∨ ∃ i, w = .slot i) :
    Le g ⟨{ g.gh with hf := upd g.gh.hf p o }, g.fr, updW g.ow p none⟩ ∧ Stt S ⟨{ g.gh with hf := upd g.gh.hf p o }, g.fr, updW g.ow p none⟩ H σ ρ ω := by
  obtain ⟨d1, d2, d3⟩ := st.df p w hw
  have l : Le g ⟨{ g.gh with hf := upd g.gh.hf p o }, g.fr, updW g.ow p none⟩ := ⟨⟨new_mono d1, fun _ _ e => e, [], by simp⟩, rfl⟩
  have neW : ∀ b w', g.ow b = some w' → w' ≠ w → b ≠ p := fun b w' e h z => by
    rw [z, hw] at e
    exact h (Option.some.inj e).symm
  refine ⟨l, fun b u e => ?_, st.xt, st.xr, fun b w' e => ?_, fun b u e => ?_, st.len, fun i r e => ?_, st.ol, fun n o e hd => ?_⟩
  · have e : upd g.gh.hf p o b = some u := e
    by_cases hb : b = p
    · subst hb
      rw [upd_same] at e
      exact .inl (by rw [ho]; exact e)
    · rw [upd_ne hb] at e
      exact st.xf b u e
  · have e : updW g.ow p none b = some w' := e
    by_cases hb : b = p
    · subst hb
      rw [updW_same] at e
      cases e
    · rw [updW_ne hb] at e
      obtain ⟨a1, a2, a3⟩ := st.df b w' e
      exact ⟨(upd_ne hb).trans a1, a2, a3⟩
  · have e : upd g.gh.hf p o b = some u := e
    by_cases hb : b = p
    · subst hb
      exact d2
    · rw [upd_ne hb] at e
      exact st.dj b u e
  · obtain ⟨v, e1, q⟩ := st.sl i r e
    refine ⟨v, e1, ?_⟩
    cases r with
    | fz d => exact Rep.mono l.gh q
    | own d =>
      have ne : Wr.slot i ≠ w := fun z => hn i z.symm d e
      exact RepOwn.keep (S := S) l.gh (fun b u a c => ⟨(updW_ne (neW b _ a ne)).trans a, c⟩) q
    | bor _ _ => exact q
  · obtain ⟨a, e1, e2, q⟩ := st.ob n o e hd
    have ne1 : ∀ m, Wr.obj m ≠ w := fun m z => by
      rcases hn2 with h | ⟨i, h⟩ <;> rw [h] at z <;> cases z
    have ne2 : ∀ m f, Wr.fld m f ≠ w := fun m f z => by
      rcases hn2 with h | ⟨i, h⟩ <;> rw [h] at z <;> cases z
    exact ⟨a, e1, (updW_ne (neW a _ e2 (ne1 n))).trans e2, q.keep (S := S) l.gh (fun _ h => h) fun b u f a c => ⟨(updW_ne (neW b _ a (ne2 n f))).trans a, c⟩⟩
theorem Stt.freeze (st : Stt S g H σ ρ ω) (q : RepOwn S.K g H .tmp d v) : ∃ g', Le g g' ∧ Stt S g' H σ ρ ω ∧ Rep S.K g'.gh d v := by
  obtain ⟨p, rfl, hw, c⟩ := q
  obtain ⟨o, ho⟩ := c.some
  obtain ⟨l, st'⟩ := st.frzAt hw ho (fun i z => by cases z) (.inl rfl)
  refine ⟨_, l, st', (c.mono (H' := H) l.gh fun _ h => h).rep fun u hu => ?_⟩
  show upd g.gh.hf p o p = some u
  rw [upd_same, ← hu, ho]
/-- a slot is forgotten -/
theorem Stt.forget (st : Stt S g H σ ρ ω) (i : Nat) : Stt S g H σ (ρ.set i none) ω := by
  refine ⟨st.xf, st.xt, st.xr, st.df, st.dj, by rw [List.length_set]; exact st.len, fun j r e => ?_, st.ol, st.ob⟩
  rw [List.getElem?_set] at e
  split at e
  · split at e <;> cases e
  · exact st.sl j r e
theorem Stt.setFz (st : Stt S g H σ ρ ω) (q : Rep S.K g.gh d v) (i : Nat) : Stt S g H (σ.set i (some v)) (ρ.set i (some (.fz d))) ω := by
  refine ⟨st.xf, st.xt, st.xr, st.df, st.dj, by rw [List.length_set, List.length_set]; exact st.len, fun j r e => ?_, st.ol, st.ob⟩
  rw [List.getElem?_set] at e
  split at e
  · rename_i h
    subst h
    split at e
    · rename_i h2
      have e : R.fz d = r := Option.some.inj (Option.some.inj e)
      subst e
      refine ⟨v, ?_, q⟩
      rw [List.getElem?_set_self (by rw [st.len]; exact h2)]
    · cases e
  · rename_i h
    obtain ⟨u, e1, q1⟩ := st.sl j r e
    exact ⟨u, by rw [List.getElem?_set_ne h]; exact e1, q1⟩
/-- the mark of an owned thing is changed from tmp to that of a slot or a field -/
theorem Stt.setOwn (st : Stt S g H σ ρ ω) (q : RepOwn S.K g H .tmp d v) (i : Nat) : ∃ g', Le g g' ∧ Stt S g' H (σ.set i (some v)) (ρ.set i (some (.own d))) ω := by
  obtain ⟨p, rfl, hw, c⟩ := q
  have l : Le g { g with ow := updW g.ow p (some (.slot i)) } := ⟨.refl _, rfl⟩
  have neW : ∀ b w', g.ow b = some w' → w' ≠ .tmp → b ≠ p := fun b w' e h z => by
    rw [z, hw] at e
    exact h (Option.some.inj e).symm
  refine ⟨_, l, st.xf, st.xt, st.xr, fun b w' e => ?_, st.dj, by rw [List.length_set, List.length_set]; exact st.len, fun j r e => ?_, st.ol, fun n o e hd => ?_⟩
  · by_cases hb : b = p
    · subst hb
      exact st.df b _ hw
    · exact st.df b w' (by rw [← e]; exact (updW_ne hb).symm)
  · rw [List.getElem?_set] at e
    split at e
    · rename_i h
      subst h
      split at e
      · rename_i h2
        have e : R.own d = r := Option.some.inj (Option.some.inj e)
        subst e
        refine ⟨.ref p, ?_, p, rfl, updW_same, c⟩
        rw [List.getElem?_set_self (by rw [st.len]; exact h2)]
      · cases e
    · rename_i h
      obtain ⟨u, e1, q1⟩ := st.sl j r e
      refine ⟨u, by rw [List.getElem?_set_ne h]; exact e1, q1.keep (S := S) (g := g) (g' := { g with ow := updW g.ow p (some (.slot i)) }) (.refl _) fun b o a c => ⟨(updW_ne (neW b _ a (by simp))).trans a, c⟩⟩
  · obtain ⟨a, e1, e2, q⟩ := st.ob n o e hd
    exact ⟨a, e1, (updW_ne (neW a _ e2 (by simp))).trans e2, q.keep (S := S) (g := g) (g' := { g with ow := updW g.ow p (some (.slot i)) }) (.refl _) (fun _ h => h) fun b o f a c => ⟨(updW_ne (neW b _ a (by simp))).trans a, c⟩⟩
/-- an owned slot is frozen -/
theorem Stt.frzSlot (st : Stt S g H σ ρ ω) (e : ρ[i]? = some (some (.own d))) : ∃ g', Le g g' ∧ Stt S g' H σ (ρ.set i (some (.fz d))) ω := by
  obtain ⟨v, ev, p, rfl, hw, c⟩ := st.sl i _ e
  obtain ⟨o, ho⟩ := c.some
  have hi : i < ρ.length := (List.getElem?_eq_some_iff.mp e).1
  obtain ⟨l, st'⟩ := (st.forget i).frzAt hw ho (fun j z d' => by
    cases z
    rw [List.getElem?_set_self hi]
    simp) (.inr ⟨i, rfl⟩)
  have r : Rep S.K ({ g.gh with hf := upd g.gh.hf p o } : Gh) d (.ref p) := (c.mono (H' := H) l.gh fun _ h => h).rep fun u hu => by
    show upd g.gh.hf p o p = some u
    rw [upd_same, ← hu, ho]
  have st2 := st'.setFz r i
  have es : σ.set i (some (.ref p)) = σ := by
    refine List.ext_getElem? fun j => ?_
    rw [List.getElem?_set]
    split
    · rename_i h
      subst h
      rw [ev]
      split
      · rfl
      · rename_i h2
        exact absurd (by rw [st.len]; exact hi) h2
    · rfl
  rw [es, List.set_set] at st2
  exact ⟨_, l, st2⟩
/-- an owned slot's object is changed -/
theorem Cont.mut {K : PySem.W.Frag} {g : Gh} : ∀ {d : D}, Cont K g H p d → Mut (H p)
  | .lst _, ⟨_, e, _⟩ => by rw [e]; trivial
  | .dic _, ⟨_, e, _⟩ => by rw [e]; trivial
  | .dit _, ⟨_, e, _⟩ => by rw [e]; trivial
/-- the object at p, owned by w, is changed: all that w does not own stays -/
theorem Stt.wr {o' : HO} (st : Stt S g H σ ρ ω) (hw : g.ow p = some w) (mu : Mut (some o')) :
    (∀ b u, g.gh.hf b = some u → Ld (upd H p o') b u) ∧ (∀ b u, g.gh.tf b = some u → upd H p o' b = some u ∧ ¬ Mut (some u)) ∧ (∀ b u, g.fr b = some u → upd H p o' b = some u) ∧
    (∀ b w', g.ow b = some w' → g.gh.hf b = none ∧ g.fr b = none ∧ Mut (upd H p o' b)) ∧ (∀ b w', g.ow b = some w' → w' ≠ w → ∀ u, H b = some u → g.ow b = some w' ∧ upd H p o' b = some u) := by
  obtain ⟨d1, d2, d3⟩ := st.df p _ hw
  refine ⟨fun b u e => ?_, fun b u e => ?_, fun b u e => ?_, fun b w' e => ?_, fun b w' e h u hu => ⟨e, ?_⟩⟩
  · exact (st.xf b u e).mono fun z hz => by rw [upd_ne (ne_of_none e d1)]; exact hz
  · obtain ⟨a, m⟩ := st.xt b u e
    refine ⟨?_, m⟩
    rw [upd_ne fun z => ?_]
    · exact a
    · rw [z] at a
      rw [a] at d3
      exact m d3
  · rw [upd_ne (ne_of_none e d2)]
    exact st.xr b u e
  · obtain ⟨a1, a2, a3⟩ := st.df b w' e
    refine ⟨a1, a2, ?_⟩
    by_cases hb : b = p
    · subst hb
      rw [upd_same]
      exact mu
    · rw [upd_ne hb]
      exact a3
  · rw [upd_ne fun z => ?_]
    · exact hu
    · rw [z, hw] at e
      exact h (Option.some.inj e).symm
theorem Stt.write {o' : HO} {d' : D} (st : Stt S g H σ ρ ω) (e : ρ[i]? = some (some (.own d))) (ev : σ[i]? = some (some (.ref p))) (hw : g.ow p = some (.slot i)) (c : Cont S.K g.gh (upd H p o') p d') :
    Stt S g (upd H p o') σ (ρ.set i (some (.own d'))) ω := by
  have mu : Mut (some o') := by
    have m := c.mut
    rw [upd_same] at m
    exact m
  obtain ⟨w1, w2, w3, w4, w5⟩ := st.wr hw mu
  have hi : i < ρ.length := (List.getElem?_eq_some_iff.mp e).1
  refine ⟨w1, w2, w3, w4, st.dj, by rw [List.length_set]; exact st.len, fun j r ej => ?_, st.ol, fun n o en hd => ?_⟩
  · rw [List.getElem?_set] at ej
    split at ej
    · rename_i h
      subst h
      have ej : R.own d' = r := by
        first
          | exact Option.some.inj (Option.some.inj ej)
          | (rw [if_pos hi] at ej; exact Option.some.inj (Option.some.inj ej))
      subst ej
      exact ⟨.ref p, ev, p, rfl, hw, c⟩
    · rename_i h
      obtain ⟨u, e1, q1⟩ := st.sl j r ej
      exact ⟨u, e1, q1.keep (S := S) (.refl _) fun b o a hb => w5 b _ a (fun z => h (by cases z; rfl)) o hb⟩
  · obtain ⟨a, e1, e2, q⟩ := st.ob n o en hd
    exact ⟨a, e1, e2, q.keep (S := S) (.refl _) (fun o hb => (w5 a _ e2 (by simp) o hb).2) fun b o f x hb => w5 b _ x (by simp) o hb⟩
/-- an owned slot, where it lies -/
theorem Stt.ownAt (st : Stt S g H σ ρ ω) (e : ρ[i]? = some (some (.own d))) : ∃ p, σ[i]? = some (some (.ref p)) ∧ g.ow p = some (.slot i) ∧ Cont S.K g.gh H p d := by
  obtain ⟨v, ev, p, rfl, hw, c⟩ := st.sl i _ e
  exact ⟨p, ev, hw, c⟩
/-! ### calls -/
/-- what a callee may not touch: the caller's own things -/
def pin (w : Option Wr) : Bool := match w with
  | some .tmp => true
  | some (.slot _) => true
  | _ => false
def G.callee (g : G) (H : Hp) : G := ⟨g.gh, fun p => if pin (g.ow p) = true then H p else g.fr p, fun p => if pin (g.ow p) = true then none else g.ow p⟩
def G.back (g g' : G) : G := ⟨g'.gh, g.fr, fun p => if pin (g.ow p) = true then g.ow p else g'.ow p⟩
theorem pin_some {o : Option Wr} (h : pin o = true) : ∃ w, o = some w := by
  cases o with
  | none => cases h
  | some w => exact ⟨w, rfl⟩
theorem Stt.call (st : Stt S g H σ ρ ω) : Stt S (g.callee H) H [] [] ω := by
  refine ⟨st.xf, st.xt, fun p o e => ?_, fun p w e => ?_, fun p o e => ?_, rfl, fun i r e => by simp at e, st.ol, fun n o e hd => ?_⟩
  · have e : (if pin (g.ow p) = true then H p else g.fr p) = some o := e
    split at e
    · exact e
    · exact st.xr p o e
  · have e : (if pin (g.ow p) = true then none else g.ow p) = some w := e
    split at e
    · cases e
    · rename_i h
      obtain ⟨a, b, c⟩ := st.df p w e
      exact ⟨a, (if_neg h).trans b, c⟩
  · show (if pin (g.ow p) = true then H p else g.fr p) = none
    split
    · rename_i h
      obtain ⟨w, hw⟩ := pin_some h
      have e : g.gh.hf p = some o := e
      rw [(st.df p w hw).1] at e
      cases e
    · exact st.dj p o e
  · obtain ⟨a, e1, e2, q⟩ := st.ob n o e hd
    have e3 : ∀ b w, g.ow b = some w → pin (some w) = false → (g.callee H).ow b = some w := fun b w h k => by
      show (if pin (g.ow b) = true then none else g.ow b) = some w
      rw [h, if_neg (by rw [k]; simp)]
    exact ⟨a, e1, e3 a _ e2 rfl, q.keep (S := S) (g := g) (g' := g.callee H) (.refl _) (fun _ h => h) fun b o f x hb => ⟨e3 b _ x rfl, hb⟩⟩
theorem Stt.ret {ω' : Om} (st : Stt S g H σ ρ ω) (l : Le (g.callee H) g') (st' : Stt S g' H' [] [] ω') :
    Le g (g.back g') ∧ Stt S (g.back g') H' σ ρ ω' ∧ ∀ d v, RepOwn S.K g' H' .tmp d v → RepOwn S.K (g.back g') H' .tmp d v := by
  have fr' : ∀ p, g'.fr p = if pin (g.ow p) = true then H p else g.fr p := fun p => by rw [l.fr]; rfl
  have npin : ∀ p w, g'.ow p = some w → ¬ pin (g.ow p) = true := fun p w e h => by
    obtain ⟨w0, h0⟩ := pin_some h
    have z := (st'.df p w e).2.1
    rw [fr', if_pos h] at z
    have m := (st.df p w0 h0).2.2
    rw [z] at m
    exact m
  have ow1 : ∀ p w, g'.ow p = some w → (g.back g').ow p = some w := fun p w e => (if_neg (npin p w e)).trans e
  have same : ∀ p, pin (g.ow p) = true → ∀ o, H p = some o → H' p = some o := fun p h o e => st'.xr p o (by rw [fr', if_pos h]; exact e)
  have hfn : ∀ p, pin (g.ow p) = true → g'.gh.hf p = none := fun p h => by
    obtain ⟨w0, h0⟩ := pin_some h
    cases q : g'.gh.hf p with
    | none => rfl
    | some u =>
      have z := st'.dj p u q
      rw [fr', if_pos h] at z
      have m := (st.df p w0 h0).2.2
      rw [z] at m
      exact m.elim
  refine ⟨⟨l.gh, rfl⟩, ⟨st'.xf, st'.xt, fun p o e => ?_, fun p w e => ?_, fun p o e => ?_, st.len, fun i r e => ?_, st'.ol, fun n o e hd => ?_⟩, ?_⟩
  · refine st'.xr p o ?_
    rw [fr', if_neg fun h => ?_]
    · exact e
    · obtain ⟨w0, h0⟩ := pin_some h
      have e : g.fr p = some o := e
      rw [(st.df p w0 h0).2.1] at e
      cases e
  · have e : (if pin (g.ow p) = true then g.ow p else g'.ow p) = some w := e
    by_cases h : pin (g.ow p) = true
    · rw [if_pos h] at e
      obtain ⟨a, b, c⟩ := st.df p w e
      refine ⟨hfn p h, b, ?_⟩
      cases q : H p with
      | none => rw [q] at c; exact c.elim
      | some u => rw [same p h u q, ← q]; exact c
    · rw [if_neg h] at e
      obtain ⟨a, b, c⟩ := st'.df p w e
      rw [fr', if_neg h] at b
      exact ⟨a, b, c⟩
  · have z := st'.dj p o e
    rw [fr'] at z
    by_cases h : pin (g.ow p) = true
    · obtain ⟨w0, h0⟩ := pin_some h
      exact (st.df p w0 h0).2.1
    · rw [if_neg h] at z
      exact z
  · obtain ⟨v, e1, q⟩ := st.sl i r e
    refine ⟨v, e1, q.keep (S := S) (g := g) (g' := g.back g') l.gh fun b o a c => ?_⟩
    have hp : pin (g.ow b) = true := by rw [a]; rfl
    exact ⟨(if_pos hp).trans a, same b hp o c⟩
  · obtain ⟨a, e1, e2, q⟩ := st'.ob n o e hd
    exact ⟨a, e1, ow1 _ _ e2, q.keep (S := S) (g := g') (g' := g.back g') (.refl _) (fun _ h => h) fun b o f x hb => ⟨ow1 _ _ x, hb⟩⟩
  · rintro d v ⟨p, rfl, hw, c⟩
    exact ⟨p, rfl, ow1 _ _ hw, c⟩
end
end Vd
/-! VL2: what an expression's value is, by data; the lifted readings. -/
namespace Vd
open PySem PySem.Spec PyProof.Rows L2
abbrev DE := En → Om → Out R
section
variable (S : Sg) (W : WX)
def RepR (g : G) (H : Hp) (σ : L2.St) (ρ : En) (ω : Om) : R → V → Prop
  | .fz d, v => Rep S.K g.gh d v
  | .own d, v => RepOwn S.K g H .tmp d v
  | .bor (.slot i) d, v => ρ[i]? = some (some (.own d)) ∧ σ[i]? = some (some v)
  | .bor (.fld n f) d, v => ∃ C fs a dx vfs, ω[n]? = some (.ins C fs) ∧ fs.lookup f = some (.own d) ∧ g.gh.io[n]? = some a ∧ H a = some (.ins (S.ca C) dx vfs) ∧ vfs.lookup f = some v
def PostE (g : G) (σ : L2.St) (ρ : En) (Q : VK) : Out R → Prop
  | .ok r ω => ∀ g' H' v, Le g g' → Stt S g' H' σ ρ ω → RepR S g' H' σ ρ ω r v → Q v H'
  | .exn c ω => ∀ g' H', Le g g' → Stt S g' H' σ ρ ω → W (.ref (S.ca c)) none σ H'
  | .bad => False
def upE (f : DE) : TE := fun σ H Q => ∃ g ρ ω, Stt S g H σ ρ ω ∧ PostE S W g σ ρ Q (f ρ ω)
/-- a test -/
abbrev DT := En → Om → Out Bool
def PostT (g : G) (σ : L2.St) (ρ : En) (Q : Bool → Hp → Prop) : Out Bool → Prop
  | .ok b ω => ∀ g' H', Le g g' → Stt S g' H' σ ρ ω → Q b H'
  | .exn c ω => ∀ g' H', Le g g' → Stt S g' H' σ ρ ω → W (.ref (S.ca c)) none σ H'
  | .bad => False
def upT (f : DT) : TT := fun σ H Q => ∃ g ρ ω, Stt S g H σ ρ ω ∧ PostT S W g σ ρ Q (f ρ ω)
/-- arguments -/
abbrev DA := En → Om → Out (List D)
def PostA (g : G) (σ : L2.St) (ρ : En) (Q : List V → Hp → Prop) : Out (List D) → Prop
  | .ok ds ω => ∀ g' H' vs, Le g g' → Stt S g' H' σ ρ ω → Reps S.K g'.gh ds vs → Q vs H'
  | .exn c ω => ∀ g' H', Le g g' → Stt S g' H' σ ρ ω → W (.ref (S.ca c)) none σ H'
  | .bad => False
def upA (f : DA) : TA := fun σ H Q => ∃ g ρ ω, Stt S g H σ ρ ω ∧ PostA S W g σ ρ Q (f ρ ω)
abbrev VE (X : Cx) (e : Expr) (f : DE) : Prop := PE X e (upE S W f)
abbrev VT (X : Cx) (e : Expr) (f : DT) : Prop := PT X e (upT S W f)
abbrev VA (X : Cx) (es : List Expr) (f : DA) : Prop := PA X es (upA S W f)
end
theorem _root_.L2.PE.imp {X : Cx} {e : Expr} {t t' : TE} (h : PE X e t) (w : ∀ σ H Q, t' σ H Q → t σ H Q) : PE X e t' := ⟨fun pins s σ H Q I q => h.run pins s σ H Q I (w σ H Q q)⟩
theorem _root_.L2.PT.imp {X : Cx} {e : Expr} {t t' : TT} (h : PT X e t) (w : ∀ σ H Q, t' σ H Q → t σ H Q) : PT X e t' := ⟨fun pins s σ H Q I q => h.run pins s σ H Q I (w σ H Q q)⟩
theorem _root_.L2.PA.imp {X : Cx} {es : List Expr} {t t' : TA} (h : PA X es t) (w : ∀ σ H Q, t' σ H Q → t σ H Q) : PA X es t' := ⟨fun pos pins s σ H Q I q => h.run pos pins s σ H Q I (w σ H Q q)⟩
section
variable {S : Sg} {W : WX} {g g' : G} {H H' : Hp} {σ : L2.St} {ρ : En} {ω : Om} {d : D} {v : V}
theorem PostE.mono {Q : VK} (l : Le g g') : ∀ {o : Out R}, PostE S W g σ ρ Q o → PostE S W g' σ ρ Q o
  | .ok _ _, h => fun g2 H2 v l2 => h g2 H2 v (l.trans l2)
  | .exn _ _, h => fun g2 H2 l2 => h g2 H2 (l.trans l2)
theorem PostT.mono {Q : Bool → Hp → Prop} (l : Le g g') : ∀ {o : Out Bool}, PostT S W g σ ρ Q o → PostT S W g' σ ρ Q o
  | .ok _ _, h => fun g2 H2 l2 => h g2 H2 (l.trans l2)
  | .exn _ _, h => fun g2 H2 l2 => h g2 H2 (l.trans l2)
theorem PostA.mono {Q : List V → Hp → Prop} (l : Le g g') : ∀ {o : Out (List D)}, PostA S W g σ ρ Q o → PostA S W g' σ ρ Q o
  | .ok _ _, h => fun g2 H2 v l2 => h g2 H2 v (l.trans l2)
  | .exn _ _, h => fun g2 H2 l2 => h g2 H2 (l.trans l2)
/-- v shows d now -/
def Pk (S : Sg) (g : G) (H : Hp) (d : D) (v : V) : Prop := Rep S.K g.gh d v ∨ ∃ w, RepOwn S.K g H w d v
theorem FsRel.at {n : Nat} {f : Str} {r : R} : ∀ {fs : List (Str × R)} {vs : List (Str × V)}, FsRel S.K g H n fs vs → fs.lookup f = some r → ∃ v, vs.lookup f = some v ∧ RepS S.K g H (.fld n f) r v
  | [], _, _, e => by cases e
  | (k, q) :: fs, _, ⟨v, t, e, h, hs⟩, el => by
    subst e
    by_cases hk : (f == k) = true
    · have e1 : k = f := (eq_of_beq hk).symm
      subst e1
      simp only [List.lookup, beq_self_eq_true] at el ⊢
      cases el
      exact ⟨v, rfl, h⟩
    · have hk : (f == k) = false := by simpa using hk
      simp only [List.lookup, hk] at el ⊢
      exact FsRel.at hs el
theorem RepR.pk (st : Stt S g H σ ρ ω) : ∀ {r : R}, RepR S g H σ ρ ω r v → Pk S g H r.d v
  | .fz _, h => .inl h
  | .own _, h => .inr ⟨_, h⟩
  | .bor (.slot i) d, ⟨e1, e2⟩ => by
    obtain ⟨p, ev, hw, c⟩ := st.ownAt e1
    rw [e2] at ev
    have ev : v = .ref p := Option.some.inj (Option.some.inj ev)
    exact .inr ⟨_, p, ev, hw, c⟩
  | .bor (.fld n f) d, ⟨C, fs, a, dx, vfs, e1, e2, e3, e4, e5⟩ => by
    obtain ⟨a', i1, i2, _, dx', vfs', i3, q⟩ := st.ob n _ e1 (by simp)
    rw [e3] at i1
    cases i1
    rw [e4] at i3
    cases i3
    obtain ⟨u, h1, h2⟩ := q.at e2
    rw [e5] at h1
    cases h1
    exact .inr ⟨_, h2⟩
/-- a fresh thing is frozen, else as it is -/
def R.nrm : R → R
  | .own d => .fz d
  | r => r
def R.isF : R → Bool
  | .bor (.fld _ _) _ => true
  | _ => false
theorem R.nrm_d : ∀ r : R, r.nrm.d = r.d
  | .fz _ => rfl
  | .own _ => rfl
  | .bor _ _ => rfl
theorem RepR.norm (st : Stt S g H σ ρ ω) : ∀ {r : R}, RepR S g H σ ρ ω r v → ∃ g', Le g g' ∧ Stt S g' H σ ρ ω ∧ RepR S g' H σ ρ ω r.nrm v
  | .fz _, h => ⟨g, .refl _, st, h⟩
  | .own _, h => by
    obtain ⟨g', l, st', q⟩ := st.freeze h
    exact ⟨g', l, st', q⟩
  | .bor _ _, h => ⟨g, .refl _, st, h⟩
/-- normed, it stays while the slots stay -/
theorem RepR.stay {ω' : Om} (l : Le g g') : ∀ {r : R}, r.isF = false → RepR S g H σ ρ ω r.nrm v → RepR S g' H' σ ρ ω' r.nrm v
  | .fz _, _, h => Rep.mono l.gh h
  | .own _, _, h => Rep.mono l.gh h
  | .bor (.slot _) _, _, h => h
/-- what may be kept -/
def R.keep : R → Option D
  | .fz d => some d
  | .own d => some d
  | .bor _ _ => none
theorem RepR.keep (st : Stt S g H σ ρ ω) : ∀ {r : R} {d : D}, RepR S g H σ ρ ω r v → r.keep = some d → ∃ g', Le g g' ∧ Stt S g' H σ ρ ω ∧ Rep S.K g'.gh d v
  | .fz _, _, h, e => by
    cases e
    exact ⟨g, .refl _, st, h⟩
  | .own _, _, h, e => by
    cases e
    exact st.freeze h
/-- an object that is a list or a dict is looked at as what it holds -/
def vw (ω : Om) (d : D) : D := match d with
  | .obj n => (match ω[n]? with
    | some (.box x) => x
    | _ => .obj n)
  | d => d
theorem Pk.vw (st : Stt S g H σ ρ ω) (h : Pk S g H d v) : Pk S g H (vw ω d) v := by
  cases d with
  | obj n =>
    unfold Vd.vw
    simp only
    split
    · rename_i x e
      obtain ⟨a, e1, e2, q⟩ := st.ob n _ e (by simp)
      rcases h with ⟨b, e3, e4⟩ | ⟨w, p, _, _, c⟩
      · rw [e1] at e3
        cases e3
        exact .inr ⟨_, a, e4, e2, q⟩
      · exact c.elim
    · exact h
  | _ => exact h
/-! ### two operands -/
def dOp2 (op : D → D → Om → Out R) (f k : DE) : DE := fun ρ ω => (f ρ ω).bind fun r ω1 => if r.isF = true then .bad else (k ρ ω1).bind fun s ω2 => op (vw ω2 r.d) (vw ω2 s.d) ω2
def OpD (S : Sg) (W : WX) (r2 : R2) (op : D → D → Om → Out R) : Prop := ∀ (g : G) (H : Hp) (σ : L2.St) (ρ : En) (ω : Om) (x y : V) (a b : D) (Q : VK), Stt S g H σ ρ ω → Pk S g H a x → Pk S g H b y → PostE S W g σ ρ Q (op a b ω) → r2 x y H Q
theorem op2_read {r2 : R2} {op : D → D → Om → Out R} {f k : DE} (hd : OpD S W r2 op) {Q : VK} (h : upE S W (dOp2 op f k) σ H Q) : tOp r2 (upE S W f) (upE S W k) σ H Q := by
  obtain ⟨g, ρ, ω, st, post⟩ := h
  refine ⟨g, ρ, ω, st, ?_⟩
  unfold dOp2 at post
  cases hf : f ρ ω with
  | bad => rw [hf] at post; exact post
  | exn c ω1 => rw [hf] at post; exact post
  | ok r ω1 =>
    rw [hf] at post
    intro g1 H1 x l1 st1 q1
    simp only [Out.bind] at post
    split at post
    · exact post.elim
    rename_i hF
    have hF : r.isF = false := by simpa using hF
    obtain ⟨g2, l2, st2, q2⟩ := q1.norm st1
    refine ⟨g2, ρ, ω1, st2, ?_⟩
    cases hk : k ρ ω1 with
    | bad => rw [hk] at post; exact post
    | exn c ω2 =>
      rw [hk] at post
      exact fun g3 H3 l3 st3 => post g3 H3 ((l1.trans l2).trans l3) st3
    | ok s ω2 =>
      rw [hk] at post
      intro g3 H3 y l3 st3 q3
      have q4 := (q2.stay (ω' := ω2) (H' := H3) l3 hF).pk st3
      rw [R.nrm_d] at q4
      exact hd g3 H3 σ ρ ω2 x y _ _ Q st3 (q4.vw st3) ((q3.pk st3).vw st3) (post.mono ((l1.trans l2).trans l3))
/-! ### one operand -/
def dOp1 (op : D → Om → Out R) (f : DE) : DE := fun ρ ω => (f ρ ω).bind fun r ω1 => op r.d ω1
def OpU (S : Sg) (W : WX) (r1 : V → Hp → VK → Prop) (op : D → Om → Out R) : Prop := ∀ (g : G) (H : Hp) (σ : L2.St) (ρ : En) (ω : Om) (x : V) (a : D) (Q : VK), Stt S g H σ ρ ω → Pk S g H a x → PostE S W g σ ρ Q (op a ω) → r1 x H Q
theorem op1_read {r1 : V → Hp → VK → Prop} {op : D → Om → Out R} {f : DE} (hd : OpU S W r1 op) {Q : VK} (h : upE S W (dOp1 op f) σ H Q) : tUn r1 (upE S W f) σ H Q := by
  obtain ⟨g, ρ, ω, st, post⟩ := h
  refine ⟨g, ρ, ω, st, ?_⟩
  unfold dOp1 at post
  cases hf : f ρ ω with
  | bad => rw [hf] at post; exact post
  | exn c ω1 => rw [hf] at post; exact post
  | ok r ω1 =>
    rw [hf] at post
    intro g1 H1 x l1 st1 q1
    exact hd g1 H1 σ ρ ω1 x r.d Q st1 (q1.pk st1) (PostE.mono l1 (o := op r.d ω1) post)
/-! ### leaves -/
variable {X : Cx}
def dC (d : D) : DE := fun _ ω => .ok (.fz d) ω
theorem c_read {v : V} {d : D} (r : ∀ g : Gh, Rep S.K g d v) {Q : VK} (h : upE S W (dC d) σ H Q) : tC v σ H Q := by
  obtain ⟨g, ρ, ω, st, post⟩ := h
  exact post g H v (.refl _) st (r g.gh)
def dInt (i : Int) : DE := dC (.int i)
def dStr (s : Str) : DE := dC (.str s)
def dBl (b : Bool) : DE := dC (.bl b)
def dNon : DE := dC .non
theorem ve_int {i j pos} : VE S W X (.Constant (.int i) j pos) (dInt i) := pe_int.imp fun _ _ _ h => c_read (v := .int i) (d := .int i) (fun _ => rfl) h
theorem ve_str {x j pos} : VE S W X (.Constant (.str x) j pos) (dStr x) := pe_str.imp fun _ _ _ h => c_read (v := .str x) (d := .str x) (fun _ => rfl) h
theorem ve_bl {b j pos} : VE S W X (.Constant (.bool b) j pos) (dBl b) := pe_bl.imp fun _ _ _ h => c_read (v := .bl b) (d := .bl b) (fun _ => rfl) h
theorem ve_non {j pos} : VE S W X (.Constant .none j pos) dNon := pe_non.imp fun _ _ _ h => c_read (v := .non) (d := .non) (fun _ => rfl) h
def dVar (i : Nat) : DE := fun ρ ω => match ρ[i]? with
  | some (some (.fz d)) => .ok (.fz d) ω
  | some (some (.own d)) => .ok (.bor (.slot i) d) ω
  | _ => .bad
theorem var_read {i : Nat} {Q : VK} (h : upE S W (dVar i) σ H Q) : tVar i σ H Q := by
  obtain ⟨g, ρ, ω, st, post⟩ := h
  unfold dVar at post
  split at post
  · rename_i d e
    obtain ⟨v, ev, q⟩ := st.sl i _ e
    exact ⟨v, ev, post g H v (.refl _) st q⟩
  · rename_i d e
    obtain ⟨p, ev, _⟩ := st.ownAt e
    exact ⟨.ref p, ev, post g H _ (.refl _) st ⟨e, ev⟩⟩
  · exact post.elim
theorem ve_var (i : Nat) {x : Str} {pos : Pos} (hN : X.N[i]? = some x := by rfl) (hv : Vis X.env.scope x := by first | exact Or.inl rfl | exact Or.inr (Or.inl rfl) | exact Or.inr (Or.inr rfl)) (hd : (x == ("__debug__" : Str)) = false := by decide)
    (hcd : (x == ("__classdict__" : Str)) = false := by decide) : VE S W X (.Name x pos) (dVar i) := (pe_var hN hv hd hcd).imp fun _ _ _ h => var_read h
/-! ### arguments -/
def dNil : DA := fun _ ω => .ok [] ω
def dCons (f : DE) (k : DA) : DA := fun ρ ω => (f ρ ω).bind fun r ω1 => match r.keep with
  | none => .bad
  | some d => (k ρ ω1).bind fun ds ω2 => .ok (d :: ds) ω2
theorem va_nil : VA S W X [] dNil := pa_nil.imp fun σ H Q h => by
  obtain ⟨g, ρ, ω, st, post⟩ := h
  exact post g H [] (.refl _) st rfl
theorem va_cons {e : Expr} {es : List Expr} {f : DE} {k : DA} (he : VE S W X e f) (ha : VA S W X es k) (hs : starEach (e :: es) X.env = (false, eval e X.env) :: starEach es X.env := by rfl) : VA S W X (e :: es) (dCons f k) := (pa_cons he ha hs).imp fun σ H Q h => by
  obtain ⟨g, ρ, ω, st, post⟩ := h
  refine ⟨g, ρ, ω, st, ?_⟩
  unfold dCons at post
  cases hf : f ρ ω with
  | bad => rw [hf] at post; exact post
  | exn c ω1 => rw [hf] at post; exact post
  | ok r ω1 =>
    rw [hf] at post
    intro g1 H1 x l1 st1 q1
    simp only [Out.bind] at post
    split at post
    · exact post.elim
    rename_i d hd
    obtain ⟨g2, l2, st2, q2⟩ := q1.keep st1 hd
    refine ⟨g2, ρ, ω1, st2, ?_⟩
    cases hk : k ρ ω1 with
    | bad => rw [hk] at post; exact post
    | exn c ω2 =>
      rw [hk] at post
      exact fun g3 H3 l3 st3 => post g3 H3 ((l1.trans l2).trans l3) st3
    | ok ds ω2 =>
      rw [hk] at post
      intro g3 H3 vs l3 st3 q3
      exact post g3 H3 (x :: vs) ((l1.trans l2).trans l3) st3 ⟨x, vs, rfl, q2.mono l3.gh, q3⟩
end
end Vd
/-! VL3: statements, defs, calls. -/
namespace Vd
open PySem PySem.Spec PyProof.Rows L2
inductive SO where
  | nx (ρ : En) (ω : Om) | rt (r : R) (ω : Om) | bk (ρ : En) (ω : Om) | ct (ρ : En) (ω : Om) | exn (c : Str) (ρ : En) (ω : Om) | bad
abbrev DS := En → Om → SO
/-- what is handed back -/
def RepV (S : Sg) (g : G) (H : Hp) : R → V → Prop
  | .fz d, v => Rep S.K g.gh d v
  | .own d, v => RepOwn S.K g H .tmp d v
  | .bor _ _, _ => False
def PostS (S : Sg) (W : WX) (g : G) (E : Ends) : SO → Prop
  | .nx ρ ω => ∀ g' H' σ', Le g g' → Stt S g' H' σ' ρ ω → E.nx σ' H'
  | .rt r ω => ∀ g' H' v, Le g g' → Stt S g' H' [] [] ω → RepV S g' H' r v → E.rt v H'
  | .bk ρ ω => ∀ g' H' σ', Le g g' → Stt S g' H' σ' ρ ω → E.bk σ' H'
  | .ct ρ ω => ∀ g' H' σ', Le g g' → Stt S g' H' σ' ρ ω → E.ct σ' H'
  | .exn c ρ ω => ∀ g' H' σ', Le g g' → Stt S g' H' σ' ρ ω → W (.ref (S.ca c)) none σ' H'
  | .bad => False
def upS (S : Sg) (W : WX) (f : DS) : TS := fun E σ H => ∃ g ρ ω, Stt S g H σ ρ ω ∧ PostS S W g E (f ρ ω)
abbrev VS (S : Sg) (W : WX) (X : Cx) (st : Stmt) (f : DS) : Prop := PS X st (upS S W f)
abbrev VSs (S : Sg) (W : WX) (X : Cx) (sts : List Stmt) (f : DS) : Prop := PSs X sts (upS S W f)
theorem _root_.L2.PS.imp {X : Cx} {e : Stmt} {t t' : TS} (h : PS X e t) (w : ∀ E σ H, t' E σ H → t E σ H) : PS X e t' := ⟨fun pins s σ H E I q => h.run pins s σ H E I (w E σ H q)⟩
theorem _root_.L2.PSs.imp {X : Cx} {e : List Stmt} {t t' : TS} (h : PSs X e t) (w : ∀ E σ H, t' E σ H → t E σ H) : PSs X e t' := ⟨fun pins s σ H E I q => h.run pins s σ H E I (w E σ H q)⟩
section
variable {S : Sg} {W : WX} {g g' : G} {H H' : Hp} {σ : L2.St} {ρ : En} {ω : Om} {d : D} {v : V} {X : Cx}
theorem PostS.mono {E : Ends} (l : Le g g') : ∀ {o : SO}, PostS S W g E o → PostS S W g' E o
  | .nx _ _, h => fun g2 H2 v l2 => h g2 H2 v (l.trans l2)
  | .rt _ _, h => fun g2 H2 v l2 => h g2 H2 v (l.trans l2)
  | .bk _ _, h => fun g2 H2 v l2 => h g2 H2 v (l.trans l2)
  | .ct _ _, h => fun g2 H2 v l2 => h g2 H2 v (l.trans l2)
  | .exn _ _ _, h => fun g2 H2 v l2 => h g2 H2 v (l.trans l2)
theorem PostS.imp {E E' : Ends} (h1 : ∀ g' H' σ' ρ ω, Le g g' → Stt S g' H' σ' ρ ω → E.nx σ' H' → E'.nx σ' H') (h2 : E'.rt = E.rt) (h3 : E'.bk = E.bk) (h4 : E'.ct = E.ct) : ∀ {o : SO}, PostS S W g E o → PostS S W g E' o
  | .nx _ _, h => fun g2 H2 v l2 s => h1 g2 H2 v _ _ l2 s (h g2 H2 v l2 s)
  | .rt _ _, h => fun g2 H2 v l2 s r => by rw [h2]; exact h g2 H2 v l2 s r
  | .bk _ _, h => fun g2 H2 v l2 s => by rw [h3]; exact h g2 H2 v l2 s
  | .ct _ _, h => fun g2 H2 v l2 s => by rw [h4]; exact h g2 H2 v l2 s
  | .exn _ _ _, h => h
theorem Stt.drop (st : Stt S g H σ ρ ω) : Stt S g H [] [] ω := ⟨st.xf, st.xt, st.xr, st.df, st.dj, rfl, fun i r e => by simp at e, st.ol, st.ob⟩
/-- from an expression's end to a statement's -/
theorem postE_of {E : Ends} {Q : VK} {o : Out R} {k : R → Om → SO} (h : PostS S W g E (match o with | .ok r ω' => k r ω' | .exn c ω' => .exn c ρ ω' | .bad => .bad))
    (hk : ∀ r ω', PostS S W g E (k r ω') → ∀ g' H' v, Le g g' → Stt S g' H' σ ρ ω' → RepR S g' H' σ ρ ω' r v → Q v H') : PostE S W g σ ρ Q o := by
  cases o with
  | ok r ω' => exact hk r ω' h
  | exn c ω' => exact fun g' H' l st => h g' H' σ l st
  | bad => exact h
/-! ### blocks -/
def sNext : DS := fun ρ ω => .nx ρ ω
def sSeq (f k : DS) : DS := fun ρ ω => match f ρ ω with
  | .nx ρ' ω' => k ρ' ω'
  | o => o
theorem seq_read {f k : DS} {E : Ends} (h : upS S W (sSeq f k) E σ H) : tSeq (upS S W f) (upS S W k) E σ H := by
  obtain ⟨g, ρ, ω, st, post⟩ := h
  refine ⟨g, ρ, ω, st, ?_⟩
  unfold sSeq at post
  cases hf : f ρ ω with
  | nx ρ' ω' =>
    rw [hf] at post
    exact fun g' H' σ' l st' => ⟨g', ρ', ω', st', PostS.mono l (o := k ρ' ω') post⟩
  | rt r ω' => rw [hf] at post; exact post
  | bk ρ' ω' => rw [hf] at post; exact post
  | ct ρ' ω' => rw [hf] at post; exact post
  | exn c ρ' ω' => rw [hf] at post; exact post
  | bad => rw [hf] at post; exact post
theorem vss_nil : VSs S W X [] sNext := pss_nil.imp fun E σ H ⟨g, ρ, ω, st, post⟩ => post g H σ (.refl _) st
theorem vss_cons {st : Stmt} {rest : List Stmt} {f k : DS} (h1 : VS S W X st f) (h2 : VSs S W X rest k) : VSs S W X (st :: rest) (sSeq f k) := (pss_cons h1 h2).imp fun _ _ _ h => seq_read h
theorem vss_one {st : Stmt} {f : DS} (h1 : VS S W X st f) : VSs S W X [st] f := pss_one h1
theorem vs_pass {pos : Pos} : VS S W X (.Pass pos) sNext := ps_pass.imp fun E σ H ⟨g, ρ, ω, st, post⟩ => post g H σ (.refl _) st
def sBrk : DS := fun ρ ω => .bk ρ ω
def sCnt : DS := fun ρ ω => .ct ρ ω
theorem vs_break {pos : Pos} : VS S W X (.Break pos) sBrk := ps_break.imp fun E σ H ⟨g, ρ, ω, st, post⟩ => post g H σ (.refl _) st
theorem vs_continue {pos : Pos} : VS S W X (.Continue pos) sCnt := ps_continue.imp fun E σ H ⟨g, ρ, ω, st, post⟩ => post g H σ (.refl _) st
/-! ### slots forgotten, frozen -/
def kill (ρ : En) : List Nat → En
  | [] => ρ
  | i :: is => kill (ρ.set i none) is
theorem kill_st : ∀ (is : List Nat) (ρ : En), Stt S g H σ ρ ω → Stt S g H σ (kill ρ is) ω
  | [], _, st => st
  | i :: is, ρ, st => kill_st is (ρ.set i none) (st.forget i)
theorem Stt.kill (st : Stt S g H σ ρ ω) (is : List Nat) : Stt S g H σ (Vd.kill ρ is) ω := kill_st is ρ st
def SO.kill (is : List Nat) : SO → SO
  | .nx ρ ω => .nx (Vd.kill ρ is) ω
  | o => o
def sKill (is : List Nat) (f : DS) : DS := fun ρ ω => (f ρ ω).kill is
theorem kill_read {is : List Nat} {f : DS} {E : Ends} (h : upS S W (sKill is f) E σ H) : upS S W f E σ H := by
  obtain ⟨g, ρ, ω, st, post⟩ := h
  refine ⟨g, ρ, ω, st, ?_⟩
  unfold sKill at post
  cases hf : f ρ ω with
  | nx ρ' ω' =>
    rw [hf] at post
    exact fun g' H' σ' l st' => post g' H' σ' l (st'.kill is)
  | rt r ω' => rw [hf] at post; exact post
  | bk ρ' ω' => rw [hf] at post; exact post
  | ct ρ' ω' => rw [hf] at post; exact post
  | exn c ρ' ω' => rw [hf] at post; exact post
  | bad => rw [hf] at post; exact post
theorem vs_kill {st : Stmt} {f : DS} (is : List Nat) (h : VS S W X st f) : VS S W X st (sKill is f) := h.imp fun _ _ _ h => kill_read h
def frz (ρ : En) (i : Nat) : En := match ρ[i]? with
  | some (some (.own d)) => ρ.set i (some (.fz d))
  | _ => ρ
def sFrz (i : Nat) (f : DS) : DS := fun ρ ω => f (frz ρ i) ω
theorem frz_read {i : Nat} {f : DS} {E : Ends} (h : upS S W (sFrz i f) E σ H) : upS S W f E σ H := by
  obtain ⟨g, ρ, ω, st, post⟩ := h
  unfold sFrz frz at post
  split at post
  · rename_i d e
    obtain ⟨g', l, st'⟩ := st.frzSlot e
    exact ⟨g', _, ω, st', post.mono l⟩
  · exact ⟨g, ρ, ω, st, post⟩
theorem vs_frz {st : Stmt} {f : DS} (i : Nat) (h : VS S W X st f) : VS S W X st (sFrz i f) := h.imp fun _ _ _ h => frz_read h
/-! ### x = e -/
def sSet (i : Nat) (f : DE) : DS := fun ρ ω => match f ρ ω with
  | .ok r ω' => (match r with
    | .fz d => .nx (ρ.set i (some (.fz d))) ω'
    | .own d => .nx (ρ.set i (some (.own d))) ω'
    | .bor _ _ => .bad)
  | .exn c ω' => .exn c ρ ω'
  | .bad => .bad
theorem set_read {i : Nat} {f : DE} {E : Ends} (h : upS S W (sSet i f) E σ H) : tAsg (upE S W f) (gName i) E σ H := by
  obtain ⟨g, ρ, ω, st, post⟩ := h
  refine ⟨g, ρ, ω, st, postE_of post fun r ω' p g' H' v l st' q => ?_⟩
  cases r with
  | fz d => exact p g' H' _ l (st'.setFz q i)
  | own d =>
    obtain ⟨g2, l2, st2⟩ := st'.setOwn q i
    exact p g2 H' _ (l.trans l2) st2
  | bor _ _ => exact p.elim
theorem vs_set (i : Nat) {x : Str} {e : Expr} {f : DE} {pos pos' : Pos} (hN : X.N.Nodup) (he : VE S W X e f) (hi : X.N[i]? = some x := by rfl) (hx : Loc X.env.scope x := by first | exact Or.inl rfl | exact Or.inr rfl)
    (hf : X.fn x = true ∨ X.env.scope.names.lookup x = some .local := by first | exact .inl rfl | exact .inr rfl)
    (hs : swapsWithSole [.Name x pos'] e pos.line X.env = pure false := by rfl) (hw : swappedStores [.Name x pos'] e X.env = pure none := by rfl)
    (h1 : (assignEach [.Name x pos'] X.env).map (·.2) = [assign (.Name x pos') X.env] := by rfl) : VS S W X (.Assign [.Name x pos'] e pos) (sSet i f) :=
  (ps_asg he (pg_name hN hi hx hf) hs hw h1).imp fun _ _ _ h => set_read h
/-! ### e; return -/
def sExpr (f : DE) : DS := fun ρ ω => match f ρ ω with
  | .ok _ ω' => .nx ρ ω'
  | .exn c ω' => .exn c ρ ω'
  | .bad => .bad
theorem expr_read {f : DE} {E : Ends} (h : upS S W (sExpr f) E σ H) : tDrop (upE S W f) E σ H := by
  obtain ⟨g, ρ, ω, st, post⟩ := h
  exact ⟨g, ρ, ω, st, postE_of post fun r ω' p g' H' v l st' q => p g' H' σ l st'⟩
theorem vs_expr {e : Expr} {f : DE} {pos : Pos} (he : VE S W X e f) (hs : swapsWith e none pos.line X.env = pure false := by rfl) : VS S W X (.Expr e pos) (sExpr f) := (ps_expr he hs).imp fun _ _ _ h => expr_read h
/-- a slot's thing handed on -/
theorem Stt.move {i : Nat} (st : Stt S g H σ ρ ω) (e : ρ[i]? = some (some (.own d))) (ev : σ[i]? = some (some v)) : ∃ g', Le g g' ∧ Stt S g' H [] [] ω ∧ RepOwn S.K g' H .tmp d v := by
  obtain ⟨p, e2, hw, c⟩ := st.ownAt e
  rw [ev] at e2
  have e2 : v = .ref p := Option.some.inj (Option.some.inj e2)
  subst e2
  have neW : ∀ b w', g.ow b = some w' → w' ≠ .slot i → b ≠ p := fun b w' e h z => by
    rw [z, hw] at e
    exact h (Option.some.inj e).symm
  refine ⟨{ g with ow := updW g.ow p (some .tmp) }, ⟨.refl _, rfl⟩, ⟨st.xf, st.xt, st.xr, fun b w' e => ?_, st.dj, rfl, fun i r e => by simp at e, st.ol, fun n o e hd => ?_⟩, p, rfl, updW_same, c⟩
  · by_cases hb : b = p
    · subst hb
      exact st.df b _ hw
    · exact st.df b w' (by rw [← e]; exact (updW_ne hb).symm)
  · obtain ⟨a, e1, e2, q⟩ := st.ob n o e hd
    exact ⟨a, e1, (updW_ne (neW a _ e2 (by simp))).trans e2, q.keep (S := S) (g := g) (g' := { g with ow := updW g.ow p (some .tmp) }) (.refl _) (fun _ h => h) fun b o f a c => ⟨(updW_ne (neW b _ a (by simp))).trans a, c⟩⟩
def sRet (f : DE) : DS := fun ρ ω => match f ρ ω with
  | .ok r ω' => (match r with
    | .fz d => .rt (.fz d) ω'
    | .own d => .rt (.own d) ω'
    | .bor (.slot _) d => .rt (.own d) ω'
    | .bor _ _ => .bad)
  | .exn c ω' => .exn c ρ ω'
  | .bad => .bad
theorem ret_read {f : DE} {E : Ends} (h : upS S W (sRet f) E σ H) : tRet (upE S W f) E σ H := by
  obtain ⟨g, ρ, ω, st, post⟩ := h
  refine ⟨g, ρ, ω, st, postE_of post fun r ω' p g' H' v l st' q => ?_⟩
  cases r with
  | fz d => exact p g' H' v l st'.drop q
  | own d => exact p g' H' v l st'.drop q
  | bor b d =>
    cases b with
    | slot i =>
      obtain ⟨g2, l2, st2, q2⟩ := st'.move q.1 q.2
      exact p g2 H' v (l.trans l2) st2 q2
    | fld n x => exact p.elim
theorem vs_ret {e : Expr} {f : DE} {pos : Pos} (he : VE S W X e f) : VS S W X (.Return (some e) pos) (sRet f) := (ps_ret he).imp fun _ _ _ h => ret_read h
def sRetN : DS := fun _ ω => .rt (.fz .non) ω
theorem vs_retN {pos : Pos} : VS S W X (.Return none pos) sRetN := ps_retN.imp fun E σ H ⟨g, ρ, ω, st, post⟩ => post g H .non (.refl _) st.drop rfl
/-! ### if -/
def sIf (c : DT) (f k : DS) : DS := fun ρ ω => match c ρ ω with
  | .ok b ω' => if b = true then f ρ ω' else k ρ ω'
  | .exn c ω' => .exn c ρ ω'
  | .bad => .bad
theorem if_read {c : DT} {f k : DS} {E : Ends} (h : upS S W (sIf c f k) E σ H) : tIfS (upT S W c) (upS S W f) (upS S W k) E σ H := by
  obtain ⟨g, ρ, ω, st, post⟩ := h
  refine ⟨g, ρ, ω, st, ?_⟩
  unfold sIf at post
  cases hf : c ρ ω with
  | bad => rw [hf] at post; exact post
  | exn c ω1 => rw [hf] at post; exact fun g' H' l st' => post g' H' σ l st'
  | ok b ω1 =>
    rw [hf] at post
    intro g1 H1 l1 st1
    cases b with
    | true =>
      simp only [if_true] at post ⊢
      exact ⟨g1, ρ, ω1, st1, post.mono l1⟩
    | false =>
      simp only [Bool.false_eq_true, if_false] at post ⊢
      exact ⟨g1, ρ, ω1, st1, post.mono l1⟩
theorem vs_if {c : Expr} {a b : List Stmt} {t : DT} {f k : DS} {pos : Pos} (hc : VT S W X c t) (ha : VSs S W X a f) (hb : VSs S W X b k) : VS S W X (.If c a b pos) (sIf t f k) := (ps_if hc ha hb).imp fun _ _ _ h => if_read h
/-! ### defs -/
abbrev DF := List D → Om → Out R
def dFn (n : Nat) (np : Nat) (body : DS) : DF := fun ds ω => if ds.length = np then
    (match body (ds.map (fun d => some (.fz d)) ++ List.replicate (n - np) none) ω with
    | .nx _ ω' => .ok (.fz .non) ω'
    | .rt r ω' => .ok r ω'
    | .exn c _ ω' => .exn c ω'
    | _ => .bad) else .bad
/-- the lifted promise -/
def PostF (S : Sg) (g : G) (Q : VK) (E : XK) : Out R → Prop
  | .ok r ω => ∀ g' H' v, Le g g' → Stt S g' H' [] [] ω → RepV S g' H' r v → Q v H'
  | .exn c ω => ∀ g' H', Le g g' → Stt S g' H' [] [] ω → E (.ref (S.ca c)) none H'
  | .bad => False
def SpOf (S : Sg) (np : Nat) (F : DF) : Sp := fun vs H Q E => vs.length = np ∧ ∃ g ω ds, Stt S g H [] [] ω ∧ Reps S.K g.gh ds vs ∧ PostF S g Q E (F ds ω)
theorem Reps.length {K : PySem.W.Frag} {g : Gh} : ∀ {ds : List D} {vs : List V}, Reps K g ds vs → ds.length = vs.length
  | [], _, h => by subst h; rfl
  | _ :: _, _, ⟨v, r, e, _, t⟩ => by subst e; simp [Reps.length t]
theorem Reps.get {K : PySem.W.Frag} {g : Gh} : ∀ {ds : List D} {vs : List V} {i : Nat} {d : D}, Reps K g ds vs → ds[i]? = some d → ∃ v, vs[i]? = some v ∧ Rep K g d v
  | [], _, _, _, _, e => by simp at e
  | x :: _, _, 0, d, ⟨v, r, e, h, t⟩, e2 => by
    subst e
    have e2 : x = d := by simpa using e2
    subst e2
    exact ⟨v, rfl, h⟩
  | _ :: _, _, i + 1, d, ⟨v, r, e, h, t⟩, e2 => by
    subst e
    obtain ⟨u, h1, h2⟩ := Reps.get (i := i) (d := d) t (by simpa using e2)
    exact ⟨u, by simpa using h1, h2⟩
/-- at a def's entry -/
theorem Stt.start {ds : List D} {vs : List V} (st : Stt S g H [] [] ω) (r : Reps S.K g.gh ds vs) (N : List Str) (hl : vs.length ≤ N.length) :
    Stt S g H (L2.start N vs) (ds.map (fun d => some (.fz d)) ++ List.replicate (N.length - ds.length) none) ω := by
  have e := r.length
  refine ⟨st.xf, st.xt, st.xr, st.df, st.dj, ?_, fun i q h => ?_, st.ol, st.ob⟩
  · simp [L2.start, e]
  · by_cases hi : i < ds.length
    · rw [List.getElem?_append_left (by simpa using hi), List.getElem?_map] at h
      cases hd : ds[i]? with
      | none => rw [hd] at h; cases h
      | some d =>
        rw [hd] at h
        have h : R.fz d = q := Option.some.inj (Option.some.inj h)
        subst h
        obtain ⟨v, h1, h2⟩ := r.get hd
        refine ⟨v, ?_, h2⟩
        unfold L2.start
        rw [List.getElem?_append_left (by simpa [← e] using hi), List.getElem?_map, h1]
        rfl
    · rw [List.getElem?_append_right (by simpa using Nat.le_of_not_lt hi), List.getElem?_replicate] at h
      split at h <;> cases h
/-- the wish of a def's body -/
def WF (E : XK) : WX := fun c d _ H => E c d H
theorem body_read {N : List Str} {np : Nat} {body : DS} {vs : List V} {Q : VK} {E : XK} (hl : np ≤ N.length) (h : SpOf S np (dFn N.length np body) vs H Q E) : upS S (WF E) body { nx := fun _ H' => Q .non H', rt := Q } (L2.start N vs) H := by
  obtain ⟨hv, g, ω, ds, st, r, post⟩ := h
  have e : ds.length = np := r.length.trans hv
  refine ⟨g, _, ω, st.start r N (by omega), ?_⟩
  unfold dFn at post
  rw [if_pos e, ← e] at post
  revert post
  generalize body (ds.map (fun d => some (.fz d)) ++ List.replicate (N.length - ds.length) none) ω = o
  intro post
  cases o with
  | nx ρ' ω' => exact fun g' H' σ' l st' => post g' H' .non l st'.drop rfl
  | rt r ω' => exact post
  | exn c ρ' ω' => exact fun g' H' σ' l st' => post g' H' l st'.drop
  | bk ρ' ω' => exact post.elim
  | ct ρ' ω' => exact post.elim
  | bad => exact post
/-- a def of the module that may be called by its name -/
structure Def (P : Program) (w : World) (S : Sg) (mg : Str → Option Value) (base : Heap) (k : Nat) (x : Str) (ps : List Str) (F : DF) : Prop where
  ex : ∃ (f : Addr) (fd : FuncData), mg x = some (.ref f) ∧ PySem.W.keepIn S.K (.ref f) = true ∧ Binds S.K fd ps [] ∧ FnOk P w S.K mg base (L2.CX P w) k f fd ps (SpOf S ps.length F)
theorem Def.mono {P : Program} {w : World} {mg : Str → Option Value} {base : Heap} {j k : Nat} {x : Str} {ps : List Str} {F : DF} (h : Def P w S mg base j x ps F) (l : j ≤ k) : Def P w S mg base k x ps F := by
  obtain ⟨f, fd, a, b, c, d⟩ := h.ex
  exact ⟨f, fd, a, b, c, d.mono l⟩
/-- what a body's derivation may lean on -/
structure Bd (P : Program) (w : World) (S : Sg) (mg : Str → Option Value) (base : Heap) (k : Nat) (N : List Str) (sc : Scope) (W : WX) (X : Cx) : Prop where
  tk : Takes X W
  hr : Room k X.A
  pp : PassesOwn (model X.prog X.w) X.A X.env X.xe
  hs : X.stack = X.env :: X.outer
  hl : X.env.frame = some X.env.locals
theorem def_of {P : Program} {w : World} {mg : Str → Option Value} {base : Heap} {k : Nat} {x : Str} {ps N : List Str} {body : DS} {params : Arguments} {b : List Stmt} {scope : Scope} {f : Addr} {fd : FuncData}
    (F : FunD S.K x x params b scope [] [] f fd) (gf : mg x = some (.ref f)) (bi : Binds S.K fd ps []) (SC : FnScope N ps scope) (hl : ps.length ≤ N.length)
    (hb : ∀ (cdv : Value) (A : Around) (outer : List Env) (s : Shared) (H : Hp) (E : XK), Bd P w S mg base k N scope (WF E) (cxOf (L2.CX P w) P w S.K mg base N x scope f cdv A outer s H E) →
      VSs S (WF E) (cxOf (L2.CX P w) P w S.K mg base N x scope f cdv A outer s H E) b body) : Def P w S mg base (k + 1) x ps (dFn N.length ps.length body) := by
  refine ⟨f, fd, gf, F.kp, bi, F.ok SC (fun vs H Q E h => h.1) fun cdv A outer s H vs Q E hr h => ?_⟩
  exact ⟨_, hb cdv A outer s H E ⟨takes_of rfl rfl rfl rfl, hr, passes_of (K := fun e s' => L2.CX P w outer H s E e s') rfl, rfl, rfl⟩, body_read hl h⟩
/-! ### calls -/
def dCall (F : DF) (a : DA) : DE := fun ρ ω => (a ρ ω).bind fun ds ω' => F ds ω'
theorem call_read {F : DF} {a : DA} {np : Nat} (hF : ∀ ds ω, ds.length ≠ np → F ds ω = .bad) {Q : VK} (h : upE S W (dCall F a) σ H Q) : tCallS (SpOf S np F) (WE W) (upA S W a) σ H Q := by
  obtain ⟨g, ρ, ω, st, post⟩ := h
  refine ⟨g, ρ, ω, st, ?_⟩
  unfold dCall at post
  cases ha : a ρ ω with
  | bad => rw [ha] at post; exact post
  | exn c ω1 => rw [ha] at post; exact post
  | ok ds ω1 =>
    rw [ha] at post
    intro g1 H1 vs l1 st1 r1
    have post : PostE S W g σ ρ Q (F ds ω1) := post
    refine ⟨?_, g1.callee H1, ω1, ds, st1.call, r1, ?_⟩
    · rw [← r1.length]
      refine Decidable.byContradiction fun z => ?_
      rw [hF ds ω1 z] at post
      exact post
    · cases hf : F ds ω1 with
      | bad => rw [hf] at post; exact post
      | exn c ω2 =>
        rw [hf] at post
        intro g2 H2 l2 st2
        obtain ⟨l3, st3, _⟩ := st1.ret l2 st2
        exact post _ H2 (l1.trans l3) st3
      | ok r ω2 =>
        rw [hf] at post
        intro g2 H2 v l2 st2 q2
        obtain ⟨l3, st3, ow⟩ := st1.ret l2 st2
        refine post _ H2 v (l1.trans l3) st3 ?_
        cases r with
        | fz d => exact q2
        | own d => exact ow d v q2
        | bor _ _ => exact q2.elim
theorem dFn_len {n np : Nat} {body : DS} : ∀ ds ω, ds.length ≠ np → dFn n np body ds ω = .bad := fun ds ω h => if_neg h
theorem ve_call {k j : Nat} {x : Str} {ps : List Str} {F : DF} {e : Expr} {es : List Expr} {a : DA} {p pos : Pos} (c : Def X.prog X.w S X.mg X.base k x ps F) (hF : ∀ ds ω, ds.length ≠ ps.length → F ds ω = .bad) (hK : X.K = S.K) (tk : Takes X W) (hr : Room j X.A) (hk : k ≤ j)
    (ha : VA S W X (e :: es) a) (hg : Gl X x := by rfl) (hdb : (x == ("__debug__" : Str)) = false := by decide) (he : starEach (e :: es) X.env = (false, eval e X.env) :: starEach es X.env := by rfl) (hpl : (backTo pos (starEach es X.env)).any (·.1) = false := by rfl) :
    VE S W X (.Call (.Name x p) (e :: es) [] pos) (dCall F a) := by
  obtain ⟨f, fd, gf, kp, bi, Fo⟩ := c.ex
  rw [← hK] at Fo kp bi
  exact (pe_callS Fo (hr.mono hk) hg gf kp bi (fun σ => passAt tk σ) ha hdb he hpl).imp fun _ _ _ h => call_read hF h
end
end Vd
/-! VL4: operators, comparisons, tests, subscripts. -/
namespace Vd
open PySem PySem.Spec PyProof.Rows L2
section
variable {S : Sg} {W : WX} {g g' : G} {H H' : Hp} {σ : L2.St} {ρ : En} {ω : Om} {d : D} {v : V} {X : Cx}
/-! ### what a value that shows d is -/
theorem Pk.int {i : Int} (h : Pk S g H (.int i) v) : v = .int i := by
  rcases h with h | ⟨w, p, _, _, c⟩
  · exact h
  · exact c.elim
theorem Pk.str {s : Str} (h : Pk S g H (.str s) v) : v = .str s := by
  rcases h with h | ⟨w, p, _, _, c⟩
  · exact h
  · exact c.elim
theorem Pk.bl {b : Bool} (h : Pk S g H (.bl b) v) : v = .bl b := by
  rcases h with h | ⟨w, p, _, _, c⟩
  · exact h
  · exact c.elim
theorem Pk.non (h : Pk S g H .non v) : v = .non := by
  rcases h with h | ⟨w, p, _, _, c⟩
  · exact h
  · exact c.elim
theorem Pk.lst {xs : List D} (st : Stt S g H σ ρ ω) (h : Pk S g H (.lst xs) v) : ∃ a vs, v = .ref a ∧ H a = some (.lst vs) ∧ Reps S.K g.gh xs vs := by
  rcases h with ⟨a, vs, e, q, r⟩ | ⟨w, p, e, _, vs, q, r⟩
  · exact ⟨a, vs, e, (st.xf _ _ q).ex rfl, r⟩
  · exact ⟨p, vs, e, q, r⟩
theorem Pk.tup {xs : List D} (st : Stt S g H σ ρ ω) (h : Pk S g H (.tup xs) v) : ∃ a vs, v = .ref a ∧ H a = some (.tup vs) ∧ Reps S.K g.gh xs vs := by
  rcases h with ⟨a, vs, e, q, r⟩ | ⟨w, p, e, _, c⟩
  · exact ⟨a, vs, e, (st.xt _ _ q).1, r⟩
  · exact c.elim
theorem Pk.ktp {xs : List D} (st : Stt S g H σ ρ ω) (h : Pk S g H (.ktp xs) v) : ∃ a vs, v = .ref a ∧ SqT S.K H a vs ∧ Reps S.K g.gh xs vs := by
  rcases h with ⟨a, vs, e, q, r⟩ | ⟨w, p, e, _, c⟩
  · exact ⟨a, vs, e, sqT_mono (fun p o h => (st.xt p o h).1) q, r⟩
  · exact c.elim
theorem Pk.scr {ns : List Int} (st : Stt S g H σ ρ ω) (h : Pk S g H (.scr ns) v) : ∃ a, v = .ref a ∧ SqL S.K H a (ns.map V.int) := by
  rcases h with ⟨a, e, q⟩ | ⟨w, p, e, _, c⟩
  · refine ⟨a, e, ?_⟩
    rcases q with (q | ⟨o, q⟩) | q
    · exact .inl (.inl ((st.xf _ _ q).ex rfl))
    · exact .inl (.inr ⟨o, (st.xf _ _ q).ex rfl⟩)
    · exact .inr q
  · exact c.elim
theorem Pk.dic {xs : List (Key × D)} (st : Stt S g H σ ρ ω) (h : Pk S g H (.dic xs) v) : ∃ a vs, v = .ref a ∧ Rd H a (.dK vs) ∧ RepK S.K g.gh xs vs := by
  rcases h with ⟨a, vs, e, q, r⟩ | ⟨w, p, e, _, vs, q, r⟩
  · exact ⟨a, vs, e, (st.xf _ _ q).rd, r⟩
  · exact ⟨p, vs, e, .inl q, r⟩
theorem Pk.dit {xs : List (List Key × D)} (st : Stt S g H σ ρ ω) (h : Pk S g H (.dit xs) v) : ∃ a vs, v = .ref a ∧ Rd H a (.dT vs) ∧ RepT S.K g.gh xs vs := by
  rcases h with ⟨a, vs, e, q, r⟩ | ⟨w, p, e, _, vs, q, r⟩
  · exact ⟨a, vs, e, (st.xf _ _ q).rd, r⟩
  · exact ⟨p, vs, e, .inl q, r⟩
/-- a list, the script: items that are told -/
def D.seq : D → Option (List D)
  | .lst xs => some xs
  | .tup xs => some xs
  | .ktp xs => some xs
  | .scr ns => some (ns.map D.int)
  | _ => none
theorem reps_ints {K : PySem.W.Frag} {g : Gh} : ∀ ns : List Int, Reps K g (ns.map D.int) (ns.map V.int)
  | [] => rfl
  | n :: ns => ⟨.int n, _, rfl, rfl, reps_ints ns⟩
theorem Pk.seq {xs : List D} (st : Stt S g H σ ρ ω) (h : Pk S g H d v) (e : d.seq = some xs) : ∃ a vs, v = .ref a ∧ (SqL S.K H a vs ∨ SqT S.K H a vs) ∧ Reps S.K g.gh xs vs := by
  cases d with
  | lst ys =>
    cases e
    obtain ⟨a, vs, e, q, r⟩ := h.lst st
    exact ⟨a, vs, e, .inl (SqL.of q), r⟩
  | tup ys =>
    cases e
    obtain ⟨a, vs, e, q, r⟩ := h.tup st
    exact ⟨a, vs, e, .inr (SqT.of q), r⟩
  | ktp ys =>
    cases e
    obtain ⟨a, vs, e, q, r⟩ := h.ktp st
    exact ⟨a, vs, e, .inr q, r⟩
  | scr ns =>
    cases e
    obtain ⟨a, e, q⟩ := h.scr st
    exact ⟨a, _, e, .inl q, reps_ints ns⟩
  | _ => cases e
/-! ### data as PyData -/
mutual
def D.py : D → Option PyData
  | .non => some .none
  | .bl b => some (.bool b)
  | .int i => some (.int i)
  | .str s => some (.str s)
  | .lst xs => (pys xs).map PyData.list
  | .tup xs => (pys xs).map PyData.tuple
  | _ => none
def pys : List D → Option (List PyData)
  | [] => some []
  | d :: ds => match d.py, pys ds with
    | some x, some xs => some (x :: xs)
    | _, _ => none
end
mutual
theorem Rep.dp (xf : ∀ p xs, g.gh.hf p = some (.lst xs) → H p = some (.lst xs)) (xt : ∀ p o, g.gh.tf p = some o → H p = some o) : ∀ {d : D} {v : V} {x : PyData}, Rep S.K g.gh d v → d.py = some x → Dp S.K H v x
  | .non, _, _, h, e => by
    cases e
    cases h
    exact .non
  | .bl b, _, _, h, e => by
    cases e
    cases h
    exact .bl b
  | .int i, _, _, h, e => by
    cases e
    cases h
    exact .int i
  | .str s, _, _, h, e => by
    cases e
    cases h
    exact .str s
  | .lst xs, _, _, ⟨a, vs, e1, q, r⟩, e => by
    subst e1
    obtain ⟨ys, e2, e3⟩ := Option.map_eq_some_iff.mp e
    subst e3
    exact .lst (SqL.of (xf _ _ q)) (Reps.dp xf xt r e2)
  | .tup xs, _, _, ⟨a, vs, e1, q, r⟩, e => by
    subst e1
    obtain ⟨ys, e2, e3⟩ := Option.map_eq_some_iff.mp e
    subst e3
    exact .tup (SqT.of (xt _ _ q)) (Reps.dp xf xt r e2)
  | .ktp _, _, _, _, e => by cases e
  | .scr _, _, _, _, e => by cases e
  | .dic _, _, _, _, e => by cases e
  | .dit _, _, _, _, e => by cases e
  | .obj _, _, _, _, e => by cases e
theorem Reps.dp (xf : ∀ p xs, g.gh.hf p = some (.lst xs) → H p = some (.lst xs)) (xt : ∀ p o, g.gh.tf p = some o → H p = some o) : ∀ {ds : List D} {vs : List V} {xs : List PyData}, Reps S.K g.gh ds vs → pys ds = some xs → DpAll S.K H vs xs
  | [], _, _, h, e => by
    cases e
    cases h
    exact .nil
  | d :: ds, _, _, ⟨v, r, e1, h, t⟩, e => by
    subst e1
    rw [pys] at e
    split at e
    · rename_i x xs e2 e3
      cases e
      exact .cons (Rep.dp xf xt h e2) (Reps.dp xf xt t e3)
    · cases e
end
theorem Pk.dp {x : PyData} (st : Stt S g H σ ρ ω) (h : Pk S g H d v) (e : d.py = some x) : Dp S.K H v x := by
  rcases h with h | ⟨w, p, e1, _, c⟩
  · exact Rep.dp (fun p xs h => (st.xf p _ h).ex rfl) (fun p o h => (st.xt p o h).1) h e
  · subst e1
    cases d with
    | lst xs =>
      obtain ⟨vs, q, r⟩ := c
      obtain ⟨ys, e2, e3⟩ := Option.map_eq_some_iff.mp e
      subst e3
      exact .lst (SqL.of q) (Reps.dp (fun p xs h => (st.xf p _ h).ex rfl) (fun p o h => (st.xt p o h).1) r e2)
    | dic _ => cases e
    | dit _ => cases e
    | _ => exact c.elim
/-- scalars -/
def D.sc : D → Option V
  | .non => some .non
  | .bl b => some (.bl b)
  | .int i => some (.int i)
  | .str s => some (.str s)
  | _ => none
theorem Pk.sc {x : V} (h : Pk S g H d v) (e : d.sc = some x) : v = x := by
  cases d with
  | non => cases e; exact h.non
  | bl b => cases e; exact h.bl
  | int i => cases e; exact h.int
  | str s => cases e; exact h.str
  | _ => cases e
/-! ### results -/
theorem post_fz {Q : VK} {d : D} {v : V} (st : Stt S g H σ ρ ω) (p : PostE S W g σ ρ Q (.ok (.fz d) ω)) (r : Rep S.K g.gh d v) : Q v H := p g H v (.refl _) st r
theorem post_own {Q : VK} {o : HO} {d : D} {p : Addr} (st : Stt S g H σ ρ ω) (h : PostE S W g σ ρ Q (.ok (.own d) ω)) (hp : H p = none) (mu : Mut (some o)) (c : Cont S.K g.gh (upd H p o) p d) : Q (.ref p) (upd H p o) :=
  h { g with ow := updW g.ow p (some .tmp) } _ _ ⟨.refl _, rfl⟩ (st.newOwn hp mu) ⟨p, rfl, updW_same, c⟩
theorem post_ownL {Q : VK} {xs : List D} {vs : List V} {p : Addr} (st : Stt S g H σ ρ ω) (h : PostE S W g σ ρ Q (.ok (.own (.lst xs)) ω)) (hp : H p = none) (r : Reps S.K g.gh xs vs) : Q (.ref p) (upd H p (.lst vs)) :=
  post_own st h hp trivial ⟨vs, upd_same, r⟩
theorem post_tup {Q : VK} {xs : List D} {vs : List V} {p : Addr} (st : Stt S g H σ ρ ω) (h : PostE S W g σ ρ Q (.ok (.fz (.tup xs)) ω)) (hp : H p = none) (r : Reps S.K g.gh xs vs) : Q (.ref p) (upd H p (.tup vs)) := by
  obtain ⟨l, st'⟩ := st.newTup (vs := vs) hp
  exact h _ _ _ l st' ⟨p, vs, rfl, upd_same, r.mono l.gh⟩
theorem Reps.append {K : PySem.W.Frag} {g : Gh} : ∀ {xs ys : List D} {vs ws : List V}, Reps K g xs vs → Reps K g ys ws → Reps K g (xs ++ ys) (vs ++ ws)
  | [], _, _, _, h, k => by subst h; exact k
  | _ :: _, _, _, _, ⟨v, r, e, h, t⟩, k => by subst e; exact ⟨v, _, rfl, h, Reps.append t k⟩
theorem Reps.take {K : PySem.W.Frag} {g : Gh} : ∀ (n : Nat) {xs : List D} {vs : List V}, Reps K g xs vs → Reps K g (xs.take n) (vs.take n)
  | 0, _, _, _ => rfl
  | _ + 1, [], _, h => by subst h; rfl
  | n + 1, _ :: _, _, ⟨v, r, e, h, t⟩ => by subst e; exact ⟨v, _, rfl, h, Reps.take n t⟩
theorem Reps.drop {K : PySem.W.Frag} {g : Gh} : ∀ (n : Nat) {xs : List D} {vs : List V}, Reps K g xs vs → Reps K g (xs.drop n) (vs.drop n)
  | 0, _, _, h => h
  | _ + 1, [], _, h => by subst h; rfl
  | n + 1, _ :: _, _, ⟨v, r, e, h, t⟩ => by subst e; exact Reps.drop n t
theorem Reps.nil_iff {K : PySem.W.Frag} {g : Gh} {xs : List D} {vs : List V} (h : Reps K g xs vs) : vs = [] ↔ xs = [] := by
  cases xs with
  | nil => cases h; simp
  | cons _ _ => obtain ⟨v, r, e, _⟩ := h; subst e; simp
/-! ### arithmetic -/
def iOp (c : Int → Int → Bool) (f : Int → Int → Int) : D → D → Om → Out R := fun a b ω => match a, b with
  | .int i, .int j => if c i j = true then .ok (.fz (.int (f i j))) ω else .bad
  | _, _ => .bad
theorem op_i {C : Int → Int → Prop} {c : Int → Int → Bool} {f : Int → Int → Int} (h : ∀ i j, c i j = true → C i j) : OpD S W (rI C fun i j => .int (f i j)) (iOp c f) := by
  intro g H σ ρ ω x y a b Q st ha hb post
  unfold iOp at post
  split at post
  · rename_i i j
    split at post
    · rename_i hc
      exact ⟨i, j, ha.int, hb.int, h _ _ hc, post_fz st post rfl⟩
    · exact post.elim
  · exact post.elim
theorem op_i0 {f : Int → Int → Int} : OpD S W (rI0 fun i j => .int (f i j)) (iOp (fun _ _ => true) f) := by
  intro g H σ ρ ω x y a b Q st ha hb post
  unfold iOp at post
  split at post
  · rename_i i j
    simp only [if_true] at post
    exact ⟨i, j, ha.int, hb.int, post_fz st post rfl⟩
  · exact post.elim
def cMul (i j : Int) : Bool := decide ((-(2 ^ 64) < i ∧ i < 2 ^ 64) ∨ (-(2 ^ 64) < j ∧ j < 2 ^ 64))
def cDiv (i j : Int) : Bool := decide (0 < j ∧ j < 1073741824)
def cMod (_ j : Int) : Bool := decide (0 < j)
def cPow (i j : Int) : Bool := decide (0 ≤ j ∧ j ≤ 1000000 ∧ i.natAbs < 2 ^ 64)
def cShr (_ j : Int) : Bool := decide (0 ≤ j)
def dAddOp : D → D → Om → Out R := fun a b ω => match a, b with
  | .int i, .int j => .ok (.fz (.int (i + j))) ω
  | .str s, .str t => if s.length + t.length ≤ sizeLine then .ok (.fz (.str (s ++ t))) ω else .bad
  | .lst xs, .lst ys => if xs.length + ys.length ≤ sizeLine then .ok (.own (.lst (xs ++ ys))) ω else .bad
  | .tup xs, .tup ys => if xs.length + ys.length ≤ sizeLine then .ok (.fz (.tup (xs ++ ys))) ω else .bad
  | _, _ => .bad
def rAdd (K : PySem.W.Frag) : R2 := fun x y H Q => rI0 (fun i j => .int (i + j)) x y H Q ∨ (∃ i j, x = .str i ∧ y = .str j ∧ i.length + j.length ≤ sizeLine ∧ Q (.str (i ++ j)) H) ∨ rCat x y H Q ∨ rCatA K x y H Q
theorem o_add (hK : X.K = S.K) : OpR X (binaryOp .Add) (rAdd S.K) := by
  rw [← hK]
  exact op_add.or (op_add_str.or (op_cat.or op_catA))
theorem op_dadd : OpD S W (rAdd S.K) dAddOp := by
  intro g H σ ρ ω x y a b Q st ha hb post
  unfold dAddOp at post
  split at post
  · rename_i i j
    exact .inl ⟨i, j, ha.int, hb.int, post_fz st post rfl⟩
  · rename_i s t
    split at post
    · rename_i hc
      exact .inr (.inl ⟨s, t, ha.str, hb.str, hc, post_fz st post rfl⟩)
    · exact post.elim
  · rename_i xs ys
    split at post
    · rename_i hc
      obtain ⟨p, vs, e1, h1, r1⟩ := ha.lst st
      obtain ⟨q, ws, e2, h2, r2⟩ := hb.lst st
      refine .inr (.inr (.inl ⟨p, q, vs, ws, e1, e2, h1, h2, by rw [← r1.length, ← r2.length]; exact hc, fun l hl => post_ownL st post hl (r1.append r2)⟩))
    · exact post.elim
  · rename_i xs ys
    split at post
    · rename_i hc
      obtain ⟨p, vs, e1, h1, r1⟩ := ha.tup st
      obtain ⟨q, ws, e2, h2, r2⟩ := hb.tup st
      have ra : Rep S.K g.gh (.tup xs) x := ha.resolve_right fun ⟨_, _, _, _, c⟩ => c
      have rb : Rep S.K g.gh (.tup ys) y := hb.resolve_right fun ⟨_, _, _, _, c⟩ => c
      refine .inr (.inr (.inr ⟨p, q, vs, ws, e1, e2, SqT.of h1, SqT.of h2, by rw [← r1.length, ← r2.length]; exact hc, fun z => ?_, fun z1 z2 => ?_, fun _ _ l hl => post_tup st post hl (r1.append r2)⟩))
      · have z' : xs = [] := r1.nil_iff.mp z
        subst z'
        subst e2
        exact post_fz st post rb
      · have z' : ys = [] := r2.nil_iff.mp z2
        subst z'
        rw [List.append_nil] at post
        subst e1
        exact post_fz st post ra
    · exact post.elim
  · exact post.elim
theorem ve_add {a b : Expr} {f k : DE} {pos : Pos} (ha : VE S W X a f) (hb : VE S W X b k) (hK : X.K = S.K := by rfl) : VE S W X (.BinOp a .Add b pos) (dOp2 dAddOp f k) := (pe_op (o_add hK) ha hb).imp fun _ _ _ h => op2_read op_dadd h
def dSubOp := iOp (fun _ _ => true) fun i j => i - j
def dDivOp := iOp cDiv fun i j => i / j
def dModOp := iOp cMod fun i j => i % j
def dPowOp := iOp cPow fun i j => i ^ j.toNat
def dShlOp := iOp cPow fun i j => i * 2 ^ j.toNat
def dShrOp := iOp cShr fun i j => i / 2 ^ j.toNat
def dAndOp := iOp (fun _ _ => true) Builtin.bitAnd
def dOrOp := iOp (fun _ _ => true) Builtin.bitOr
def dXorOp := iOp (fun _ _ => true) Builtin.bitXor
theorem ve_sub {a b : Expr} {f k : DE} {pos : Pos} (ha : VE S W X a f) (hb : VE S W X b k) : VE S W X (.BinOp a .Sub b pos) (dOp2 dSubOp f k) := (pe_op op_sub ha hb).imp fun _ _ _ h => op2_read op_i0 h
theorem ve_div {a b : Expr} {f k : DE} {pos : Pos} (ha : VE S W X a f) (hb : VE S W X b k) : VE S W X (.BinOp a .FloorDiv b pos) (dOp2 dDivOp f k) := (pe_op op_fdiv ha hb).imp fun _ _ _ h => op2_read (op_i fun i j h => by simpa [cDiv, CDiv] using h) h
theorem ve_mod {a b : Expr} {f k : DE} {pos : Pos} (ha : VE S W X a f) (hb : VE S W X b k) : VE S W X (.BinOp a .Mod b pos) (dOp2 dModOp f k) := (pe_op op_mod ha hb).imp fun _ _ _ h => op2_read (op_i fun i j h => by simpa [cMod] using h) h
theorem ve_pow {a b : Expr} {f k : DE} {pos : Pos} (ha : VE S W X a f) (hb : VE S W X b k) : VE S W X (.BinOp a .Pow b pos) (dOp2 dPowOp f k) := (pe_op op_pow ha hb).imp fun _ _ _ h => op2_read (op_i fun i j h => by simpa [cPow, CPow] using h) h
theorem ve_shl {a b : Expr} {f k : DE} {pos : Pos} (ha : VE S W X a f) (hb : VE S W X b k) : VE S W X (.BinOp a .LShift b pos) (dOp2 dShlOp f k) := (pe_op op_shl ha hb).imp fun _ _ _ h => op2_read (op_i fun i j h => by simpa [cPow, CPow] using h) h
theorem ve_shr {a b : Expr} {f k : DE} {pos : Pos} (ha : VE S W X a f) (hb : VE S W X b k) : VE S W X (.BinOp a .RShift b pos) (dOp2 dShrOp f k) := (pe_op op_shr ha hb).imp fun _ _ _ h => op2_read (op_i fun i j h => of_decide_eq_true h) h
theorem ve_and {a b : Expr} {f k : DE} {pos : Pos} (ha : VE S W X a f) (hb : VE S W X b k) : VE S W X (.BinOp a .BitAnd b pos) (dOp2 dAndOp f k) := (pe_op op_and ha hb).imp fun _ _ _ h => op2_read op_i0 h
theorem ve_or {a b : Expr} {f k : DE} {pos : Pos} (ha : VE S W X a f) (hb : VE S W X b k) : VE S W X (.BinOp a .BitOr b pos) (dOp2 dOrOp f k) := (pe_op op_or ha hb).imp fun _ _ _ h => op2_read op_i0 h
theorem ve_xor {a b : Expr} {f k : DE} {pos : Pos} (ha : VE S W X a f) (hb : VE S W X b k) : VE S W X (.BinOp a .BitXor b pos) (dOp2 dXorOp f k) := (pe_op op_xor ha hb).imp fun _ _ _ h => op2_read op_i0 h
def dNegOp : D → Om → Out R := fun a ω => match a with
  | .int i => .ok (.fz (.int (-i))) ω
  | _ => .bad
theorem ve_neg {a : Expr} {f : DE} {pos : Pos} (ha : VE S W X a f) : VE S W X (.UnaryOp .USub a pos) (dOp1 dNegOp f) := (pe_un un_neg ha).imp fun _ _ _ h => op1_read (fun g H σ ρ ω x a Q st ha post => by
  unfold dNegOp at post
  split at post
  · exact ⟨_, ha.int, post_fz st post rfl⟩
  · exact post.elim) h
/-! ### comparisons -/
def bOp (f : Int → Int → Bool) : D → D → Om → Out R := fun a b ω => match a, b with
  | .int i, .int j => .ok (.fz (.bl (f i j))) ω
  | _, _ => .bad
theorem op_b {f : Int → Int → Bool} : OpD S W (rI0 fun i j => .bl (f i j)) (bOp f) := by
  intro g H σ ρ ω x y a b Q st ha hb post
  unfold bOp at post
  split at post
  · rename_i i j
    exact ⟨i, j, ha.int, hb.int, post_fz st post rfl⟩
  · exact post.elim
/-- ==: scalars at once, data by PyData -/
def D.eq (a b : D) : Option Bool := match a.sc, b.sc with
  | some x, some y => if scal x y = true then some (decide (x = y)) else none
  | _, _ => match a.py, b.py with
    | some x, some y => if (SeqAt.shaped x && SeqAt.shaped y) = true then some (PyData.eqv x y) else none
    | _, _ => none
def dEqOp : D → D → Om → Out R := fun a b ω => match D.eq a b with
  | some k => .ok (.fz (.bl k)) ω
  | none => .bad
def dNeOp : D → D → Om → Out R := fun a b ω => match D.eq a b with
  | some k => .ok (.fz (.bl (!k))) ω
  | none => .bad
def rEqA (K : PySem.W.Frag) : R2 := fun x y H Q => rEq x y H Q ∨ rEqD K x y H Q
def rNeA (K : PySem.W.Frag) : R2 := fun x y H Q => rNe x y H Q ∨ rNeD K x y H Q
theorem eq_cases {a b : D} {k : Bool} {x y : V} (e : D.eq a b = some k) (st : Stt S g H σ ρ ω) (ha : Pk S g H a x) (hb : Pk S g H b y) :
    (scal x y = true ∧ k = decide (x = y)) ∨ ∃ p q, Dp S.K H x p ∧ Dp S.K H y q ∧ SeqAt.shaped p = true ∧ SeqAt.shaped q = true ∧ k = PyData.eqv p q := by
  unfold D.eq at e
  split at e
  · rename_i u w e1 e2
    split at e
    · rename_i hs
      have e3 := ha.sc e1
      have e4 := hb.sc e2
      subst e3 e4
      exact .inl ⟨hs, (Option.some.inj e).symm⟩
    · cases e
  · split at e
    · rename_i p q e1 e2
      split at e
      · rename_i hs
        rw [Bool.and_eq_true] at hs
        exact .inr ⟨p, q, ha.dp st e1, hb.dp st e2, hs.1, hs.2, (Option.some.inj e).symm⟩
      · cases e
    · cases e
theorem op_deq : OpD S W (rEqA S.K) dEqOp := by
  intro g H σ ρ ω x y a b Q st ha hb post
  unfold dEqOp at post
  split at post
  · rename_i k e
    rcases eq_cases e st ha hb with ⟨h1, h2⟩ | ⟨p, q, h1, h2, h3, h4, h5⟩
    · subst h2
      exact .inl ⟨h1, post_fz st post rfl⟩
    · subst h5
      exact .inr ⟨p, q, h1, h2, h3, h4, post_fz st post rfl⟩
  · exact post.elim
theorem op_dne : OpD S W (rNeA S.K) dNeOp := by
  intro g H σ ρ ω x y a b Q st ha hb post
  unfold dNeOp at post
  split at post
  · rename_i k e
    rcases eq_cases e st ha hb with ⟨h1, h2⟩ | ⟨p, q, h1, h2, h3, h4, h5⟩
    · subst h2
      exact .inl ⟨h1, post_fz st post rfl⟩
    · subst h5
      exact .inr ⟨p, q, h1, h2, h3, h4, post_fz st post rfl⟩
  · exact post.elim
/-- is None, is not None: the right side None -/
def dIsOp : D → D → Om → Out R := fun a b ω => match a, b with
  | .non, .non => .ok (.fz (.bl true)) ω
  | _, .non => .ok (.fz (.bl false)) ω
  | _, _ => .bad
def dIsnOp : D → D → Om → Out R := fun a b ω => match a, b with
  | .non, .non => .ok (.fz (.bl false)) ω
  | _, .non => .ok (.fz (.bl true)) ω
  | _, _ => .bad
theorem Pk.ne_non (h : Pk S g H d v) (hd : d ≠ .non) : v ≠ .non := by
  intro z
  subst z
  rcases h with h | ⟨w, p, e, _⟩
  · cases d with
    | non => exact hd rfl
    | bl _ => cases h
    | int _ => cases h
    | str _ => cases h
    | scr _ => obtain ⟨_, e, _⟩ := h; cases e
    | ktp _ => obtain ⟨_, _, e, _⟩ := h; cases e
    | lst _ => obtain ⟨_, _, e, _⟩ := h; cases e
    | tup _ => obtain ⟨_, _, e, _⟩ := h; cases e
    | dic _ => obtain ⟨_, _, e, _⟩ := h; cases e
    | dit _ => obtain ⟨_, _, e, _⟩ := h; cases e
    | obj _ => obtain ⟨_, _, e⟩ := h; cases e
  · cases e
theorem op_dis : OpD S W (fun x y H Q => y = .non ∧ Q (.bl (decide (x = .non))) H) dIsOp := by
  intro g H σ ρ ω x y a b Q st ha hb post
  unfold dIsOp at post
  split at post
  · have e1 := ha.non
    have e2 := hb.non
    subst e1 e2
    exact ⟨rfl, post_fz st post rfl⟩
  · rename_i hn
    have e2 := hb.non
    subst e2
    refine ⟨rfl, ?_⟩
    rw [decide_eq_false (ha.ne_non fun z => hn z)]
    exact post_fz st post rfl
  · exact post.elim
theorem op_disn : OpD S W (fun x y H Q => y = .non ∧ Q (.bl (!decide (x = .non))) H) dIsnOp := by
  intro g H σ ρ ω x y a b Q st ha hb post
  unfold dIsnOp at post
  split at post
  · have e1 := ha.non
    have e2 := hb.non
    subst e1 e2
    exact ⟨rfl, post_fz st post rfl⟩
  · rename_i hn
    have e2 := hb.non
    subst e2
    refine ⟨rfl, ?_⟩
    rw [decide_eq_false (ha.ne_non fun z => hn z)]
    exact post_fz st post rfl
  · exact post.elim
end
end Vd
/-! VL5: dicts' laws, in, subscripts, slices, displays, tests. -/
namespace Vd
open PySem PySem.Spec PyProof.Rows L2
section
variable {S : Sg} {W : WX} {g g' : G} {H H' : Hp} {σ : L2.St} {ρ : En} {ω : Om} {d : D} {v : V} {X : Cx}
/-! ### pairs -/
def RepP {κ : Type} (K : PySem.W.Frag) (g : Gh) : List (κ × D) → List (κ × V) → Prop
  | [], vs => vs = []
  | (k, d) :: ds, vs => ∃ v r, vs = (k, v) :: r ∧ Rep K g d v ∧ RepP K g ds r
theorem repK_iff {K : PySem.W.Frag} {g : Gh} : ∀ {xs : List (Key × D)} {vs : List (Key × V)}, RepK K g xs vs ↔ RepP K g xs vs
  | [], _ => Iff.rfl
  | (k, d) :: xs, vs => ⟨fun ⟨v, r, e, h, t⟩ => ⟨v, r, e, h, repK_iff.mp t⟩, fun ⟨v, r, e, h, t⟩ => ⟨v, r, e, h, repK_iff.mpr t⟩⟩
theorem repT_iff {K : PySem.W.Frag} {g : Gh} : ∀ {xs : List (List Key × D)} {vs : List (List Key × V)}, RepT K g xs vs ↔ RepP K g xs vs
  | [], _ => Iff.rfl
  | (k, d) :: xs, vs => ⟨fun ⟨v, r, e, h, t⟩ => ⟨v, r, e, h, repT_iff.mp t⟩, fun ⟨v, r, e, h, t⟩ => ⟨v, r, e, h, repT_iff.mpr t⟩⟩
def kvGet {κ : Type} [DecidableEq κ] (kvs : List (κ × D)) (k : κ) : Option D := (kvs.find? fun kv => decide (kv.1 = k)).map (·.2)
def kvPut {κ : Type} [DecidableEq κ] (kvs : List (κ × D)) (k : κ) (d : D) : List (κ × D) :=
  if (kvs.any fun kv => decide (kv.1 = k)) = true then kvs.map (fun kv => if kv.1 = k then (kv.1, d) else kv) else kvs ++ [(k, d)]
section
variable {κ : Type} [DecidableEq κ] {K : PySem.W.Frag} {gh : Gh}
theorem kvGet_pos {p : κ × D} {r : List (κ × D)} {k : κ} (e : p.1 = k) : kvGet (p :: r) k = some p.2 := by simp [kvGet, List.find?_cons, e]
theorem kvGet_neg {p : κ × D} {r : List (κ × D)} {k : κ} (e : ¬ p.1 = k) : kvGet (p :: r) k = kvGet r k := by simp [kvGet, List.find?_cons, e]
theorem RepP.length : ∀ {xs : List (κ × D)} {vs : List (κ × V)}, RepP K gh xs vs → xs.length = vs.length
  | [], _, h => by subst h; rfl
  | _ :: _, _, ⟨v, r, e, _, t⟩ => by subst e; simp [RepP.length t]
theorem RepP.get {k : κ} : ∀ {xs : List (κ × D)} {vs : List (κ × V)}, RepP K gh xs vs → (∀ d, kvGet xs k = some d → ∃ v, valV vs k = some v ∧ Rep K gh d v) ∧ (valV vs k).isSome = (kvGet xs k).isSome
  | [], _, h => by subst h; exact ⟨fun d e => (by cases e), rfl⟩
  | (j, x) :: xs, _, ⟨v, r, e, h, t⟩ => by
    subst e
    by_cases hj : j = k
    · rw [kvGet_pos (p := (j, x)) hj, valV_pos (p := (j, v)) hj]
      exact ⟨fun d e => by cases e; exact ⟨v, rfl, h⟩, rfl⟩
    · rw [kvGet_neg (p := (j, x)) hj, valV_neg (p := (j, v)) hj]
      exact RepP.get t
theorem RepP.any {k : κ} : ∀ {xs : List (κ × D)} {vs : List (κ × V)}, RepP K gh xs vs → (vs.any fun kv => decide (kv.1 = k)) = xs.any fun kv => decide (kv.1 = k)
  | [], _, h => by subst h; rfl
  | (j, x) :: xs, _, ⟨v, r, e, h, t⟩ => by subst e; simp only [List.any_cons, RepP.any t]
theorem RepP.maps {k : κ} {d : D} {v : V} (hd : Rep K gh d v) : ∀ {xs : List (κ × D)} {vs : List (κ × V)}, RepP K gh xs vs → RepP K gh (xs.map fun kv => if kv.1 = k then (kv.1, d) else kv) (vs.map fun kv => if kv.1 = k then (kv.1, v) else kv)
  | [], _, h => by subst h; rfl
  | (j, x) :: xs, _, ⟨u, r, e, h, t⟩ => by
    subst e
    simp only [List.map_cons]
    by_cases hj : j = k
    · rw [if_pos hj, if_pos hj]
      exact ⟨v, _, rfl, hd, RepP.maps hd t⟩
    · rw [if_neg hj, if_neg hj]
      exact ⟨u, _, rfl, h, RepP.maps hd t⟩
theorem RepP.append : ∀ {xs ys : List (κ × D)} {vs ws : List (κ × V)}, RepP K gh xs vs → RepP K gh ys ws → RepP K gh (xs ++ ys) (vs ++ ws)
  | [], _, _, _, h, k => by subst h; exact k
  | (j, x) :: xs, _, _, _, ⟨v, r, e, h, t⟩, k => by subst e; exact ⟨v, _, rfl, h, RepP.append t k⟩
theorem RepP.put {k : κ} {d : D} {v : V} (hd : Rep K gh d v) {xs : List (κ × D)} {vs : List (κ × V)} (h : RepP K gh xs vs) : RepP K gh (kvPut xs k d) (putK vs k v) := by
  unfold kvPut putK
  rw [h.any]
  split
  · exact h.maps hd
  · exact h.append ⟨v, [], rfl, hd, rfl⟩
end
/-! ### keys -/
def D.key : D → Option Key
  | .int i => some (.inl i)
  | .str s => some (.inr s)
  | _ => none
def keysOf : List D → Option (List Key)
  | [] => some []
  | d :: ds => match d.key, keysOf ds with
    | some k, some ks => some (k :: ks)
    | _, _ => none
def D.tkey : D → Option (List Key)
  | .tup ds => keysOf ds
  | _ => none
theorem rep_key {K : PySem.W.Frag} {gh : Gh} {d : D} {k : Key} {v : V} (e : d.key = some k) (h : Rep K gh d v) : v = kV k := by
  cases d with
  | int i => cases e; exact h
  | str s => cases e; exact h
  | _ => cases e
theorem reps_keys {K : PySem.W.Frag} {gh : Gh} : ∀ {ds : List D} {ks : List Key} {vs : List V}, keysOf ds = some ks → Reps K gh ds vs → vs = ks.map kV
  | [], _, _, e, h => by
    cases e
    exact h
  | d :: ds, _, _, e, ⟨v, r, e1, h, t⟩ => by
    rw [keysOf] at e
    split at e
    · rename_i k ks e2 e3
      cases e
      subst e1
      rw [rep_key e2 h, reps_keys e3 t]
      rfl
    · cases e
theorem Pk.key {k : Key} (h : Pk S g H d v) (e : d.key = some k) : v = kV k := by
  rcases h with h | ⟨w, p, _, _, c⟩
  · exact rep_key e h
  · cases d with
    | int i => exact c.elim
    | str s => exact c.elim
    | _ => cases e
theorem Pk.tkey {ks : List Key} (st : Stt S g H σ ρ ω) (h : Pk S g H d v) (e : d.tkey = some ks) : ∃ b, v = .ref b ∧ H b = some (.tup (ks.map kV)) := by
  cases d with
  | tup ds =>
    obtain ⟨a, vs, e1, q, r⟩ := h.tup st
    rw [reps_keys e r] at q
    exact ⟨a, e1, q⟩
  | _ => cases e
/-- what a dict holds at a key: none where it is no dict or the key is of another kind -/
def D.look (c a : D) : Option (Option D) := match c with
  | .dic kvs => a.key.map (kvGet kvs)
  | .dit kvs => a.tkey.map (kvGet kvs)
  | _ => none
theorem look_get {c a : D} {x y : V} {o : Option D} (st : Stt S g H σ ρ ω) (hc : Pk S g H c x) (ha : Pk S g H a y) (e : D.look c a = some o) :
    ∃ p r, x = .ref p ∧ DGet H p y r ∧ r.isSome = o.isSome ∧ ∀ d, o = some d → ∃ v, r = some v ∧ Rep S.K g.gh d v := by
  cases c with
  | dic kvs =>
    obtain ⟨k, e1, e2⟩ := Option.map_eq_some_iff.mp e
    obtain ⟨p, vs, e3, q, r⟩ := hc.dic st
    have ey := ha.key e1
    subst ey
    obtain ⟨h1, h2⟩ := (repK_iff.mp r).get (k := k)
    refine ⟨p, _, e3, .inl ⟨_, k, q, rfl, rfl⟩, ?_, fun d hd => h1 d (e2.trans hd)⟩
    rw [h2, e2]
  | dit kvs =>
    obtain ⟨k, e1, e2⟩ := Option.map_eq_some_iff.mp e
    obtain ⟨p, vs, e3, q, r⟩ := hc.dit st
    obtain ⟨b, ey, hb⟩ := ha.tkey st e1
    subst ey
    obtain ⟨h1, h2⟩ := (repT_iff.mp r).get (k := k)
    refine ⟨p, _, e3, .inr ⟨_, k, b, q, rfl, hb, rfl⟩, ?_, fun d hd => h1 d (e2.trans hd)⟩
    rw [h2, e2]
  | _ => cases e
/-! ### in -/
def D.flat : D → Bool
  | .non => true
  | .bl _ => true
  | .int _ => true
  | .str _ => true
  | _ => false
def D.eqF : D → D → Bool
  | .non, .non => true
  | .bl a, .bl b => a == b
  | .bl a, .int b => (if a then 1 else 0) == b
  | .int a, .bl b => a == (if b then 1 else 0)
  | .int a, .int b => a == b
  | .str a, .str b => a == b
  | _, _ => false
theorem Rep.flat {K : PySem.W.Frag} {gh : Gh} {d : D} {v : V} (h : Rep K gh d v) (f : d.flat = true) : flatV v = true := by
  cases d with
  | non => cases h; rfl
  | bl _ => cases h; rfl
  | int _ => cases h; rfl
  | str _ => cases h; rfl
  | _ => cases f
theorem Rep.eqF {K : PySem.W.Frag} {gh : Gh} {d e : D} {v u : V} (h : Rep K gh d v) (k : Rep K gh e u) (f : d.flat = true) (f' : e.flat = true) : eqV v u = D.eqF d e := by
  cases d with
  | non => cases h; cases e with
    | non => cases k; rfl
    | bl _ => cases k; rfl
    | int _ => cases k; rfl
    | str _ => cases k; rfl
    | _ => cases f'
  | bl _ => cases h; cases e with
    | non => cases k; rfl
    | bl _ => cases k; rfl
    | int _ => cases k; rfl
    | str _ => cases k; rfl
    | _ => cases f'
  | int _ => cases h; cases e with
    | non => cases k; rfl
    | bl _ => cases k; rfl
    | int _ => cases k; rfl
    | str _ => cases k; rfl
    | _ => cases f'
  | str _ => cases h; cases e with
    | non => cases k; rfl
    | bl _ => cases k; rfl
    | int _ => cases k; rfl
    | str _ => cases k; rfl
    | _ => cases f'
  | _ => cases f
theorem Reps.flat {K : PySem.W.Frag} {gh : Gh} : ∀ {ds : List D} {vs : List V}, Reps K gh ds vs → ds.all D.flat = true → vs.all flatV = true
  | [], _, h, _ => by subst h; rfl
  | d :: ds, _, ⟨v, r, e, h, t⟩, f => by
    subst e
    rw [List.all_cons, Bool.and_eq_true] at f
    rw [List.all_cons, h.flat f.1, Reps.flat t f.2]
    rfl
theorem Reps.any {K : PySem.W.Frag} {gh : Gh} {x : D} {u : V} (hx : Rep K gh x u) (fx : x.flat = true) : ∀ {ds : List D} {vs : List V}, Reps K gh ds vs → ds.all D.flat = true → inV u vs = ds.any fun y => D.eqF y x
  | [], _, h, _ => by subst h; rfl
  | d :: ds, _, ⟨v, r, e, h, t⟩, f => by
    subst e
    rw [List.all_cons, Bool.and_eq_true] at f
    have ih := Reps.any hx fx t f.2
    unfold inV at ih ⊢
    rw [List.any_cons, List.any_cons, ih, h.eqF hx f.1 fx]
def D.isL : D → Bool
  | .lst _ => true
  | _ => false
def inSeq (a c : D) (xs : List D) : Option Bool :=
  if (a.flat && xs.all D.flat) = true then some (xs.any fun y => D.eqF y a) else if c.isL = true then (match a.py, pys xs with
      | some x, some ys => if (SeqAt.shaped x && SeqAt.shaped (.list ys)) = true then some (ys.any fun z => PyData.eqv z x) else none
      | _, _ => none) else none
/-- whether a stands in c -/
def D.isin (a c : D) : Option Bool := match c with
  | .str z => (match a with
    | .str s => some (!(Builtin.Str.occurrences z s 0 z.length 1).isEmpty)
    | _ => none)
  | .dic _ => (D.look c a).map (·.isSome)
  | .dit _ => (D.look c a).map (·.isSome)
  | c => match c.seq with
    | some xs => inSeq a c xs
    | none => none
def rInB (K : PySem.W.Frag) (neg : Bool) : R2 := fun x y H Q => (∃ i j, x = .str i ∧ y = .str j ∧ Q (.bl (if neg then !(!(Builtin.Str.occurrences j i 0 j.length 1).isEmpty) else !(Builtin.Str.occurrences j i 0 j.length 1).isEmpty)) H) ∨
  (∃ a o, y = .ref a ∧ DGet H a x o ∧ Q (.bl (if neg then !o.isSome else o.isSome)) H) ∨ rIn K neg x y H Q ∨ (∃ d ds, Dp K H x d ∧ Dp K H y (.list ds) ∧ SeqAt.shaped d = true ∧ SeqAt.shaped (.list ds) = true ∧ Q (.bl (if neg then !(ds.any fun z => PyData.eqv z d) else ds.any fun z => PyData.eqv z d)) H)
theorem op_in_dict (hu : X.A.units + 1 < cLine) : OpR X (compareOp .In) (fun x y H Q => ∃ a o, y = .ref a ∧ DGet H a x o ∧ Q (.bl o.isSome) H) := by
  intro pins s σ H x y v u Q I rx ry ⟨a, o, e, dg, q⟩
  subst e
  cases ry
  exact d_in hu I dg rx fun s3 I3 => ⟨.bl o.isSome, H, I3, rfl, q⟩
theorem op_notin_dict (hu : X.A.units + 1 < cLine) : OpR X (compareOp .NotIn) (fun x y H Q => ∃ a o, y = .ref a ∧ DGet H a x o ∧ Q (.bl (!o.isSome)) H) := by
  intro pins s σ H x y v u Q I rx ry ⟨a, o, e, dg, q⟩
  subst e
  cases ry
  exact d_notIn hu I dg rx fun s3 I3 => ⟨.bl (!o.isSome), H, I3, rfl, q⟩
theorem o_in {k : Nat} (hr : Room k X.A) (hK : X.K = S.K) : OpR X (compareOp .In) (rInB S.K false) := by
  rw [← hK]
  exact op_in_str.or ((op_in_dict (hu_of hr)).or (op_in_seq.or (op_inD (by have := hr.un; omega))))
theorem o_notin {k : Nat} (hr : Room k X.A) (hK : X.K = S.K) : OpR X (compareOp .NotIn) (rInB S.K true) := by
  rw [← hK]
  exact L2.OpR.or op_notin_str ((op_notin_dict (hu_of hr)).or (op_notIn_seq.or (op_notInD (by have := hr.un; omega))))
def dInOp (neg : Bool) : D → D → Om → Out R := fun a c ω => match D.isin a c with
  | some b => .ok (.fz (.bl (if neg = true then !b else b))) ω
  | none => .bad
theorem Pk.rep_of_flat (h : Pk S g H d v) (f : d.flat = true) : Rep S.K g.gh d v := by
  rcases h with h | ⟨w, p, _, _, c⟩
  · exact h
  · cases d with
    | lst _ => cases f
    | dic _ => cases f
    | dit _ => cases f
    | _ => exact c.elim
theorem op_din {neg : Bool} : OpD S W (rInB S.K neg) (dInOp neg) := by
  intro g H σ ρ ω x y a c Q st ha hc post
  unfold dInOp at post
  cases e : D.isin a c with
  | none => rw [e] at post; exact post.elim
  | some b =>
    rw [e] at post
    have fin : ∀ b', b' = b → Q (.bl (if neg = true then !b' else b')) H := fun b' e => by rw [e]; exact post_fz st post rfl
    have dict : ∀ {r : Option D}, D.look c a = some r → r.isSome = b → rInB S.K neg x y H Q := fun {r} h1 h2 => by
      obtain ⟨p, q, e1, dg, e2, _⟩ := look_get st hc ha h1
      exact .inr (.inl ⟨p, q, e1, dg, fin _ (e2.trans h2)⟩)
    have sq : ∀ {xs : List D}, c.seq = some xs → inSeq a c xs = some b → rInB S.K neg x y H Q := fun {xs} h1 h2 => by
      unfold inSeq at h2
      split at h2
      · rename_i hf
        rw [Bool.and_eq_true] at hf
        obtain ⟨p, vs, e1, e2, r⟩ := hc.seq st h1
        have ra := ha.rep_of_flat hf.1
        exact .inr (.inr (.inl ⟨p, vs, e1, e2, ra.flat hf.1, r.flat hf.2, fin _ ((r.any ra hf.1 hf.2).trans (Option.some.inj h2))⟩))
      · split at h2
        · rename_i hL
          split at h2
          · rename_i u ys e3 e4
            split at h2
            · rename_i hs
              rw [Bool.and_eq_true] at hs
              have e5 : c.py = some (.list ys) := by
                cases c with
                | lst zs =>
                  have h1 : zs = xs := Option.some.inj h1
                  subst h1
                  rw [D.py, e4]; rfl
                | _ => cases hL
              exact .inr (.inr (.inr ⟨u, ys, ha.dp st e3, hc.dp st e5, hs.1, hs.2, fin _ (Option.some.inj h2)⟩))
            · cases h2
          · cases h2
        · cases h2
    cases c with
    | str z =>
      cases a with
      | str s => exact .inl ⟨s, z, ha.str, hc.str, fin _ (Option.some.inj e)⟩
      | _ => cases e
    | dic kvs =>
      obtain ⟨r, e1, e2⟩ := Option.map_eq_some_iff.mp e
      exact dict e1 e2
    | dit kvs =>
      obtain ⟨r, e1, e2⟩ := Option.map_eq_some_iff.mp e
      exact dict e1 e2
    | lst xs => exact sq rfl e
    | tup xs => exact sq rfl e
    | ktp xs => exact sq rfl e
    | scr ns => exact sq rfl e
    | _ => cases e
/-! ### comparisons, as values and as tests -/
def dTv (f : DE) : DT := fun ρ ω => (f ρ ω).bind fun r ω1 => match r.d with
  | .bl b => .ok b ω1
  | _ => .bad
theorem tv_post {g : G} {Q : Bool → Hp → Prop} {f : DE} {k : V → Hp → Prop} (hk : ∀ b H, Q b H → k (.bl b) H) (post : PostT S W g σ ρ Q (dTv f ρ ω)) : PostE S W g σ ρ k (f ρ ω) := by
  unfold dTv at post
  cases hf : f ρ ω with
  | bad => rw [hf] at post; exact post
  | exn c ω1 => rw [hf] at post; exact post
  | ok r ω1 =>
    rw [hf] at post
    intro g1 H1 v l1 st1 q1
    simp only [Out.bind] at post
    split at post
    · rename_i b e
      have q2 := q1.pk st1
      rw [e] at q2
      have q3 := q2.bl
      subst q3
      exact hk b H1 (post g1 H1 l1 st1)
    · exact post.elim
theorem tv_read {f : DE} {Q : Bool → Hp → Prop} (h : upT S W (dTv f) σ H Q) : upE S W f σ H fun x H' => ∃ k, x = .bl k ∧ Q k H' := by
  obtain ⟨g, ρ, ω, st, post⟩ := h
  exact ⟨g, ρ, ω, st, tv_post (fun b H q => ⟨b, rfl, q⟩) post⟩
theorem ve_cmp {op : CmpOp} {r2 : R2} {o : D → D → Om → Out R} {a b : Expr} {f k : DE} {pos : Pos} (ho : OpR X (compareOp op) r2) (hd : OpD S W r2 o) (ha : VE S W X a f) (hb : VE S W X b k) (hm : behindInMarks op b = false) : VE S W X (.Compare a [op] [b] pos) (dOp2 o f k) :=
  (pe_cmpR ho ha hb hm).imp fun _ _ _ h => op2_read hd h
theorem vt_cmp {op : CmpOp} {r2 : R2} {o : D → D → Om → Out R} {a b : Expr} {f k : DE} {pos : Pos} (ho : OpR X (compareOp op) r2) (hd : OpD S W r2 o) (ha : VE S W X a f) (hb : VE S W X b k) (hm : behindInMarks op b = false) : VT S W X (.Compare a [op] [b] pos) (dTv (dOp2 o f k)) :=
  (pt_cmpR ho ha hb hm).imp fun _ _ _ h => op2_read hd (tv_read h)
/-- an operator, its rule -/
structure Cmp (S : Sg) (W : WX) (X : Cx) (op : CmpOp) (o : D → D → Om → Out R) : Prop where
  ex : ∃ r2, OpR X (compareOp op) r2 ∧ OpD S W r2 o
theorem ve_c {op : CmpOp} {o : D → D → Om → Out R} {a b : Expr} {f k : DE} {pos : Pos} (c : Cmp S W X op o) (ha : VE S W X a f) (hb : VE S W X b k) (hm : behindInMarks op b = false := by first | exact nomark _ | (with_unfolding_all rfl)) : VE S W X (.Compare a [op] [b] pos) (dOp2 o f k) := by
  obtain ⟨r2, h1, h2⟩ := c.ex
  exact ve_cmp h1 h2 ha hb hm
theorem vt_c {op : CmpOp} {o : D → D → Om → Out R} {a b : Expr} {f k : DE} {pos : Pos} (c : Cmp S W X op o) (ha : VE S W X a f) (hb : VE S W X b k) (hm : behindInMarks op b = false := by first | exact nomark _ | (with_unfolding_all rfl)) : VT S W X (.Compare a [op] [b] pos) (dTv (dOp2 o f k)) := by
  obtain ⟨r2, h1, h2⟩ := c.ex
  exact vt_cmp h1 h2 ha hb hm
def dLtOp := bOp fun i j => decide (i < j)
def dLeOp := bOp fun i j => decide (i ≤ j)
def dGtOp := bOp fun i j => decide (j < i)
def dGeOp := bOp fun i j => decide (j ≤ i)
theorem c_lt : Cmp S W X .Lt dLtOp := ⟨_, op_lt, op_b⟩
theorem c_le : Cmp S W X .LtE dLeOp := ⟨_, op_le, op_b⟩
theorem c_gt : Cmp S W X .Gt dGtOp := ⟨_, op_gt, op_b⟩
theorem c_ge : Cmp S W X .GtE dGeOp := ⟨_, op_ge, op_b⟩
theorem c_eq {k : Nat} (hr : Room k X.A) (hK : X.K = S.K := by rfl) : Cmp S W X .Eq dEqOp := ⟨rEqA S.K, by rw [← hK]; exact op_eq.or (op_eqD (by have := hr.un; omega)), op_deq⟩
theorem c_ne {k : Nat} (hr : Room k X.A) (hK : X.K = S.K := by rfl) : Cmp S W X .NotEq dNeOp := ⟨rNeA S.K, by rw [← hK]; exact op_ne.or (op_neD (by have := hr.un; omega)), op_dne⟩
theorem c_in {k : Nat} (hr : Room k X.A) (hK : X.K = S.K := by rfl) : Cmp S W X .In (dInOp false) := ⟨_, o_in hr hK, op_din⟩
theorem c_notin {k : Nat} (hr : Room k X.A) (hK : X.K = S.K := by rfl) : Cmp S W X .NotIn (dInOp true) := ⟨_, o_notin hr hK, op_din⟩
theorem c_is : Cmp S W X .Is dIsOp := ⟨_, op_isN, op_dis⟩
theorem c_isn : Cmp S W X .IsNot dIsnOp := ⟨_, op_notN, op_disn⟩
/-! ### chains of two -/
def dChain (o o' : D → D → Om → Out R) (f k m : DE) : DE := fun ρ ω => (f ρ ω).bind fun r ω1 => if r.isF = true then .bad else (k ρ ω1).bind fun s ω2 => if s.isF = true then .bad else (o (vw ω2 r.d) (vw ω2 s.d) ω2).bind fun z ω3 => match z.d with
  | .bl true => (m ρ ω3).bind fun t ω4 => o' (vw ω4 s.d) (vw ω4 t.d) ω4
  | .bl false => .ok (.fz (.bl false)) ω3
  | _ => .bad
theorem chain_read {r r' : R2} {o o' : D → D → Om → Out R} {f k m : DE} (hd : OpD S W r o) (hd' : OpD S W r' o') {Q : VK} (h : upE S W (dChain o o' f k m) σ H Q) : tChain r r' (upE S W f) (upE S W k) (upE S W m) σ H Q := by
  obtain ⟨g, ρ, ω, st, post⟩ := h
  refine ⟨g, ρ, ω, st, ?_⟩
  unfold dChain at post
  cases hf : f ρ ω with
  | bad => rw [hf] at post; exact post
  | exn c ω1 => rw [hf] at post; exact post
  | ok a ω1 =>
    rw [hf] at post
    intro g1 H1 x l1 st1 q1
    simp only [Out.bind] at post
    split at post
    · exact post.elim
    rename_i hF
    have hF : a.isF = false := by simpa using hF
    obtain ⟨g2, l2, st2, q2⟩ := q1.norm st1
    refine ⟨g2, ρ, ω1, st2, ?_⟩
    cases hk : k ρ ω1 with
    | bad => rw [hk] at post; exact post
    | exn c ω2 =>
      rw [hk] at post
      exact fun g3 H3 l3 st3 => post g3 H3 ((l1.trans l2).trans l3) st3
    | ok b ω2 =>
      rw [hk] at post
      intro g3 H3 y l3 st3 q3
      simp only at post
      split at post
      · exact post.elim
      rename_i hF2
      have hF2 : b.isF = false := by simpa using hF2
      have q4 := (q2.stay (ω' := ω2) (H' := H3) l3 hF).pk st3
      rw [R.nrm_d] at q4
      obtain ⟨g4, l4, st4, q5⟩ := q3.norm st3
      have q6 := q5.pk st4
      rw [R.nrm_d] at q6
      have q4 : Pk S g4 H3 a.d x := by
        have z := ((q2.stay (ω' := ω2) (H' := H3) (l3.trans l4) hF).pk st4)
        rw [R.nrm_d] at z
        exact z
      refine hd g4 H3 σ ρ ω2 x y _ _ _ st4 (q4.vw st4) (q6.vw st4) ?_
      cases ho : o (vw ω2 a.d) (vw ω2 b.d) ω2 with
      | bad => rw [ho] at post; exact post
      | exn c ω3 =>
        rw [ho] at post
        exact fun g5 H5 l5 st5 => post g5 H5 ((((l1.trans l2).trans l3).trans l4).trans l5) st5
      | ok z ω3 =>
        rw [ho] at post
        intro g5 H5 u l5 st5 q7
        have q8 := q7.pk st5
        simp only at post
        split at post
        · rename_i ez
          rw [ez] at q8
          refine ⟨true, q8.bl, ?_⟩
          rw [if_pos rfl]
          refine ⟨g5, ρ, ω3, st5, ?_⟩
          cases hm : m ρ ω3 with
          | bad => rw [hm] at post; exact post
          | exn c ω4 =>
            rw [hm] at post
            exact fun g6 H6 l6 st6 => post g6 H6 (((((l1.trans l2).trans l3).trans l4).trans l5).trans l6) st6
          | ok t ω4 =>
            rw [hm] at post
            intro g6 H6 w l6 st6 q9
            have z1 := ((q5.stay (ω' := ω4) (H' := H6) (l5.trans l6) hF2).pk st6)
            rw [R.nrm_d] at z1
            exact hd' g6 H6 σ ρ ω4 y w _ _ Q st6 (z1.vw st6) ((q9.pk st6).vw st6) (post.mono (((((l1.trans l2).trans l3).trans l4).trans l5).trans l6))
        · rename_i ez
          rw [ez] at q8
          refine ⟨false, q8.bl, ?_⟩
          rw [if_neg (by simp)]
          exact post g5 H5 _ ((((l1.trans l2).trans l3).trans l4).trans l5) st5 rfl
        · exact post.elim
theorem ve_chain {op op' : CmpOp} {o o' : D → D → Om → Out R} {a b c : Expr} {f k m : DE} {pos : Pos} (c1 : Cmp S W X op o) (c2 : Cmp S W X op' o') (ha : VE S W X a f) (hb : VE S W X b k) (hc : VE S W X c m)
    (hm : lastMarks [op, op'] [b, c] = false := by with_unfolding_all rfl) : VE S W X (.Compare a [op, op'] [b, c] pos) (dChain o o' f k m) := by
  obtain ⟨r2, h1, h2⟩ := c1.ex
  obtain ⟨r3, h3, h4⟩ := c2.ex
  exact (pe_chain h1 h3 ha hb hc hm).imp fun _ _ _ h => chain_read h2 h4 h
theorem vt_chain {op op' : CmpOp} {o o' : D → D → Om → Out R} {a b c : Expr} {f k m : DE} {pos : Pos} (c1 : Cmp S W X op o) (c2 : Cmp S W X op' o') (ha : VE S W X a f) (hb : VE S W X b k) (hc : VE S W X c m)
    (hm : lastMarks [op, op'] [b, c] = false := by with_unfolding_all rfl) : VT S W X (.Compare a [op, op'] [b, c] pos) (dTv (dChain o o' f k m)) := by
  obtain ⟨r2, h1, h2⟩ := c1.ex
  obtain ⟨r3, h3, h4⟩ := c2.ex
  exact (pt_chain h1 h3 ha hb hc hm).imp fun _ _ _ h => chain_read h2 h4 (tv_read h)
/-! ### tests -/
theorem vt_val {e : Expr} {f : DE} (h : VE S W X e f) (he : ∀ whole, isTrue e X.env whole = (do let v ← whole; standAt e.pos; holding [v] (truthy v)) := by intro _; rfl) : VT S W X e (dTv f) := (pt_val h he).imp fun _ _ _ h => tv_read h
def dAndT (c k : DT) : DT := fun ρ ω => (c ρ ω).bind fun b ω1 => if b = true then k ρ ω1 else .ok false ω1
def dOrT (c k : DT) : DT := fun ρ ω => (c ρ ω).bind fun b ω1 => if b = true then .ok true ω1 else k ρ ω1
def dNotT (c : DT) : DT := fun ρ ω => (c ρ ω).bind fun b ω1 => .ok (!b) ω1
theorem tt_post {g : G} {Q : Bool → Hp → Prop} {c : DT} {k : Bool → Om → Out Bool} {Q' : Bool → Hp → Prop} (post : PostT S W g σ ρ Q ((c ρ ω).bind k)) (hk : ∀ b ω1 g1 H1, Le g g1 → Stt S g1 H1 σ ρ ω1 → PostT S W g1 σ ρ Q (k b ω1) → Q' b H1) : PostT S W g σ ρ Q' (c ρ ω) := by
  cases hc : c ρ ω with
  | bad => rw [hc] at post; exact post
  | exn c ω1 => rw [hc] at post; exact post
  | ok b ω1 =>
    rw [hc] at post
    exact fun g1 H1 l1 st1 => hk b ω1 g1 H1 l1 st1 (PostT.mono l1 (o := k b ω1) post)
abbrev VW (S : Sg) (W : WX) (X : Cx) (e : Expr) (f : DT) : Prop := PW X e (upT S W f)
theorem _root_.L2.PW.imp {X : Cx} {e : Expr} {t t' : TT} (h : PW X e t) (w : ∀ σ H Q, t' σ H Q → t σ H Q) : PW X e t' := ⟨fun wh pins s σ H Q I q => h.run wh pins s σ H Q I (w σ H Q q)⟩
section
variable {a b : Expr} {rest : List Expr} {pos : Pos} {c k : DT}
theorem vw_and1 (ha : VT S W X a c) : VW S W X (.BoolOp .And [a] pos) c := pw_and1 ha
theorem vw_or1 (ha : VT S W X a c) : VW S W X (.BoolOp .Or [a] pos) c := pw_or1 ha
theorem vw_and (ha : VT S W X a c) (hb : VW S W X (.BoolOp .And (b :: rest) pos) k) : VW S W X (.BoolOp .And (a :: b :: rest) pos) (dAndT c k) := (pw_and ha hb).imp fun σ H Q ⟨g, ρ, ω, st, post⟩ =>
  ⟨g, ρ, ω, st, tt_post post fun b ω1 g1 H1 l1 st1 p => by
    cases b with
    | true => exact ⟨g1, ρ, ω1, st1, p⟩
    | false => exact p g1 H1 (.refl _) st1⟩
theorem vw_or (ha : VT S W X a c) (hb : VW S W X (.BoolOp .Or (b :: rest) pos) k) : VW S W X (.BoolOp .Or (a :: b :: rest) pos) (dOrT c k) := (pw_or ha hb).imp fun σ H Q ⟨g, ρ, ω, st, post⟩ =>
  ⟨g, ρ, ω, st, tt_post post fun b ω1 g1 H1 l1 st1 p => by
    cases b with
    | true => exact p g1 H1 (.refl _) st1
    | false => exact ⟨g1, ρ, ω1, st1, p⟩⟩
theorem vt_not (ha : VT S W X a c) : VT S W X (.UnaryOp .Not a pos) (dNotT c) := (pt_not ha).imp fun σ H Q ⟨g, ρ, ω, st, post⟩ =>
  ⟨g, ρ, ω, st, tt_post post fun b ω1 g1 H1 l1 st1 p => p g1 H1 (.refl _) st1⟩
end
/-! ### and, or, not as values -/
def dAndV (f k : DE) : DE := fun ρ ω => (f ρ ω).bind fun r ω1 => match r.d with
  | .bl true => k ρ ω1
  | .bl false => .ok (.fz (.bl false)) ω1
  | _ => .bad
def dOrV (f k : DE) : DE := fun ρ ω => (f ρ ω).bind fun r ω1 => match r.d with
  | .bl true => .ok (.fz (.bl true)) ω1
  | .bl false => k ρ ω1
  | _ => .bad
def dNotV (f : DE) : DE := fun ρ ω => (f ρ ω).bind fun r ω1 => match r.d with
  | .bl b => .ok (.fz (.bl (!b))) ω1
  | _ => .bad
theorem ee_post {g : G} {Q : VK} {f : DE} {k : R → Om → Out R} {Q' : VK} (post : PostE S W g σ ρ Q ((f ρ ω).bind k)) (hk : ∀ r ω1 g1 H1 v, Le g g1 → Stt S g1 H1 σ ρ ω1 → RepR S g1 H1 σ ρ ω1 r v → PostE S W g1 σ ρ Q (k r ω1) → Q' v H1) : PostE S W g σ ρ Q' (f ρ ω) := by
  cases hf : f ρ ω with
  | bad => rw [hf] at post; exact post
  | exn c ω1 => rw [hf] at post; exact post
  | ok r ω1 =>
    rw [hf] at post
    exact fun g1 H1 v l1 st1 q1 => hk r ω1 g1 H1 v l1 st1 q1 (PostE.mono l1 (o := k r ω1) post)
section
variable {a b : Expr} {rest : List Expr} {pos : Pos} {f k : DE}
theorem ve_one {op : BoolOp} (h : VE S W X a f) : VE S W X (.BoolOp op [a] pos) f := pe_one h
theorem ve_andV (ha : VE S W X a f) (hb : VE S W X (.BoolOp .And (b :: rest) pos) k) : VE S W X (.BoolOp .And (a :: b :: rest) pos) (dAndV f k) := (pe_and ha hb).imp fun σ H Q ⟨g, ρ, ω, st, post⟩ =>
  ⟨g, ρ, ω, st, ee_post post fun r ω1 g1 H1 v l1 st1 q1 p => by
    have q2 := q1.pk st1
    split at p
    · rename_i e
      rw [e] at q2
      exact ⟨true, q2.bl, by rw [if_pos rfl]; exact ⟨g1, ρ, ω1, st1, p⟩⟩
    · rename_i e
      rw [e] at q2
      exact ⟨false, q2.bl, by rw [if_neg (by simp)]; exact post_fz st1 p rfl⟩
    · exact p.elim⟩
theorem ve_orV (ha : VE S W X a f) (hb : VE S W X (.BoolOp .Or (b :: rest) pos) k) : VE S W X (.BoolOp .Or (a :: b :: rest) pos) (dOrV f k) := (pe_or ha hb).imp fun σ H Q ⟨g, ρ, ω, st, post⟩ =>
  ⟨g, ρ, ω, st, ee_post post fun r ω1 g1 H1 v l1 st1 q1 p => by
    have q2 := q1.pk st1
    split at p
    · rename_i e
      rw [e] at q2
      exact ⟨true, q2.bl, by rw [if_pos rfl]; exact post_fz st1 p rfl⟩
    · rename_i e
      rw [e] at q2
      exact ⟨false, q2.bl, by rw [if_neg (by simp)]; exact ⟨g1, ρ, ω1, st1, p⟩⟩
    · exact p.elim⟩
theorem ve_notV (ha : VE S W X a f) : VE S W X (.UnaryOp .Not a pos) (dNotV f) := (pe_not ha).imp fun σ H Q ⟨g, ρ, ω, st, post⟩ =>
  ⟨g, ρ, ω, st, ee_post post fun r ω1 g1 H1 v l1 st1 q1 p => by
    have q2 := q1.pk st1
    split at p
    · rename_i b e
      rw [e] at q2
      exact ⟨b, q2.bl, post_fz st1 p rfl⟩
    · exact p.elim⟩
end
end
end Vd
/-! VL6: subscripts, slices, displays, built-in calls. -/
namespace Vd
open PySem PySem.Spec PyProof.Rows L2
section
variable {S : Sg} {W : WX} {g g' : G} {H H' : Hp} {σ : L2.St} {ρ : En} {ω : Om} {d : D} {v : V} {X : Cx}
/-! ### x[i] -/
def D.at (a b : D) : Option D := match a, b with
  | .str z, .int i => if z.length ≤ sizeLine then (atI z.cps.toList i).map fun c => .str ⟨#[c]⟩ else none
  | .dic kvs, b => (D.look (.dic kvs) b).join
  | .dit kvs, b => (D.look (.dit kvs) b).join
  | a, .int i => a.seq.bind fun xs => atI xs i
  | _, _ => none
def dAtOp : D → D → Om → Out R := fun a b ω => match D.at a b with
  | some d => .ok (.fz d) ω
  | none => .bad
def rIxD : R2 := fun x y H Q => ∃ a v, x = .ref a ∧ DGet H a y (some v) ∧ Q v H
theorem ix_dict (hu : X.A.units + 1 < cLine) : IxR X rIxD := by
  intro value slice pins s σ H x y v u Q I rx ry ⟨a, w, e, dg, q⟩ hs
  subst e
  cases rx
  exact tail_any (dict_typeIs I dg) PySem.F.slot_dict_getitem.lookup (d_getItem hu I dg ry fun w' s3 I3 rw' => ⟨w, H, I3, rw', q⟩) hs
def rIxA (K : PySem.W.Frag) : R2 := fun x y H Q => rIx K x y H Q ∨ rIxD x y H Q
theorem Reps.at {K : PySem.W.Frag} {gh : Gh} {xs : List D} {vs : List V} {i : Int} {d : D} (r : Reps K gh xs vs) (e : atI xs i = some d) : ∃ v, atI vs i = some v ∧ Rep K gh d v := by
  unfold atI at e ⊢
  rw [← r.length]
  cases h : ixN xs.length i with
  | none => rw [h] at e; cases e
  | some j =>
    rw [h] at e
    exact r.get e
theorem op_dat : OpD S W (rIxA S.K) dAtOp := by
  intro g H σ ρ ω x y a b Q st ha hb post
  unfold dAtOp at post
  cases e : D.at a b with
  | none => rw [e] at post; exact post.elim
  | some d =>
    rw [e] at post
    have dict : (D.look a b).join = some d → rIxA S.K x y H Q := fun h => by
      cases h1 : D.look a b with
      | none => rw [h1] at h; cases h
      | some o =>
        rw [h1] at h
        have h : o = some d := h
        obtain ⟨p, r, e1, dg, _, hr⟩ := look_get st ha hb h1
        obtain ⟨v, e2, rv⟩ := hr d h
        subst e2
        exact .inr ⟨p, v, e1, dg, post_fz st post rv⟩
    have sq : ∀ {i : Int}, b = .int i → (a.seq.bind fun xs => atI xs i) = some d → rIxA S.K x y H Q := fun {i} hi h => by
      obtain ⟨xs, h1, h2⟩ := Option.bind_eq_some_iff.mp h
      obtain ⟨p, vs, e1, e2, r⟩ := ha.seq st h1
      obtain ⟨v, e3, rv⟩ := r.at h2
      subst hi
      rcases e2 with e2 | e2
      · exact .inl (.inl ⟨p, vs, i, v, e1, hb.int, e2, e3, post_fz st post rv⟩)
      · exact .inl (.inr (.inl ⟨p, vs, i, v, e1, hb.int, e2, e3, post_fz st post rv⟩))
    cases a with
    | str z =>
      cases b with
      | int i =>
        have e : (if z.length ≤ sizeLine then (atI z.cps.toList i).map fun c => D.str ⟨#[c]⟩ else none) = some d := e
        split at e
        · rename_i hz
          obtain ⟨c, h1, h2⟩ := Option.map_eq_some_iff.mp e
          subst h2
          exact .inl (.inr (.inr ⟨z, i, c, ha.str, hb.int, hz, h1, post_fz st post rfl⟩))
        · cases e
      | _ => cases e
    | dic kvs => exact dict e
    | dit kvs => exact dict e
    | lst xs => cases b with
      | int i => exact sq rfl e
      | _ => cases e
    | tup xs => cases b with
      | int i => exact sq rfl e
      | _ => cases e
    | ktp xs => cases b with
      | int i => exact sq rfl e
      | _ => cases e
    | scr xs => cases b with
      | int i => exact sq rfl e
      | _ => cases e
    | non => cases b <;> cases e
    | bl _ => cases b <;> cases e
    | int _ => cases b <;> cases e
    | obj _ => cases b <;> cases e
theorem ve_at {k : Nat} {a b : Expr} {f m : DE} {pos : Pos} (hr : Room k X.A) (ha : VE S W X a f) (hb : VE S W X b m) (hK : X.K = S.K := by rfl) (hs : PlainIx b := by exact fun _ _ => rfl) : VE S W X (.Subscript a b pos) (dOp2 dAtOp f m) :=
  (pe_ix (r := rIxA S.K) (by rw [← hK]; exact ix_seq.or (ix_dict (hu_of hr))) ha hb hs).imp fun _ _ _ h => op2_read op_dat h
/-! ### slices -/
abbrev DO := En → Om → Out (Option Int)
def PostO (S : Sg) (W : WX) (g : G) (σ : L2.St) (ρ : En) (Q : Option Int → Hp → Prop) : Out (Option Int) → Prop
  | .ok b ω => ∀ g' H', Le g g' → Stt S g' H' σ ρ ω → Q b H'
  | .exn c ω => ∀ g' H', Le g g' → Stt S g' H' σ ρ ω → W (.ref (S.ca c)) none σ H'
  | .bad => False
def upO (S : Sg) (W : WX) (f : DO) : TO := fun σ H Q => ∃ g ρ ω, Stt S g H σ ρ ω ∧ PostO S W g σ ρ Q (f ρ ω)
abbrev VO (S : Sg) (W : WX) (X : Cx) (e : Option Expr) (f : DO) : Prop := PO X e (upO S W f)
theorem _root_.L2.PO.imp {X : Cx} {e : Option Expr} {t t' : TO} (h : PO X e t) (w : ∀ σ H Q, t' σ H Q → t σ H Q) : PO X e t' := ⟨fun pins s σ H Q I q => h.run pins s σ H Q I (w σ H Q q)⟩
def dNoPart : DO := fun _ ω => .ok none ω
def dPart (f : DE) : DO := fun ρ ω => (f ρ ω).bind fun r ω1 => match r.d with
  | .int i => .ok (some i) ω1
  | _ => .bad
theorem vo_none : VO S W X none dNoPart := po_none.imp fun σ H Q ⟨g, ρ, ω, st, post⟩ => post g H (.refl _) st
theorem vo_some {e : Expr} {f : DE} (h : VE S W X e f) : VO S W X (some e) (dPart f) := (po_some h).imp fun σ H Q ⟨g, ρ, ω, st, post⟩ => by
  refine ⟨g, ρ, ω, st, ?_⟩
  unfold dPart at post
  cases hf : f ρ ω with
  | bad => rw [hf] at post; exact post
  | exn c ω1 => rw [hf] at post; exact post
  | ok r ω1 =>
    rw [hf] at post
    intro g1 H1 v l1 st1 q1
    simp only [Out.bind] at post
    split at post
    · rename_i i e
      have q2 := q1.pk st1
      rw [e] at q2
      exact ⟨i, q2.int, post g1 H1 l1 st1⟩
    · exact post.elim
def cut {α : Type} (xs : List α) (lo hi : Option Int) : List α := (xs.drop (HT.sIx xs.length 0 lo)).take (HT.sIx xs.length xs.length hi - HT.sIx xs.length 0 lo)
theorem Reps.cut {K : PySem.W.Frag} {gh : Gh} {xs : List D} {vs : List V} (r : Reps K gh xs vs) (lo hi : Option Int) : Reps K gh (cut xs lo hi) (cutV vs lo hi) := by
  unfold Vd.cut cutV
  rw [← r.length]
  exact Reps.take _ (Reps.drop _ r)
def dCutOp (a : D) (lo hi : Option Int) (ω : Om) : Out R := match a with
  | .lst xs => .ok (.own (.lst (cut xs lo hi))) ω
  | .scr ns => .ok (.own (.lst (cut (ns.map D.int) lo hi))) ω
  | .tup xs => .ok (.fz (.tup (cut xs lo hi))) ω
  | .str z => if z.length ≤ sizeLine then .ok (.fz (.str (cutS z lo hi))) ω else .bad
  | _ => .bad
def dSl (f : DE) (lo hi : DO) : DE := fun ρ ω => (f ρ ω).bind fun r ω1 => if r.isF = true then .bad else (lo ρ ω1).bind fun l ω2 => (hi ρ ω2).bind fun h ω3 => dCutOp (vw ω3 r.d) l h ω3
def rSlZ (K : PySem.W.Frag) : V → Option Int → Option Int → Hp → VK → Prop := fun x lo hi H Q => rSlL K x lo hi H Q ∨ rSlA K x lo hi H Q ∨ rSlS x lo hi H Q
theorem cut_whole {α : Type} {xs : List α} {lo hi : Option Int} (h : HT.sIx xs.length 0 lo = 0 ∧ HT.sIx xs.length xs.length hi = xs.length) : cut xs lo hi = xs := by
  unfold cut
  rw [h.1, h.2]
  simp
theorem cut_read {a : D} {lo hi : Option Int} {Q : VK} {x : V} (st : Stt S g H σ ρ ω) (ha : Pk S g H a x) (post : PostE S W g σ ρ Q (dCutOp a lo hi ω)) : rSlZ S.K x lo hi H Q := by
  cases a with
  | lst xs =>
    obtain ⟨p, vs, e1, h1, r1⟩ := ha.lst st
    exact .inl ⟨p, vs, e1, SqL.of h1, fun q hq => post_ownL st post hq (r1.cut lo hi)⟩
  | scr ns =>
    obtain ⟨p, e1, h1⟩ := ha.scr st
    exact .inl ⟨p, _, e1, h1, fun q hq => post_ownL st post hq ((reps_ints ns).cut lo hi)⟩
  | tup xs =>
    obtain ⟨p, vs, e1, h1, r1⟩ := ha.tup st
    have ra : Rep S.K g.gh (.tup xs) x := ha.resolve_right fun ⟨_, _, _, _, c⟩ => c
    refine .inr (.inl ⟨p, vs, e1, SqT.of h1, fun z => ?_, fun z q hq => post_tup st post hq (r1.cut lo hi)⟩)
    rw [← r1.length] at z
    have post : PostE S W g σ ρ Q (.ok (.fz (.tup (cut xs lo hi))) ω) := post
    rw [cut_whole z] at post
    subst e1
    exact post_fz st post ra
  | str z =>
    have post : PostE S W g σ ρ Q (if z.length ≤ sizeLine then .ok (.fz (.str (cutS z lo hi))) ω else .bad) := post
    split at post
    · rename_i hz
      exact .inr (.inr ⟨z, ha.str, hz, post_fz st post rfl⟩)
    · exact post.elim
  | _ => exact post.elim
theorem sl_read {f : DE} {lo hi : DO} {Q : VK} (h : upE S W (dSl f lo hi) σ H Q) : tSl (rSlZ S.K) (upE S W f) (upO S W lo) (upO S W hi) σ H Q := by
  obtain ⟨g, ρ, ω, st, post⟩ := h
  refine ⟨g, ρ, ω, st, ?_⟩
  unfold dSl at post
  cases hf : f ρ ω with
  | bad => rw [hf] at post; exact post
  | exn c ω1 => rw [hf] at post; exact post
  | ok r ω1 =>
    rw [hf] at post
    intro g1 H1 x l1 st1 q1
    simp only [Out.bind] at post
    split at post
    · exact post.elim
    rename_i hF
    have hF : r.isF = false := by simpa using hF
    obtain ⟨g2, l2, st2, q2⟩ := q1.norm st1
    refine ⟨g2, ρ, ω1, st2, ?_⟩
    cases hk : lo ρ ω1 with
    | bad => rw [hk] at post; exact post
    | exn c ω2 =>
      rw [hk] at post
      exact fun g3 H3 l3 st3 => post g3 H3 ((l1.trans l2).trans l3) st3
    | ok o ω2 =>
      rw [hk] at post
      simp only at post
      intro g3 H3 l3 st3
      refine ⟨g3, ρ, ω2, st3, ?_⟩
      cases hm : hi ρ ω2 with
      | bad => rw [hm] at post; exact post
      | exn c ω3 =>
        rw [hm] at post
        exact fun g4 H4 l4 st4 => post g4 H4 (((l1.trans l2).trans l3).trans l4) st4
      | ok o2 ω3 =>
        rw [hm] at post
        intro g4 H4 l4 st4
        have z := (q2.stay (ω' := ω3) (H' := H4) (l3.trans l4) hF).pk st4
        rw [R.nrm_d] at z
        exact cut_read st4 (z.vw st4) (PostE.mono (((l1.trans l2).trans l3).trans l4) (o := dCutOp (vw ω3 r.d) o o2 ω3) post)
theorem ve_sl {e : Expr} {lo hi : Option Expr} {f : DE} {l h : DO} {pos p2 : Pos} (he : VE S W X e f) (hl : VO S W X lo l) (hh : VO S W X hi h) (hK : X.K = S.K := by rfl) : VE S W X (.Subscript e (.Slice lo hi none p2) pos) (dSl f l h) :=
  (pe_slice (r := rSlZ S.K) (by rw [← hK]; exact sl_list.or (sl_tupA.or sl_str)) he hl hh).imp fun _ _ _ h => sl_read h
/-! ### displays -/
def dTup (a : DA) : DE := fun ρ ω => (a ρ ω).bind fun ds ω1 => if ds.length ≤ sizeLine then .ok (.fz (.tup ds)) ω1 else .bad
def dLst (a : DA) : DE := fun ρ ω => (a ρ ω).bind fun ds ω1 => if ds.length ≤ sizeLine then .ok (.own (.lst ds)) ω1 else .bad
theorem ae_post {g : G} {Q : VK} {a : DA} {k : List D → Om → Out R} {Q' : List V → Hp → Prop} (post : PostE S W g σ ρ Q ((a ρ ω).bind k)) (hk : ∀ ds ω1 g1 H1 vs, Le g g1 → Stt S g1 H1 σ ρ ω1 → Reps S.K g1.gh ds vs → PostE S W g1 σ ρ Q (k ds ω1) → Q' vs H1) : PostA S W g σ ρ Q' (a ρ ω) := by
  cases ha : a ρ ω with
  | bad => rw [ha] at post; exact post
  | exn c ω1 => rw [ha] at post; exact post
  | ok ds ω1 =>
    rw [ha] at post
    exact fun g1 H1 vs l1 st1 q1 => hk ds ω1 g1 H1 vs l1 st1 q1 (PostE.mono l1 (o := k ds ω1) post)
theorem ve_tup {es : List Expr} {a : DA} {x1} {pos : Pos} (h : VA S W X es a) : VE S W X (.Tuple es x1 pos) (dTup a) := (pe_tup h).imp fun σ H Q ⟨g, ρ, ω, st, post⟩ => ⟨g, ρ, ω, st, ae_post post fun ds ω1 g1 H1 vs l1 st1 r p => by
  split at p
  · rename_i hz
    exact ⟨by rw [← r.length]; exact hz, fun q hq => post_tup st1 p hq r⟩
  · exact p.elim⟩
theorem ve_lst {es : List Expr} {a : DA} {pos : Pos} (h : VA S W X es a) : VE S W X (.List es pos) (dLst a) := (pe_lst h).imp fun σ H Q ⟨g, ρ, ω, st, post⟩ => ⟨g, ρ, ω, st, ae_post post fun ds ω1 g1 H1 vs l1 st1 r p => by
  split at p
  · rename_i hz
    exact ⟨by rw [← r.length]; exact hz, fun q hq => post_ownL st1 p hq r⟩
  · exact p.elim⟩
def dDicK : DE := fun _ ω => .ok (.own (.dic [])) ω
def dDicT : DE := fun _ ω => .ok (.own (.dit [])) ω
theorem ve_dicK {pos : Pos} : VE S W X (.Dict [] [] pos) dDicK := pe_dnewK.imp fun σ H Q ⟨g, ρ, ω, st, post⟩ p hp => post_own st post hp trivial ⟨[], upd_same, rfl⟩
theorem ve_dicT {pos : Pos} : VE S W X (.Dict [] [] pos) dDicT := pe_dnewT.imp fun σ H Q ⟨g, ρ, ω, st, post⟩ p hp => post_own st post hp trivial ⟨[], upd_same, rfl⟩
/-! ### built-in calls -/
/-- one argument, looked at -/
def dBi (op : D → Om → Out R) (f : DE) : DE := fun ρ ω => (f ρ ω).bind fun r ω1 => op (vw ω1 r.d) ω1
def CaD (S : Sg) (W : WX) (r1 : List V → Hp → VK → Prop) (op : D → Om → Out R) : Prop := ∀ (g : G) (H : Hp) (σ : L2.St) (ρ : En) (ω : Om) (x : V) (a : D) (Q : VK), Stt S g H σ ρ ω → Pk S g H a x → PostE S W g σ ρ Q (op a ω) → r1 [x] H Q
theorem bi_read {r1 : List V → Hp → VK → Prop} {op : D → Om → Out R} {f : DE} (hd : CaD S W r1 op) {Q : VK} (h : upE S W (dBi op f) σ H Q) : tCB r1 (tCons (upE S W f) tNil) σ H Q := by
  obtain ⟨g, ρ, ω, st, post⟩ := h
  exact ⟨g, ρ, ω, st, ee_post post fun r ω1 g1 H1 v l1 st1 q1 p => hd g1 H1 σ ρ ω1 v _ Q st1 ((q1.pk st1).vw st1) p⟩
/-- a built-in function of one argument, its rule -/
structure Bi (S : Sg) (W : WX) (X : Cx) (x : Str) (op : D → Om → Out R) : Prop where
  ex : ∃ r, CaD S W r op ∧ ((∃ id, bootBuiltins x = some (.builtin id) ∧ CallR X (.builtin id) r) ∨ (∃ T, bootBuiltins x = some (.type T) ∧ CallR X (.type T) r))
theorem ve_bi {x : Str} {op : D → Om → Out R} {e : Expr} {f : DE} {p pos : Pos} (b : Bi S W X x op) (hm : X.mg x = none) (he : VE S W X e f) (hg : Gl X x := by rfl) (hn : x ≠ "__name__" := by decide) (hdb : (x == ("__debug__" : Str)) = false := by decide)
    (hse : starEach (e :: []) X.env = (false, eval e X.env) :: starEach [] X.env := by rfl) (hpl : (backTo pos (starEach [] X.env)).any (·.1) = false := by rfl) : VE S W X (.Call (.Name x p) [e] [] pos) (dBi op f) := by
  obtain ⟨r, hd, h⟩ := b.ex
  rcases h with ⟨id, hv, hc⟩ | ⟨T, hv, hc⟩
  · exact (pe_callB hc hg hm hv (pa_cons he pa_nil hse) hn hdb hse hpl).imp fun _ _ _ h => bi_read hd h
  · exact (pe_callTy hc hg hm hv (pa_cons he pa_nil hse) hn hdb hse hpl).imp fun _ _ _ h => bi_read hd h
def dLenOp : D → Om → Out R := fun a ω => match a with
  | .str z => if z.length ≤ sizeLine then .ok (.fz (.int z.length)) ω else .bad
  | .dic kvs => .ok (.fz (.int kvs.length)) ω
  | a => match a.seq with
    | some xs => .ok (.fz (.int xs.length)) ω
    | none => .bad
def rLenA (K : PySem.W.Frag) : List V → Hp → VK → Prop := fun xs H Q => (∃ x n, xs = [x] ∧ LenV K x H n ∧ Q (.int n) H) ∨ (∃ p kvs, xs = [.ref p] ∧ Rd H p (.dK kvs) ∧ Q (.int kvs.length) H)
theorem callR_or {f : Value} {r r' : List V → Hp → VK → Prop} (h : CallR X f r) (h' : CallR X f r') : CallR X f (fun xs H Q => r xs H Q ∨ r' xs H Q) := by
  intro pins s σ H xs us Q I rs q
  rcases q with q | q
  · exact h pins s σ H xs us Q I rs q
  · exact h' pins s σ H xs us Q I rs q
theorem call_lenK : CallR X (.builtin "len") (fun xs H Q => ∃ p kvs, xs = [.ref p] ∧ Rd H p (.dK kvs) ∧ Q (.int kvs.length) H) := by
  intro pins s σ H xs us Q I rs ⟨p, kvs, e, h, q⟩
  subst e
  obtain ⟨u, e, rx⟩ := vals1 rs
  subst e
  cases rx
  exact d_len I h fun t s' I' => ⟨.int kvs.length, H, I', ⟨_, rfl⟩, q⟩
theorem bi_len (hK : X.K = S.K := by rfl) : Bi S W X "len" dLenOp := by
  refine ⟨rLenA S.K, ?_, .inl ⟨"len", boot_len, by rw [← hK]; exact callR_or call_len call_lenK⟩⟩
  intro g H σ ρ ω x a Q st ha post
  have sq : ∀ {xs : List D}, a.seq = some xs → PostE S W g σ ρ Q (.ok (.fz (.int xs.length)) ω) → rLenA S.K [x] H Q := fun {xs} h1 p => by
    obtain ⟨q, vs, e1, e2, r⟩ := ha.seq st h1
    subst e1
    rw [r.length] at p
    rcases e2 with e2 | e2
    · exact .inl ⟨_, vs.length, rfl, .inl ⟨vs, e2, rfl⟩, post_fz st p rfl⟩
    · exact .inl ⟨_, vs.length, rfl, .inr ⟨vs, e2, rfl⟩, post_fz st p rfl⟩
  cases a with
  | str z =>
    have post : PostE S W g σ ρ Q (if z.length ≤ sizeLine then .ok (.fz (.int z.length)) ω else .bad) := post
    split at post
    · rename_i hz
      have e := ha.str
      subst e
      exact .inl ⟨_, z.length, rfl, ⟨hz, rfl⟩, post_fz st post rfl⟩
    · exact post.elim
  | dic kvs =>
    obtain ⟨p, vs, e, h1, r⟩ := ha.dic st
    subst e
    have post : PostE S W g σ ρ Q (.ok (.fz (.int kvs.length)) ω) := post
    rw [(repK_iff.mp r).length] at post
    exact .inr ⟨p, vs, rfl, h1, post_fz st post rfl⟩
  | lst xs => exact sq rfl post
  | tup xs => exact sq rfl post
  | ktp xs => exact sq rfl post
  | scr xs => exact sq rfl post
  | _ => exact post.elim
def dListOp : D → Om → Out R := fun a ω => match a.seq with
  | some xs => .ok (.own (.lst xs)) ω
  | none => .bad
theorem bi_list (hK : X.K = S.K := by rfl) : Bi S W X "list" dListOp := by
  refine ⟨fun xs H Q => ∃ p ys, xs = [.ref p] ∧ (SqL S.K H p ys ∨ SqT S.K H p ys) ∧ ∀ l, H l = none → Q (.ref l) (upd H l (.lst ys)), ?_, .inr ⟨"list", boot_list, by rw [← hK]; exact call_list_of⟩⟩
  intro g H σ ρ ω x a Q st ha post
  unfold dListOp at post
  split at post
  · rename_i xs e
    obtain ⟨q, vs, e1, e2, r⟩ := ha.seq st e
    exact ⟨q, vs, by rw [e1], e2, fun l hl => post_ownL st post hl r⟩
  · exact post.elim
def dTupleOp : D → Om → Out R := fun a ω => match a with
  | .lst xs => .ok (.fz (.tup xs)) ω
  | .scr ns => .ok (.fz (.tup (ns.map D.int))) ω
  | .tup xs => .ok (.fz (.tup xs)) ω
  | _ => .bad
theorem bi_tuple (hK : X.K = S.K := by rfl) : Bi S W X "tuple" dTupleOp := by
  refine ⟨fun xs H Q => ∃ p ys, xs = [.ref p] ∧ ((SqL S.K H p ys ∧ ∀ l, H l = none → Q (.ref l) (upd H l (.tup ys))) ∨ (SqT S.K H p ys ∧ Q (.ref p) H)), ?_, .inr ⟨"tuple", boot_tuple, by rw [← hK]; exact call_tuple_of⟩⟩
  intro g H σ ρ ω x a Q st ha post
  cases a with
  | lst xs =>
    obtain ⟨p, vs, e1, h1, r1⟩ := ha.lst st
    exact ⟨p, vs, by rw [e1], .inl ⟨SqL.of h1, fun l hl => post_tup st post hl r1⟩⟩
  | scr ns =>
    obtain ⟨p, e1, h1⟩ := ha.scr st
    exact ⟨p, _, by rw [e1], .inl ⟨h1, fun l hl => post_tup st post hl (reps_ints ns)⟩⟩
  | tup xs =>
    obtain ⟨p, vs, e1, h1, r1⟩ := ha.tup st
    have ra : Rep S.K g.gh (.tup xs) x := ha.resolve_right fun ⟨_, _, _, _, c⟩ => c
    subst e1
    exact ⟨p, vs, rfl, .inr ⟨SqT.of h1, post_fz st post ra⟩⟩
  | _ => exact post.elim
def dIntOp : D → Om → Out R := fun a ω => match a with
  | .int i => .ok (.fz (.int i)) ω
  | .bl b => .ok (.fz (.int (if b then 1 else 0))) ω
  | .str z => if z.length ≤ 640 then (match PySem.intText? z with
    | some n => .ok (.fz (.int n)) ω
    | none => .bad) else .bad
  | _ => .bad
def rIntA : List V → Hp → VK → Prop := fun xs H Q => ((∃ i, xs = [.int i] ∧ Q (.int i) H) ∨ ∃ k, xs = [.bl k] ∧ Q (.int (if k then 1 else 0)) H) ∨ ∃ a n, xs = [.str a] ∧ PySem.intText? a = some n ∧ a.length ≤ 640 ∧ Q (.int n) H
theorem bi_int : Bi S W X "int" dIntOp := by
  refine ⟨rIntA, ?_, .inr ⟨"int", boot_int, callR_or call_int1 call_int_str⟩⟩
  intro g H σ ρ ω x a Q st ha post
  cases a with
  | int i =>
    have e := ha.int
    subst e
    exact .inl (.inl ⟨i, rfl, post_fz st post rfl⟩)
  | bl b =>
    have e := ha.bl
    subst e
    exact .inl (.inr ⟨b, rfl, post_fz st post rfl⟩)
  | str z =>
    have e := ha.str
    subst e
    unfold dIntOp at post
    simp only at post
    split at post
    · rename_i hz
      split at post
      · rename_i n hn
        exact .inr ⟨z, n, rfl, hn, hz, post_fz st post rfl⟩
      · exact post.elim
    · exact post.elim
  | _ => exact post.elim
def D.ints : List D → Option (List Int)
  | [] => some []
  | .int i :: ds => (D.ints ds).map (i :: ·)
  | _ => none
theorem reps_ints_of {K : PySem.W.Frag} {gh : Gh} : ∀ {ds : List D} {vs : List V} {ns : List Int}, Reps K gh ds vs → D.ints ds = some ns → vs = ns.map V.int
  | [], _, _, h, e => by
    cases e
    exact h
  | .int i :: ds, _, _, ⟨v, r, e1, h, t⟩, e => by
    obtain ⟨ms, e2, e3⟩ := Option.map_eq_some_iff.mp e
    subst e1 e3
    rw [reps_ints_of t e2]
    cases h
    rfl
  | .non :: _, _, _, _, e => by cases e
  | .bl _ :: _, _, _, _, e => by cases e
  | .str _ :: _, _, _, _, e => by cases e
  | .scr _ :: _, _, _, _, e => by cases e
  | .lst _ :: _, _, _, _, e => by cases e
  | .tup _ :: _, _, _, _, e => by cases e
  | .ktp _ :: _, _, _, _, e => by cases e
  | .dic _ :: _, _, _, _, e => by cases e
  | .dit _ :: _, _, _, _, e => by cases e
  | .obj _ :: _, _, _, _, e => by cases e
def dSumOp : D → Om → Out R := fun a ω => match a with
  | .lst xs => (match D.ints xs with
    | some ns => .ok (.fz (.int ns.sum)) ω
    | none => .bad)
  | _ => .bad
theorem Pk.ints {xs : List D} {ns : List Int} (st : Stt S g H σ ρ ω) (h : Pk S g H (.lst xs) v) (e : D.ints xs = some ns) : ∃ a, v = .ref a ∧ SqL S.K H a (ns.map V.int) := by
  obtain ⟨p, vs, e1, h1, r1⟩ := h.lst st
  rw [reps_ints_of r1 e] at h1
  exact ⟨p, e1, SqL.of h1⟩
theorem bi_sum (hc : X.calm = true := by rfl) (hK : X.K = S.K := by rfl) : Bi S W X "sum" dSumOp := by
  refine ⟨rSum S.K, ?_, .inl ⟨"sum", by decide +kernel, by rw [← hK]; exact cr_sum hc⟩⟩
  intro g H σ ρ ω x a Q st ha post
  cases a with
  | lst xs =>
    unfold dSumOp at post
    simp only at post
    split at post
    · rename_i ns e
      obtain ⟨p, e1, h1⟩ := ha.ints st e
      exact ⟨p, ns, by rw [e1], h1, post_fz st post rfl⟩
    · exact post.elim
  | _ => exact post.elim
def leastOf : List Int → Int
  | [] => 0
  | [a] => a
  | a :: r => min a (leastOf r)
def dMin1Op : D → Om → Out R := fun a ω => match a with
  | .lst xs => (match D.ints xs with
    | some ns => if 0 < ns.length then .ok (.fz (.int (leastOf ns))) ω else .bad
    | none => .bad)
  | _ => .bad
theorem leastOf_mem : ∀ {ns : List Int}, 0 < ns.length → leastOf ns ∈ ns ∧ ∀ y ∈ ns, leastOf ns ≤ y
  | [], h => by simp at h
  | [a], _ => by simp [leastOf]
  | a :: b :: r, _ => by
    obtain ⟨h1, h2⟩ := leastOf_mem (ns := b :: r) (by simp)
    have e : leastOf (a :: b :: r) = min a (leastOf (b :: r)) := rfl
    rw [e]
    refine ⟨?_, fun y hy => ?_⟩
    · by_cases hm : a ≤ leastOf (b :: r)
      · rw [Int.min_eq_left hm]; exact List.mem_cons_self
      · rw [Int.min_eq_right (by omega)]; exact List.mem_cons_of_mem _ h1
    · rcases List.mem_cons.mp hy with rfl | hy
      · omega
      · have := h2 y hy
        omega
theorem bi_min1 (hc : X.calm = true := by rfl) (hK : X.K = S.K := by rfl) : Bi S W X "min" dMin1Op := by
  refine ⟨rMin S.K, ?_, .inl ⟨"min", by decide +kernel, by rw [← hK]; exact cr_min hc⟩⟩
  intro g H σ ρ ω x a Q st ha post
  cases a with
  | lst xs =>
    unfold dMin1Op at post
    simp only at post
    split at post
    · rename_i ns e
      split at post
      · rename_i hl
        obtain ⟨p, e1, h1⟩ := ha.ints st e
        refine ⟨p, ns, by rw [e1], h1, hl, fun m hm hle => ?_⟩
        obtain ⟨k1, k2⟩ := leastOf_mem hl
        have e2 : m = leastOf ns := Int.le_antisymm (hle _ k1) (k2 _ hm)
        rw [e2]
        exact post_fz st post rfl
      · exact post.elim
    · exact post.elim
  | _ => exact post.elim
def D.bools : List D → Option (List Bool)
  | [] => some []
  | .bl i :: ds => (D.bools ds).map (i :: ·)
  | _ => none
theorem reps_bools_of {K : PySem.W.Frag} {gh : Gh} : ∀ {ds : List D} {vs : List V} {ns : List Bool}, Reps K gh ds vs → D.bools ds = some ns → vs = ns.map V.bl
  | [], _, _, h, e => by
    cases e
    exact h
  | .bl i :: ds, _, _, ⟨v, r, e1, h, t⟩, e => by
    obtain ⟨ms, e2, e3⟩ := Option.map_eq_some_iff.mp e
    subst e1 e3
    rw [reps_bools_of t e2]
    cases h
    rfl
  | .non :: _, _, _, _, e => by cases e
  | .int _ :: _, _, _, _, e => by cases e
  | .str _ :: _, _, _, _, e => by cases e
  | .scr _ :: _, _, _, _, e => by cases e
  | .lst _ :: _, _, _, _, e => by cases e
  | .tup _ :: _, _, _, _, e => by cases e
  | .ktp _ :: _, _, _, _, e => by cases e
  | .dic _ :: _, _, _, _, e => by cases e
  | .dit _ :: _, _, _, _, e => by cases e
  | .obj _ :: _, _, _, _, e => by cases e
def dAllOp : D → Om → Out R := fun a ω => match a with
  | .lst xs => (match D.bools xs with
    | some ns => .ok (.fz (.bl (ns.all id))) ω
    | none => .bad)
  | _ => .bad
theorem bi_all (hc : X.calm = true := by rfl) (hK : X.K = S.K := by rfl) : Bi S W X "all" dAllOp := by
  refine ⟨rAll S.K, ?_, .inl ⟨"all", by decide +kernel, by rw [← hK]; exact cr_all hc⟩⟩
  intro g H σ ρ ω x a Q st ha post
  cases a with
  | lst xs =>
    unfold dAllOp at post
    simp only at post
    split at post
    · rename_i ns e
      obtain ⟨p, vs, e1, h1, r1⟩ := ha.lst st
      rw [reps_bools_of r1 e] at h1
      exact ⟨p, ns, by rw [e1], SqL.of h1, post_fz st post rfl⟩
    · exact post.elim
  | _ => exact post.elim
def dStrOp : D → Om → Out R := fun a ω => match a with
  | .int i => if i.natAbs.log2 < 1920 then .ok (.fz (.str (toString i))) ω else .bad
  | _ => .bad
theorem bi_str : Bi S W X "str" dStrOp := by
  refine ⟨_, ?_, .inr ⟨"str", by decide +kernel, call_str_int⟩⟩
  intro g H σ ρ ω x a Q st ha post
  cases a with
  | int i =>
    have e := ha.int
    subst e
    unfold dStrOp at post
    simp only at post
    split at post
    · rename_i hz
      exact ⟨i, rfl, hz, post_fz st post rfl⟩
    · exact post.elim
  | _ => exact post.elim
/-! ### built-in calls of several scalar arguments -/
def dBa (op : List D → Om → Out R) (a : DA) : DE := fun ρ ω => (a ρ ω).bind fun ds ω1 => op ds ω1
def CaA (S : Sg) (W : WX) (r1 : List V → Hp → VK → Prop) (op : List D → Om → Out R) : Prop := ∀ (g : G) (H : Hp) (σ : L2.St) (ρ : En) (ω : Om) (vs : List V) (ds : List D) (Q : VK), Stt S g H σ ρ ω → Reps S.K g.gh ds vs → PostE S W g σ ρ Q (op ds ω) → r1 vs H Q
structure Ba (S : Sg) (W : WX) (X : Cx) (x : Str) (op : List D → Om → Out R) : Prop where
  ex : ∃ r, CaA S W r op ∧ ∃ id, bootBuiltins x = some (.builtin id) ∧ CallR X (.builtin id) r
theorem ve_ba {x : Str} {op : List D → Om → Out R} {e : Expr} {es : List Expr} {f : DA} {p pos : Pos} (b : Ba S W X x op) (hm : X.mg x = none) (he : VA S W X (e :: es) f) (hg : Gl X x := by rfl) (hn : x ≠ "__name__" := by decide) (hdb : (x == ("__debug__" : Str)) = false := by decide)
    (hse : starEach (e :: es) X.env = (false, eval e X.env) :: starEach es X.env := by rfl) (hpl : (backTo pos (starEach es X.env)).any (·.1) = false := by rfl) : VE S W X (.Call (.Name x p) (e :: es) [] pos) (dBa op f) := by
  obtain ⟨r, hd, id, hv, hc⟩ := b.ex
  exact (pe_callB hc hg hm hv he hn hdb hse hpl).imp fun σ H Q ⟨g, ρ, ω, st, post⟩ => ⟨g, ρ, ω, st, ae_post post fun ds ω1 g1 H1 vs l1 st1 q1 p => hd g1 H1 σ ρ ω1 vs ds Q st1 q1 p⟩
def dMax2Op : List D → Om → Out R := fun ds ω => match ds with
  | [.int i, .int j] => .ok (.fz (.int (if j > i then j else i))) ω
  | _ => .bad
def dMin2Op : List D → Om → Out R := fun ds ω => match ds with
  | [.int i, .int j] => .ok (.fz (.int (if j < i then j else i))) ω
  | _ => .bad
theorem reps2 {K : PySem.W.Frag} {gh : Gh} {i j : Int} {vs : List V} (h : Reps K gh [.int i, .int j] vs) : vs = [.int i, .int j] := by
  obtain ⟨v, r, e, h1, v2, r2, e2, h2, h3⟩ := h
  subst e e2 h3
  cases h1
  cases h2
  rfl
theorem ba_max2 (hc : X.calm = true := by rfl) : Ba S W X "max" dMax2Op := by
  refine ⟨_, ?_, "max", by decide +kernel, call_max2 hc⟩
  intro g H σ ρ ω vs ds Q st r post
  unfold dMax2Op at post
  split at post
  · exact ⟨_, _, reps2 r, post_fz st post rfl⟩
  · exact post.elim
theorem ba_min2 (hc : X.calm = true := by rfl) : Ba S W X "min" dMin2Op := by
  refine ⟨_, ?_, "min", by decide +kernel, call_min2 hc⟩
  intro g H σ ρ ω vs ds Q st r post
  unfold dMin2Op at post
  split at post
  · exact ⟨_, _, reps2 r, post_fz st post rfl⟩
  · exact post.elim
end
end Vd
/-! VL7: targets, what is walked, for, while, comprehensions. -/
namespace Vd
open PySem PySem.Spec PyProof.Rows L2
section
variable {S : Sg} {W : WX} {g g' : G} {H H' : Hp} {σ : L2.St} {ρ : En} {ω : Om} {d : D} {v : V} {X : Cx}
/-! ### targets -/
inductive Tg where
  | nm (i : Nat) | tp (is : List Nat)
def Tg.ix : Tg → List Nat
  | .nm i => [i]
  | .tp is => is
def setAll : List Nat → List D → En → Option En
  | [], [], ρ => some ρ
  | i :: is, d :: ds, ρ => setAll is ds (ρ.set i (some (.fz d)))
  | _, _, _ => none
def D.items : D → Option (List D)
  | .lst xs => some xs
  | .tup xs => some xs
  | _ => none
def tgt : Tg → D → En → Option En
  | .nm i, d, ρ => some (ρ.set i (some (.fz d)))
  | .tp is, d, ρ => d.items.bind fun ds => setAll is ds ρ
theorem setAll_len : ∀ {is : List Nat} {ds : List D} {ρ ρ' : En}, setAll is ds ρ = some ρ' → ds.length = is.length
  | [], [], _, _, _ => rfl
  | [], _ :: _, _, _, e => by cases e
  | _ :: _, [], _, _, e => by cases e
  | i :: is, d :: ds, ρ, ρ', e => by
    have e : setAll is ds (ρ.set i (some (.fz d))) = some ρ' := e
    simp [setAll_len e]
/-- the slots but those at is are as they were -/
def Off (is : List Nat) (σ σ' : L2.St) : Prop := σ'.length = σ.length ∧ ∀ j, j ∉ is → σ'[j]? = σ[j]?
def upG (S : Sg) (t : Tg) : TG := fun v σ H Q => ∃ g ρ ω d ρ', Stt S g H σ ρ ω ∧ Rep S.K g.gh d v ∧ tgt t d ρ = some ρ' ∧ ∀ g' σ', Le g g' → Stt S g' H σ' ρ' ω → Off t.ix σ σ' → Q σ' H
abbrev VG (S : Sg) (X : Cx) (e : Expr) (t : Tg) : Prop := PG X e (upG S t)
theorem _root_.L2.PG.imp {X : Cx} {e : Expr} {t t' : TG} (h : PG X e t) (w : ∀ v σ H Q, t' v σ H Q → t v σ H Q) : PG X e t' := ⟨fun pins s σ H v u Q I r q => h.run pins s σ H v u Q I r (w v σ H Q q)⟩
theorem off_set {i : Nat} {x : Option V} : Off [i] σ (σ.set i x) := ⟨by simp, fun j hj => by
  rw [List.getElem?_set_ne]
  rintro rfl
  exact hj (by simp)⟩
theorem vg_name (i : Nat) {x : Str} {pos : Pos} (hN : X.N.Nodup) (hi : X.N[i]? = some x := by rfl) (hx : Loc X.env.scope x := by first | exact Or.inl rfl | exact Or.inr rfl)
    (hf : X.fn x = true ∨ X.env.scope.names.lookup x = some .local := by first | exact .inl rfl | exact .inr rfl | assumption) : VG S X (.Name x pos) (.nm i) := (pg_name hN hi hx hf).imp fun v σ H Q ⟨g, ρ, ω, d, ρ', st, r, e, k⟩ => by
  cases e
  exact k g _ (.refl _) (st.setFz r i) off_set
theorem _root_.L2.PG.or {e : Expr} {t t' : TG} (h : PG X e t) (h' : PG X e t') : PG X e (fun v σ H Q => t v σ H Q ∨ t' v σ H Q) := ⟨fun pins s σ H v u Q I r q => by
  rcases q with q | q
  · exact h.run pins s σ H v u Q I r q
  · exact h'.run pins s σ H v u Q I r q⟩
/-- names one behind another -/
structure VGs (X : Cx) (es : List Expr) (is : List Nat) : Prop where
  ex : ∃ t, PGs X es t ∧ ∀ (S : Sg) (g : G) (H : Hp) (σ : L2.St) (ρ : En) (ω : Om) (ds : List D) (vs : List V) (ρ' : En) (Q : L2.St → Hp → Prop), Stt S g H σ ρ ω → Reps S.K g.gh ds vs → setAll is ds ρ = some ρ' → (∀ σ', Stt S g H σ' ρ' ω → Off is σ σ' → Q σ' H) → t vs σ H Q
theorem vgs_nil : VGs X [] [] := ⟨gNil, pgs_nil, fun S g H σ ρ ω ds vs ρ' Q st r e k => by
  cases ds with
  | nil =>
    cases e
    cases r
    exact ⟨rfl, k σ st ⟨rfl, fun _ _ => rfl⟩⟩
  | cons _ _ => cases e⟩
theorem vgs_cons (i : Nat) {is : List Nat} {x : Str} {pos : Pos} {es : List Expr} (hN : X.N.Nodup) (h : VGs X es is) (hi : X.N[i]? = some x := by rfl) (hx : Loc X.env.scope x := by first | exact Or.inl rfl | exact Or.inr rfl)
    (hf : X.fn x = true ∨ X.env.scope.names.lookup x = some .local := by first | exact .inl rfl | exact .inr rfl | assumption)
    (hs : (assignEach (.Name x pos :: es) X.env).map (·.2) = assign (.Name x pos) X.env :: (assignEach es X.env).map (·.2) := by rfl) : VGs X (.Name x pos :: es) (i :: is) := by
  obtain ⟨t, h1, h2⟩ := h.ex
  refine ⟨_, pgs_cons (pg_name (pos := pos) hN hi hx hf) h1 hs, fun S g H σ ρ ω ds vs ρ' Q st r e k => ?_⟩
  cases ds with
  | nil => cases e
  | cons d ds =>
    obtain ⟨v, vr, e1, rd, rr⟩ := r
    refine ⟨v, vr, e1, h2 S g H _ _ ω ds vr ρ' Q (st.setFz rd i) rr e fun σ' st' o => k σ' st' ⟨by rw [o.1]; simp, fun j hj => ?_⟩⟩
    rw [o.2 j fun z => hj (List.mem_cons_of_mem _ z), List.getElem?_set_ne]
    rintro rfl
    exact hj List.mem_cons_self
theorem vg_tup {es : List Expr} {is : List Nat} {k : Nat} {pos : Pos} (hc : X.calm = true) (h : VGs X es is) (hK : X.K = S.K := by rfl) (hn : (assignEach es X.env).length = is.length := by rfl) (hst : (assignEach es X.env).findIdx? (·.1) = none := by rfl) :
    VG S X (.Tuple es k pos) (.tp is) := by
  obtain ⟨t, h1, h2⟩ := h.ex
  refine ((pg_tup hc h1 hn hst).or (pg_lst hc h1 hn hst)).imp fun v σ H Q ⟨g, ρ, ω, d, ρ', st, r, e, k⟩ => ?_
  obtain ⟨ds, e1, e2⟩ := Option.bind_eq_some_iff.mp e
  have hl : ds.length = is.length := setAll_len e2
  rw [hK]
  cases d with
  | lst xs =>
    cases e1
    obtain ⟨a, vs, ev, q, rr⟩ := Pk.lst st (.inl r)
    exact .inr ⟨a, vs, ev, SqL.of q, by rw [← rr.length, hl], h2 S g H σ ρ ω _ vs ρ' Q st rr e2 fun σ' st' o => k g σ' (.refl _) st' o⟩
  | tup xs =>
    cases e1
    obtain ⟨a, vs, ev, q, rr⟩ := Pk.tup st (.inl r)
    exact .inl ⟨a, vs, ev, SqT.of q, by rw [← rr.length, hl], h2 S g H σ ρ ω _ vs ρ' Q st rr e2 fun σ' st' o => k g σ' (.refl _) st' o⟩
  | _ => cases e1
/-- a, b = e -/
def sSetG (t : Tg) (f : DE) : DS := fun ρ ω => match f ρ ω with
  | .ok r ω' => (match r.keep with
    | some d => (match tgt t d ρ with
      | some ρ' => .nx ρ' ω'
      | none => .bad)
    | none => .bad)
  | .exn c ω' => .exn c ρ ω'
  | .bad => .bad
theorem vs_setG {e tg : Expr} {f : DE} {t : Tg} {pos : Pos} (he : VE S W X e f) (hg : VG S X tg t)
    (hs : swapsWithSole [tg] e pos.line X.env = pure false := by rfl) (hw : swappedStores [tg] e X.env = pure none := by rfl) (h1 : (assignEach [tg] X.env).map (·.2) = [assign tg X.env] := by rfl) : VS S W X (.Assign [tg] e pos) (sSetG t f) :=
  (ps_asg he hg hs hw h1).imp fun E σ H ⟨g, ρ, ω, st, post⟩ => ⟨g, ρ, ω, st, postE_of post fun r ω' p g' H' v l st' q => by
    cases hk : r.keep with
    | none => rw [hk] at p; exact p.elim
    | some d =>
      rw [hk] at p
      simp only at p
      cases ht : tgt t d ρ with
      | none => rw [ht] at p; exact p.elim
      | some ρ' =>
        rw [ht] at p
        obtain ⟨g2, l2, st2, q2⟩ := q.keep st' hk
        exact ⟨g2, ρ, ω', d, ρ', st2, q2, ht, fun g3 σ' l3 st3 _ => p g3 H' σ' ((l.trans l2).trans l3) st3⟩⟩
/-! ### what is walked -/
abbrev DI := En → Om → Out (List D × List Nat)
def ItOk (S : Sg) (J : It) (items : List D) (P : Gh → L2.St → En → Prop) : Prop := ∀ i g H σ ρ ω, Stt S g H σ ρ ω → P g.gh σ ρ →
  (items.length ≤ i → J.stop i H) ∧ ∀ d, items[i]? = some d → J.go i H ∧ ∀ x H', J.yld i H x H' → ∃ g', Le g g' ∧ Stt S g' H' σ ρ ω ∧ Rep S.K g'.gh d x
structure Sound (P : Gh → L2.St → En → Prop) (bs : List Nat) : Prop where
  mono : ∀ a b σ ρ, GLe a b → P a σ ρ → P b σ ρ
  loc : ∀ a σ ρ σ' ρ', (∀ j ∈ bs, σ'[j]? = σ[j]? ∧ ρ'[j]? = ρ[j]?) → P a σ ρ → P a σ' ρ'
def PostI (S : Sg) (W : WX) (g : G) (σ : L2.St) (ρ : En) (R : It → Hp → Prop) : Out (List D × List Nat) → Prop
  | .ok x ω => ∀ g' H' J P, Le g g' → Stt S g' H' σ ρ ω → ItOk S J x.1 P → Sound P x.2 → P g'.gh σ ρ → R J H'
  | .exn c ω => ∀ g' H', Le g g' → Stt S g' H' σ ρ ω → W (.ref (S.ca c)) none σ H'
  | .bad => False
def upI (S : Sg) (W : WX) (f : DI) : TI := fun σ H R => ∃ g ρ ω, Stt S g H σ ρ ω ∧ PostI S W g σ ρ R (f ρ ω)
abbrev VI (S : Sg) (W : WX) (X : Cx) (tg iter : Expr) (f : DI) : Prop := PI X tg iter (upI S W f)
theorem _root_.L2.PI.imp {X : Cx} {tg e : Expr} {t t' : TI} (h : PI X tg e t) (w : ∀ σ H R, t' σ H R → t σ H R) : PI X tg e t' := ⟨fun pins s σ H R I q => h.run pins s σ H R I (w σ H R q)⟩
theorem _root_.L2.PI.or {tg e : Expr} {t t' : TI} (h : PI X tg e t) (h' : PI X tg e t') : PI X tg e (fun σ H R => t σ H R ∨ t' σ H R) := ⟨fun pins s σ H R I q => by
  rcases q with q | q
  · exact h.run pins s σ H R I q
  · exact h'.run pins s σ H R I q⟩
/-- the slot that is looked at -/
def R.bs : R → List Nat
  | .bor (.slot i) _ => [i]
  | _ => []
/-- what is known of a walked thing -/
def Src (S : Sg) (r : R) (v : V) : Gh → L2.St → En → Prop := fun gh σ ρ => match r with
  | .bor (.slot i) d => ρ[i]? = some (some (.own d)) ∧ σ[i]? = some (some v)
  | .bor _ _ => False
  | r => Rep S.K gh r.d v
theorem Src.sound {r : R} : Sound (Src S r v) r.bs := by
  refine ⟨fun a b σ ρ l h => ?_, fun a σ ρ σ' ρ' h q => ?_⟩
  · cases r with
    | fz d => exact Rep.mono l h
    | own d => exact Rep.mono l h
    | bor b d => cases b with
      | slot i => exact h
      | fld _ _ => exact h
  · cases r with
    | fz d => exact q
    | own d => exact q
    | bor b d => cases b with
      | slot i =>
        obtain ⟨h1, h2⟩ := h i (by simp [R.bs])
        exact ⟨h2.trans q.1, h1.trans q.2⟩
      | fld _ _ => exact q
theorem Src.pk {r : R} (st : Stt S g H σ ρ ω) (h : Src S r v g.gh σ ρ) : Pk S g H r.d v := by
  cases r with
  | fz d => exact .inl h
  | own d => exact .inl h
  | bor b d => cases b with
    | slot i => exact RepR.pk (r := .bor (.slot i) d) st h
    | fld _ _ => exact h.elim
theorem Src.of {r : R} (hF : r.isF = false) (q : RepR S g H σ ρ ω r.nrm v) : Src S r v g.gh σ ρ := by
  cases r with
  | fz d => exact q
  | own d => exact q
  | bor b d => cases b with
    | slot i => exact q
    | fld _ _ => cases hF
def signs (z : Str) : List D := z.cps.toList.map fun c => .str ⟨#[c]⟩
def D.walk : D → Option (List D)
  | .str z => some (signs z)
  | d => d.seq
def iSeq (f : DE) : DI := fun ρ ω => (f ρ ω).bind fun r ω1 => if r.isF = true then .bad else match r.d.walk with
  | some xs => .ok (xs, r.bs) ω1
  | none => .bad
theorem itl_ok {a : Addr} {xs : List D} {P : Gh → L2.St → En → Prop} (hP : ∀ g H σ ρ ω, Stt S g H σ ρ ω → P g.gh σ ρ → ∃ vs, SqL S.K H a vs ∧ Reps S.K g.gh xs vs) : ItOk S (Itl S.K a) xs P := by
  intro i g H σ ρ ω st hp
  obtain ⟨vs, h1, r⟩ := hP g H σ ρ ω st hp
  refine ⟨fun hi => ⟨vs, h1, by rw [← r.length]; exact hi⟩, fun d hd => ?_⟩
  obtain ⟨v, h2, rv⟩ := r.get hd
  refine ⟨⟨vs, v, h1, h2⟩, fun x H' hy => ?_⟩
  obtain ⟨e, hx⟩ := hy
  subst e
  have e := hx vs h1
  rw [h2] at e
  cases e
  exact ⟨g, .refl _, st, rv⟩
theorem itt_ok {a : Addr} {xs : List D} {P : Gh → L2.St → En → Prop} (hP : ∀ g H σ ρ ω, Stt S g H σ ρ ω → P g.gh σ ρ → ∃ vs, SqT S.K H a vs ∧ Reps S.K g.gh xs vs) : ItOk S (Itt S.K a) xs P := by
  intro i g H σ ρ ω st hp
  obtain ⟨vs, h1, r⟩ := hP g H σ ρ ω st hp
  refine ⟨fun hi => ⟨vs, h1, by rw [← r.length]; exact hi⟩, fun d hd => ?_⟩
  obtain ⟨v, h2, rv⟩ := r.get hd
  refine ⟨⟨vs, v, h1, h2⟩, fun x H' hy => ?_⟩
  obtain ⟨e, hx⟩ := hy
  subst e
  have e := hx vs h1
  rw [h2] at e
  cases e
  exact ⟨g, .refl _, st, rv⟩
theorem its_ok {z : Str} {P : Gh → L2.St → En → Prop} : ItOk S (Its z) (signs z) P := by
  intro i g H σ ρ ω st hp
  have hl : z.cps.toList.length = z.cps.size := Array.length_toList
  refine ⟨fun hi => ?_, fun d hd => ?_⟩
  · show z.cps.size ≤ i
    have e : (signs z).length = z.cps.size := by simp [signs]
    omega
  · unfold signs at hd
    rw [List.getElem?_map] at hd
    cases hc : z.cps.toList[i]? with
    | none => rw [hc] at hd; cases hd
    | some c =>
      rw [hc] at hd
      have hd : D.str ⟨#[c]⟩ = d := Option.some.inj hd
      subst hd
      refine ⟨?_, fun x H' hy => ?_⟩
      · have := (List.getElem?_eq_some_iff.mp hc).1
        show i < z.cps.size
        omega
      · obtain ⟨e, c', e1, e2⟩ := hy
        subst e
        have e3 : c' = c := by
          have e4 : z.cps.toList[i]? = z.cps[i]? := by simp
          rw [e4, e1] at hc
          exact Option.some.inj hc
        subst e3
        exact ⟨g, .refl _, st, e2⟩
theorem vi_seq {tg e : Expr} {f : DE} (he : VE S W X e f) (hK : X.K = S.K := by rfl) : VI S W X tg e (iSeq f) := by
  refine ((pi_list he).or ((pi_tup he).or (pi_str he))).imp fun σ H Rr h => ?_
  rw [hK]
  obtain ⟨g, ρ, ω, st, post⟩ := h
  unfold iSeq at post
  cases hf : f ρ ω with
  | bad => rw [hf] at post; exact post.elim
  | exn c ω1 =>
    rw [hf] at post
    refine .inl ⟨g, ρ, ω, st, ?_⟩
    rw [hf]
    exact post
  | ok r ω1 =>
    rw [hf] at post
    simp only [Out.bind] at post
    split at post
    · exact post.elim
    rename_i hF
    have hF : r.isF = false := by simpa using hF
    cases hw : r.d.walk with
    | none => rw [hw] at post; exact post.elim
    | some xs =>
      rw [hw] at post
      have start : ∀ {Q' : VK}, (∀ g2 H2 v, Le g g2 → Stt S g2 H2 σ ρ ω1 → Src S r v g2.gh σ ρ → Q' v H2) → upE S W f σ H Q' := fun {Q'} hk => by
        refine ⟨g, ρ, ω, st, ?_⟩
        rw [hf]
        intro g1 H1 x l1 st1 q1
        obtain ⟨g2, l2, st2, q2⟩ := q1.norm st1
        exact hk g2 H1 x (l1.trans l2) st2 (Src.of hF q2)
      cases hd : r.d with
      | str z =>
        rw [hd] at hw
        cases hw
        refine .inr (.inr (start fun g2 H2 v l st2 q => ?_))
        have q3 := q.pk st2
        rw [hd] at q3
        exact ⟨z, q3.str, post g2 H2 _ _ l st2 (its_ok (P := Src S r v)) Src.sound q⟩
      | lst ys =>
        rw [hd] at hw
        cases hw
        refine .inl (start fun g2 H2 v l st2 q => ?_)
        have q3 := q.pk st2
        rw [hd] at q3
        obtain ⟨a, vs, e1, h1, r1⟩ := q3.lst st2
        subst e1
        refine ⟨a, rfl, ⟨vs, SqL.of h1⟩, post g2 H2 _ _ l st2 (itl_ok (P := Src S r (.ref a)) fun g3 H3 σ3 ρ3 ω3 st3 q4 => ?_) Src.sound q⟩
        have q5 := q4.pk st3
        rw [hd] at q5
        obtain ⟨a', vs', e2, h2, r2⟩ := q5.lst st3
        cases e2
        exact ⟨vs', SqL.of h2, r2⟩
      | scr ns =>
        rw [hd] at hw
        cases hw
        refine .inl (start fun g2 H2 v l st2 q => ?_)
        have q3 := q.pk st2
        rw [hd] at q3
        obtain ⟨a, e1, h1⟩ := q3.scr st2
        subst e1
        refine ⟨a, rfl, ⟨_, h1⟩, post g2 H2 _ _ l st2 (itl_ok (P := Src S r (.ref a)) fun g3 H3 σ3 ρ3 ω3 st3 q4 => ?_) Src.sound q⟩
        have q5 := q4.pk st3
        rw [hd] at q5
        obtain ⟨a', e2, h2⟩ := q5.scr st3
        cases e2
        exact ⟨_, h2, reps_ints ns⟩
      | tup ys =>
        rw [hd] at hw
        cases hw
        refine .inr (.inl (start fun g2 H2 v l st2 q => ?_))
        have q3 := q.pk st2
        rw [hd] at q3
        obtain ⟨a, vs, e1, h1, r1⟩ := q3.tup st2
        subst e1
        refine ⟨a, rfl, ⟨vs, SqT.of h1⟩, post g2 H2 _ _ l st2 (itt_ok (P := Src S r (.ref a)) fun g3 H3 σ3 ρ3 ω3 st3 q4 => ?_) Src.sound q⟩
        have q5 := q4.pk st3
        rw [hd] at q5
        obtain ⟨a', vs', e2, h2, r2⟩ := q5.tup st3
        cases e2
        exact ⟨vs', SqT.of h2, r2⟩
      | ktp ys =>
        rw [hd] at hw
        cases hw
        refine .inr (.inl (start fun g2 H2 v l st2 q => ?_))
        have q3 := q.pk st2
        rw [hd] at q3
        obtain ⟨a, vs, e1, h1, r1⟩ := q3.ktp st2
        subst e1
        refine ⟨a, rfl, ⟨vs, h1⟩, post g2 H2 _ _ l st2 (itt_ok (P := Src S r (.ref a)) fun g3 H3 σ3 ρ3 ω3 st3 q4 => ?_) Src.sound q⟩
        have q5 := q4.pk st3
        rw [hd] at q5
        obtain ⟨a', vs', e2, h2, r2⟩ := q5.ktp st3
        cases e2
        exact ⟨vs', h2, r2⟩
      | _ => rw [hd] at hw; cases hw
/-! ### ranges -/
def rints (lo : Int) (n : Nat) : List D := (List.range n).map fun i => .int (lo + (i : Nat))
def big62 (i : Int) : Bool := decide (-(2 ^ 62) ≤ i ∧ i < 2 ^ 62)
def iRange1 (a : DA) : DI := fun ρ ω => (a ρ ω).bind fun ds ω1 => match ds with
  | [.int j] => if big62 j = true then .ok (rints 0 j.toNat, []) ω1 else .bad
  | _ => .bad
def iRange2 (a : DA) : DI := fun ρ ω => (a ρ ω).bind fun ds ω1 => match ds with
  | [.int i, .int j] => if (big62 i && big62 j) = true then .ok (rints i (j - i).toNat, []) ω1 else .bad
  | _ => .bad
theorem itr_ok {lo : Int} {n : Nat} : ItOk S (Itr lo n) (rints lo n) (fun _ _ _ => True) := by
  intro i g H σ ρ ω st _
  refine ⟨fun hi => ?_, fun d hd => ?_⟩
  · show n ≤ i
    simpa [rints] using hi
  · unfold rints at hd
    rw [List.getElem?_map] at hd
    by_cases hi : i < n
    · rw [List.getElem?_range hi] at hd
      have hd : D.int (lo + (i : Nat)) = d := Option.some.inj hd
      subst hd
      refine ⟨hi, fun x H' hy => ?_⟩
      obtain ⟨e1, e2⟩ := hy
      subst e1
      exact ⟨g, .refl _, st, e2⟩
    · rw [List.getElem?_eq_none (by simpa using hi)] at hd
      cases hd
theorem sound_true {bs : List Nat} : Sound (fun _ _ _ => True) bs := ⟨fun _ _ _ _ _ h => h, fun _ _ _ _ _ _ h => h⟩
theorem ai_post {g : G} {Rr : It → Hp → Prop} {a : DA} {k : List D → Om → Out (List D × List Nat)} {Q' : List V → Hp → Prop} (post : PostI S W g σ ρ Rr ((a ρ ω).bind k)) (hk : ∀ ds ω1 g1 H1 vs, Le g g1 → Stt S g1 H1 σ ρ ω1 → Reps S.K g1.gh ds vs → PostI S W g σ ρ Rr (k ds ω1) → Q' vs H1) : PostA S W g σ ρ Q' (a ρ ω) := by
  cases ha : a ρ ω with
  | bad => rw [ha] at post; exact post
  | exn c ω1 => rw [ha] at post; exact post
  | ok ds ω1 =>
    rw [ha] at post
    exact fun g1 H1 vs l1 st1 q1 => hk ds ω1 g1 H1 vs l1 st1 q1 post
theorem vi_range1 {tg e : Expr} {a : DA} {p pos : Pos} (hm : X.mg "range" = none) (ha : VA S W X [e] a) (hg : Gl X "range" := by rfl) (hs : starEach [e] X.env = [(false, eval e X.env)] := by rfl) : VI S W X tg (.Call (.Name "range" p) [e] [] pos) (iRange1 a) :=
  (pi_range1 hg hm ha hs).imp fun σ H Rr ⟨g, ρ, ω, st, post⟩ => ⟨g, ρ, ω, st, ai_post post fun ds ω1 g1 H1 vs l1 st1 r p => by
    split at p
    · rename_i j
      split at p
      · rename_i hb
        have hb := of_decide_eq_true hb
        obtain ⟨v, rr, e1, h1, h2⟩ := r
        subst e1 h2
        cases h1
        exact ⟨j, rfl, hb.1, hb.2, p g1 H1 _ _ l1 st1 itr_ok sound_true trivial⟩
      · exact p.elim
    · exact p.elim⟩
theorem vi_range2 {tg e e2 : Expr} {a : DA} {p pos : Pos} (hm : X.mg "range" = none) (ha : VA S W X [e, e2] a) (hg : Gl X "range" := by rfl) (hs : starEach [e, e2] X.env = [(false, eval e X.env), (false, eval e2 X.env)] := by rfl) (hs2 : starEach [e2] X.env = [(false, eval e2 X.env)] := by rfl) : VI S W X tg (.Call (.Name "range" p) [e, e2] [] pos) (iRange2 a) :=
  (pi_range2 hg hm ha hs hs2).imp fun σ H Rr ⟨g, ρ, ω, st, post⟩ => ⟨g, ρ, ω, st, ai_post post fun ds ω1 g1 H1 vs l1 st1 r p => by
    split at p
    · rename_i i j
      split at p
      · rename_i hb
        rw [Bool.and_eq_true] at hb
        have hb1 := of_decide_eq_true hb.1
        have hb2 := of_decide_eq_true hb.2
        have e1 := reps2 r
        subst e1
        exact ⟨i, j, rfl, ⟨hb1.1, hb1.2, hb2.1, hb2.2⟩, p g1 H1 _ _ l1 st1 itr_ok sound_true trivial⟩
      · exact p.elim
    · exact p.elim⟩
/-! ### for -/
def forL (t : Tg) (kl : List Nat) (body : DS) : List D → En → Om → SO
  | [], ρ, ω => .nx ρ ω
  | d :: ds, ρ, ω => match tgt t d ρ with
    | none => .bad
    | some ρ1 => match body ρ1 ω with
      | .nx ρ2 ω2 => forL t kl body ds (kill ρ2 kl) ω2
      | .ct ρ2 ω2 => forL t kl body ds (kill ρ2 kl) ω2
      | .bk ρ2 ω2 => .nx (kill ρ2 kl) ω2
      | o => o
def sFor (t : Tg) (kl : List Nat) (it : DI) (body : DS) : DS := fun ρ ω => match it ρ ω with
  | .ok x ω1 => if x.2.isEmpty = true then forL t kl body x.1 (kill ρ kl) ω1 else .bad
  | .exn c ω1 => .exn c ρ ω1
  | .bad => .bad
theorem for_read {t : Tg} {kl : List Nat} {it : DI} {body : DS} {E : Ends} (h : upS S W (sFor t kl it body) E σ H) : tFor (upI S W it) (upG S t) (upS S W body) E σ H := by
  obtain ⟨g, ρ, ω, st, post⟩ := h
  refine ⟨g, ρ, ω, st, ?_⟩
  unfold sFor at post
  cases hi : it ρ ω with
  | bad => rw [hi] at post; exact post.elim
  | exn c ω1 => rw [hi] at post; exact fun g' H' l st' => post g' H' σ l st'
  | ok x ω1 =>
    rw [hi] at post
    obtain ⟨items, bs⟩ := x
    simp only at post
    split at post
    · rename_i hb
      have hb : bs = [] := by simpa using hb
      subst hb
      intro g1 H1 J P l1 st1 ok so p1
      have loc : ∀ gh σ' ρ', P gh σ ρ → P gh σ' ρ' := fun gh σ' ρ' h => so.loc gh σ ρ σ' ρ' (fun j hj => by cases hj) h
      refine ⟨fun i m σ' H' => m = items.length + 1 - i ∧ ∃ g2 ρ2 ω2, Stt S g2 H' σ' ρ2 ω2 ∧ P g2.gh σ' ρ2 ∧ PostS S W g2 E (forL t kl body (items.drop i) ρ2 ω2), ⟨_, rfl, g1, kill ρ kl, ω1, st1.kill kl, loc _ _ _ p1, PostS.mono l1 (o := forL t kl body items (kill ρ kl) ω1) post⟩, ?_⟩
      rintro i m σ2 H2 ⟨rfl, g2, ρ2, ω2, st2, p2, post2⟩
      obtain ⟨ho1, ho2⟩ := ok i g2 H2 σ2 ρ2 ω2 st2 p2
      by_cases hlt : items.length ≤ i
      · refine .inl ⟨ho1 hlt, ?_⟩
        rw [List.drop_eq_nil_of_le hlt] at post2
        exact post2 g2 H2 σ2 (.refl _) st2
      · have hlt : i < items.length := Nat.lt_of_not_le hlt
        obtain ⟨d, hd⟩ : ∃ d, items[i]? = some d := ⟨_, List.getElem?_eq_getElem hlt⟩
        obtain ⟨go, yld⟩ := ho2 d hd
        have ed : items.drop i = d :: items.drop (i + 1) := by
          rw [List.drop_eq_getElem_cons hlt]
          congr 1
          rw [List.getElem?_eq_getElem hlt] at hd
          exact Option.some.inj hd
        rw [ed] at post2
        refine .inr ⟨go, fun σ' H' => ∃ g3 ρ3 ω3, Stt S g3 H' σ' ρ3 ω3 ∧ P g3.gh σ' ρ3 ∧ PostS S W g3 E (forL t kl body (items.drop (i + 1)) ρ3 ω3), fun σ' H' hn => ⟨items.length + 1 - (i + 1), by omega, rfl, hn⟩, fun v H3 hy => ?_⟩
        obtain ⟨g3, l3, st3, rv⟩ := yld v H3 hy
        unfold forL at post2
        cases ht : tgt t d ρ2 with
        | none => rw [ht] at post2; exact post2.elim
        | some ρ3 =>
          rw [ht] at post2
          refine ⟨g3, ρ2, ω2, d, ρ3, st3, rv, ht, fun g4 σ4 l4 st4 _ => ⟨g4, ρ3, ω2, st4, ?_⟩⟩
          have p4 : ∀ g5 σ5 ρ5, Le g4 g5 → P g5.gh σ5 ρ5 := fun g5 σ5 ρ5 l5 => by
            have z := so.mono _ _ _ _ ((l3.trans l4).trans l5).gh p2
            exact so.loc _ σ2 ρ2 σ5 ρ5 (fun j hj => by cases hj) z
          have post3 := PostS.mono (l3.trans l4) post2
          simp only at post3
          cases hb : body ρ3 ω2 with
          | nx ρ5 ω5 =>
            rw [hb] at post3
            intro g5 H5 σ5 l5 st5
            exact ⟨g5, _, ω5, st5.kill kl, p4 g5 _ _ l5, PostS.mono l5 (o := forL t kl body (items.drop (i + 1)) (kill ρ5 kl) ω5) post3⟩
          | ct ρ5 ω5 =>
            rw [hb] at post3
            intro g5 H5 σ5 l5 st5
            exact ⟨g5, _, ω5, st5.kill kl, p4 g5 _ _ l5, PostS.mono l5 (o := forL t kl body (items.drop (i + 1)) (kill ρ5 kl) ω5) post3⟩
          | bk ρ5 ω5 =>
            rw [hb] at post3
            exact fun g5 H5 σ5 l5 st5 => post3 g5 H5 σ5 l5 (st5.kill kl)
          | rt r5 ω5 => rw [hb] at post3; exact post3
          | exn c ρ5 ω5 => rw [hb] at post3; exact post3
          | bad => rw [hb] at post3; exact post3
    · exact post.elim
theorem vs_for {iter tg : Expr} {body : List Stmt} {t : Tg} {it : DI} {f : DS} {pos : Pos} (kl : List Nat) (hp : PassesOwn (model X.prog X.w) X.A X.env X.xe) (hc : X.calm = true) (hi : VI S W X tg iter it) (hg : VG S X tg t) (hb : VSs S W X body f) (hs : ∀ x, foldedSetIterable iter X.env x = pure x := by intro _; rfl) :
    VS S W X (.For tg iter body [] pos) (sFor t kl it f) := (ps_for hp hc hi hg hb hs).imp fun _ _ _ h => for_read h
/-! ### while -/
def whL (kl : List Nat) (c : DT) (body : DS) : Nat → En → Om → SO
  | 0, _, _ => .bad
  | n + 1, ρ, ω => match c ρ ω with
    | .ok b ω1 => if b = true then (match body ρ ω1 with
      | .nx ρ2 ω2 => whL kl c body n (kill ρ2 kl) ω2
      | .ct ρ2 ω2 => whL kl c body n (kill ρ2 kl) ω2
      | .bk ρ2 ω2 => .nx (kill ρ2 kl) ω2
      | o => o) else .nx ρ ω1
    | .exn c ω1 => .exn c ρ ω1
    | .bad => .bad
def sWhile (n : Nat) (kl : List Nat) (c : DT) (body : DS) : DS := fun ρ ω => whL kl c body n (kill ρ kl) ω
theorem while_read {n : Nat} {kl : List Nat} {c : DT} {body : DS} {E : Ends} (h : upS S W (sWhile n kl c body) E σ H) : tWhile (upT S W c) (upS S W body) E σ H := by
  obtain ⟨g, ρ, ω, st, post⟩ := h
  refine ⟨fun m σ' H' => ∃ g2 ρ2 ω2, Stt S g2 H' σ' ρ2 ω2 ∧ PostS S W g2 E (whL kl c body m ρ2 ω2), ⟨n, g, _, ω, st.kill kl, post⟩, ?_⟩
  rintro m σ2 H2 ⟨g2, ρ2, ω2, st2, post2⟩
  cases m with
  | zero => exact post2.elim
  | succ m =>
    refine ⟨g2, ρ2, ω2, st2, ?_⟩
    unfold whL at post2
    cases hc : c ρ2 ω2 with
    | bad => rw [hc] at post2; exact post2.elim
    | exn c ω3 => rw [hc] at post2; exact fun g' H' l st' => post2 g' H' σ2 l st'
    | ok b ω3 =>
      rw [hc] at post2
      intro g3 H3 l3 st3
      cases b with
      | false =>
        simp only [Bool.false_eq_true, if_false] at post2 ⊢
        exact post2 g3 H3 σ2 l3 st3
      | true =>
        simp only [if_true] at post2 ⊢
        refine ⟨fun σ' H' => ∃ g4 ρ4 ω4, Stt S g4 H' σ' ρ4 ω4 ∧ PostS S W g4 E (whL kl c body m ρ4 ω4), fun σ' H' hn => ⟨m, Nat.lt_succ_self m, hn⟩, g3, ρ2, ω3, st3, ?_⟩
        have post3 := PostS.mono l3 post2
        cases hb : body ρ2 ω3 with
        | nx ρ5 ω5 =>
          rw [hb] at post3
          exact fun g5 H5 σ5 l5 st5 => ⟨g5, _, ω5, st5.kill kl, PostS.mono l5 (o := whL kl c body m (kill ρ5 kl) ω5) post3⟩
        | ct ρ5 ω5 =>
          rw [hb] at post3
          exact fun g5 H5 σ5 l5 st5 => ⟨g5, _, ω5, st5.kill kl, PostS.mono l5 (o := whL kl c body m (kill ρ5 kl) ω5) post3⟩
        | bk ρ5 ω5 =>
          rw [hb] at post3
          exact fun g5 H5 σ5 l5 st5 => post3 g5 H5 σ5 l5 (st5.kill kl)
        | rt r5 ω5 => rw [hb] at post3; exact post3
        | exn c ρ5 ω5 => rw [hb] at post3; exact post3
        | bad => rw [hb] at post3; exact post3
theorem vs_while {c : Expr} {body : List Stmt} {t : DT} {f : DS} {pos : Pos} (n : Nat) (kl : List Nat) (hp : PassesOwn (model X.prog X.w) X.A X.env X.xe) (hc : VT S W X c t) (hb : VSs S W X body f) : VS S W X (.While c body [] pos) (sWhile n kl t f) :=
  (ps_while hp hc hb).imp fun _ _ _ h => while_read h
end
end Vd
/-! VL8: comprehensions; things changed in place. -/
namespace Vd
open PySem PySem.Spec PyProof.Rows L2
section
variable {S : Sg} {W : WX} {g g' : G} {H H' : Hp} {σ σ2 : L2.St} {ρ ρ2 : En} {ω : Om} {d : D} {v : V} {X : Cx} {p : Addr} {o : HO}
/-! ### a thing laid aside -/
def G.pin (g : G) (p : Addr) (o : HO) : G := ⟨g.gh, upd g.fr p o, updW g.ow p none⟩
def G.unpin (g : G) (fr : Hp) (p : Addr) : G := ⟨g.gh, fr, updW g.ow p (some .tmp)⟩
theorem Stt.pin (st : Stt S g H σ ρ ω) (hw : g.ow p = some .tmp) (ho : H p = some o) : Stt S (g.pin p o) H σ ρ ω := by
  obtain ⟨d1, d2, d3⟩ := st.df p _ hw
  have ne : ∀ b w, g.ow b = some w → w ≠ .tmp → (g.pin p o).ow b = some w := fun b w e h => by
    show updW g.ow p none b = some w
    rw [updW_ne fun z => ?_]
    · exact e
    · rw [z, hw] at e
      exact h (Option.some.inj e).symm
  refine ⟨st.xf, st.xt, fun b u e => ?_, fun b w e => ?_, fun b u e => ?_, st.len, fun i r e => ?_, st.ol, fun n u e hd => ?_⟩
  · have e : upd g.fr p o b = some u := e
    by_cases hb : b = p
    · subst hb
      rw [upd_same] at e
      rw [ho]; exact e
    · rw [upd_ne hb] at e
      exact st.xr b u e
  · have e : updW g.ow p none b = some w := e
    by_cases hb : b = p
    · subst hb
      rw [updW_same] at e
      cases e
    · rw [updW_ne hb] at e
      obtain ⟨a1, a2, a3⟩ := st.df b w e
      exact ⟨a1, (upd_ne hb).trans a2, a3⟩
  · show upd g.fr p o b = none
    by_cases hb : b = p
    · subst hb
      have e : g.gh.hf b = some u := e
      rw [d1] at e
      cases e
    · rw [upd_ne hb]
      exact st.dj b u e
  · obtain ⟨v, e1, q⟩ := st.sl i r e
    exact ⟨v, e1, q.keep (S := S) (g := g) (g' := g.pin p o) (.refl _) fun b u a c => ⟨ne b _ a (by simp), c⟩⟩
  · obtain ⟨a, e1, e2, q⟩ := st.ob n u e hd
    exact ⟨a, e1, ne a _ e2 (by simp), q.keep (S := S) (g := g) (g' := g.pin p o) (.refl _) (fun _ h => h) fun b u f x c => ⟨ne b _ x (by simp), c⟩⟩
theorem Stt.unpin {fr : Hp} (st : Stt S g H σ ρ ω) (hf : g.fr = upd fr p o) (hn : fr p = none) (mu : Mut (some o)) : Stt S (g.unpin fr p) H σ ρ ω ∧ H p = some o := by
  have hp : g.fr p = some o := by rw [hf, upd_same]
  have hH := st.xr p o hp
  have hwn : g.ow p = none := by
    cases q : g.ow p with
    | none => rfl
    | some w => rw [(st.df p w q).2.1] at hp; cases hp
  have hfn : g.gh.hf p = none := by
    cases q : g.gh.hf p with
    | none => rfl
    | some u => rw [st.dj p u q] at hp; cases hp
  have ne : ∀ b w, g.ow b = some w → (g.unpin fr p).ow b = some w := fun b w e => by
    show updW g.ow p (some .tmp) b = some w
    rw [updW_ne fun z => ?_]
    · exact e
    · rw [z, hwn] at e
      cases e
  refine ⟨⟨st.xf, st.xt, fun b u e => ?_, fun b w e => ?_, fun b u e => ?_, st.len, fun i r e => ?_, st.ol, fun n u e hd => ?_⟩, hH⟩
  · refine st.xr b u ?_
    rw [hf, upd_ne fun z => ?_]
    · exact e
    · have e : fr b = some u := e
      rw [z, hn] at e
      cases e
  · have e : updW g.ow p (some .tmp) b = some w := e
    by_cases hb : b = p
    · subst hb
      exact ⟨hfn, hn, by rw [hH]; exact mu⟩
    · rw [updW_ne hb] at e
      obtain ⟨a1, a2, a3⟩ := st.df b w e
      rw [hf, upd_ne hb] at a2
      exact ⟨a1, a2, a3⟩
  · have z := st.dj b u e
    rw [hf] at z
    by_cases hb : b = p
    · subst hb
      exact hn
    · rw [upd_ne hb] at z
      exact z
  · obtain ⟨v, e1, q⟩ := st.sl i r e
    exact ⟨v, e1, q.keep (S := S) (g := g) (g' := g.unpin fr p) (.refl _) fun b u a c => ⟨ne b _ a, c⟩⟩
  · obtain ⟨a, e1, e2, q⟩ := st.ob n u e hd
    exact ⟨a, e1, ne a _ e2, q.keep (S := S) (g := g) (g' := g.unpin fr p) (.refl _) (fun _ h => h) fun b u f x c => ⟨ne b _ x, c⟩⟩
/-- no owned thing stands at these slots -/
def noOwn (ρ : En) (is : List Nat) : Bool := is.all fun i => match ρ[i]? with
  | some (some (.own _)) => false
  | _ => true
/-- back to the slots as they were -/
theorem Stt.swap {is : List Nat} (st : Stt S g H σ ρ ω) (no : noOwn ρ is = true) {ω' : Om} (l : Le g g') (st' : Stt S g' H' σ2 ρ2 ω') (hl : σ2.length = σ.length) (h1 : ∀ j, j ∉ is → σ2[j]? = σ[j]?) (h2 : ∀ j, j ∉ is → ρ2[j]? = ρ[j]?) : Stt S g' H' σ ρ ω' := by
  refine ⟨st'.xf, st'.xt, st'.xr, st'.df, st'.dj, st.len, fun i r e => ?_, st'.ol, st'.ob⟩
  by_cases hi : i ∈ is
  · obtain ⟨v, e1, q⟩ := st.sl i r e
    refine ⟨v, e1, ?_⟩
    cases r with
    | fz d => exact Rep.mono l.gh q
    | own d =>
      have z := List.all_eq_true.mp no i hi
      rw [e] at z
      cases z
    | bor _ _ => exact q
  · rw [← h2 i hi] at e
    obtain ⟨v, e1, q⟩ := st'.sl i r e
    exact ⟨v, by rw [← h1 i hi]; exact e1, q⟩
theorem Stt.swap' {is : List Nat} (st : Stt S g H σ ρ ω) (no : noOwn ρ is = true) {ω' : Om} {gp : G} (l : GLe g.gh g'.gh) (st' : Stt S g' H' σ2 ρ2 ω') (h1 : ∀ j, j ∉ is → σ2[j]? = σ[j]?) (h2 : ∀ j, j ∉ is → ρ2[j]? = ρ[j]?) : Stt S g' H' σ ρ ω' := by
  refine ⟨st'.xf, st'.xt, st'.xr, st'.df, st'.dj, st.len, fun i r e => ?_, st'.ol, st'.ob⟩
  by_cases hi : i ∈ is
  · obtain ⟨v, e1, q⟩ := st.sl i r e
    refine ⟨v, e1, ?_⟩
    cases r with
    | fz d => exact Rep.mono l q
    | own d =>
      have z := List.all_eq_true.mp no i hi
      rw [e] at z
      cases z
    | bor _ _ => exact q
  · rw [← h2 i hi] at e
    obtain ⟨v, e1, q⟩ := st'.sl i r e
    exact ⟨v, by rw [← h1 i hi]; exact e1, q⟩
/-- what nobody's slot or field holds is changed -/
theorem Stt.wrTmp {o' : HO} (st : Stt S g H σ ρ ω) (hw : g.ow p = some .tmp) (mu : Mut (some o')) : Stt S g (upd H p o') σ ρ ω := by
  obtain ⟨w1, w2, w3, w4, w5⟩ := st.wr hw mu
  refine ⟨w1, w2, w3, w4, st.dj, st.len, fun j r ej => ?_, st.ol, fun n u en hd => ?_⟩
  · obtain ⟨u, e1, q1⟩ := st.sl j r ej
    exact ⟨u, e1, q1.keep (S := S) (g := g) (g' := g) (.refl _) fun b o a hb => w5 b _ a (by simp) o hb⟩
  · obtain ⟨a, e1, e2, q⟩ := st.ob n u en hd
    exact ⟨a, e1, e2, q.keep (S := S) (g := g) (g' := g) (.refl _) (fun o hb => (w5 a _ e2 (by simp) o hb).2) fun b o f x hb => w5 b _ x (by simp) o hb⟩
/-! ### [e for t in it if c] -/
def lcL (t : Tg) (c : DT) (e : DE) (ρ : En) : List D → List D → Om → Out R
  | [], acc, ω => .ok (.own (.lst acc)) ω
  | d :: ds, acc, ω => match tgt t d (kill ρ t.ix) with
    | none => .bad
    | some ρ1 => match c ρ1 ω with
      | .ok b ω2 => if b = true then (match e ρ1 ω2 with
        | .ok r ω3 => (match r.keep with
          | some y => if acc.length < sizeLine then lcL t c e ρ ds (acc ++ [y]) ω3 else .bad
          | none => .bad)
        | _ => .bad) else lcL t c e ρ ds acc ω2
      | _ => .bad
def dLc (t : Tg) (it : DI) (c : DT) (e : DE) : DE := fun ρ ω => (it ρ ω).bind fun x ω1 => if (noOwn ρ t.ix && x.2.all fun j => !t.ix.contains j) = true then lcL t c e ρ x.1 [] ω1 else .bad
def dYes : DT := fun _ ω => .ok true ω
theorem kill_off : ∀ (is : List Nat) (ρ : En) (j : Nat), j ∉ is → (kill ρ is)[j]? = ρ[j]?
  | [], _, _, _ => rfl
  | i :: is, ρ, j, h => by
    show (kill (ρ.set i none) is)[j]? = ρ[j]?
    rw [kill_off is _ j fun z => h (List.mem_cons_of_mem _ z), List.getElem?_set_ne]
    rintro rfl
    exact h List.mem_cons_self
theorem setAll_off : ∀ {is : List Nat} {ds : List D} {ρ ρ' : En}, setAll is ds ρ = some ρ' → ∀ j, j ∉ is → ρ'[j]? = ρ[j]?
  | [], [], _, _, e, _, _ => by cases e; rfl
  | [], _ :: _, _, _, e, _, _ => by cases e
  | _ :: _, [], _, _, e, _, _ => by cases e
  | i :: is, d :: ds, ρ, ρ', e, j, h => by
    have e : setAll is ds (ρ.set i (some (.fz d))) = some ρ' := e
    rw [setAll_off e j fun z => h (List.mem_cons_of_mem _ z), List.getElem?_set_ne]
    rintro rfl
    exact h List.mem_cons_self
theorem tgt_off {t : Tg} {d : D} {ρ ρ' : En} (e : tgt t d ρ = some ρ') : ∀ j, j ∉ t.ix → ρ'[j]? = ρ[j]? := by
  cases t with
  | nm i =>
    cases e
    intro j hj
    rw [List.getElem?_set_ne]
    rintro rfl
    exact hj (by simp [Tg.ix])
  | tp is =>
    obtain ⟨ds, _, e2⟩ := Option.bind_eq_some_iff.mp e
    exact setAll_off e2
theorem wipe_off : ∀ (is : List Nat) (σ : L2.St) (j : Nat), j ∉ is → (wipe σ is)[j]? = σ[j]?
  | [], _, _, _ => rfl
  | i :: is, σ, j, h => by
    show ((wipe σ is).set i none)[j]? = σ[j]?
    rw [List.getElem?_set_ne, wipe_off is σ j fun z => h (List.mem_cons_of_mem _ z)]
    rintro rfl
    exact h List.mem_cons_self
theorem wipe_in : ∀ (is : List Nat) (σ : L2.St) (j : Nat), j ∈ is → j < σ.length → (wipe σ is)[j]? = some none
  | [], _, _, h, _ => by cases h
  | i :: is, σ, j, h, hl => by
    show ((wipe σ is).set i none)[j]? = some none
    by_cases hi : i = j
    · subst hi
      rw [List.getElem?_set_self (by rw [wipe_length]; exact hl)]
    · rw [List.getElem?_set_ne hi]
      rcases List.mem_cons.mp h with h | h
      · exact absurd h.symm hi
      · exact wipe_in is σ j h hl
theorem wipe_eq {is : List Nat} {σ σ' : L2.St} (o : Off is (wipe σ is) σ') : wipe σ' is = wipe σ is := by
  have hl : σ'.length = σ.length := by rw [o.1, wipe_length]
  refine List.ext_getElem? fun j => ?_
  by_cases hj : j ∈ is
  · by_cases h : j < σ.length
    · rw [wipe_in is σ' j hj (by omega), wipe_in is σ j hj h]
    · rw [List.getElem?_eq_none (by rw [wipe_length]; omega), List.getElem?_eq_none (by rw [wipe_length]; omega)]
  · rw [wipe_off is σ' j hj, o.2 j hj]
theorem Stt.wipe (st : Stt S g H σ ρ ω) (is : List Nat) : Stt S g H (L2.wipe σ is) (Vd.kill ρ is) ω := by
  have z := st.kill is
  refine ⟨z.xf, z.xt, z.xr, z.df, z.dj, by rw [wipe_length]; exact z.len, fun i r e => ?_, z.ol, z.ob⟩
  obtain ⟨v, e1, q⟩ := z.sl i r e
  refine ⟨v, ?_, q⟩
  by_cases hi : i ∈ is
  · have : ∀ (is : List Nat) (ρ : En), i ∈ is → ∀ r, (Vd.kill ρ is)[i]? ≠ some (some r) := by
      intro is
      induction is with
      | nil => intro ρ h; cases h
      | cons k is ih =>
        intro ρ h r z
        have z : (Vd.kill (ρ.set k none) is)[i]? = some (some r) := z
        by_cases h2 : i ∈ is
        · exact ih _ h2 r z
        · rcases List.mem_cons.mp h with h | h
          · subst h
            rw [kill_off is _ _ h2, List.getElem?_set] at z
            simp at z
          · exact h2 h
    exact absurd e (this is ρ hi r)
  · rw [wipe_off is σ i hi]
    exact e1
abbrev W0 : WX := fun _ _ _ _ => False
theorem lc_read {t : Tg} {it : DI} {c : DT} {e : DE} {Q : VK} (h : upE S W (dLc t it c e) σ H Q) : tLc (upI S W it) (upG S t) (upT S W0 c) (upE S W0 e) t.ix σ H Q := by
  obtain ⟨g, ρ, ω, st, post⟩ := h
  refine ⟨g, ρ, ω, st, ?_⟩
  unfold dLc at post
  cases hi : it ρ ω with
  | bad => rw [hi] at post; exact post.elim
  | exn c ω1 => rw [hi] at post; exact post
  | ok x ω1 =>
    rw [hi] at post
    obtain ⟨items, bs⟩ := x
    simp only [Out.bind] at post
    split at post
    · rename_i hb
      rw [Bool.and_eq_true] at hb
      obtain ⟨hno, hbs⟩ := hb
      have hbs : ∀ j ∈ bs, j ∉ t.ix := fun j hj => by
        have z := List.all_eq_true.mp hbs j hj
        simpa using z
      intro g1 H1 J P l1 st1 ok so p1 D hD
      have mono := so.mono
      refine ⟨fun i m H' => m = items.length + 1 - i ∧ ∃ g2 ω2 acc vs, Le g1 g2 ∧ Stt S g2 H' σ ρ ω2 ∧ g2.ow D = some .tmp ∧ H' D = some (.lst vs) ∧ Reps S.K g2.gh acc vs ∧ PostE S W g1 σ ρ Q (lcL t c e ρ (items.drop i) acc ω2),
        ⟨_, rfl, { g1 with ow := updW g1.ow D (some .tmp) }, ω1, [], [], ⟨.refl _, rfl⟩, st1.newOwn hD trivial, updW_same, upd_same, rfl, PostE.mono l1 (o := lcL t c e ρ items [] ω1) post⟩, ?_⟩
      rintro i m H2 ⟨rfl, g2, ω2, acc, vs, l2, st2, hw, hH, ra, post2⟩
      have p2 : P g2.gh σ ρ := mono _ _ _ _ l2.gh p1
      obtain ⟨ho1, _⟩ := ok i g2 H2 σ ρ ω2 st2 p2
      by_cases hlt : items.length ≤ i
      · refine .inl ⟨ho1 hlt, ?_⟩
        rw [List.drop_eq_nil_of_le hlt] at post2
        exact post2 g2 H2 _ l2 st2 ⟨D, rfl, hw, vs, hH, ra⟩
      · have hlt : i < items.length := Nat.lt_of_not_le hlt
        obtain ⟨d, hd⟩ : ∃ d, items[i]? = some d := ⟨_, List.getElem?_eq_getElem hlt⟩
        have ed : items.drop i = d :: items.drop (i + 1) := by
          rw [List.drop_eq_getElem_cons hlt]
          congr 1
          rw [List.getElem?_eq_getElem hlt] at hd
          exact Option.some.inj hd
        rw [ed] at post2
        -- laid aside, the own names wiped
        have stp := (st2.pin hw hH).wipe t.ix
        have frn : g2.fr D = none := (st2.df D _ hw).2.1
        have pp : P (g2.pin D (.lst vs)).gh (L2.wipe σ t.ix) (kill ρ t.ix) := so.loc _ σ ρ _ _ (fun j hj => ⟨wipe_off _ _ _ (hbs j hj), kill_off _ _ _ (hbs j hj)⟩) p2
        obtain ⟨_, ho2⟩ := ok i _ H2 _ _ ω2 stp pp
        obtain ⟨_, yldp⟩ := ho2 d hd
        have go : J.go i H2 := (ho2 d hd).1
        refine .inr ⟨go, fun H' => ∃ g3 ω3 acc vs, Le g1 g3 ∧ Stt S g3 H' σ ρ ω3 ∧ g3.ow D = some .tmp ∧ H' D = some (.lst vs) ∧ Reps S.K g3.gh acc vs ∧ PostE S W g1 σ ρ Q (lcL t c e ρ (items.drop (i + 1)) acc ω3), fun H' hn => ⟨items.length + 1 - (i + 1), by omega, rfl, hn⟩, fun v H3 hy => ?_⟩
        obtain ⟨g3, l3, st3, rv⟩ := yldp v H3 hy
        unfold lcL at post2
        cases ht : tgt t d (kill ρ t.ix) with
        | none => rw [ht] at post2; exact post2.elim
        | some ρ3 =>
          rw [ht] at post2
          simp only at post2
          refine ⟨g3, _, ω2, d, ρ3, st3, rv, ht, fun g4 σ4 l4 st4 off => ⟨wipe_eq off, g4, ρ3, ω2, st4, ?_⟩⟩
          have offσ : ∀ j, j ∉ t.ix → σ4[j]? = σ[j]? := fun j hj => (off.2 j hj).trans (wipe_off _ _ _ hj)
          have offρ : ∀ j, j ∉ t.ix → ρ3[j]? = ρ[j]? := fun j hj => (tgt_off ht j hj).trans (kill_off _ _ _ hj)
          -- back: the slots, the list
          have back : ∀ {g5 : G} {H5 : Hp} {ω5 : Om}, Le g4 g5 → Stt S g5 H5 σ4 ρ3 ω5 → Le g1 (g5.unpin g2.fr D) ∧ Stt S (g5.unpin g2.fr D) H5 σ ρ ω5 ∧ H5 D = some (.lst vs) ∧ Reps S.K g5.gh acc vs := fun {g5 H5 ω5} l5 st5 => by
            have lg : GLe g2.gh g5.gh := ((l3.trans l4).trans l5).gh
            have st6 := st2.swap' (is := t.ix) (gp := g5) hno lg st5 offσ offρ
            have hfr : g5.fr = upd g2.fr D (.lst vs) := ((l3.trans l4).trans l5).fr
            obtain ⟨st7, h7⟩ := st6.unpin hfr frn trivial
            exact ⟨⟨l2.gh.trans lg, l2.fr⟩, st7, h7, ra.mono lg⟩
          cases hc : c ρ3 ω2 with
          | bad => rw [hc] at post2; exact post2.elim
          | exn cc ω3 => rw [hc] at post2; exact post2.elim
          | ok b ω3 =>
            rw [hc] at post2
            simp only at post2
            intro g5 H5 l5 st5
            cases b with
            | false =>
              simp only [Bool.false_eq_true, if_false] at post2 ⊢
              obtain ⟨z1, z2, z3, z4⟩ := back l5 st5
              exact ⟨_, ω3, acc, vs, z1, z2, updW_same, z3, z4, post2⟩
            | true =>
              simp only [if_true] at post2 ⊢
              refine ⟨g5, ρ3, ω3, st5, ?_⟩
              cases he : e ρ3 ω3 with
              | bad => rw [he] at post2; exact post2.elim
              | exn cc ω4 => rw [he] at post2; exact post2.elim
              | ok r ω4 =>
                rw [he] at post2
                simp only at post2
                intro g6 H6 y l6 st6 q6
                cases hk : r.keep with
                | none => rw [hk] at post2; exact post2.elim
                | some dy =>
                  rw [hk] at post2
                  simp only at post2
                  split at post2
                  · rename_i hz
                    obtain ⟨g7, l7, st7, q7⟩ := q6.keep st6 hk
                    obtain ⟨z1, z2, z3, z4⟩ := back ((l5.trans l6).trans l7) st7
                    refine ⟨vs, z3, by rw [← ra.length]; exact hz, g7.unpin g2.fr D, ω4, acc ++ [dy], vs ++ [y], z1, z2.wrTmp updW_same trivial, updW_same, upd_same, z4.append ⟨y, [], rfl, q7, rfl⟩, post2⟩
                  · exact post2.elim
    · exact post.elim
theorem ve_lc {elt tg iter : Expr} {ifs : List Expr} {scope : Scope} {own : List (Str × Nat)} {pos : Pos} {t : Tg} {it : DI} {c : DT} {e : DE} (hc : X.calm = true) (hN : X.N.Nodup) (hi : VI S W X tg iter it) (ok : BlkOk X.N X.env.scope scope own) (ho : own.map (·.2) = t.ix)
    (hg : ∀ (s : Shared) (H : Hp) (C : Addr) (cl : List (Str × Addr)) (fp : List Addr), VG S (X.blk s H scope (compEnvC scope cl C X.env) fp) tg t) (ht : ∀ (s : Shared) (H : Hp) (C : Addr) (cl : List (Str × Addr)) (fp : List Addr), PTs (X.blk s H scope (compEnvC scope cl C X.env) fp) ifs (upT S W0 c))
    (he : ∀ (s : Shared) (H : Hp) (C : Addr) (cl : List (Str × Addr)) (fp : List Addr), VE S W0 (X.blk s H scope (compEnvC scope cl C X.env) fp) elt e) (hs : ∀ x, foldedSetIterable iter X.env x = pure x := by intro _; rfl) :
    VE S W X (.ListComp elt [⟨tg, iter, ifs, 0⟩] scope pos) (dLc t it c e) := (pe_lc hc hN hi ok hg ht he hs).imp fun _ _ _ h => by rw [ho]; exact lc_read h
theorem vs_setLc {i : Nat} {y : Str} {py : Pos} {elt tg iter : Expr} {ifs : List Expr} {scope : Scope} {own : List (Str × Nat)} {pos spos : Pos} {t : Tg} {it : DI} {c : DT} {e : DE} (hc : X.calm = true) (hN : X.N.Nodup) (hy : X.N[i]? = some y) (hyl : X.env.scope.names.lookup y = some .local)
    (hsw : swapsWith (.ListComp elt [⟨tg, iter, ifs, 0⟩] scope pos) (some (.Name y py)) spos.line X.env = pure true) (hi : VI S W X tg iter it) (ok : BlkOk X.N X.env.scope scope own) (ho : own.map (·.2) = t.ix)
    (hg : ∀ (s : Shared) (H : Hp) (C : Addr) (cl : List (Str × Addr)) (fp : List Addr), VG S (X.blk s H scope (compEnvC scope cl C X.env) fp) tg t) (ht : ∀ (s : Shared) (H : Hp) (C : Addr) (cl : List (Str × Addr)) (fp : List Addr), PTs (X.blk s H scope (compEnvC scope cl C X.env) fp) ifs (upT S W0 c))
    (he : ∀ (s : Shared) (H : Hp) (C : Addr) (cl : List (Str × Addr)) (fp : List Addr), VE S W0 (X.blk s H scope (compEnvC scope cl C X.env) fp) elt e) (hs : ∀ x, foldedSetIterable iter X.env x = pure x := by intro _; rfl) :
    VS S W X (.Assign [.Name y py] (.ListComp elt [⟨tg, iter, ifs, 0⟩] scope pos) spos) (sSet i (dLc t it c e)) := (ps_setLc hc hN hy hyl hsw hi ok hg ht he hs).imp fun E σ H h => by
  rw [ho]
  have z := set_read h
  have z2 : upE S W (dLc t it c e) σ H (fun x H1 => gName i x σ H1 E.nx) := z
  exact lc_read z2
theorem pts_of {c : Expr} {t : DT} (h : VT S W X c t) : PTs X [c] (upT S W t) := pts_one h
theorem pts_yes : PTs X [] (upT S W dYes) := ⟨fun pins s σ H Q I ⟨g, ρ, ω, st, post⟩ => pts_nil.run pins s σ H Q I (post g H (.refl _) st)⟩
end
end Vd
/-! VL9: things changed in place, methods of built-in types, raise, isinstance. -/
namespace Vd
open PySem PySem.Spec PyProof.Rows L2
section
variable {S : Sg} {W : WX} {g g' : G} {H H' : Hp} {σ σ2 : L2.St} {ρ ρ2 : En} {ω : Om} {d : D} {v : V} {X : Cx} {p : Addr} {o : HO}
/-! ### x.m(..) on a slot's own thing, as a statement -/
def tyD (T : String) : D → Bool
  | .lst _ => T == "list"
  | .dic _ => T == "dict"
  | .dit _ => T == "dict"
  | _ => false
theorem tyD_v {T : String} (h : tyD T d = true) (c : Cont S.K g.gh H p d) : tyV S.K T (.ref p) H := by
  cases d with
  | lst xs =>
    obtain ⟨vs, e, _⟩ := c
    exact .inl ⟨eq_of_beq h, vs, SqL.of e⟩
  | dic xs =>
    obtain ⟨vs, e, _⟩ := c
    exact .inr (.inr (.inl ⟨eq_of_beq h, .inl ⟨vs, e⟩⟩))
  | dit xs =>
    obtain ⟨vs, e, _⟩ := c
    exact .inr (.inr (.inl ⟨eq_of_beq h, .inr ⟨vs, e⟩⟩))
  | _ => cases h
def sMut (T : String) (i : Nat) (op : D → List D → Option D) (a : DA) : DS := fun ρ ω => match ρ[i]? with
  | some (some (.own d)) => if tyD T d = true then (match a ρ ω with
    | .ok ds ω1 => (match op d ds with
      | some d' => .nx (ρ.set i (some (.own d'))) ω1
      | none => .bad)
    | .exn c ω1 => .exn c ρ ω1
    | .bad => .bad) else .bad
  | _ => .bad
/-- a method that changes its receiver: its rule -/
def MuD (S : Sg) (r : V → List V → Hp → VK → Prop) (op : D → List D → Option D) : Prop := ∀ (g : G) (H : Hp) (σ : L2.St) (ρ : En) (ω : Om) (p : Addr) (d d' : D) (ds : List D) (vs : List V) (Q : VK), Stt S g H σ ρ ω → Cont S.K g.gh H p d → Reps S.K g.gh ds vs → op d ds = some d' →
  (∀ v o', Cont S.K g.gh (upd H p o') p d' → Q v (upd H p o')) → r (.ref p) vs H Q
structure Mm (S : Sg) (X : Cx) (T : String) (name : Str) (op : D → List D → Option D) : Prop where
  ex : ∃ id r, PlainAttrs T ∧ Slot T name id ∧ typeOf (.builtin id) = pure (.type "method_descriptor") ∧ MtR X id r ∧ MuD S r op
theorem mut_read {i : Nat} {T : String} {r : V → List V → Hp → VK → Prop} {op : D → List D → Option D} {a : DA} {E : Ends} (hm : MuD S r op) (h : upS S W (sMut T i op a) E σ H) : tDrop (tBM S.K T r (tVar i) (upA S W a)) E σ H := by
  obtain ⟨g, ρ, ω, st, post⟩ := h
  unfold sMut at post
  split at post
  · rename_i d e
    split at post
    · rename_i hT
      obtain ⟨p, ev, hw, c⟩ := st.ownAt e
      refine ⟨.ref p, ev, tyD_v hT c, g, ρ, ω, st, ?_⟩
      cases ha : a ρ ω with
      | bad => rw [ha] at post; exact post.elim
      | exn cc ω1 => rw [ha] at post; exact fun g' H' l st' => post g' H' σ l st'
      | ok ds ω1 =>
        rw [ha] at post
        simp only at post
        cases ho : op d ds with
        | none => rw [ho] at post; exact post.elim
        | some d' =>
          rw [ho] at post
          intro g1 H1 vs l1 st1 r1
          obtain ⟨p1, ev1, hw1, c1⟩ := st1.ownAt e
          rw [ev] at ev1
          cases ev1
          exact hm g1 H1 σ ρ ω1 p d d' ds vs _ st1 c1 r1 ho fun v o' c' => post g1 _ σ l1 (st1.write e ev hw1 c')
    · exact post.elim
  · exact post.elim
theorem vs_mut {T : String} {name x : Str} {op : D → List D → Option D} {e : Expr} {es : List Expr} {a : DA} {xp apos cpos pos : Pos} (i : Nat) (m : Mm S X T name op) (ha : VA S W X (e :: es) a) (hN : X.N[i]? = some x := by rfl) (hv : Vis X.env.scope x := by first | exact Or.inl rfl | exact Or.inr (Or.inl rfl) | exact Or.inr (Or.inr rfl)) (hd : (x == ("__debug__" : Str)) = false := by decide)
    (hcd : (x == ("__classdict__" : Str)) = false := by decide) (hK : X.K = S.K := by rfl)
    (hbase : attributeBase (.Name x xp) name X.env (eval (.Name x xp) X.env) = eval (.Name x xp) X.env := by rfl)
    (hfew : ((backTo cpos (starEach (e :: es) X.env)).all (fun x => !x.1) && (backToKw cpos (keywordEach [] X.env)).all (fun x => x.1.isSome)
      && decide ((e :: es).length + ([] : List Keyword).length + (if ([] : List Keyword).isEmpty then 0 else 1) < 30)) = true := by rfl)
    (hline : (apos.endLine == cpos.line) = true := by rfl) (hs : starEach (e :: es) X.env = (false, eval e X.env) :: starEach es X.env := by rfl) (hplain : (backTo cpos (starEach es X.env)).any (·.1) = false := by rfl)
    (hsw : swapsWith (.Call (.Attribute (.Name x xp) name apos) (e :: es) [] cpos) none pos.line X.env = pure false := by rfl) :
    VS S W X (.Expr (.Call (.Attribute (.Name x xp) name apos) (e :: es) [] cpos) pos) (sMut T i op a) := by
  obtain ⟨id, r, h1, h2, h3, h4, h5⟩ := m.ex
  exact (ps_expr (pe_bm h1 h2 h3 h4 (pe_var hN hv hd hcd) ha hbase hfew hline hs hplain) hsw).imp fun _ _ _ h => by rw [hK]; exact mut_read h5 h
def dVars0 : DA := fun _ ω => .ok [] ω
theorem vs_mut0 {T : String} {name x : Str} {op : D → List D → Option D} {xp apos cpos pos : Pos} (i : Nat) (m : Mm S X T name op) (hN : X.N[i]? = some x := by rfl) (hv : Vis X.env.scope x := by first | exact Or.inl rfl | exact Or.inr (Or.inl rfl) | exact Or.inr (Or.inr rfl)) (hd : (x == ("__debug__" : Str)) = false := by decide)
    (hcd : (x == ("__classdict__" : Str)) = false := by decide) (hK : X.K = S.K := by rfl)
    (hbase : attributeBase (.Name x xp) name X.env (eval (.Name x xp) X.env) = eval (.Name x xp) X.env := by rfl) (hline : (apos.endLine == cpos.line) = true := by rfl)
    (hsw : swapsWith (.Call (.Attribute (.Name x xp) name apos) [] [] cpos) none pos.line X.env = pure false := by rfl) :
    VS S W X (.Expr (.Call (.Attribute (.Name x xp) name apos) [] [] cpos) pos) (sMut T i op dVars0) := by
  obtain ⟨id, r, h1, h2, h3, h4, h5⟩ := m.ex
  refine (ps_expr (pe_bm0 h1 h2 h3 h4 (pe_var hN hv hd hcd) hbase hline) hsw).imp fun E σ H h => ?_
  rw [hK]
  obtain ⟨v, ev, ty, g, ρ, ω, st, q⟩ := mut_read h5 h
  exact ⟨v, ev, ty, q g H [] (.refl _) st rfl⟩
/-! ### the methods -/
def oAppend : D → List D → Option D := fun d ds => match d, ds with
  | .lst xs, [y] => if xs.length < sizeLine then some (.lst (xs ++ [y])) else none
  | _, _ => none
def oExtend : D → List D → Option D := fun d ds => match d, ds with
  | .lst xs, [.lst ys] => if xs.length + ys.length ≤ sizeLine then some (.lst (xs ++ ys)) else none
  | _, _ => none
def oPop : D → List D → Option D := fun d ds => match d, ds with
  | .lst xs, [] => if xs.isEmpty = true then none else some (.lst xs.dropLast)
  | _, _ => none
def oReverse : D → List D → Option D := fun d ds => match d, ds with
  | .lst xs, [] => some (.lst xs.reverse)
  | _, _ => none
def oClear : D → List D → Option D := fun d ds => match d, ds with
  | .lst _, [] => some (.lst [])
  | _, _ => none
def oInsert : D → List D → Option D := fun d ds => match d, ds with
  | .lst xs, [.int i, y] => if xs.length < sizeLine ∧ 0 ≤ i ∧ i < 2 ^ 63 then some (.lst (xs.take i.toNat ++ [y] ++ xs.drop i.toNat)) else none
  | _, _ => none
theorem reps1 {K : PySem.W.Frag} {gh : Gh} {y : D} {vs : List V} (h : Reps K gh [y] vs) : ∃ v, vs = [v] ∧ Rep K gh y v := by
  obtain ⟨v, r, e, h1, h2⟩ := h
  subst e h2
  exact ⟨v, rfl, h1⟩
theorem m_append : Mm S X "list" "append" oAppend := by
  refine ⟨_, _, PySem.F.plainAttrs_list, PySem.F.slot_list_append, PySem.F.type_list_append, mt_append, ?_⟩
  intro g H σ ρ ω p d d' ds vs Q st c r e k
  unfold oAppend at e
  split at e
  · rename_i xs y
    split at e
    · rename_i hz
      cases e
      obtain ⟨us, h1, r1⟩ := c
      obtain ⟨v, e1, rv⟩ := reps1 r
      exact ⟨p, us, v, rfl, e1, h1, by rw [← r1.length]; exact hz, k _ _ ⟨_, upd_same, r1.append ⟨v, [], rfl, rv, rfl⟩⟩⟩
    · cases e
  · cases e
theorem m_extend : Mm S X "list" "extend" oExtend := by
  refine ⟨_, _, PySem.F.plainAttrs_list, PySem.F.slot_list_extend, PySem.F.type_list_extend, mt_extend, ?_⟩
  intro g H σ ρ ω p d d' ds vs Q st c r e k
  unfold oExtend at e
  split at e
  · rename_i xs ys
    split at e
    · rename_i hz
      cases e
      obtain ⟨us, h1, r1⟩ := c
      obtain ⟨v, e1, rv⟩ := reps1 r
      obtain ⟨b, ws, e2, h2, r2⟩ := Pk.lst st (.inl rv)
      subst e2
      exact ⟨p, b, us, ws, rfl, e1, h1, h2, by rw [← r1.length, ← r2.length]; exact hz, k _ _ ⟨_, upd_same, r1.append r2⟩⟩
    · cases e
  · cases e
theorem Reps.dropLast {K : PySem.W.Frag} {gh : Gh} : ∀ {xs : List D} {vs : List V}, Reps K gh xs vs → Reps K gh xs.dropLast vs.dropLast := fun {xs vs} r => by
  rw [List.dropLast_eq_take, List.dropLast_eq_take, ← r.length]
  exact r.take _
theorem Reps.reverse {K : PySem.W.Frag} {gh : Gh} : ∀ {xs : List D} {vs : List V}, Reps K gh xs vs → Reps K gh xs.reverse vs.reverse
  | [], _, h => by subst h; rfl
  | x :: xs, _, ⟨v, r, e, h, t⟩ => by
    subst e
    rw [List.reverse_cons, List.reverse_cons]
    exact (Reps.reverse t).append ⟨v, [], rfl, h, rfl⟩
theorem m_pop : Mm S X "list" "pop" oPop := by
  refine ⟨_, _, PySem.F.plainAttrs_list, PySem.F.slot_list_pop, PySem.F.type_list_pop, mt_pop, ?_⟩
  intro g H σ ρ ω p d d' ds vs Q st c r e k
  unfold oPop at e
  split at e
  · rename_i xs
    split at e
    · cases e
    · rename_i hz
      cases e
      obtain ⟨us, h1, r1⟩ := c
      cases r
      have hl : us.length - 1 < us.length := by
        rw [← r1.length]
        cases xs with
        | nil => exact absurd rfl hz
        | cons _ _ => simp
      exact ⟨p, us, _, rfl, rfl, h1, List.getElem?_eq_getElem hl, k _ _ ⟨_, upd_same, r1.dropLast⟩⟩
  · cases e
theorem m_reverse : Mm S X "list" "reverse" oReverse := by
  refine ⟨_, _, PySem.F.plainAttrs_list, PySem.F.slot_list_reverse, PySem.F.type_list_reverse, mt_reverse, ?_⟩
  intro g H σ ρ ω p d d' ds vs Q st c r e k
  unfold oReverse at e
  split at e
  · rename_i xs
    cases e
    obtain ⟨us, h1, r1⟩ := c
    cases r
    exact ⟨p, us, rfl, rfl, h1, k _ _ ⟨_, upd_same, r1.reverse⟩⟩
  · cases e
theorem m_clear : Mm S X "list" "clear" oClear := by
  refine ⟨_, _, PySem.F.plainAttrs_list, PySem.F.slot_list_clear, PySem.F.type_list_clear, mt_clear, ?_⟩
  intro g H σ ρ ω p d d' ds vs Q st c r e k
  unfold oClear at e
  split at e
  · rename_i xs
    cases e
    obtain ⟨us, h1, r1⟩ := c
    cases r
    exact ⟨p, us, rfl, rfl, h1, k _ _ ⟨_, upd_same, rfl⟩⟩
  · cases e
theorem m_insert : Mm S X "list" "insert" oInsert := by
  refine ⟨_, _, PySem.F.plainAttrs_list, PySem.F.slot_list_insert, PySem.F.type_list_insert, mt_insert, ?_⟩
  intro g H σ ρ ω p d d' ds vs Q st c r e k
  unfold oInsert at e
  split at e
  · rename_i xs i y
    split at e
    · rename_i hz
      cases e
      obtain ⟨us, h1, r1⟩ := c
      obtain ⟨v, r0, e1, h2, h3⟩ := r
      obtain ⟨v2, e2, rv⟩ := reps1 h3
      cases h2
      subst e2
      exact ⟨p, us, i, v2, rfl, e1, h1, by rw [← r1.length]; exact hz.1, hz.2.1, hz.2.2, k _ _ ⟨_, upd_same, ((r1.take i.toNat).append (ys := [y]) ⟨v2, [], rfl, rv, rfl⟩).append (r1.drop i.toNat)⟩⟩
    · cases e
  · cases e
/-! ### x[k] = v -/
def oPut (d k v : D) : Option D := match d with
  | .dic kvs => if kvs.length < sizeLine then k.key.map fun q => .dic (kvPut kvs q v) else none
  | .dit kvs => if kvs.length < sizeLine then k.tkey.map fun q => .dit (kvPut kvs q v) else none
  | _ => none
def sPut (i : Nat) (k v : DE) : DS := fun ρ ω => match v ρ ω with
  | .ok r ω1 => (match r.keep with
    | some dv => (match ρ[i]? with
      | some (some (.own d)) => (match k ρ ω1 with
        | .ok rk ω2 => (match oPut d rk.d dv with
          | some d' => .nx (ρ.set i (some (.own d'))) ω2
          | none => .bad)
        | .exn c ω2 => .exn c ρ ω2
        | .bad => .bad)
      | _ => .bad)
    | none => .bad)
  | .exn c ω1 => .exn c ρ ω1
  | .bad => .bad
theorem put_dput {k dv d' : D} {x y : V} (st : Stt S g H σ ρ ω) (c : Cont S.K g.gh H p d) (hk : Pk S g H k y) (hv : Rep S.K g.gh dv x) (e : oPut d k dv = some d') : ∃ o', DPut H p y x (upd H p o') ∧ Cont S.K g.gh (upd H p o') p d' := by
  cases d with
  | dic kvs =>
    have e : (if kvs.length < sizeLine then k.key.map fun q => D.dic (kvPut kvs q dv) else none) = some d' := e
    split at e
    · rename_i hz
      obtain ⟨q, e1, e2⟩ := Option.map_eq_some_iff.mp e
      subst e2
      obtain ⟨vs, h1, r⟩ := c
      have ey := hk.key e1
      subst ey
      exact ⟨_, DPut.k h1 (by rw [← (repK_iff.mp r).length]; exact hz), _, upd_same, repK_iff.mpr ((repK_iff.mp r).put hv)⟩
    · cases e
  | dit kvs =>
    have e : (if kvs.length < sizeLine then k.tkey.map fun q => D.dit (kvPut kvs q dv) else none) = some d' := e
    split at e
    · rename_i hz
      obtain ⟨q, e1, e2⟩ := Option.map_eq_some_iff.mp e
      subst e2
      obtain ⟨vs, h1, r⟩ := c
      obtain ⟨b, ey, hb⟩ := hk.tkey st e1
      subst ey
      exact ⟨_, DPut.t h1 hb (by rw [← (repT_iff.mp r).length]; exact hz), _, upd_same, repT_iff.mpr ((repT_iff.mp r).put hv)⟩
    · cases e
  | _ => cases e
theorem put_read {i : Nat} {k v : DE} {E : Ends} (h : upS S W (sPut i k v) E σ H) : sDPut (tVar i) (upE S W k) (upE S W v) E σ H := by
  obtain ⟨g, ρ, ω, st, post⟩ := h
  refine ⟨g, ρ, ω, st, ?_⟩
  unfold sPut at post
  cases hv : v ρ ω with
  | bad => rw [hv] at post; exact post.elim
  | exn c ω1 => rw [hv] at post; exact fun g' H' l st' => post g' H' σ l st'
  | ok r ω1 =>
    rw [hv] at post
    simp only at post
    intro g1 H1 x l1 st1 q1
    cases hr : r.keep with
    | none => rw [hr] at post; exact post.elim
    | some dv =>
      rw [hr] at post
      simp only at post
      obtain ⟨g2, l2, st2, q2⟩ := q1.keep st1 hr
      split at post
      · rename_i d e
        obtain ⟨p, ev, hw, c⟩ := st2.ownAt e
        refine ⟨.ref p, ev, g2, ρ, ω1, st2, ?_⟩
        cases hk : k ρ ω1 with
        | bad => rw [hk] at post; exact post.elim
        | exn c ω2 => rw [hk] at post; exact fun g' H' l st' => post g' H' σ ((l1.trans l2).trans l) st'
        | ok rk ω2 =>
          rw [hk] at post
          simp only at post
          intro g3 H3 y l3 st3 q3
          cases ho : oPut d rk.d dv with
          | none => rw [ho] at post; exact post.elim
          | some d' =>
            rw [ho] at post
            obtain ⟨p3, ev3, hw3, c3⟩ := st3.ownAt e
            rw [ev] at ev3
            cases ev3
            obtain ⟨o', dp, c'⟩ := put_dput st3 c3 (q3.pk st3) (q2.mono l3.gh) ho
            exact ⟨p, _, rfl, dp, post g3 _ σ ((l1.trans l2).trans l3) (st3.write e ev hw3 c')⟩
      · exact post.elim
theorem vs_put {k : Nat} {x : Str} {ie value : Expr} {fk fv : DE} {xp pos pos' : Pos} (i : Nat) (hr : Room k X.A) (hi : VE S W X ie fk) (hv : VE S W X value fv) (hN : X.N[i]? = some x := by rfl) (hvs : Vis X.env.scope x := by first | exact Or.inl rfl | exact Or.inr (Or.inl rfl) | exact Or.inr (Or.inr rfl)) (hd : (x == ("__debug__" : Str)) = false := by decide)
    (hcd : (x == ("__classdict__" : Str)) = false := by decide) (hs : swapsWith value (some (.Subscript (.Name x xp) ie pos')) pos.line X.env = pure false := by rfl) :
    VS S W X (.Assign [.Subscript (.Name x xp) ie pos'] value pos) (sPut i fk fv) := (ps_dput (hu_of hr) (pe_var hN hvs hd hcd) hi hv hs).imp fun _ _ _ h => put_read h
/-! ### raise -/
def sRaise (c : Str) : DS := fun ρ ω => .exn c ρ ω
/-- an exception class of the program -/
structure ExcOk (S : Sg) (mg : Str → Option Value) (x : Str) : Prop where
  at_ : mg x = some (.ref (S.ca x))
  ex : PySem.W.excIn S.K (S.ca x) [.type "ValueError", .type "Exception", .type "BaseException", .type "object"] "ValueError.__new__" = true
  kp : PySem.W.keepIn S.K (.ref (S.ca x)) = true
  sb : PySem.W.subIn S.K (.ref (S.ca x)) (.type "BaseException") = some true
  ty : PySem.W.typeIn S.K (.ref (S.ca x)) = some (.type "type")
/-! ### isinstance(x, T) of built-in classes -/
def D.ty : D → Option String
  | .non => some "NoneType"
  | .bl _ => some "bool"
  | .int _ => some "int"
  | .str _ => some "str"
  | .lst _ => some "list"
  | .scr _ => some "list"
  | .tup _ => some "tuple"
  | .ktp _ => none
  | .dic _ => some "dict"
  | .dit _ => none
  | .obj _ => none
def dIsTOp (T : String) : D → Om → Out R := fun a ω => match a.ty with
  | some t => (match kitB t T with
    | some b => .ok (.fz (.bl b)) ω
    | none => .bad)
  | none => .bad
theorem Pk.tyx {t : String} (st : Stt S g H σ ρ ω) (h : Pk S g H d v) (e : d.ty = some t) : TyX S.K H v (.type t) := by
  cases d with
  | non => cases e; have := h.non; subst this; exact .base .non
  | bl b => cases e; have := h.bl; subst this; exact .base (.bl b)
  | int b => cases e; have := h.int; subst this; exact .base (.int b)
  | str b => cases e; have := h.str; subst this; exact .base (.str b)
  | lst xs =>
    cases e
    obtain ⟨a, vs, e1, h1, _⟩ := h.lst st
    subst e1
    exact .base (.lst h1)
  | scr ns =>
    cases e
    obtain ⟨a, e1, h1⟩ := h.scr st
    subst e1
    rcases h1 with (h1 | ⟨o, h1⟩) | ⟨o, its, n, h1, h2, _⟩
    · exact .base (.lst h1)
    · exact .base (.frz h1)
    · exact .kList h1 h2
  | tup xs =>
    cases e
    obtain ⟨a, vs, e1, h1, _⟩ := h.tup st
    subst e1
    exact .base (.tup h1)
  | dic xs =>
    cases e
    obtain ⟨a, vs, e1, h1, _⟩ := h.dic st
    subst e1
    rcases h1 with h1 | ⟨o, h1⟩
    · exact .base (.dK h1)
    · exact .fDict h1
  | _ => cases e
def dIsT (T : String) (f : DE) : DE := dBi (dIsTOp T) f
theorem ve_isT {x : Str} {T : String} {e : Expr} {f : DE} {p p2 pos : Pos} (hm : X.mg "isinstance" = none) (hmT : X.mg x = none) (he : VE S W X e f) (hT : bootBuiltins x = some (.type T) := by decide +kernel) (hg : Gl X "isinstance" := by rfl) (hgT : Gl X x := by rfl) (hnT : x ≠ "__name__" := by decide) (hdT : (x == ("__debug__" : Str)) = false := by decide) (hK : X.K = S.K := by rfl)
    (hse : starEach (e :: [.Name x p2]) X.env = (false, eval e X.env) :: starEach [.Name x p2] X.env := by rfl) (hse2 : starEach (.Name x p2 :: []) X.env = (false, eval (.Name x p2) X.env) :: starEach [] X.env := by rfl) (hpl : (backTo pos (starEach [.Name x p2] X.env)).any (·.1) = false := by rfl) :
    VE S W X (.Call (.Name "isinstance" p) [e, .Name x p2] [] pos) (dIsT T f) := by
  refine (pe_callB call_isi hg hm (by decide +kernel) (pa_cons he (pa_cons (pe_bltn (v := .ty T) hgT hmT hT rfl hnT hdT) pa_nil hse2) hse) (by decide) (by decide) hse hpl).imp fun σ H Q h => ?_
  rw [hK]
  obtain ⟨g, ρ, ω, st, post⟩ := h
  exact ⟨g, ρ, ω, st, ee_post (f := f) (k := fun r ω1 => dIsTOp T (vw ω1 r.d) ω1) post fun r ω1 g1 H1 v l1 st1 q1 p => by
    unfold dIsTOp at p
    split at p
    · rename_i t e1
      split at p
      · rename_i b e2
        exact ⟨v, .ty T, .type t, .type T, b, rfl, .ty T, ((q1.pk st1).vw st1).tyx st1 e1, kit_ty e2, post_fz st1 p rfl⟩
      · exact p.elim
    · exact p.elim⟩
/-! ### methods of built-in types, as values -/
/-- o.m(args): the receiver looked at -/
def dBm (T : String) (op : D → List D → Om → Out R) (f : DE) (a : DA) : DE := fun ρ ω => (f ρ ω).bind fun r ω1 => if (r.isF || !tyD2 T (vw ω1 r.d)) = true then .bad else (a ρ ω1).bind fun ds ω2 => op (vw ω2 r.d) ds ω2
where tyD2 (T : String) : D → Bool
  | .lst _ => T == "list"
  | .str _ => T == "str"
  | _ => false
def MbD (S : Sg) (W : WX) (r : V → List V → Hp → VK → Prop) (op : D → List D → Om → Out R) : Prop := ∀ (g : G) (H : Hp) (σ : L2.St) (ρ : En) (ω : Om) (x : V) (d : D) (ds : List D) (vs : List V) (Q : VK), Stt S g H σ ρ ω → Pk S g H d x → Reps S.K g.gh ds vs → PostE S W g σ ρ Q (op d ds ω) → r x vs H Q
structure Mb (S : Sg) (W : WX) (X : Cx) (T : String) (name : Str) (op : D → List D → Om → Out R) : Prop where
  ex : ∃ id r, PlainAttrs T ∧ Slot T name id ∧ typeOf (.builtin id) = pure (.type "method_descriptor") ∧ MtR X id r ∧ MbD S W r op
theorem bm_read {T : String} {r2 : V → List V → Hp → VK → Prop} {op : D → List D → Om → Out R} {f : DE} {a : DA} {Q : VK} (hm : MbD S W r2 op) (h : upE S W (dBm T op f a) σ H Q) : tBM S.K T r2 (upE S W f) (upA S W a) σ H Q := by
  obtain ⟨g, ρ, ω, st, post⟩ := h
  refine ⟨g, ρ, ω, st, ?_⟩
  unfold dBm at post
  cases hf : f ρ ω with
  | bad => rw [hf] at post; exact post
  | exn c ω1 => rw [hf] at post; exact post
  | ok r ω1 =>
    rw [hf] at post
    intro g1 H1 x l1 st1 q1
    simp only [Out.bind] at post
    split at post
    · exact post.elim
    rename_i hF
    simp only [Bool.not_eq_true, Bool.or_eq_false_iff, Bool.not_eq_false'] at hF
    obtain ⟨hF, hT⟩ := hF
    obtain ⟨g2, l2, st2, q2⟩ := q1.norm st1
    have q3 := q2.pk st2
    rw [R.nrm_d] at q3
    have q3 := q3.vw st2
    refine ⟨?_, g2, ρ, ω1, st2, ?_⟩
    · cases hd : vw ω1 r.d with
      | lst xs =>
        rw [hd] at q3 hT
        obtain ⟨p, vs, e, h1, _⟩ := q3.lst st2
        subst e
        exact .inl ⟨eq_of_beq hT, vs, SqL.of h1⟩
      | str z =>
        rw [hd] at q3 hT
        have e := q3.str
        subst e
        exact eq_of_beq hT
      | _ => rw [hd] at hT; cases hT
    · cases hk : a ρ ω1 with
      | bad => rw [hk] at post; exact post
      | exn c ω2 =>
        rw [hk] at post
        exact fun g3 H3 l3 st3 => post g3 H3 ((l1.trans l2).trans l3) st3
      | ok ds ω2 =>
        rw [hk] at post
        intro g3 H3 vs l3 st3 q4
        have q5 := (q2.stay (ω' := ω2) (H' := H3) l3 hF).pk st3
        rw [R.nrm_d] at q5
        exact hm g3 H3 σ ρ ω2 x _ ds vs Q st3 (q5.vw st3) q4 (PostE.mono ((l1.trans l2).trans l3) (o := op (vw ω2 r.d) ds ω2) post)
theorem ve_bm {T : String} {name : Str} {op : D → List D → Om → Out R} {b e : Expr} {es : List Expr} {f : DE} {a : DA} {apos cpos : Pos} (m : Mb S W X T name op) (hb : VE S W X b f) (ha : VA S W X (e :: es) a) (hK : X.K = S.K := by rfl)
    (hbase : attributeBase b name X.env (eval b X.env) = eval b X.env := by rfl)
    (hfew : ((backTo cpos (starEach (e :: es) X.env)).all (fun x => !x.1) && (backToKw cpos (keywordEach [] X.env)).all (fun x => x.1.isSome)
      && decide ((e :: es).length + ([] : List Keyword).length + (if ([] : List Keyword).isEmpty then 0 else 1) < 30)) = true := by rfl)
    (hline : (apos.endLine == cpos.line) = true := by rfl) (hs : starEach (e :: es) X.env = (false, eval e X.env) :: starEach es X.env := by rfl) (hplain : (backTo cpos (starEach es X.env)).any (·.1) = false := by rfl) :
    VE S W X (.Call (.Attribute b name apos) (e :: es) [] cpos) (dBm T op f a) := by
  obtain ⟨id, r, h1, h2, h3, h4, h5⟩ := m.ex
  exact (pe_bm h1 h2 h3 h4 hb ha hbase hfew hline hs hplain).imp fun _ _ _ h => by rw [hK]; exact bm_read h5 h
/-- the first place of an item -/
def indexD (xs : List D) (y : D) : Option Nat := xs.findIdx? fun z => D.eqF z y
def oIndex : D → List D → Om → Out R := fun d ds ω => match d, ds with
  | .lst xs, [y] => if (y.flat && xs.all D.flat) = true then (match indexD xs y with
    | some j => .ok (.fz (.int (j : Nat))) ω
    | none => .bad) else .bad
  | _, _ => .bad
theorem m_index (hK : X.K = S.K := by rfl) : Mb S W X "list" "index" oIndex := by
  refine ⟨_, rIndex S.K, PySem.F.plainAttrs_list, PySem.F.slot_list_index, PySem.F.type_list_index, by rw [← hK]; exact mt_index, ?_⟩
  intro g H σ ρ ω x d ds vs Q st hd r post
  unfold oIndex at post
  split at post
  · rename_i xs y
    split at post
    · rename_i hf
      rw [Bool.and_eq_true] at hf
      split at post
      · rename_i j hj
        obtain ⟨p, us, e1, h1, r1⟩ := hd.lst st
        obtain ⟨v, e2, rv⟩ := reps1 r
        obtain ⟨h2, h3, h4⟩ := List.findIdx?_eq_some_iff_getElem.mp hj
        have f1 : ∀ d ∈ xs, d.flat = true := fun d hd => List.all_eq_true.mp hf.2 d hd
        obtain ⟨z, hz, rz⟩ := r1.get (List.getElem?_eq_getElem h2)
        refine ⟨p, us, v, j, z, e1, e2, SqL.of h1, rv.flat hf.1, r1.flat hf.2, hz, ?_, fun m z' hm hz' => ?_, post_fz st post rfl⟩
        · rw [rz.eqF rv (f1 _ (List.getElem_mem h2)) hf.1]
          exact h3
        · have hml : m < xs.length := by omega
          obtain ⟨z2, hz2, rz2⟩ := r1.get (List.getElem?_eq_getElem hml)
          rw [hz'] at hz2
          cases hz2
          rw [rz2.eqF rv (f1 _ (List.getElem_mem hml)) hf.1]
          have := h4 m hm
          simpa using this
      · exact post.elim
    · exact post.elim
  · exact post.elim
def oCount : D → List D → Om → Out R := fun d ds ω => match d, ds with
  | .lst xs, [.int k] => (match D.ints xs with
    | some ns => .ok (.fz (.int (ns.count k : Nat))) ω
    | none => .bad)
  | _, _ => .bad
theorem m_count (hK : X.K = S.K := by rfl) : Mb S W X "list" "count" oCount := by
  refine ⟨_, rCntI S.K, PySem.F.plainAttrs_list, PySem.F.slot_list_count, PySem.F.type_list_count, by rw [← hK]; exact mt_lcount, ?_⟩
  intro g H σ ρ ω x d ds vs Q st hd r post
  unfold oCount at post
  split at post
  · rename_i xs k
    split at post
    · rename_i ns e
      obtain ⟨p, e1, h1⟩ := hd.ints st e
      obtain ⟨v, e2, rv⟩ := reps1 r
      cases rv
      exact ⟨p, ns, k, e1, e2, h1, post_fz st post rfl⟩
    · exact post.elim
  · exact post.elim
def D.strs : List D → Option (List Str)
  | [] => some []
  | .str i :: ds => (D.strs ds).map (i :: ·)
  | _ => none
theorem reps_strs_of {K : PySem.W.Frag} {gh : Gh} : ∀ {ds : List D} {vs : List V} {ns : List Str}, Reps K gh ds vs → D.strs ds = some ns → vs = ns.map V.str
  | [], _, _, h, e => by
    cases e
    exact h
  | .str i :: ds, _, _, ⟨v, r, e1, h, t⟩, e => by
    obtain ⟨ms, e2, e3⟩ := Option.map_eq_some_iff.mp e
    subst e1 e3
    rw [reps_strs_of t e2]
    cases h
    rfl
  | .non :: _, _, _, _, e => by cases e
  | .bl _ :: _, _, _, _, e => by cases e
  | .int _ :: _, _, _, _, e => by cases e
  | .scr _ :: _, _, _, _, e => by cases e
  | .lst _ :: _, _, _, _, e => by cases e
  | .tup _ :: _, _, _, _, e => by cases e
  | .ktp _ :: _, _, _, _, e => by cases e
  | .dic _ :: _, _, _, _, e => by cases e
  | .dit _ :: _, _, _, _, e => by cases e
  | .obj _ :: _, _, _, _, e => by cases e
def oJoin : D → List D → Om → Out R := fun d ds ω => match d, ds with
  | .str a, [.lst xs] => (match D.strs xs with
    | some ys => if (ys.map (·.length)).sum + ys.length * a.length ≤ 16777216 then .ok (.fz (.str (Txt.join a ys))) ω else .bad
    | none => .bad)
  | _, _ => .bad
theorem m_join (hK : X.K = S.K := by rfl) : Mb S W X "str" "join" oJoin := by
  refine ⟨_, _, PySem.F.plainAttrs_str, PySem.F.slot_str_join, PySem.F.type_str_join, mt_join, ?_⟩
  intro g H σ ρ ω x d ds vs Q st hd r post
  unfold oJoin at post
  split at post
  · rename_i a xs
    split at post
    · rename_i ys e
      split at post
      · rename_i hz
        obtain ⟨v, e2, rv⟩ := reps1 r
        obtain ⟨p, us, e3, h1, r1⟩ := Pk.lst st (.inl rv)
        rw [reps_strs_of r1 e] at h1
        exact ⟨a, p, ys, hd.str, by rw [e2, e3], .inl (SqL.of h1), hz, post_fz st post rfl⟩
      · exact post.elim
    · exact post.elim
  · exact post.elim
def oSplit : D → List D → Om → Out R := fun d ds ω => match d, ds with
  | .str a, [.str b] => if (b.length == 0) = false ∧ a.length + 2 ≤ sizeLine then .ok (.own (.lst ((Txt.split a b).map D.str))) ω else .bad
  | _, _ => .bad
theorem reps_strs {K : PySem.W.Frag} {g : Gh} : ∀ ns : List Str, Reps K g (ns.map D.str) (ns.map V.str)
  | [] => rfl
  | n :: ns => ⟨.str n, _, rfl, rfl, reps_strs ns⟩
theorem m_split : Mb S W X "str" "split" oSplit := by
  refine ⟨_, _, PySem.F.plainAttrs_str, PySem.F.slot_str_split, PySem.F.type_str_split, mt_split, ?_⟩
  intro g H σ ρ ω x d ds vs Q st hd r post
  unfold oSplit at post
  split at post
  · rename_i a b
    split at post
    · rename_i hz
      obtain ⟨v, e2, rv⟩ := reps1 r
      cases rv
      exact ⟨a, b, hd.str, e2, hz.1, hz.2, fun p hp => post_ownL st post hp (reps_strs _)⟩
    · exact post.elim
  · exact post.elim
end
end Vd
/-! VL10: raise, products, objects: made, their fields, their methods. -/
namespace Vd
open PySem PySem.Spec PyProof.Rows L2
section
variable {S : Sg} {W : WX} {g g' : G} {H H' : Hp} {σ σ2 : L2.St} {ρ ρ2 : En} {ω : Om} {d : D} {v : V} {X : Cx} {p : Addr} {o : HO}
theorem vs_raise {x m : Str} {j : Nat} {p p2 pos pos2 : Pos} (e : ExcOk S X.mg x) (tk : Takes X W) (hc : X.calm = true := by rfl) (hK : X.K = S.K := by rfl) (hg : Gl X x := by rfl) (hdb : (x == ("__debug__" : Str)) = false := by decide) :
    VS S W X (.Raise (some (.Call (.Name x p) [.Constant (.str m) j p2] [] pos)) none pos2) (sRaise x) := by
  have q := e.ex
  have kp := e.kp
  have r : Raises X (.ref (S.ca x)) := raises_own (by rw [hK]; exact e.sb) (by rw [hK]; exact e.ty)
  rw [← hK] at q kp
  exact (ps_raise hc tk (pmk_own PySem.F.excBase_ValueError q e.at_ kp r hg hdb)).imp fun E σ H ⟨g, ρ, ω, st, post⟩ => post g H σ (.refl _) st
/-! ### products of all kinds -/
def mulOk (x : Str) (n : Int) : Bool := decide (-(2 ^ 63) ≤ n ∧ n < 2 ^ 63 ∧ x.length * n.toNat ≤ 10000 ∧ n ≤ 10000 ∧ x.length ≤ 10000)
theorem mulOk_ok {x : Str} {n : Int} (h : mulOk x n = true) : MulOk x n := by
  have h := of_decide_eq_true h
  refine ⟨?_, fun h1 h2 h3 => ?_, fun h1 h2 => ?_⟩
  · have e1 : decide (n < -(2 ^ 63 : Int)) = false := decide_eq_false (by omega)
    have e2 : decide (n ≥ 2 ^ 63) = false := decide_eq_false (by omega)
    rw [e1, e2]
    rfl
  · have h4 : (10000 : Int) ≤ (2 ^ 63 - 1) / n := by
      rw [Int.le_ediv_iff_mul_le (by omega)]
      omega
    omega
  · unfold Builtin.Str.tooLong
    simp only [decide_eq_false_iff_not]
    have := h.2.2.1
    have := sizeLine_eq
    omega
def dMulOp : D → D → Om → Out R := fun a b ω => match a, b with
  | .int i, .int j => if cMul i j = true then .ok (.fz (.int (i * j))) ω else .bad
  | .lst xs, .int k => if -(2 ^ 63) ≤ k ∧ k < 2 ^ 63 ∧ xs.length * k.toNat ≤ sizeLine then .ok (.own (.lst (List.replicate k.toNat xs).flatten)) ω else .bad
  | .str x, .int k => if mulOk x k = true then .ok (.fz (.str (Txt.mul x k))) ω else .bad
  | _, _ => .bad
theorem op_mul_str : OpR X (binaryOp .Mult) (fun x y H Q => ∃ z i, x = .str z ∧ y = .int i ∧ mulOk z i = true ∧ Q (.str (Txt.mul z i)) H) := by
  intro pins s σ H x y v u Q I rx ry ⟨z, i, e1, e2, h, q⟩
  subst e1 e2
  obtain ⟨t, rfl⟩ := rx
  obtain ⟨t', rfl⟩ := ry
  exact SB.mul (mulOk_ok h) fun t2 k => ⟨.str (Txt.mul z i), H, I.tok k, ⟨t2, rfl⟩, q⟩
theorem Reps.rep {K : PySem.W.Frag} {gh : Gh} {xs : List D} {vs : List V} (r : Reps K gh xs vs) : ∀ n : Nat, Reps K gh (List.replicate n xs).flatten (List.replicate n vs).flatten
  | 0 => rfl
  | n + 1 => by
    rw [List.replicate_succ, List.replicate_succ, List.flatten_cons, List.flatten_cons]
    exact r.append (r.rep n)
theorem op_dmul : OpD S W (fun x y H Q => rI CMul (fun i j => .int (i * j)) x y H Q ∨ rRep x y H Q ∨ ∃ z i, x = .str z ∧ y = .int i ∧ mulOk z i = true ∧ Q (.str (Txt.mul z i)) H) dMulOp := by
  intro g H σ ρ ω x y a b Q st ha hb post
  unfold dMulOp at post
  split at post
  · rename_i i j
    split at post
    · rename_i hc
      exact .inl ⟨i, j, ha.int, hb.int, (by unfold CMul; simpa [cMul] using hc), post_fz st post rfl⟩
    · exact post.elim
  · rename_i xs k
    split at post
    · rename_i hc
      obtain ⟨p, vs, e1, h1, r1⟩ := ha.lst st
      exact .inr (.inl ⟨p, k, vs, e1, hb.int, h1, hc.1, hc.2.1, by rw [← r1.length]; exact hc.2.2, fun q hq => post_ownL st post hq (r1.rep _)⟩)
    · exact post.elim
  · rename_i z k
    split at post
    · rename_i hc
      exact .inr (.inr ⟨z, k, ha.str, hb.int, hc, post_fz st post rfl⟩)
    · exact post.elim
  · exact post.elim
theorem ve_mul {a b : Expr} {f k : DE} {pos : Pos} (ha : VE S W X a f) (hb : VE S W X b k) : VE S W X (.BinOp a .Mult b pos) (dOp2 dMulOp f k) := (pe_op (op_mul.or (op_rep.or op_mul_str)) ha hb).imp fun _ _ _ h => op2_read op_dmul h
/-! ### one of two -/
def dAlt (f k : DE) : DE := fun ρ ω => match f ρ ω with
  | .bad => k ρ ω
  | o => o
theorem ve_alt {e : Expr} {f k : DE} (h1 : VE S W X e f) (h2 : VE S W X e k) : VE S W X e (dAlt f k) := ⟨fun pins s σ H Q I h => by
  obtain ⟨g, ρ, ω, st, post⟩ := h
  unfold dAlt at post
  cases hf : f ρ ω with
  | bad => rw [hf] at post; exact h2.run pins s σ H Q I ⟨g, ρ, ω, st, post⟩
  | exn c ω1 => rw [hf] at post; exact h1.run pins s σ H Q I ⟨g, ρ, ω, st, by rw [hf]; exact post⟩
  | ok r ω1 => rw [hf] at post; exact h1.run pins s σ H Q I ⟨g, ρ, ω, st, by rw [hf]; exact post⟩⟩
/-! ### left any, right a name -/
def dOpV (op : D → D → Om → Out R) (f : DE) (j : Nat) : DE := fun ρ ω => (f ρ ω).bind fun r ω1 => match ρ[j]? with
  | some (some (.fz d)) => op (vw ω1 r.d) (vw ω1 d) ω1
  | _ => .bad
theorem opV_read {r2 : R2} {op : D → D → Om → Out R} {f : DE} {j : Nat} (hd : OpD S W r2 op) {Q : VK} (h : upE S W (dOpV op f j) σ H Q) : tOp r2 (upE S W f) (tVar j) σ H Q := by
  obtain ⟨g, ρ, ω, st, post⟩ := h
  exact ⟨g, ρ, ω, st, ee_post (f := f) (k := fun r ω1 => match ρ[j]? with
    | some (some (.fz d)) => op (vw ω1 r.d) (vw ω1 d) ω1
    | _ => .bad) post fun r ω1 g1 H1 v l1 st1 q1 p => by
    split at p
    · rename_i d e
      obtain ⟨u, ev, q⟩ := st1.sl j _ e
      exact ⟨u, ev, hd g1 H1 σ ρ ω1 v u _ _ Q st1 ((q1.pk st1).vw st1) (Pk.vw st1 (.inl q)) p⟩
    · exact p.elim⟩
theorem ve_atV {k : Nat} {a : Expr} {f : DE} {x : Str} {xp pos : Pos} (j : Nat) (hr : Room k X.A) (ha : VE S W X a f) (hN : X.N[j]? = some x := by rfl) (hv : Vis X.env.scope x := by first | exact Or.inl rfl | exact Or.inr (Or.inl rfl) | exact Or.inr (Or.inr rfl)) (hd : (x == ("__debug__" : Str)) = false := by decide)
    (hcd : (x == ("__classdict__" : Str)) = false := by decide) (hK : X.K = S.K := by rfl) (hs : PlainIx (.Name x xp) := by exact fun _ _ => rfl) : VE S W X (.Subscript a (.Name x xp) pos) (dOpV dAtOp f j) :=
  (pe_ix (r := rIxA S.K) (by rw [← hK]; exact ix_seq.or (ix_dict (hu_of hr))) ha (pe_var hN hv hd hcd) hs).imp fun _ _ _ h => opV_read op_dat h
/-! ### objects -/
theorem Stt.newObj {C : Str} {x dx : Addr} (st : Stt S g H σ ρ ω) (hx : H x = none) (hd : H dx = none) (ne : dx ≠ x) :
    ∃ g', Le g g' ∧ Stt S g' (upd (upd H dx (.own x)) x (.ins (S.ca C) dx [])) σ ρ (ω ++ [.ins C []]) ∧ Rep S.K g'.gh (.obj ω.length) (.ref x) := by
  have m1 : ∀ b u, H b = some u → upd (upd H dx (.own x)) x (.ins (S.ca C) dx []) b = some u := fun b u e => by
    rw [upd_ne (ne_of_none e hx), upd_ne (ne_of_none e hd)]
    exact e
  have st' := st.ext m1
  have l : GLe g.gh { g.gh with io := g.gh.io ++ [x] } := ⟨fun _ _ e => e, fun _ _ e => e, [x], rfl⟩
  have nex : ∀ b w, g.ow b = some w → b ≠ x := fun b w e z => by
    have c := (st.df b w e).2.2
    rw [z, hx] at c
    exact c.elim
  have ow1 : ∀ b w, g.ow b = some w → updW g.ow x (some (.obj ω.length)) b = some w := fun b w e => (updW_ne (nex b w e)).trans e
  refine ⟨⟨{ g.gh with io := g.gh.io ++ [x] }, g.fr, updW g.ow x (some (.obj ω.length))⟩, ⟨l, rfl⟩, ⟨st'.xf, st'.xt, st'.xr, fun b w e => ?_, st'.dj, st'.len, fun i r e => ?_, by simp [st.ol], fun n u e hd => ?_⟩, ⟨x, ?_, rfl⟩⟩
  · have e : updW g.ow x (some (.obj ω.length)) b = some w := e
    by_cases hb : b = x
    · subst hb
      refine ⟨?_, ?_, by rw [upd_same]; trivial⟩
      · cases q : g.gh.hf b with
        | none => rfl
        | some u => exact absurd hx (st.xf b u q).ne
      · cases q : g.fr b with
        | none => rfl
        | some u => rw [st.xr b u q] at hx; cases hx
    · rw [updW_ne hb] at e
      exact st'.df b w e
  · obtain ⟨v, e1, q⟩ := st'.sl i r e
    exact ⟨v, e1, q.keep (S := S) (g := g) (g' := ⟨{ g.gh with io := g.gh.io ++ [x] }, g.fr, updW g.ow x (some (.obj ω.length))⟩) l fun b o a c => ⟨ow1 b _ a, c⟩⟩
  · by_cases hn : n < ω.length
    · rw [List.getElem?_append_left hn] at e
      obtain ⟨a, e1, e2, q⟩ := st'.ob n u e hd
      exact ⟨a, io_at e1, ow1 a _ e2, q.keep (S := S) (g := g) (g' := ⟨{ g.gh with io := g.gh.io ++ [x] }, g.fr, updW g.ow x (some (.obj ω.length))⟩) l (fun _ h => h) fun b o f z c => ⟨ow1 b _ z, c⟩⟩
    · have hn2 : n = ω.length := by
        have := (List.getElem?_eq_some_iff.mp e).1
        simp at this
        omega
      subst hn2
      have e : Ob.ins C [] = u := by simpa using e
      subst e
      refine ⟨x, ?_, updW_same, by simp, dx, [], upd_same, rfl⟩
      rw [← st.ol]
      simp
  · rw [← st.ol]
    simp
structure Cla (P : Program) (w : World) (S : Sg) (mg : Str → Option Value) (base : Heap) (k : Nat) (C : Str) (ps : List Str) (F : DF) : Prop where
  ex : ∃ (f : Addr) (fd : FuncData), mg C = some (.ref (S.ca C)) ∧ Mk S.K (S.ca C) f ∧ Binds S.K fd ps [] ∧ FnOk P w S.K mg base (L2.CX P w) k f fd ps (SpOf S ps.length F)
def dMake (C : Str) (F : DF) (a : DA) : DE := fun ρ ω => (a ρ ω).bind fun ds ω1 => match F (.obj ω1.length :: ds) (ω1 ++ [.ins C []]) with
  | .ok (.fz .non) ω2 => .ok (.fz (.obj ω1.length)) ω2
  | _ => .bad
theorem make_read {C : Str} {F : DF} {a : DA} {np : Nat} (hF : ∀ ds ω, ds.length ≠ np → F ds ω = .bad) {Q : VK} (h : upE S W (dMake C F a) σ H Q) : tMake (S.ca C) (SpOf S np F) [] E0 (upA S W a) σ H Q := by
  obtain ⟨g, ρ, ω, st, post⟩ := h
  refine ⟨g, ρ, ω, st, ae_post (a := a) (k := fun ds ω1 => match F (.obj ω1.length :: ds) (ω1 ++ [.ins C []]) with
    | .ok (.fz .non) ω2 => .ok (.fz (.obj ω1.length)) ω2
    | _ => .bad) post fun ds ω1 g1 H1 vs l1 st1 r1 p => fun x dx hx hdx ne => ?_⟩
  obtain ⟨g2, l2, st2, rx⟩ := st1.newObj (C := C) hx hdx ne
  have rr : Reps S.K g2.gh (.obj ω1.length :: ds) (.ref x :: (vs ++ [])) := ⟨.ref x, _, rfl, rx, by rw [List.append_nil]; exact r1.mono l2.gh⟩
  have hl : (D.obj ω1.length :: ds).length = np := Decidable.byContradiction fun z => by
    rw [hF _ _ z] at p
    exact p
  refine ⟨by rw [← rr.length]; exact hl, g2.callee _, _, _, st2.call, rr, ?_⟩
  split at p
  · rename_i ω2 e
    rw [e]
    intro g3 H3 v l3 st3 q3
    obtain ⟨l4, st4, _⟩ := st2.ret l3 st3
    exact ⟨q3, p _ H3 _ (l2.trans l4) st4 (rx.mono l4.gh)⟩
  · exact p.elim
theorem ve_make0 {k j : Nat} {C : Str} {ps : List Str} {F : DF} {p pos : Pos} (c : Cla X.prog X.w S X.mg X.base k C ps F) (hF : ∀ ds ω, ds.length ≠ ps.length → F ds ω = .bad) (hr : Room j X.A) (hk : k + 1 ≤ j) (hK : X.K = S.K := by rfl) (hg : Gl X C := by rfl) (hdb : (C == ("__debug__" : Str)) = false := by decide) :
    VE S W X (.Call (.Name C p) [] [] pos) (dMake C F dNil) := by
  obtain ⟨f, fd, gC, M, b, Fo⟩ := c.ex
  rw [← hK] at M b Fo
  exact (pe_make0 M Fo (hr.mono hk) hg gC b .nil passL hdb).imp fun σ H Q h => by
    have z := make_read hF h
    obtain ⟨g, ρ, ω, st, q⟩ := z
    exact q g H [] (.refl _) st rfl
theorem ve_make {k j : Nat} {C : Str} {ps : List Str} {F : DF} {e : Expr} {es : List Expr} {a : DA} {p pos : Pos} (c : Cla X.prog X.w S X.mg X.base k C ps F) (hF : ∀ ds ω, ds.length ≠ ps.length → F ds ω = .bad) (hr : Room j X.A) (hk : k + 1 ≤ j) (ha : VA S W X (e :: es) a) (hK : X.K = S.K := by rfl) (hg : Gl X C := by rfl) (hdb : (C == ("__debug__" : Str)) = false := by decide)
    (he : starEach (e :: es) X.env = (false, eval e X.env) :: starEach es X.env := by rfl) (hpl : (backTo pos (starEach es X.env)).any (·.1) = false := by rfl) : VE S W X (.Call (.Name C p) (e :: es) [] pos) (dMake C F a) := by
  obtain ⟨f, fd, gC, M, b, Fo⟩ := c.ex
  rw [← hK] at M b Fo
  exact (pe_make M Fo (hr.mono hk) hg gC b .nil passL ha hdb he hpl).imp fun σ H Q h => make_read hF h
/-! ### fields -/
/-- what must be known of classes whose fields are asked -/
def FldOk (S : Sg) (cs : List Str) (f : Str) : Prop := ∀ C ∈ cs, Cls S.K (S.ca C) ∧ NoAttr S.K (S.ca C) f
def dFld (cs : List Str) (f : Str) (e : DE) : DE := fun ρ ω => (e ρ ω).bind fun r ω1 => match r.d with
  | .obj n => (match ω1[n]? with
    | some (.ins C fs) => if cs.contains C = true then (match fs.lookup f with
      | some (.fz d) => .ok (.fz d) ω1
      | some (.own d) => .ok (.bor (.fld n f) d) ω1
      | _ => .bad) else .bad
    | _ => .bad)
  | _ => .bad
theorem Pk.obj {n : Nat} (h : Pk S g H (.obj n) v) : ∃ a, g.gh.io[n]? = some a ∧ v = .ref a := by
  rcases h with h | ⟨w, p, _, _, c⟩
  · exact h
  · exact c.elim
theorem Stt.insAt {n : Nat} {C : Str} {fs : List (Str × R)} {a : Addr} (st : Stt S g H σ ρ ω) (e : ω[n]? = some (.ins C fs)) (ea : g.gh.io[n]? = some a) : ∃ dx vfs, g.ow a = some (.obj n) ∧ H a = some (.ins (S.ca C) dx vfs) ∧ FsRel S.K g H n fs vfs ∧ (fs.map (·.1)).Nodup := by
  obtain ⟨a', e1, e2, nd, dx, vfs, e3, q⟩ := st.ob n _ e (by simp)
  rw [ea] at e1
  cases e1
  exact ⟨dx, vfs, e2, e3, q, nd⟩
theorem fld_read {cs : List Str} {f : Str} {e : DE} (hc : FldOk S cs f) {Q : VK} (h : upE S W (dFld cs f e) σ H Q) : tFld S.K (upE S W e) f σ H Q := by
  obtain ⟨g, ρ, ω, st, post⟩ := h
  refine ⟨g, ρ, ω, st, ee_post (f := e) (k := fun r ω1 => match r.d with
  | .obj n => (match ω1[n]? with
    | some (.ins C fs) => if cs.contains C = true then (match fs.lookup f with
      | some (.fz d) => .ok (.fz d) ω1
      | some (.own d) => .ok (.bor (.fld n f) d) ω1
      | _ => .bad) else .bad
    | _ => .bad)
  | _ => .bad) post fun r ω1 g1 H1 v l1 st1 q1 p => ?_⟩
  split at p
  · rename_i n ed
    split at p
    · rename_i C fs eo
      split at p
      · rename_i hC
        have q2 := q1.pk st1
        rw [ed] at q2
        obtain ⟨a, ea, ev⟩ := q2.obj
        obtain ⟨dx, vfs, ow, eH, fr, nd⟩ := st1.insAt eo ea
        obtain ⟨c1, c2⟩ := hc C (by simpa using hC)
        split at p
        · rename_i d el
          obtain ⟨u, h1, h2⟩ := fr.at el
          exact ⟨a, _, dx, vfs, u, ev, eH, c1, c2, h1, post_fz st1 p h2⟩
        · rename_i d el
          obtain ⟨u, h1, h2⟩ := fr.at el
          exact ⟨a, _, dx, vfs, u, ev, eH, c1, c2, h1, p g1 H1 u (.refl _) st1 ⟨C, fs, a, dx, vfs, eo, el, ea, eH, h1⟩⟩
        · exact p.elim
      · exact p.elim
    · exact p.elim
  · exact p.elim
theorem ve_fld {cs : List Str} {f : Str} {e : Expr} {k : DE} {pos : Pos} (hc : FldOk S cs f) (he : VE S W X e k) (hK : X.K = S.K := by rfl) (hb : attributeBase e f X.env (eval e X.env) = eval e X.env := by rfl) : VE S W X (.Attribute e f pos) (dFld cs f k) :=
  (pe_fld he hb).imp fun _ _ _ h => by rw [hK]; exact fld_read hc h
def putR (f : Str) (r : R) : List (Str × R) → List (Str × R)
  | [] => [(f, r)]
  | (g, x) :: t => if g = f then (g, r) :: t else (g, x) :: putR f r t
theorem putR_mem {f : Str} {r : R} : ∀ {fs : List (Str × R)} {k : Str}, k ∈ (putR f r fs).map (·.1) → k = f ∨ k ∈ fs.map (·.1)
  | [], k, h => .inl (by simpa [putR] using h)
  | (g, x) :: t, k, h => by
    unfold putR at h
    by_cases hg : g = f
    · rw [if_pos hg] at h
      exact .inr h
    · rw [if_neg hg] at h
      simp only [List.map_cons, List.mem_cons] at h ⊢
      rcases h with h | h
      · exact .inr (.inl h)
      · rcases putR_mem h with h | h
        · exact .inl h
        · exact .inr (.inr h)
theorem putR_nd {f : Str} {r : R} : ∀ {fs : List (Str × R)}, (fs.map (·.1)).Nodup → ((putR f r fs).map (·.1)).Nodup
  | [], _ => by simp [putR]
  | (g, x) :: t, h => by
    unfold putR
    by_cases hg : g = f
    · rw [if_pos hg]
      exact h
    · rw [if_neg hg]
      simp only [List.map_cons, List.nodup_cons] at h ⊢
      refine ⟨fun z => ?_, putR_nd h.2⟩
      rcases putR_mem z with z | z
      · exact hg z
      · exact h.1 z
theorem FsRel.put {n : Nat} {f : Str} {r : R} (hr : RepS S.K g H (.fld n f) r v) : ∀ {fs : List (Str × R)} {vs : List (Str × V)}, FsRel S.K g H n fs vs → FsRel S.K g H n (putR f r fs) (putF f v vs)
  | [], _, h => by
    subst h
    exact ⟨v, [], rfl, hr, rfl⟩
  | (k, x) :: fs, _, ⟨u, t, e, h, hs⟩ => by
    subst e
    unfold putR putF
    by_cases hk : k = f
    · rw [if_pos hk, if_pos hk]
      subst hk
      exact ⟨v, t, rfl, hr, hs⟩
    · rw [if_neg hk, if_neg hk]
      exact ⟨u, _, rfl, h, FsRel.put hr hs⟩
theorem FsRel.length {n : Nat} : ∀ {fs : List (Str × R)} {vs : List (Str × V)}, FsRel S.K g H n fs vs → fs.length = vs.length
  | [], _, h => by subst h; rfl
  | _ :: _, _, ⟨v, t, e, _, hs⟩ => by subst e; simp [FsRel.length hs]
/-- an object's fields are stored anew -/
theorem Stt.setObj {n : Nat} {C : Str} {fs fs' : List (Str × R)} {a dx : Addr} {vfs vfs' : List (Str × V)} (st : Stt S g H σ ρ ω) (e : ω[n]? = some (.ins C fs)) (ea : g.gh.io[n]? = some a) (ow : g.ow a = some (.obj n)) (eH : H a = some (.ins (S.ca C) dx vfs))
    (nd : (fs'.map (·.1)).Nodup) (fr : FsRel S.K g (upd H a (.ins (S.ca C) dx vfs')) n fs' vfs') : Stt S g (upd H a (.ins (S.ca C) dx vfs')) σ ρ (ω.set n (.ins C fs')) := by
  obtain ⟨w1, w2, w3, w4, w5⟩ := st.wr (o' := .ins (S.ca C) dx vfs') ow trivial
  have hn : n < ω.length := (List.getElem?_eq_some_iff.mp e).1
  refine ⟨w1, w2, w3, w4, st.dj, st.len, fun j r ej => ?_, by rw [List.length_set]; exact st.ol, fun m u en hd => ?_⟩
  · obtain ⟨u, e1, q1⟩ := st.sl j r ej
    exact ⟨u, e1, q1.keep (S := S) (g := g) (g' := g) (.refl _) fun b o a hb => w5 b _ a (by simp) o hb⟩
  · by_cases hm : n = m
    · subst hm
      rw [List.getElem?_set_self hn] at en
      cases en
      exact ⟨a, ea, ow, nd, dx, vfs', upd_same, fr⟩
    · rw [List.getElem?_set_ne hm] at en
      obtain ⟨b, e1, e2, q⟩ := st.ob m u en hd
      have hne : Wr.obj m ≠ .obj n := fun z => hm (by cases z; rfl)
      exact ⟨b, e1, e2, q.keep (S := S) (g := g) (g' := g) (.refl _) (fun o hb => (w5 b _ e2 hne o hb).2) fun c o f x hb => w5 c _ x (by simp) o hb⟩
/-- a fresh thing is marked as a field's -/
theorem Stt.markFld {n : Nat} {f : Str} (st : Stt S g H σ ρ ω) (q : RepOwn S.K g H .tmp d v) : ∃ g', Le g g' ∧ Stt S g' H σ ρ ω ∧ RepOwn S.K g' H (.fld n f) d v ∧ g'.gh = g.gh ∧ (∀ b w, g.ow b = some w → w ≠ .tmp → g'.ow b = some w) := by
  obtain ⟨p, rfl, hw, c⟩ := q
  have neW : ∀ b w', g.ow b = some w' → w' ≠ .tmp → b ≠ p := fun b w' e h z => by
    rw [z, hw] at e
    exact h (Option.some.inj e).symm
  have ow1 : ∀ b w, g.ow b = some w → w ≠ .tmp → updW g.ow p (some (.fld n f)) b = some w := fun b w e h => (updW_ne (neW b w e h)).trans e
  refine ⟨{ g with ow := updW g.ow p (some (.fld n f)) }, ⟨.refl _, rfl⟩, ⟨st.xf, st.xt, st.xr, fun b w' e => ?_, st.dj, st.len, fun j r e => ?_, st.ol, fun m o e hd => ?_⟩, ⟨p, rfl, updW_same, c⟩, rfl, ow1⟩
  · by_cases hb : b = p
    · subst hb
      exact st.df b _ hw
    · exact st.df b w' (by rw [← e]; exact (updW_ne hb).symm)
  · obtain ⟨u, e1, q1⟩ := st.sl j r e
    exact ⟨u, e1, q1.keep (S := S) (g := g) (g' := { g with ow := updW g.ow p (some (.fld n f)) }) (.refl _) fun b o a c => ⟨ow1 b _ a (by simp), c⟩⟩
  · obtain ⟨a, e1, e2, q⟩ := st.ob m o e hd
    exact ⟨a, e1, ow1 a _ e2 (by simp), q.keep (S := S) (g := g) (g' := { g with ow := updW g.ow p (some (.fld n f)) }) (.refl _) (fun _ h => h) fun b o f x c => ⟨ow1 b _ x (by simp), c⟩⟩
/-- self.f = e; ow: whether a fresh thing stays the object's own -/
def sFldSet (cs : List Str) (f : Str) (ow : Bool) (i : Nat) (e : DE) : DS := fun ρ ω => match e ρ ω with
  | .ok r ω1 => (match ρ[i]? with
    | some (some (.fz (.obj n))) => (match ω1[n]? with
      | some (.ins C fs) => if cs.contains C = true ∧ fs.length < 1000 then (match r with
        | .fz d => .nx ρ (ω1.set n (.ins C (putR f (.fz d) fs)))
        | .own d => .nx ρ (ω1.set n (.ins C (putR f (if ow = true then .own d else .fz d) fs)))
        | .bor _ _ => .bad) else .bad
      | _ => .bad)
    | _ => .bad)
  | .exn c ω1 => .exn c ρ ω1
  | .bad => .bad
theorem fldSet_read {cs : List Str} {f : Str} {ow : Bool} {i : Nat} {e : DE} {E : Ends} (hc : FldOk S cs f) (h : upS S W (sFldSet cs f ow i e) E σ H) : sFld S.K (tVar i) (upE S W e) f E σ H := by
  obtain ⟨g, ρ, ω, st, post⟩ := h
  refine ⟨g, ρ, ω, st, postE_of post fun r ω1 p g1 H1 v l1 st1 q1 => ?_⟩
  split at p
  · rename_i n es
    split at p
    · rename_i C fs eo
      split at p
      · rename_i hC
        obtain ⟨hC, hlen⟩ := hC
        obtain ⟨u, ev, a, ea, eu⟩ := st1.sl i _ es
        subst eu
        obtain ⟨dx, vfs, owa, eH, fr, nd⟩ := st1.insAt eo ea
        obtain ⟨c1, c2⟩ := hc C (by simpa using hC)
        refine ⟨.ref a, ev, a, _, dx, vfs, rfl, eH, c1, c2, by rw [← fr.length]; exact hlen, ?_⟩
        have stay : ∀ (g2 : G), GLe g1.gh g2.gh → (∀ b w, g1.ow b = some w → w ≠ .tmp → g2.ow b = some w) → ∀ w', FsRel S.K g2 (upd H1 a (.ins (S.ca C) dx w')) n fs vfs := fun g2 lg k w' =>
          fr.keep (S := S) (g := g1) (g' := g2) lg fun b o f' x hb => ⟨k b _ x (by simp), by
            rw [upd_ne fun z => ?_]
            · exact hb
            · rw [z, owa] at x
              cases x⟩
        cases r with
        | fz d =>
          have q2 : Rep S.K g1.gh d v := q1
          exact p g1 _ σ l1 (st1.setObj eo ea owa eH (putR_nd nd) (FsRel.put (f := f) (r := .fz d) q2 (stay g1 (.refl _) (fun _ _ e _ => e) _)))
        | own d =>
          have q2 : RepOwn S.K g1 H1 .tmp d v := q1
          cases ow with
          | true =>
            obtain ⟨g2, l2, st2, q3, eg, k⟩ := st1.markFld (n := n) (f := f) q2
            have ea2 : g2.gh.io[n]? = some a := by rw [eg]; exact ea
            obtain ⟨dx2, vfs2, owa2, eH2, fr2, _⟩ := st2.insAt eo ea2
            rw [eH] at eH2
            cases eH2
            have q4 : RepS S.K g2 (upd H1 a (.ins (S.ca C) dx (putF f v vfs))) (.fld n f) (.own d) v := by
              obtain ⟨p2, e2, w2, c3⟩ := q3
              refine ⟨p2, e2, w2, c3.mono (.refl _) fun o ho => ?_⟩
              rw [upd_ne fun z => ?_]
              · exact ho
              · rw [z, owa2] at w2
                cases w2
            exact p g2 _ σ (l1.trans l2) (st2.setObj eo ea2 owa2 eH (putR_nd nd) (FsRel.put q4 (stay g2 l2.gh k _)))
          | false =>
            obtain ⟨g2, l2, st2, q3⟩ := st1.freeze q2
            have ea2 : g2.gh.io[n]? = some a := by
              obtain ⟨m, em⟩ := l2.gh.io
              rw [em]
              exact io_at ea
            obtain ⟨dx2, vfs2, owa2, eH2, fr2, _⟩ := st2.insAt eo ea2
            rw [eH] at eH2
            cases eH2
            have fr3 : FsRel S.K g2 (upd H1 a (.ins (S.ca C) dx (putF f v vfs))) n fs vfs := fr2.keep (S := S) (g := g2) (g' := g2) (.refl _) fun b o f' x hb => ⟨x, by
              rw [upd_ne fun z => ?_]
              · exact hb
              · rw [z, owa2] at x
                cases x⟩
            exact p g2 _ σ (l1.trans l2) (st2.setObj eo ea2 owa2 eH (putR_nd nd) (FsRel.put (r := .fz d) q3 fr3))
        | bor _ _ => exact p.elim
      · exact p.elim
    · exact p.elim
  · exact p.elim
theorem vs_fld {cs : List Str} {f x : Str} {value : Expr} {e : DE} {xp pos pos' : Pos} (ow : Bool) (i : Nat) (hc : FldOk S cs f) (he : VE S W X value e) (hK : X.K = S.K := by rfl) (hN : X.N[i]? = some x := by rfl) (hvs : Vis X.env.scope x := by first | exact Or.inl rfl | exact Or.inr (Or.inl rfl) | exact Or.inr (Or.inr rfl)) (hd : (x == ("__debug__" : Str)) = false := by decide)
    (hcd : (x == ("__classdict__" : Str)) = false := by decide) (hs : swapsWith value (some (.Attribute (.Name x xp) f pos')) pos.line X.env = pure false := by rfl) : VS S W X (.Assign [.Attribute (.Name x xp) f pos'] value pos) (sFldSet cs f ow i e) :=
  (ps_fld (pe_var hN hvs hd hcd) he hs).imp fun _ _ _ h => by rw [hK]; exact fldSet_read hc h
/-- fields of other names stay when one field's thing is changed -/
theorem FsRel.mut {n : Nat} {f : Str} {d' : D} {o' : HO} (hw : g.ow p = some (.fld n f)) (c : Cont S.K g.gh (upd H p o') p d') (w5 : ∀ b w', g.ow b = some w' → w' ≠ .fld n f → ∀ u, H b = some u → g.ow b = some w' ∧ upd H p o' b = some u) :
    ∀ {fs : List (Str × R)} {vfs : List (Str × V)}, (fs.map (·.1)).Nodup → FsRel S.K g H n fs vfs → (f ∉ fs.map (·.1) → FsRel S.K g (upd H p o') n fs vfs) ∧ ∀ d, fs.lookup f = some (.own d) → vfs.lookup f = some (.ref p) → FsRel S.K g (upd H p o') n (putR f (.own d') fs) vfs
  | [], _, _, h => ⟨fun _ => h, fun d z => by cases z⟩
  | (k, x) :: fs, _, nd, ⟨u, t, e1, h, hs⟩ => by
    subst e1
    simp only [List.map_cons, List.nodup_cons] at nd
    obtain ⟨ih1, ih2⟩ := FsRel.mut hw c w5 nd.2 hs
    have keep : k ≠ f → RepS S.K g (upd H p o') (.fld n k) x u := fun hk => h.keep (S := S) (g := g) (g' := g) (.refl _) fun b o a hb => w5 b _ a (fun z => hk (by cases z; rfl)) o hb
    refine ⟨fun hn => ?_, fun d z1 z2 => ?_⟩
    · simp only [List.map_cons, List.mem_cons, not_or] at hn
      exact ⟨u, t, rfl, keep fun z => hn.1 z.symm, ih1 hn.2⟩
    · unfold putR
      by_cases hk : k = f
      · rw [if_pos hk]
        subst hk
        simp only [List.lookup, beq_self_eq_true] at z2
        cases z2
        exact ⟨.ref p, t, rfl, ⟨p, rfl, hw, c⟩, ih1 nd.1⟩
      · rw [if_neg hk]
        have hk2 : (f == k) = false := by
          simp only [beq_eq_false_iff_ne]
          exact fun z => hk z.symm
        simp only [List.lookup, hk2] at z1 z2
        exact ⟨u, t, rfl, keep hk, ih2 d z1 z2⟩
/-- an object's own thing is changed -/
theorem Stt.writeF {n : Nat} {C f : Str} {fs : List (Str × R)} {a dx : Addr} {vfs : List (Str × V)} {d' : D} {o' : HO} (st : Stt S g H σ ρ ω) (e : ω[n]? = some (.ins C fs)) (ea : g.gh.io[n]? = some a) (eH : H a = some (.ins (S.ca C) dx vfs)) (fr : FsRel S.K g H n fs vfs) (nd : (fs.map (·.1)).Nodup)
    (el : fs.lookup f = some (.own d)) (ev : vfs.lookup f = some (.ref p)) (hw : g.ow p = some (.fld n f)) (c : Cont S.K g.gh (upd H p o') p d') : Stt S g (upd H p o') σ ρ (ω.set n (.ins C (putR f (.own d') fs))) := by
  have mu : Mut (some o') := by
    have m := c.mut
    rw [upd_same] at m
    exact m
  obtain ⟨w1, w2, w3, w4, w5⟩ := st.wr hw mu
  have hn : n < ω.length := (List.getElem?_eq_some_iff.mp e).1
  obtain ⟨a', i1, i2, _⟩ := st.ob n _ e (by simp)
  rw [ea] at i1
  cases i1
  refine ⟨w1, w2, w3, w4, st.dj, st.len, fun j r ej => ?_, by rw [List.length_set]; exact st.ol, fun m u en hd => ?_⟩
  · obtain ⟨u, e1, q1⟩ := st.sl j r ej
    exact ⟨u, e1, q1.keep (S := S) (g := g) (g' := g) (.refl _) fun b o a hb => w5 b _ a (by simp) o hb⟩
  · by_cases hm : n = m
    · subst hm
      rw [List.getElem?_set_self hn] at en
      cases en
      refine ⟨a, ea, i2, putR_nd nd, dx, vfs, (w5 a _ i2 (by simp) _ eH).2, ?_⟩
      exact (FsRel.mut hw c w5 nd fr).2 d el ev
    · rw [List.getElem?_set_ne hm] at en
      obtain ⟨b, e1, e2, q⟩ := st.ob m u en hd
      exact ⟨b, e1, e2, q.keep (S := S) (g := g) (g' := g) (.refl _) (fun o hb => (w5 b _ e2 (by simp) o hb).2) fun c o f' x hb => w5 c _ x (fun z => hm (by cases z; rfl)) o hb⟩
end
end Vd
/-! VL11: methods of own objects; objects' own lists and dicts changed in place. -/
namespace Vd
open PySem PySem.Spec PyProof.Rows L2
/-- o.m(e, ..), what it raises is wished for at the slots as they stand -/
def tMethS (C : Addr) (m : Str) (sp : Sp) (E : L2.St → XK) (ta : TE) (t : TA) : TE := fun σ H Q => ta σ H fun x H1 => ∃ a dx fs, x = .ref a ∧ H1 a = some (.ins C dx fs) ∧ fs.lookup m = none ∧ t σ H1 fun vs H2 => sp (x :: vs) H2 Q (E σ)
theorem pe_methS {X : Cx} {CX : CXT} {k : Nat} {f C : Addr} {fd : FuncData} {ps : List Str} {sp : Sp} {E : L2.St → XK} {m : Str} {pos apos : Pos} {e o : Expr} {es : List Expr} {ta : TE} {t : TA} {pl : Sem Bool} (he : PE X o ta) (c : Cls X.K C) (hm : Meth X.K C m f)
    (F : FnOk X.prog X.w X.K X.mg X.base CX k f fd ps sp) (hr : Room k X.A) (hb : Binds X.K fd ps []) (hx : ∀ σ, PassesAt CX X σ (E σ)) (ha : PA X (e :: es) t)
    (hst : starEach (e :: es) X.env = (false, eval e X.env) :: starEach es X.env := by rfl) (hpl : (backTo pos (starEach es X.env)).any (·.1) = false := by rfl)
    (ht : eval (.Call (.Attribute o m apos) (e :: es) [] pos) X.env = (do
      let ov ← eval o X.env
      standAt apos.atName
      let (f, first) ← holding [ov] (getMethod ov m pl)
      callWith pos f first (backTo pos (starEach (e :: es) X.env)) (backToKw pos (keywordEach [] X.env))) := by rfl) :
    PE X (.Call (.Attribute o m apos) (e :: es) [] pos) (tMethS C m sp E ta t) := by
  refine ⟨fun pins s σ H Q I h => ?_⟩
  refine PySem.W.methodCall_KW (pl := pl) (thn (he.run pins s σ H _ I h) fun u s1 ⟨x, H1, I1, rx, a, dx, fs, ex, ea, l, q⟩ => ?_) ht
  subst ex
  obtain rfl : u = Value.ref a := rx
  refine getmeth_ok I1 ea c hm l ?_
  refine PySem.W.callWith_K (first := [.ref a]) (h₀ := X.base) I.ok.mod.kin hm.kp (thn (ha.run pos pins s1 σ H1 _ I1 q) fun us s2 ⟨vs, H2, I2, r, q2⟩ => ⟨I2.kIn, ?_⟩) hst hpl
  exact run_fnS (us := .ref a :: us) (vs := .ref a :: vs) F hr hb (hx σ) I2 (.cons rfl r) q2
theorem pe_methS0 {X : Cx} {CX : CXT} {k : Nat} {f C : Addr} {fd : FuncData} {ps : List Str} {sp : Sp} {E : L2.St → XK} {m : Str} {pos apos : Pos} {o : Expr} {ta : TE} {pl : Sem Bool} (he : PE X o ta) (c : Cls X.K C) (hm : Meth X.K C m f)
    (F : FnOk X.prog X.w X.K X.mg X.base CX k f fd ps sp) (hr : Room k X.A) (hb : Binds X.K fd ps []) (hx : ∀ σ, PassesAt CX X σ (E σ))
    (ht : eval (.Call (.Attribute o m apos) [] [] pos) X.env = (do
      let ov ← eval o X.env
      standAt apos.atName
      let (f, first) ← holding [ov] (getMethod ov m pl)
      callWith pos f first (backTo pos (starEach [] X.env)) (backToKw pos (keywordEach [] X.env))) := by rfl) :
    PE X (.Call (.Attribute o m apos) [] [] pos) (tMethS C m sp E ta tNil) := by
  refine ⟨fun pins s σ H Q I h => ?_⟩
  refine PySem.W.methodCall_KW (pl := pl) (thn (he.run pins s σ H _ I h) fun u s1 ⟨x, H1, I1, rx, a, dx, fs, ex, ea, l, q⟩ => ?_) ht
  subst ex
  obtain rfl : u = Value.ref a := rx
  refine getmeth_ok I1 ea c hm l ?_
  exact PySem.W.callWith_K0 (first := [.ref a]) I1.kIn hm.kp (run_fnS (us := [.ref a]) (vs := [.ref a]) F hr hb (hx σ) I1 (.cons rfl .nil) q)
section
variable {S : Sg} {W : WX} {g g' : G} {H H' : Hp} {σ σ2 : L2.St} {ρ ρ2 : En} {ω : Om} {d : D} {v : V} {X : Cx} {p : Addr} {o : HO}
/-- a method, by its class -/
structure Met (P : Program) (w : World) (S : Sg) (mg : Str → Option Value) (base : Heap) (k : Nat) (C m : Str) (ps : List Str) (F : DF) : Prop where
  ex : ∃ (f : Addr) (fd : FuncData), Cls S.K (S.ca C) ∧ Meth S.K (S.ca C) m f ∧ Binds S.K fd ps [] ∧ FnOk P w S.K mg base (L2.CX P w) k f fd ps (SpOf S ps.length F)
def dMeth (C m : Str) (F : DF) (e : DE) (a : DA) : DE := fun ρ ω => (e ρ ω).bind fun r ω1 => match r with
  | .fz (.obj n) => (match ω1[n]? with
    | some (.ins C' fs) => if C' = C ∧ (fs.lookup m).isNone = true then (a ρ ω1).bind fun ds ω2 => F (.obj n :: ds) ω2 else .bad
    | _ => .bad)
  | _ => .bad
theorem FsRel.none {n : Nat} {f : Str} : ∀ {fs : List (Str × R)} {vs : List (Str × V)}, FsRel S.K g H n fs vs → fs.lookup f = Option.none → vs.lookup f = Option.none
  | [], _, h, _ => by subst h; rfl
  | (k, x) :: fs, _, ⟨v, t, e, h, hs⟩, el => by
    subst e
    by_cases hk : (f == k) = true
    · simp only [List.lookup, hk] at el
      cases el
    · have hk : (f == k) = false := by simpa using hk
      simp only [List.lookup, hk] at el ⊢
      exact FsRel.none hs el
/-- behind a callee's end -/
theorem callee_post {F : DF} {np : Nat} {ds : List D} {vs : List V} {Q : VK} (hF : ∀ ds ω, ds.length ≠ np → F ds ω = .bad) (st : Stt S g H σ ρ ω) (r : Reps S.K g.gh ds vs) (post : PostE S W g σ ρ Q (F ds ω)) : SpOf S np F vs H Q (WE W σ) := by
  refine ⟨?_, g.callee H, ω, ds, st.call, r, ?_⟩
  · rw [← r.length]
    refine Decidable.byContradiction fun z => ?_
    rw [hF ds ω z] at post
    exact post
  · cases hf : F ds ω with
    | bad => rw [hf] at post; exact post
    | exn c ω2 =>
      rw [hf] at post
      intro g2 H2 l2 st2
      obtain ⟨l3, st3, _⟩ := st.ret l2 st2
      exact post _ H2 l3 st3
    | ok rr ω2 =>
      rw [hf] at post
      intro g2 H2 v l2 st2 q2
      obtain ⟨l3, st3, ow⟩ := st.ret l2 st2
      refine post _ H2 v l3 st3 ?_
      cases rr with
      | fz d => exact q2
      | own d => exact ow d v q2
      | bor _ _ => exact q2.elim
theorem meth_read {C m : Str} {F : DF} {np : Nat} {e : DE} {a : DA} (hF : ∀ ds ω, ds.length ≠ np → F ds ω = .bad) {Q : VK} (h : upE S W (dMeth C m F e a) σ H Q) : tMethS (S.ca C) m (SpOf S np F) (WE W) (upE S W e) (upA S W a) σ H Q := by
  obtain ⟨g, ρ, ω, st, post⟩ := h
  refine ⟨g, ρ, ω, st, ?_⟩
  unfold dMeth at post
  cases hf : e ρ ω with
  | bad => rw [hf] at post; exact post
  | exn c ω1 => rw [hf] at post; exact post
  | ok r ω1 =>
    rw [hf] at post
    intro g1 H1 x l1 st1 q1
    simp only [Out.bind] at post
    split at post
    · rename_i n
      split at post
      · rename_i C' fs eo
        split at post
        · rename_i hC
          obtain ⟨hC, hm⟩ := hC
          subst hC
          obtain ⟨ad, ea, ev⟩ := (show Rep S.K g1.gh (.obj n) x from q1)
          subst ev
          obtain ⟨dx, vfs, ow, eH, fr, _⟩ := st1.insAt eo ea
          refine ⟨ad, dx, vfs, rfl, eH, fr.none (by simpa using hm), g1, ρ, ω1, st1, ?_⟩
          cases hk : a ρ ω1 with
          | bad => rw [hk] at post; exact post
          | exn c ω2 =>
            rw [hk] at post
            exact fun g3 H3 l3 st3 => post g3 H3 (l1.trans l3) st3
          | ok ds ω2 =>
            rw [hk] at post
            intro g3 H3 vs l3 st3 q3
            have r3 : Reps S.K g3.gh (.obj n :: ds) (.ref ad :: vs) := ⟨_, _, rfl, Rep.mono l3.gh (d := .obj n) ⟨ad, ea, rfl⟩, q3⟩
            exact callee_post hF st3 r3 (PostE.mono (l1.trans l3) (o := F (.obj n :: ds) ω2) post)
        · exact post.elim
      · exact post.elim
    · exact post.elim
theorem ve_meth {k j : Nat} {C m : Str} {ps : List Str} {F : DF} {o e : Expr} {es : List Expr} {f : DE} {a : DA} {apos pos : Pos} {pl : Sem Bool} (c : Met X.prog X.w S X.mg X.base k C m ps F) (hF : ∀ ds ω, ds.length ≠ ps.length → F ds ω = .bad) (tk : Takes X W) (hr : Room j X.A) (hk : k ≤ j)
    (ho : VE S W X o f) (ha : VA S W X (e :: es) a) (hK : X.K = S.K := by rfl) (hst : starEach (e :: es) X.env = (false, eval e X.env) :: starEach es X.env := by rfl) (hpl : (backTo pos (starEach es X.env)).any (·.1) = false := by rfl)
    (ht : eval (.Call (.Attribute o m apos) (e :: es) [] pos) X.env = (do
      let ov ← eval o X.env
      standAt apos.atName
      let (f, first) ← holding [ov] (getMethod ov m pl)
      callWith pos f first (backTo pos (starEach (e :: es) X.env)) (backToKw pos (keywordEach [] X.env))) := by rfl) : VE S W X (.Call (.Attribute o m apos) (e :: es) [] pos) (dMeth C m F f a) := by
  obtain ⟨fa, fd, cl, me, bi, Fo⟩ := c.ex
  rw [← hK] at Fo cl me bi
  exact (pe_methS ho cl me Fo (hr.mono hk) bi (fun σ => passAt tk σ) ha hst hpl ht).imp fun _ _ _ h => meth_read hF h
theorem ve_meth0 {k j : Nat} {C m : Str} {ps : List Str} {F : DF} {o : Expr} {f : DE} {apos pos : Pos} {pl : Sem Bool} (c : Met X.prog X.w S X.mg X.base k C m ps F) (hF : ∀ ds ω, ds.length ≠ ps.length → F ds ω = .bad) (tk : Takes X W) (hr : Room j X.A) (hk : k ≤ j)
    (ho : VE S W X o f) (hK : X.K = S.K := by rfl)
    (ht : eval (.Call (.Attribute o m apos) [] [] pos) X.env = (do
      let ov ← eval o X.env
      standAt apos.atName
      let (f, first) ← holding [ov] (getMethod ov m pl)
      callWith pos f first (backTo pos (starEach [] X.env)) (backToKw pos (keywordEach [] X.env))) := by rfl) : VE S W X (.Call (.Attribute o m apos) [] [] pos) (dMeth C m F f dNil) := by
  obtain ⟨fa, fd, cl, me, bi, Fo⟩ := c.ex
  rw [← hK] at Fo cl me bi
  exact (pe_methS0 ho cl me Fo (hr.mono hk) bi (fun σ => passAt tk σ) ht).imp fun σ H Q h => by
    obtain ⟨g, ρ, ω, st, post⟩ := meth_read hF h
    refine ⟨g, ρ, ω, st, ?_⟩
    cases hf : f ρ ω with
    | bad => rw [hf] at post; exact post
    | exn c ω1 => rw [hf] at post; exact post
    | ok r ω1 =>
      rw [hf] at post
      intro g1 H1 x l1 st1 q1
      obtain ⟨ad, dx, fs, e1, e2, e3, g2, ρ2, ω2, st2, q2⟩ := post g1 H1 x l1 st1 q1
      exact ⟨ad, dx, fs, e1, e2, e3, q2 g2 H1 [] (.refl _) st2 rfl⟩
/-! ### self.f.m(x): an object's own list -/
def sMutF (T : String) (cs : List Str) (f : Str) (i : Nat) (op : D → List D → Option D) (j : Nat) : DS := fun ρ ω => match ρ[i]?, ρ[j]? with
  | some (some (.fz (.obj n))), some (some (.fz y)) => (match ω[n]? with
    | some (.ins C fs) => if cs.contains C = true then (match fs.lookup f with
      | some (.own d) => if tyD T d = true then (match op d [y] with
        | some d' => .nx ρ (ω.set n (.ins C (putR f (.own d') fs)))
        | none => .bad) else .bad
      | _ => .bad) else .bad
    | _ => .bad)
  | _, _ => .bad
theorem mutF_read {T : String} {cs : List Str} {f : Str} {i j : Nat} {r : V → List V → Hp → VK → Prop} {op : D → List D → Option D} {E : Ends} (hc : FldOk S cs f) (hm : MuD S r op) (h : upS S W (sMutF T cs f i op j) E σ H) : tDrop (tBM S.K T r (tFld S.K (tVar i) f) (tCons (tVar j) tNil)) E σ H := by
  obtain ⟨g, ρ, ω, st, post⟩ := h
  unfold sMutF at post
  split at post
  · rename_i n y es ej
    split at post
    · rename_i C fs eo
      split at post
      · rename_i hC
        split at post
        · rename_i d el
          split at post
          · rename_i hT
            split at post
            · rename_i d' ho
              obtain ⟨u, ev, ad, ea, eu⟩ := st.sl i _ es
              subst eu
              obtain ⟨uy, evy, ry⟩ := st.sl j _ ej
              obtain ⟨dx, vfs, owa, eH, fr, nd⟩ := st.insAt eo ea
              obtain ⟨c1, c2⟩ := hc C (by simpa using hC)
              obtain ⟨w, h1, q⟩ := fr.at el
              obtain ⟨p, e1, hw, c⟩ := (show RepOwn S.K g H (.fld n f) d w from q)
              subst e1
              refine ⟨.ref ad, ev, ad, _, dx, vfs, .ref p, rfl, eH, c1, c2, h1, tyD_v hT c, uy, evy, ?_⟩
              exact hm g H σ ρ ω p d d' [y] [uy] _ st c ⟨uy, [], rfl, ry, rfl⟩ ho fun v o' c' => post g _ σ (.refl _) (st.writeF eo ea eH fr nd el h1 hw c')
            · exact post.elim
          · exact post.elim
        · exact post.elim
      · exact post.elim
    · exact post.elim
  · exact post.elim
theorem vs_mutF {T : String} {cs : List Str} {f name x y : Str} {op : D → List D → Option D} {xp yp fp apos cpos pos : Pos} (i j : Nat) (hc : FldOk S cs f) (m : Mm S X T name op) (hN : X.N[i]? = some x := by rfl) (hv : Vis X.env.scope x := by first | exact Or.inl rfl | exact Or.inr (Or.inl rfl) | exact Or.inr (Or.inr rfl)) (hd : (x == ("__debug__" : Str)) = false := by decide)
    (hcd : (x == ("__classdict__" : Str)) = false := by decide) (hN2 : X.N[j]? = some y := by rfl) (hv2 : Vis X.env.scope y := by first | exact Or.inl rfl | exact Or.inr (Or.inl rfl) | exact Or.inr (Or.inr rfl)) (hd2 : (y == ("__debug__" : Str)) = false := by decide)
    (hcd2 : (y == ("__classdict__" : Str)) = false := by decide) (hK : X.K = S.K := by rfl)
    (hb : attributeBase (.Name x xp) f X.env (eval (.Name x xp) X.env) = eval (.Name x xp) X.env := by rfl)
    (hbase : attributeBase (.Attribute (.Name x xp) f fp) name X.env (eval (.Attribute (.Name x xp) f fp) X.env) = eval (.Attribute (.Name x xp) f fp) X.env := by rfl)
    (hfew : ((backTo cpos (starEach [.Name y yp] X.env)).all (fun x => !x.1) && (backToKw cpos (keywordEach [] X.env)).all (fun x => x.1.isSome)
      && decide (([.Name y yp] : List Expr).length + ([] : List Keyword).length + (if ([] : List Keyword).isEmpty then 0 else 1) < 30)) = true := by rfl)
    (hline : (apos.endLine == cpos.line) = true := by rfl) (hs : starEach [.Name y yp] X.env = (false, eval (.Name y yp) X.env) :: starEach [] X.env := by rfl) (hplain : (backTo cpos (starEach [] X.env)).any (·.1) = false := by rfl)
    (hsw : swapsWith (.Call (.Attribute (.Attribute (.Name x xp) f fp) name apos) [.Name y yp] [] cpos) none pos.line X.env = pure false := by rfl) :
    VS S W X (.Expr (.Call (.Attribute (.Attribute (.Name x xp) f fp) name apos) [.Name y yp] [] cpos) pos) (sMutF T cs f i op j) := by
  obtain ⟨id, r, h1, h2, h3, h4, h5⟩ := m.ex
  exact (ps_expr (pe_bm h1 h2 h3 h4 (pe_fld (pe_var hN hv hd hcd) hb) (pa_cons (pe_var hN2 hv2 hd2 hcd2) pa_nil hs) hbase hfew hline hs hplain) hsw).imp fun _ _ _ h => by rw [hK]; exact mutF_read hc h5 h
/-! ### self.f[x] = e: an object's own dict -/
def sPutF (cs : List Str) (f : Str) (i j : Nat) (v : DE) : DS := fun ρ ω => match v ρ ω with
  | .ok r ω1 => (match r.keep with
    | some dv => (match ρ[i]?, ρ[j]? with
      | some (some (.fz (.obj n))), some (some (.fz y)) => (match ω1[n]? with
        | some (.ins C fs) => if cs.contains C = true then (match fs.lookup f with
          | some (.own d) => (match oPut d y dv with
            | some d' => .nx ρ (ω1.set n (.ins C (putR f (.own d') fs)))
            | none => .bad)
          | _ => .bad) else .bad
        | _ => .bad)
      | _, _ => .bad)
    | none => .bad)
  | .exn c ω1 => .exn c ρ ω1
  | .bad => .bad
theorem putF_read {cs : List Str} {f : Str} {i j : Nat} {v : DE} {E : Ends} (hc : FldOk S cs f) (h : upS S W (sPutF cs f i j v) E σ H) : sDPut (tFld S.K (tVar i) f) (tVar j) (upE S W v) E σ H := by
  obtain ⟨g, ρ, ω, st, post⟩ := h
  refine ⟨g, ρ, ω, st, postE_of post fun r ω1 p g1 H1 x l1 st1 q1 => ?_⟩
  cases hr : r.keep with
  | none => rw [hr] at p; exact p.elim
  | some dv =>
    rw [hr] at p
    simp only at p
    obtain ⟨g2, l2, st2, q2⟩ := q1.keep st1 hr
    split at p
    · rename_i n y es ej
      split at p
      · rename_i C fs eo
        split at p
        · rename_i hC
          split at p
          · rename_i d el
            split at p
            · rename_i d' ho
              obtain ⟨u, ev, ad, ea, eu⟩ := st2.sl i _ es
              subst eu
              obtain ⟨uy, evy, ry⟩ := st2.sl j _ ej
              obtain ⟨dx, vfs, owa, eH, fr, nd⟩ := st2.insAt eo ea
              obtain ⟨c1, c2⟩ := hc C (by simpa using hC)
              obtain ⟨w, h1, q⟩ := fr.at el
              obtain ⟨pp, e1, hw, c⟩ := (show RepOwn S.K g2 H1 (.fld n f) d w from q)
              subst e1
              obtain ⟨o', dp, c'⟩ := put_dput st2 c (.inl ry) q2 ho
              exact ⟨.ref ad, ev, ad, _, dx, vfs, .ref pp, rfl, eH, c1, c2, h1, uy, evy, pp, _, rfl, dp, p g2 _ σ (l1.trans l2) (st2.writeF eo ea eH fr nd el h1 hw c')⟩
            · exact p.elim
          · exact p.elim
        · exact p.elim
      · exact p.elim
    · exact p.elim
theorem vs_putF {k : Nat} {cs : List Str} {f x y : Str} {value : Expr} {fv : DE} {xp yp fp pos pos' : Pos} (i j : Nat) (hr : Room k X.A) (hc : FldOk S cs f) (hv : VE S W X value fv) (hN : X.N[i]? = some x := by rfl) (hvs : Vis X.env.scope x := by first | exact Or.inl rfl | exact Or.inr (Or.inl rfl) | exact Or.inr (Or.inr rfl)) (hd : (x == ("__debug__" : Str)) = false := by decide)
    (hcd : (x == ("__classdict__" : Str)) = false := by decide) (hN2 : X.N[j]? = some y := by rfl) (hv2 : Vis X.env.scope y := by first | exact Or.inl rfl | exact Or.inr (Or.inl rfl) | exact Or.inr (Or.inr rfl)) (hd2 : (y == ("__debug__" : Str)) = false := by decide)
    (hcd2 : (y == ("__classdict__" : Str)) = false := by decide) (hK : X.K = S.K := by rfl) (hb : attributeBase (.Name x xp) f X.env (eval (.Name x xp) X.env) = eval (.Name x xp) X.env := by rfl)
    (hs : swapsWith value (some (.Subscript (.Attribute (.Name x xp) f fp) (.Name y yp) pos')) pos.line X.env = pure false := by rfl) :
    VS S W X (.Assign [.Subscript (.Attribute (.Name x xp) f fp) (.Name y yp) pos'] value pos) (sPutF cs f i j fv) := (ps_dput (hu_of hr) (pe_fld (pe_var hN hvs hd hcd) hb) (pe_var hN2 hv2 hd2 hcd2) hv hs).imp fun _ _ _ h => by rw [hK]; exact putF_read hc h
/-! ### methods, by their bodies -/
theorem met_of {P : Program} {w : World} {mg : Str → Option Value} {base : Heap} {k : Nat} {C m qual : Str} {ps N : List Str} {body : DS} {params : Arguments} {b : List Stmt} {scope : Scope} {f : Addr} {fd : FuncData}
    (F : FunD S.K m qual params b scope [] [] f fd) (cl : Cls S.K (S.ca C)) (me : Meth S.K (S.ca C) m f) (bi : Binds S.K fd ps []) (SC : FnScope N ps scope) (hl : ps.length ≤ N.length)
    (hb : ∀ (cdv : Value) (A : Around) (outer : List Env) (s : Shared) (H : Hp) (E : XK), Bd P w S mg base k N scope (WF E) (cxOf (L2.CX P w) P w S.K mg base N qual scope f cdv A outer s H E) →
      VSs S (WF E) (cxOf (L2.CX P w) P w S.K mg base N qual scope f cdv A outer s H E) b body) : Met P w S mg base (k + 1) C m ps (dFn N.length ps.length body) := by
  refine ⟨f, fd, cl, me, bi, F.ok SC (fun vs H Q E h => h.1) fun cdv A outer s H vs Q E hr h => ?_⟩
  exact ⟨_, hb cdv A outer s H E ⟨takes_of rfl rfl rfl rfl, hr, passes_of (K := fun e s' => L2.CX P w outer H s E e s') rfl, rfl, rfl⟩, body_read hl h⟩
theorem cla_of {P : Program} {w : World} {mg : Str → Option Value} {base : Heap} {k : Nat} {C qual : Str} {ps N : List Str} {body : DS} {params : Arguments} {b : List Stmt} {scope : Scope} {f : Addr} {fd : FuncData}
    (F : FunD S.K "__init__" qual params b scope [] [] f fd) (gC : mg C = some (.ref (S.ca C))) (M : Mk S.K (S.ca C) f) (bi : Binds S.K fd ps []) (SC : FnScope N ps scope) (hl : ps.length ≤ N.length)
    (hb : ∀ (cdv : Value) (A : Around) (outer : List Env) (s : Shared) (H : Hp) (E : XK), Bd P w S mg base k N scope (WF E) (cxOf (L2.CX P w) P w S.K mg base N qual scope f cdv A outer s H E) →
      VSs S (WF E) (cxOf (L2.CX P w) P w S.K mg base N qual scope f cdv A outer s H E) b body) : Cla P w S mg base (k + 1) C ps (dFn N.length ps.length body) := by
  refine ⟨f, fd, gC, M, bi, F.ok SC (fun vs H Q E h => h.1) fun cdv A outer s H vs Q E hr h => ?_⟩
  exact ⟨_, hb cdv A outer s H E ⟨takes_of rfl rfl rfl rfl, hr, passes_of (K := fun e s' => L2.CX P w outer H s E e s') rfl, rfl, rfl⟩, body_read hl h⟩
end
end Vd
/-! VL12: boxes (lists and dicts that several hold), sorted, list of a dict, dict displays. -/
namespace Vd
open PySem PySem.Spec PyProof.Rows L2
section
variable {S : Sg} {W : WX} {g g' : G} {H H' : Hp} {σ σ2 : L2.St} {ρ ρ2 : En} {ω : Om} {d : D} {v : V} {X : Cx} {p : Addr} {o : HO}
/-! ### boxes -/
theorem Stt.newBox (st : Stt S g H σ ρ ω) (q : RepOwn S.K g H .tmp d v) : ∃ g', Le g g' ∧ Stt S g' H σ ρ (ω ++ [.box d]) ∧ Rep S.K g'.gh (.obj ω.length) v := by
  obtain ⟨p, rfl, hw, c⟩ := q
  have l : GLe g.gh { g.gh with io := g.gh.io ++ [p] } := ⟨fun _ _ e => e, fun _ _ e => e, [p], rfl⟩
  have neW : ∀ b w', g.ow b = some w' → w' ≠ .tmp → b ≠ p := fun b w' e h z => by
    rw [z, hw] at e
    exact h (Option.some.inj e).symm
  have ow1 : ∀ b w, g.ow b = some w → w ≠ .tmp → updW g.ow p (some (.obj ω.length)) b = some w := fun b w e h => (updW_ne (neW b w e h)).trans e
  refine ⟨⟨{ g.gh with io := g.gh.io ++ [p] }, g.fr, updW g.ow p (some (.obj ω.length))⟩, ⟨l, rfl⟩, ⟨st.xf, st.xt, st.xr, fun b w' e => ?_, st.dj, st.len, fun j r e => ?_, by simp [st.ol], fun m u e hd => ?_⟩, ⟨p, ?_, rfl⟩⟩
  · by_cases hb : b = p
    · subst hb
      exact st.df b _ hw
    · exact st.df b w' (by rw [← e]; exact (updW_ne hb).symm)
  · obtain ⟨u, e1, q1⟩ := st.sl j r e
    exact ⟨u, e1, q1.keep (S := S) (g := g) (g' := ⟨{ g.gh with io := g.gh.io ++ [p] }, g.fr, updW g.ow p (some (.obj ω.length))⟩) l fun b o a c => ⟨ow1 b _ a (by simp), c⟩⟩
  · by_cases hn : m < ω.length
    · rw [List.getElem?_append_left hn] at e
      obtain ⟨a, e1, e2, q⟩ := st.ob m u e hd
      exact ⟨a, io_at e1, ow1 a _ e2 (by simp), q.keep (S := S) (g := g) (g' := ⟨{ g.gh with io := g.gh.io ++ [p] }, g.fr, updW g.ow p (some (.obj ω.length))⟩) l (fun _ h => h) fun b o f z c => ⟨ow1 b _ z (by simp), c⟩⟩
    · have hn2 : m = ω.length := by
        have := (List.getElem?_eq_some_iff.mp e).1
        simp at this
        omega
      subst hn2
      have e : Ob.box d = u := by simpa using e
      subst e
      refine ⟨p, ?_, updW_same, c.mono l fun _ h => h⟩
      rw [← st.ol]
      simp
  · rw [← st.ol]
    simp
def dBox (f : DE) : DE := fun ρ ω => (f ρ ω).bind fun r ω1 => match r with
  | .own d => .ok (.fz (.obj ω1.length)) (ω1 ++ [.box d])
  | _ => .bad
theorem box_read {f : DE} {Q : VK} (h : upE S W (dBox f) σ H Q) : upE S W f σ H Q := by
  obtain ⟨g, ρ, ω, st, post⟩ := h
  refine ⟨g, ρ, ω, st, ee_post (f := f) (k := fun r ω1 => match r with
    | .own d => .ok (.fz (.obj ω1.length)) (ω1 ++ [.box d])
    | _ => .bad) post fun r ω1 g1 H1 v l1 st1 q1 p => ?_⟩
  split at p
  · rename_i d
    obtain ⟨g2, l2, st2, q2⟩ := st1.newBox (show RepOwn S.K g1 H1 .tmp d v from q1)
    exact p g2 H1 v l2 st2 q2
  · exact p.elim
theorem ve_box {e : Expr} {f : DE} (h : VE S W X e f) : VE S W X e (dBox f) := h.imp fun _ _ _ h => box_read h
theorem Stt.boxAt {n : Nat} {a : Addr} (st : Stt S g H σ ρ ω) (e : ω[n]? = some (.box d)) (ea : g.gh.io[n]? = some a) : g.ow a = some (.obj n) ∧ Cont S.K g.gh H a d := by
  obtain ⟨a', e1, e2, q⟩ := st.ob n _ e (by simp)
  rw [ea] at e1
  cases e1
  exact ⟨e2, q⟩
theorem Stt.writeB {n : Nat} {a : Addr} {d' : D} {o' : HO} (st : Stt S g H σ ρ ω) (e : ω[n]? = some (.box d)) (ea : g.gh.io[n]? = some a) (c : Cont S.K g.gh (upd H a o') a d') : Stt S g (upd H a o') σ ρ (ω.set n (.box d')) := by
  obtain ⟨ow, c0⟩ := st.boxAt e ea
  have mu : Mut (some o') := by
    have m := c.mut
    rw [upd_same] at m
    exact m
  obtain ⟨w1, w2, w3, w4, w5⟩ := st.wr (o' := o') ow mu
  have hn : n < ω.length := (List.getElem?_eq_some_iff.mp e).1
  refine ⟨w1, w2, w3, w4, st.dj, st.len, fun j r ej => ?_, by rw [List.length_set]; exact st.ol, fun m u en hd => ?_⟩
  · obtain ⟨u, e1, q1⟩ := st.sl j r ej
    exact ⟨u, e1, q1.keep (S := S) (g := g) (g' := g) (.refl _) fun b o a hb => w5 b _ a (by simp) o hb⟩
  · by_cases hm : n = m
    · subst hm
      rw [List.getElem?_set_self hn] at en
      cases en
      exact ⟨a, ea, ow, c⟩
    · rw [List.getElem?_set_ne hm] at en
      obtain ⟨b, e1, e2, q⟩ := st.ob m u en hd
      have hne : Wr.obj m ≠ .obj n := fun z => hm (by cases z; rfl)
      exact ⟨b, e1, e2, q.keep (S := S) (g := g) (g' := g) (.refl _) (fun o hb => (w5 b _ e2 hne o hb).2) fun c o f x hb => w5 c _ x (by simp) o hb⟩
/-! ### e.m(..), e's value a box -/
def sMutB (T : String) (e : DE) (op : D → List D → Option D) (a : DA) : DS := fun ρ ω => match e ρ ω with
  | .ok r ω1 => (match r with
    | .fz (.obj n) => (match ω1[n]? with
      | some (.box d) => if tyD T d = true then (match a ρ ω1 with
        | .ok ds ω2 => (match ω2[n]? with
          | some (.box d2) => (match op d2 ds with
            | some d' => .nx ρ (ω2.set n (.box d'))
            | none => .bad)
          | _ => .bad)
        | .exn c ω2 => .exn c ρ ω2
        | .bad => .bad) else .bad
      | _ => .bad)
    | _ => .bad)
  | .exn c ω1 => .exn c ρ ω1
  | .bad => .bad
theorem mutB_read {T : String} {e : DE} {r : V → List V → Hp → VK → Prop} {op : D → List D → Option D} {a : DA} {E : Ends} (hm : MuD S r op) (h : upS S W (sMutB T e op a) E σ H) : tDrop (tBM S.K T r (upE S W e) (upA S W a)) E σ H := by
  obtain ⟨g, ρ, ω, st, post⟩ := h
  refine ⟨g, ρ, ω, st, postE_of post fun r0 ω1 p g1 H1 x l1 st1 q1 => ?_⟩
  split at p
  · rename_i n
    split at p
    · rename_i d eo
      split at p
      · rename_i hT
        obtain ⟨ad, ea, ev⟩ := (show Rep S.K g1.gh (.obj n) x from q1)
        subst ev
        refine ⟨tyD_v hT (st1.boxAt eo ea).2, g1, ρ, ω1, st1, ?_⟩
        cases ha : a ρ ω1 with
        | bad => rw [ha] at p; exact p.elim
        | exn cc ω2 => rw [ha] at p; exact fun g' H' l st' => p g' H' σ (l1.trans l) st'
        | ok ds ω2 =>
          rw [ha] at p
          simp only at p
          intro g2 H2 vs l2 st2 r2
          split at p
          · rename_i d2 eo2
            split at p
            · rename_i d' ho
              have ea2 : g2.gh.io[n]? = some ad := by
                obtain ⟨m, em⟩ := l2.gh.io
                rw [em]
                exact io_at ea
              exact hm g2 H2 σ ρ ω2 ad d2 d' ds vs _ st2 (st2.boxAt eo2 ea2).2 r2 ho fun v o' c' => p g2 _ σ (l1.trans l2) (st2.writeB eo2 ea2 c')
            · exact p.elim
          · exact p.elim
      · exact p.elim
    · exact p.elim
  · exact p.elim
theorem vs_mutB {T : String} {name : Str} {op : D → List D → Option D} {x e : Expr} {es : List Expr} {f : DE} {a : DA} {apos cpos pos : Pos} (m : Mm S X T name op) (hx : VE S W X x f) (ha : VA S W X (e :: es) a) (hK : X.K = S.K := by rfl)
    (hbase : attributeBase x name X.env (eval x X.env) = eval x X.env := by rfl)
    (hfew : ((backTo cpos (starEach (e :: es) X.env)).all (fun x => !x.1) && (backToKw cpos (keywordEach [] X.env)).all (fun x => x.1.isSome)
      && decide ((e :: es).length + ([] : List Keyword).length + (if ([] : List Keyword).isEmpty then 0 else 1) < 30)) = true := by rfl)
    (hline : (apos.endLine == cpos.line) = true := by rfl) (hs : starEach (e :: es) X.env = (false, eval e X.env) :: starEach es X.env := by rfl) (hplain : (backTo cpos (starEach es X.env)).any (·.1) = false := by rfl)
    (hsw : swapsWith (.Call (.Attribute x name apos) (e :: es) [] cpos) none pos.line X.env = pure false := by rfl) :
    VS S W X (.Expr (.Call (.Attribute x name apos) (e :: es) [] cpos) pos) (sMutB T f op a) := by
  obtain ⟨id, r, h1, h2, h3, h4, h5⟩ := m.ex
  exact (ps_expr (pe_bm h1 h2 h3 h4 hx ha hbase hfew hline hs hplain) hsw).imp fun _ _ _ h => by rw [hK]; exact mutB_read h5 h
theorem vs_mutB0 {T : String} {name : Str} {op : D → List D → Option D} {x : Expr} {f : DE} {apos cpos pos : Pos} (m : Mm S X T name op) (hx : VE S W X x f) (hK : X.K = S.K := by rfl)
    (hbase : attributeBase x name X.env (eval x X.env) = eval x X.env := by rfl) (hline : (apos.endLine == cpos.line) = true := by rfl)
    (hsw : swapsWith (.Call (.Attribute x name apos) [] [] cpos) none pos.line X.env = pure false := by rfl) :
    VS S W X (.Expr (.Call (.Attribute x name apos) [] [] cpos) pos) (sMutB T f op dVars0) := by
  obtain ⟨id, r, h1, h2, h3, h4, h5⟩ := m.ex
  refine (ps_expr (pe_bm0 h1 h2 h3 h4 hx hbase hline) hsw).imp fun E σ H h => ?_
  rw [hK]
  obtain ⟨g, ρ, ω, st, q⟩ := mutB_read h5 h
  refine ⟨g, ρ, ω, st, ?_⟩
  cases hf : f ρ ω with
  | bad => rw [hf] at q; exact q
  | exn c ω1 => rw [hf] at q; exact q
  | ok r ω1 =>
    rw [hf] at q
    intro g1 H1 x l1 st1 q1
    obtain ⟨ty, g2, ρ2, ω2, st2, q2⟩ := q g1 H1 x l1 st1 q1
    exact ⟨ty, q2 g2 H1 [] (.refl _) st2 rfl⟩
/-! ### e[k] = v, e's value a box -/
def sPutB (e k v : DE) : DS := fun ρ ω => match v ρ ω with
  | .ok r ω1 => (match r.keep with
    | some dv => (match e ρ ω1 with
      | .ok rb ω2 => (match rb with
        | .fz (.obj n) => (match k ρ ω2 with
          | .ok rk ω3 => (match ω3[n]? with
            | some (.box d) => (match oPut d rk.d dv with
              | some d' => .nx ρ (ω3.set n (.box d'))
              | none => .bad)
            | _ => .bad)
          | .exn c ω3 => .exn c ρ ω3
          | .bad => .bad)
        | _ => .bad)
      | .exn c ω2 => .exn c ρ ω2
      | .bad => .bad)
    | none => .bad)
  | .exn c ω1 => .exn c ρ ω1
  | .bad => .bad
theorem putB_read {e k v : DE} {E : Ends} (h : upS S W (sPutB e k v) E σ H) : sDPut (upE S W e) (upE S W k) (upE S W v) E σ H := by
  obtain ⟨g, ρ, ω, st, post⟩ := h
  refine ⟨g, ρ, ω, st, postE_of post fun r ω1 p g1 H1 x l1 st1 q1 => ?_⟩
  split at p
  · rename_i dv hr
    obtain ⟨g2, l2, st2, q2⟩ := q1.keep st1 hr
    refine ⟨g2, ρ, ω1, st2, postE_of (g := g2) (PostS.mono (l1.trans l2) p) fun rb ω2 p2 g3 H3 y l3 st3 q3 => ?_⟩
    split at p2
    · rename_i n
      obtain ⟨ad, ea, ev⟩ := (show Rep S.K g3.gh (.obj n) y from q3)
      subst ev
      refine ⟨g3, ρ, ω2, st3, postE_of (g := g3) (PostS.mono l3 p2) fun rk ω3 p3 g4 H4 z l4 st4 q4 => ?_⟩
      split at p3
      · rename_i d eo
        split at p3
        · rename_i d' ho
          have ea2 : g4.gh.io[n]? = some ad := by
            obtain ⟨m, em⟩ := l4.gh.io
            rw [em]
            exact io_at ea
          obtain ⟨o', dp, c'⟩ := put_dput st4 (st4.boxAt eo ea2).2 (q4.pk st4) (q2.mono (l3.gh.trans l4.gh)) ho
          exact ⟨ad, _, rfl, dp, p3 g4 _ σ l4 (st4.writeB eo ea2 c')⟩
        · exact p3.elim
      · exact p3.elim
    · exact p2.elim
  · exact p.elim
theorem vs_putB {k : Nat} {x ie value : Expr} {f fk fv : DE} {pos pos' : Pos} (hr : Room k X.A) (hx : VE S W X x f) (hi : VE S W X ie fk) (hv : VE S W X value fv)
    (hs : swapsWith value (some (.Subscript x ie pos')) pos.line X.env = pure false := by rfl) : VS S W X (.Assign [.Subscript x ie pos'] value pos) (sPutB f fk fv) := (ps_dput (hu_of hr) hx hi hv hs).imp fun _ _ _ h => putB_read h
/-! ### sorted -/
def rSortedD (K : PySem.W.Frag) : List V → Hp → VK → Prop := fun vs H Q => ∃ (a : Addr) (bs : List (V × PyData)), vs = [V.ref a] ∧ SqL K H a (bs.map (·.1)) ∧ (∀ b ∈ bs, Dp K H b.1 b.2) ∧ PySem.W.AllAlike (bs.map (·.2)) ∧ PySem.W.Sortable (bs.map (·.2)) ∧ (∀ b ∈ bs, b.2.depth ≤ 8) ∧
  ∀ p, H p = none → Q (.ref p) (upd H p (.lst ((bs.mergeSort (PySem.W.dataLe false fun b : V × PyData => b.2)).map (·.1))))
theorem each_of {α β : Type} {R : α → β → Prop} : ∀ {as : List α} {bs : List β}, as.length = bs.length → (∀ (i : Nat) (a : α) (b : β), as[i]? = some a → bs[i]? = some b → R a b) → PySem.W.EachIs R as bs
  | [], [], _, _ => .nil
  | [], _ :: _, h, _ => by simp at h
  | _ :: _, [], h, _ => by simp at h
  | a :: as, b :: bs, h, f => .cons (f 0 a b rfl rfl) (each_of (by simpa using h) fun i x y h1 h2 => f (i + 1) x y (by simpa using h1) (by simpa using h2))
theorem vals_at : ∀ {xs : List V} {us : List Value} {i : Nat} {x : V} {u : Value}, Vals xs us → xs[i]? = some x → us[i]? = some u → RelV x u
  | _ :: _, _ :: _, 0, _, _, .cons h _, e1, e2 => by
    cases e1
    cases e2
    exact h
  | _ :: _, _ :: _, i + 1, _, _, .cons _ t, e1, e2 => vals_at (i := i) t (by simpa using e1) (by simpa using e2)
theorem vals_each {β : Type} {f : β → V} : ∀ {us : List Value} {bs : List β}, PySem.W.EachIs (fun u b => RelV (f b) u) us bs → Vals (bs.map f) us
  | _, _, .nil => .nil
  | _, _, .cons h t => .cons h (vals_each t)
theorem cr_sortedD (hu : X.A.units + 64 < cLine) : CallR X (.builtin "sorted") (rSortedD X.K) := by
  intro pins s σ H vs us Q I r h
  obtain ⟨a, bs, rfl, hs, dp, ha, hso, hd, q⟩ := h
  obtain ⟨its, rv, hl, hz⟩ := I.list hs
  rw [Vals.ref1 r]
  have hlen : its.length = bs.length := by rw [← rv.length, List.length_map]
  have e1 : PySem.W.EachIs (fun u (b : V × PyData) => RelV b.1 u) its bs := each_of hlen fun i u b h1 h2 => vals_at rv (i := i) (by rw [List.getElem?_map, h2]; rfl) h1
  have e2 : PySem.W.EachIs (fun u (b : V × PyData) => ∃ as, Reads s.heap u b.2 as) its bs := each_of hlen fun i u b h1 h2 =>
    Dp.reads I b.2 b.1 u (dp b (List.mem_of_getElem? h2)) (vals_at rv (i := i) (by rw [List.getElem?_map, h2]; rfl) h1)
  refine PySem.W.sorted_data (enc := fun b : V × PyData => b.2) hl.isList e1 e2 ha hso (by rw [List.length_map] at hz; exact hz) (fun b hb => by have := hd b hb; omega) fun out ho eo => ?_
  obtain ⟨ep, he'⟩ := PyProof.Rows.sortedAll_at s.heap its out.toArray
  have rv2 := vals_each eo
  have hz2 : ((bs.mergeSort (PySem.W.dataLe false fun b : V × PyData => b.2)).map (·.1)).length ≤ sizeLine := by
    rw [List.length_map, List.length_mergeSort]
    rw [List.length_map] at hz
    exact hz
  exact ⟨.ref _, upd H (s.heap.objs.size + 1) (.lst ((bs.mergeSort (PySem.W.dataLe false fun b : V × PyData => b.2)).map (·.1))), I.laid (t' := s.toks) (fun _ _ => PyProof.Rows.sortedAll_old) (Nat.le_succ _) ⟨hz2, out, ep, rv2, he'⟩, rfl, q _ (I.hok.fresh (Nat.le_succ _))⟩
def alikeB (ds : List PyData) : Bool := ds.all fun d => ds.all fun d' => PySem.W.alike d d'
theorem alikeB_ok {ds : List PyData} (h : alikeB ds = true) : PySem.W.AllAlike ds := fun d hd d' hd' => List.all_eq_true.mp (List.all_eq_true.mp h d hd) d' hd'
def tupB : PyData → Bool
  | .tuple (_ :: _) => true
  | _ => false
def othB : PyData → Bool
  | .none => false
  | .tuple _ => false
  | _ => true
def sortB (ds : List PyData) : Bool := ds.all tupB || ds.all othB
theorem sortB_ok {ds : List PyData} (h : sortB ds = true) : PySem.W.Sortable ds := by
  rcases Bool.or_eq_true _ _ |>.mp h with h | h
  · refine .inl fun d hd => ?_
    have z := List.all_eq_true.mp h d hd
    unfold tupB at z
    split at z
    · exact ⟨_, _, rfl⟩
    · cases z
  · refine .inr fun d hd => ?_
    have z := List.all_eq_true.mp h d hd
    unfold othB at z
    split at z
    · cases z
    · cases z
    · rename_i h1 h2
      exact ⟨h1, fun xs e => h2 xs e⟩
def zipD : List D → List PyData → List (D × PyData)
  | d :: ds, p :: ps => (d, p) :: zipD ds ps
  | _, _ => []
def sortD (xs : List D) (ps : List PyData) : List D := ((zipD xs ps).mergeSort (PySem.W.dataLe false fun b : D × PyData => b.2)).map (·.1)
def D.sqL : D → Option (List D)
  | .lst xs => some xs
  | .scr ns => some (ns.map D.int)
  | _ => none
def dSortOp : D → Om → Out R := fun a ω => match a.sqL with
  | some xs => (match pys xs with
    | some ps => if (alikeB ps && sortB ps && ps.all fun p => decide (p.depth ≤ 8)) = true then .ok (.own (.lst (sortD xs ps))) ω else .bad
    | none => .bad)
  | none => .bad
/-- the three together -/
def zip3 : List D → List V → List PyData → List (D × V × PyData)
  | d :: ds, v :: vs, p :: ps => (d, v, p) :: zip3 ds vs ps
  | _, _, _ => []
theorem zip3_ok {K : PySem.W.Frag} {gh : Gh} : ∀ {xs : List D} {vs : List V} {ps : List PyData}, Reps K gh xs vs → pys xs = some ps →
    (zip3 xs vs ps).map (fun t => (t.1, t.2.2)) = zipD xs ps ∧ (zip3 xs vs ps).map (fun t => t.2.1) = vs ∧ (zip3 xs vs ps).map (fun t => t.2.2) = ps ∧ ∀ t ∈ zip3 xs vs ps, Rep K gh t.1 t.2.1 ∧ t.1.py = some t.2.2
  | [], _, _, r, e => by
    cases r
    cases e
    simp [zip3, zipD]
  | d :: ds, _, _, ⟨v, r, e1, h, t⟩, e => by
    subst e1
    rw [pys] at e
    split at e
    · rename_i x xs e2 e3
      cases e
      obtain ⟨a1, a2, a3, a4⟩ := zip3_ok t e3
      refine ⟨by simp [zip3, zipD, a1], by simp [zip3, a2], by simp [zip3, a3], fun t ht => ?_⟩
      rcases List.mem_cons.mp ht with ht | ht
      · subst ht
        exact ⟨h, e2⟩
      · exact a4 t ht
    · cases e
theorem reps_of_mem {K : PySem.W.Frag} {gh : Gh} {α : Type} {f : α → D} {k : α → V} : ∀ {ts : List α}, (∀ t ∈ ts, Rep K gh (f t) (k t)) → Reps K gh (ts.map f) (ts.map k)
  | [], _ => rfl
  | t :: ts, h => ⟨k t, _, rfl, h t List.mem_cons_self, reps_of_mem fun u hu => h u (List.mem_cons_of_mem _ hu)⟩
theorem map_sort {α β : Type} {f : α → β} {k : β → PyData} {ts : List α} : (ts.mergeSort (PySem.W.dataLe false fun t => k (f t))).map f = (ts.map f).mergeSort (PySem.W.dataLe false k) := by
  exact List.map_mergeSort fun a _ b _ => rfl
theorem bi_sorted {k : Nat} (hr : Room k X.A) (hK : X.K = S.K := by rfl) : Bi S W X "sorted" dSortOp := by
  refine ⟨rSortedD S.K, ?_, .inl ⟨"sorted", by decide +kernel, by rw [← hK]; exact cr_sortedD hr.units⟩⟩
  intro g H σ ρ ω x a Q st ha post
  unfold dSortOp at post
  split at post
  · rename_i xs e
    split at post
    · rename_i ps ep
      split at post
      · rename_i hc
        rw [Bool.and_eq_true, Bool.and_eq_true] at hc
        obtain ⟨⟨c1, c2⟩, c3⟩ := hc
        have main : ∀ (q : Addr) (vs : List V), SqL S.K H q vs → Reps S.K g.gh xs vs → x = .ref q → rSortedD S.K [x] H Q := fun q vs hq r ex => by
          obtain ⟨a1, a2, a3, a4⟩ := zip3_ok r ep
          have b2 : ((zip3 xs vs ps).map fun t => ((t.2.1, t.2.2) : V × PyData)).map (·.1) = vs := by rw [List.map_map]; exact a2
          have b3 : ((zip3 xs vs ps).map fun t => ((t.2.1, t.2.2) : V × PyData)).map (·.2) = ps := by rw [List.map_map]; exact a3
          refine ⟨q, (zip3 xs vs ps).map fun t => (t.2.1, t.2.2), by rw [ex], by rw [b2]; exact hq, fun b hb => ?_, by rw [b3]; exact alikeB_ok c1, by rw [b3]; exact sortB_ok c2, fun b hb => ?_, fun p hp => ?_⟩
          · obtain ⟨t, ht, rfl⟩ := List.mem_map.mp hb
            exact Rep.dp (fun p xs h => (st.xf p _ h).ex rfl) (fun p o h => (st.xt p o h).1) (a4 t ht).1 (a4 t ht).2
          · have hm : b.2 ∈ ps := by rw [← b3]; exact List.mem_map.mpr ⟨b, hb, rfl⟩
            exact of_decide_eq_true (List.all_eq_true.mp c3 _ hm)
          · refine post_ownL st post hp ?_
            unfold sortD
            rw [← a1, ← map_sort (f := fun t : D × V × PyData => (t.1, t.2.2)) (k := fun b : D × PyData => b.2), ← map_sort (f := fun t : D × V × PyData => (t.2.1, t.2.2)) (k := fun b : V × PyData => b.2), List.map_map, List.map_map]
            exact reps_of_mem fun t ht => (a4 t (List.mem_mergeSort.mp ht)).1
        cases a with
        | lst ys =>
          obtain ⟨q, vs, e1, e2, r⟩ := ha.lst st
          cases e
          exact main q vs (SqL.of e2) r e1
        | scr ns =>
          obtain ⟨q, e1, e2⟩ := ha.scr st
          cases e
          exact main q _ e2 (reps_ints ns) e1
        | _ => cases e
      · exact post.elim
    · exact post.elim
  · exact post.elim
end
end Vd
/-! VL13: list of a dict; dict displays. -/
namespace Vd
open PySem PySem.Spec PyProof.Rows L2
section
variable {S : Sg} {W : WX} {g g' : G} {H H' : Hp} {σ σ2 : L2.St} {ρ ρ2 : En} {ω : Om} {d : D} {v : V} {X : Cx} {p : Addr} {o : HO}
/-! ### tuples that stand already are tracked -/
theorem Stt.track {vs : List V} (st : Stt S g H σ ρ ω) (hp : H p = some (.tup vs)) : ∃ g', Le g g' ∧ Stt S g' H σ ρ ω ∧ g'.gh.tf p = some (.tup vs) ∧ g'.ow = g.ow := by
  have l : Le g { g with gh := { g.gh with tf := upd g.gh.tf p (.tup vs) } } := ⟨⟨fun _ _ e => e, fun b o e => by
    by_cases hb : b = p
    · subst hb
      have z := (st.xt b o e).1
      rw [hp] at z
      cases z
      exact upd_same
    · exact (upd_ne hb).trans e, [], by simp⟩, rfl⟩
  refine ⟨_, l, ⟨st.xf, fun b o e => ?_, st.xr, st.df, st.dj, st.len, fun i r e => ?_, st.ol, fun n o e hd => ?_⟩, upd_same, rfl⟩
  · by_cases hb : b = p
    · subst hb
      have e : upd g.gh.tf b (.tup vs) b = some o := e
      rw [upd_same] at e
      refine ⟨hp.trans e, ?_⟩
      rw [← e]
      exact fun z => z
    · have e : upd g.gh.tf p (.tup vs) b = some o := e
      rw [upd_ne hb] at e
      exact st.xt b o e
  · obtain ⟨v, e1, q⟩ := st.sl i r e
    exact ⟨v, e1, q.keep (S := S) l.gh fun _ _ a c => ⟨a, c⟩⟩
  · obtain ⟨a, e1, e2, q⟩ := st.ob n o e hd
    exact ⟨a, e1, e2, q.keep (S := S) l.gh (fun _ h => h) fun _ _ _ a c => ⟨a, c⟩⟩
def keyD : Key → D
  | .inl i => .int i
  | .inr s => .str s
theorem rep_keyD {K : PySem.W.Frag} {gh : Gh} : ∀ k : Key, Rep K gh (keyD k) (kV k)
  | .inl _ => rfl
  | .inr _ => rfl
theorem reps_keyD {K : PySem.W.Frag} {gh : Gh} : ∀ ks : List Key, Reps K gh (ks.map keyD) (ks.map kV)
  | [] => rfl
  | k :: ks => ⟨kV k, _, rfl, rep_keyD k, reps_keyD ks⟩
theorem Stt.tracks : ∀ {kvs : List (List Key × V)} {bs : List Addr} {g : G}, IsKeys H kvs bs → Stt S g H σ ρ ω → ∃ g', Le g g' ∧ Stt S g' H σ ρ ω ∧ g'.ow = g.ow ∧ Reps S.K g'.gh (kvs.map fun kv => .tup (kv.1.map keyD)) (bs.map V.ref)
  | _, _, g, .nil, st => ⟨g, .refl _, st, rfl, rfl⟩
  | _, _, g, .cons h t, st => by
    obtain ⟨g1, l1, st1, h1, o1⟩ := st.track h
    obtain ⟨g2, l2, st2, o2, r2⟩ := Stt.tracks t st1
    exact ⟨g2, l1.trans l2, st2, o2.trans o1, _, _, rfl, ⟨_, _, rfl, l2.gh.tf _ _ h1, reps_keyD _⟩, r2⟩
theorem repP_keys {κ : Type} {K : PySem.W.Frag} {gh : Gh} : ∀ {xs : List (κ × D)} {vs : List (κ × V)}, RepP K gh xs vs → xs.map (·.1) = vs.map (·.1)
  | [], _, h => by subst h; rfl
  | _ :: _, _, ⟨v, r, e, _, t⟩ => by subst e; simp [repP_keys t]
/-! ### list(e) -/
def dListOp2 : D → Om → Out R := fun a ω => match a with
  | .dic kvs => .ok (.own (.lst (kvs.map fun kv => keyD kv.1))) ω
  | .dit kvs => .ok (.own (.lst (kvs.map fun kv => .tup (kv.1.map keyD)))) ω
  | a => dListOp a ω
theorem bi_listA (hc : X.calm = true := by rfl) (hK : X.K = S.K := by rfl) : Bi S W X "list" dListOp2 := by
  obtain ⟨r, h1, h2⟩ := (bi_list (W := W) (X := X) (S := S) hK).ex
  have hb : bootBuiltins "list" = some (.type "list") := boot_list
  rcases h2 with ⟨id, e, _⟩ | ⟨T, e, h2⟩
  · rw [hb] at e
    cases e
  rw [hb] at e
  cases e
  refine ⟨_, ?_, .inr ⟨"list", hb, callR_or h2 (callR_or (call_listD hc) (call_list_dT hc))⟩⟩
  intro g H σ ρ ω x a Q st ha post
  cases a with
  | dic kvs =>
    obtain ⟨p, vs, e, h1, rr⟩ := ha.dic st
    refine .inr (.inl ⟨p, vs, by rw [e], h1, fun q hq => ?_⟩)
    have rk := repP_keys (repK_iff.mp rr)
    have e2 : vs.map (fun kv => kV kv.1) = (kvs.map (·.1)).map kV := by rw [rk, List.map_map]; rfl
    rw [e2]
    refine post_ownL st post hq ?_
    have e3 : kvs.map (fun kv => keyD kv.1) = (kvs.map (·.1)).map keyD := by rw [List.map_map]; rfl
    rw [e3]
    exact reps_keyD _
  | dit kvs =>
    obtain ⟨p, vs, e, h1, rr⟩ := ha.dit st
    refine .inr (.inr ⟨p, vs, by rw [e], h1, fun q bs hq hk => ?_⟩)
    have rk := repP_keys (repT_iff.mp rr)
    obtain ⟨g2, l2, st2, _, r2⟩ := Stt.tracks hk st
    have e3 : kvs.map (fun kv => D.tup (kv.1.map keyD)) = vs.map (fun kv => D.tup (kv.1.map keyD)) := by
      have e4 : kvs.map (fun kv => D.tup (kv.1.map keyD)) = (kvs.map (·.1)).map (fun k => D.tup (k.map keyD)) := by rw [List.map_map]; rfl
      rw [e4, rk, List.map_map]
      rfl
    rw [← e3] at r2
    exact post_ownL st2 (PostE.mono l2 (o := .ok (.own (.lst (kvs.map fun kv => D.tup (kv.1.map keyD)))) ω) post) hq r2
  | lst xs => exact .inl (h1 g H σ ρ ω x _ Q st ha post)
  | tup xs => exact .inl (h1 g H σ ρ ω x _ Q st ha post)
  | ktp xs => exact .inl (h1 g H σ ρ ω x _ Q st ha post)
  | scr xs => exact .inl (h1 g H σ ρ ω x _ Q st ha post)
  | _ => exact post.elim
/-! ### displays -/
def dFlat : List (DE × DE) → DA
  | [] => dNil
  | (k, v) :: r => dCons k (dCons v (dFlat r))
def fold2 : List V → List (V × V)
  | x :: y :: r => (x, y) :: fold2 r
  | _ => []
theorem cons_read {f : DE} {k : DA} {Q : List V → Hp → Prop} (h : upA S W (dCons f k) σ H Q) : upE S W f σ H fun x H1 => upA S W k σ H1 fun xs H2 => Q (x :: xs) H2 := by
  obtain ⟨g, ρ, ω, st, post⟩ := h
  refine ⟨g, ρ, ω, st, ?_⟩
  unfold dCons at post
  cases hf : f ρ ω with
  | bad => rw [hf] at post; exact post
  | exn c ω1 => rw [hf] at post; exact post
  | ok r ω1 =>
    rw [hf] at post
    intro g1 H1 x l1 st1 q1
    simp only [Out.bind] at post
    split at post
    · exact post.elim
    rename_i d hd
    obtain ⟨g2, l2, st2, q2⟩ := q1.keep st1 hd
    refine ⟨g2, ρ, ω1, st2, ?_⟩
    cases hk : k ρ ω1 with
    | bad => rw [hk] at post; exact post
    | exn c ω2 =>
      rw [hk] at post
      exact fun g3 H3 l3 st3 => post g3 H3 ((l1.trans l2).trans l3) st3
    | ok ds ω2 =>
      rw [hk] at post
      intro g3 H3 vs l3 st3 q3
      exact post g3 H3 (x :: vs) ((l1.trans l2).trans l3) st3 ⟨x, vs, rfl, q2.mono l3.gh, q3⟩
theorem upE_mono {f : DE} {Q Q' : VK} (h : upE S W f σ H Q) (w : ∀ v H1, Q v H1 → Q' v H1) : upE S W f σ H Q' := by
  obtain ⟨g, ρ, ω, st, post⟩ := h
  refine ⟨g, ρ, ω, st, ?_⟩
  cases hf : f ρ ω with
  | bad => rw [hf] at post; exact post
  | exn c ω1 => rw [hf] at post; exact post
  | ok r ω1 => rw [hf] at post; exact fun g1 H1 x l1 st1 q1 => w _ _ (post g1 H1 x l1 st1 q1)
abbrev upP (S : Sg) (W : WX) (fs : List (DE × DE)) : List (TE × TE) := fs.map fun f => (upE S W f.1, upE S W f.2)
theorem pairs_read : ∀ {fs : List (DE × DE)} {H : Hp} {Q : List (V × V) → Hp → Prop}, upA S W (dFlat fs) σ H (fun vs H1 => Q (fold2 vs) H1) → tPairs (upP S W fs) σ H Q
  | [], H, Q, ⟨g, ρ, ω, st, post⟩ => post g H [] (.refl _) st rfl
  | (f, k) :: r, H, Q, h => upE_mono (cons_read h) fun x H1 h1 => upE_mono (cons_read h1) fun y H2 h2 => pairs_read (Q := fun ps H3 => Q ((x, y) :: ps) H3) h2
abbrev VPs (S : Sg) (W : WX) (X : Cx) (pos : Pos) (keys : List (Option Expr)) (values : List Expr) (fs : List (DE × DE)) : Prop := PPs X pos keys values (upP S W fs)
theorem vps_nil {pos : Pos} : VPs S W X pos [] [] [] := pps_nil
theorem vps_cons {pos : Pos} {k v : Expr} {ks : List (Option Expr)} {vs : List Expr} {fk fv : DE} {fs : List (DE × DE)} (hk : VE S W X k fk) (hv : VE S W X v fv) (hr : VPs S W X pos ks vs fs) : VPs S W X pos (some k :: ks) (v :: vs) ((fk, fv) :: fs) := pps_cons hk hv hr
def mkK : List D → Option (List (Key × D))
  | [] => some []
  | k :: v :: r => match k.key, mkK r with
    | some q, some m => some ((q, v) :: m)
    | _, _ => none
  | _ => none
def mkT : List D → Option (List (List Key × D))
  | [] => some []
  | k :: v :: r => match k.tkey, mkT r with
    | some q, some m => some ((q, v) :: m)
    | _, _ => none
  | _ => none
def putAll {κ : Type} [DecidableEq κ] (acc : List (κ × D)) (more : List (κ × D)) : List (κ × D) := more.foldl (fun acc kv => kvPut acc kv.1 kv.2) acc
def dDisK (fs : List (DE × DE)) : DE := fun ρ ω => (dFlat fs ρ ω).bind fun ds ω1 => match mkK ds with
  | some kvs => if kvs.length ≤ 15 then .ok (.own (.dic (putAll [] kvs))) ω1 else .bad
  | none => .bad
def dDisT (fs : List (DE × DE)) : DE := fun ρ ω => (dFlat fs ρ ω).bind fun ds ω1 => match mkT ds with
  | some kvs => if kvs.length ≤ 15 then .ok (.own (.dit (putAll [] kvs))) ω1 else .bad
  | none => .bad
/-- over a dict laid aside while its pairs are made -/
theorem disp_go {fs : List (DE × DE)} {k : List D → Om → Out R} {Q : VK} {Q' : List V → Hp → Prop} (o : HO) (mu : Mut (some o)) (st : Stt S g H σ ρ ω) (hp : H p = none) (post : PostE S W g σ ρ Q ((dFlat fs ρ ω).bind k))
    (hk : ∀ ds ω1 g1 H1 vs, Stt S g1 H1 σ ρ ω1 → g1.ow p = some .tmp → H1 p = some o → Reps S.K g1.gh ds vs → PostE S W g1 σ ρ Q (k ds ω1) → Q' vs H1) : upA S W (dFlat fs) σ (upd H p o) Q' := by
  have st1 := st.newOwn (o := o) hp mu
  have hw1 : ({ g with ow := updW g.ow p (some .tmp) } : G).ow p = some .tmp := updW_same
  have st2 := st1.pin hw1 (o := o) upd_same
  have hn : g.fr p = none := (st1.df p _ hw1).2.1
  refine ⟨_, ρ, ω, st2, ?_⟩
  cases hf : dFlat fs ρ ω with
  | bad => rw [hf] at post; exact post
  | exn c ω1 =>
    rw [hf] at post
    intro g3 H3 l3 st3
    obtain ⟨st4, h4⟩ := st3.unpin (fr := g.fr) l3.fr hn mu
    exact post (g3.unpin g.fr p) H3 ⟨l3.gh, rfl⟩ st4
  | ok ds ω1 =>
    rw [hf] at post
    intro g3 H3 vs l3 st3 r3
    obtain ⟨st4, h4⟩ := st3.unpin (fr := g.fr) l3.fr hn mu
    exact hk ds ω1 _ H3 vs st4 updW_same h4 r3 (PostE.mono (g := g) (g' := g3.unpin g.fr p) ⟨l3.gh, rfl⟩ (o := k ds ω1) post)
theorem repP_putAll {κ : Type} [DecidableEq κ] {K : PySem.W.Frag} {gh : Gh} : ∀ {more : List (κ × D)} {ms : List (κ × V)} {acc : List (κ × D)} {vs : List (κ × V)}, RepP K gh acc vs → RepP K gh more ms → RepP K gh (putAll acc more) (ms.foldl (fun acc kv => putK acc kv.1 kv.2) vs)
  | [], _, acc, vs, h, k => by
    subst k
    exact h
  | (q, d) :: more, _, acc, vs, h, ⟨v, r, e, hv, t⟩ => by
    subst e
    exact repP_putAll (acc := kvPut acc q d) (vs := putK vs q v) (h.put hv) t
theorem mkK_rep {K : PySem.W.Frag} {gh : Gh} : ∀ {ds : List D} {vs : List V} {kvs : List (Key × D)}, Reps K gh ds vs → mkK ds = some kvs → ∃ ms : List (Key × V), fold2 vs = ms.map (fun kv => (kV kv.1, kv.2)) ∧ RepP K gh kvs ms ∧ ms.length = kvs.length
  | [], _, _, r, e => by
    cases r
    cases e
    exact ⟨[], rfl, rfl, rfl⟩
  | [_], _, _, _, e => by cases e
  | k :: d :: ds, _, _, ⟨v1, r1, e1, h1, v2, r2, e2, h2, t⟩, e => by
    subst e1 e2
    rw [mkK] at e
    split at e
    · rename_i q m ek em
      cases e
      obtain ⟨ms, a1, a2, a3⟩ := mkK_rep t em
      have z := rep_key ek h1
      subst z
      exact ⟨(q, v2) :: ms, by simp [fold2, a1], ⟨v2, ms, rfl, h2, a2⟩, by simp [a3]⟩
    · cases e
theorem mkT_rep : ∀ {ds : List D} {vs : List V} {kvs : List (List Key × D)}, Stt S g H σ ρ ω → Reps S.K g.gh ds vs → mkT ds = some kvs → ∃ ms : List (List Key × Addr × V), fold2 vs = ms.map (fun kv => (V.ref kv.2.1, kv.2.2)) ∧ RepP S.K g.gh kvs (ms.map fun kv => (kv.1, kv.2.2)) ∧ ms.length = kvs.length ∧ ∀ kv ∈ ms, H kv.2.1 = some (.tup (kv.1.map kV))
  | [], _, _, st, r, e => by
    cases r
    cases e
    exact ⟨[], rfl, rfl, rfl, fun _ h => nomatch h⟩
  | [_], _, _, _, _, e => by cases e
  | k :: d :: ds, _, _, st, ⟨v1, r1, e1, h1, v2, r2, e2, h2, t⟩, e => by
    subst e1 e2
    rw [mkT] at e
    split at e
    · rename_i q m ek em
      cases e
      obtain ⟨ms, a1, a2, a3, a4⟩ := mkT_rep st t em
      obtain ⟨b, z, hb⟩ := Pk.tkey st (.inl h1) ek
      subst z
      refine ⟨(q, b, v2) :: ms, by simp [fold2, a1], ⟨v2, _, rfl, h2, a2⟩, by simp [a3], fun kv h => ?_⟩
      rcases List.mem_cons.mp h with h | h
      · subst h
        exact hb
      · exact a4 kv h
    · cases e
theorem ve_disK {pos : Pos} {keys : List (Option Expr)} {values : List Expr} {fs : List (DE × DE)} (h : VPs S W X pos keys values fs) (hall : keys.all (·.isSome) = true := by rfl) (hl : keys.length = values.length := by rfl) (h0 : keys ≠ [] := by simp) (h15 : keys.length ≤ 15 := by decide) :
    VE S W X (.Dict keys values pos) (dDisK fs) := (pe_disp h hall hl h0 h15).imp fun σ H Q ⟨g, ρ, ω, st, post⟩ p hp => by
  refine pairs_read (disp_go (.dK []) trivial st hp (k := fun ds ω1 => match mkK ds with
    | some kvs => if kvs.length ≤ 15 then .ok (.own (.dic (putAll [] kvs))) ω1 else .bad
    | none => .bad) post fun ds ω1 g1 H1 vs st1 hw h1 r1 p1 => ?_)
  split at p1
  · rename_i kvs em
    split at p1
    · rename_i hz
      obtain ⟨ms, a1, a2, a3⟩ := mkK_rep r1 em
      refine ⟨h1, ms, a1, by omega, p1 g1 _ _ (.refl _) (st1.wrTmp hw trivial) ⟨_, rfl, hw, _, upd_same, repK_iff.mpr (repP_putAll (acc := []) (vs := []) rfl a2)⟩⟩
    · exact p1.elim
  · exact p1.elim
end
/-! ### displays with tuple keys, over the tracked heap -/
section
variable {X : Cx}
def tDispT (trs : List (TE × TE)) : TE := fun σ H Q => ∀ p, H p = none → tPairs trs σ (upd H p (.dT [])) fun ps H2 => H2 p = some (.dT []) ∧ ∃ ms : List (List Key × Addr × V), ps = ms.map (fun kv => (V.ref kv.2.1, kv.2.2)) ∧ (∀ kv ∈ ms, H2 kv.2.1 = some (.tup (kv.1.map kV))) ∧ ms.length ≤ 15 ∧
  Q (.ref p) (upd H2 p (.dT ((ms.map fun kv => (kv.1, kv.2.2)).foldl (fun acc kv => putK acc kv.1 kv.2) [])))
theorem kt_all {H : Hp} : ∀ {ms : List (List Key × Addr × V)} {rs : List (List Key × Addr × Value)} {acc : List (List Key × V)} {xs : List (List Key × Addr × Value)}, Paired (fun p q => p.1 = q.1 ∧ p.2.1 = q.2.1 ∧ RelV p.2.2 q.2.2) ms rs → (∀ kv ∈ ms, H kv.2.1 = some (.tup (kv.1.map kV))) → KT H acc xs →
    KT H ((ms.map fun kv => (kv.1, kv.2.2)).foldl (fun acc kv => putK acc kv.1 kv.2) acc) (storedAllH xs rs)
  | [], _, acc, xs, r, _, h => by cases r; exact h
  | p :: ms, [], acc, xs, r, hm, h => nomatch r
  | p :: ms, q :: rs, acc, xs, r, hm, h => by
    have hq : p.1 = q.1 ∧ p.2.1 = q.2.1 ∧ RelV p.2.2 q.2.2 := by cases r; assumption
    have t : Paired (fun p q => p.1 = q.1 ∧ p.2.1 = q.2.1 ∧ RelV p.2.2 q.2.2) ms rs := by cases r; assumption
    obtain ⟨e1, e2, e3⟩ := hq
    have z := KT.put h p.1 (hm p List.mem_cons_self) e3
    rw [e2] at z
    have z2 : KT H (putK acc p.1 p.2.2) (storedH xs q.1 q.2.1 q.2.2) := by rw [← e1]; exact z
    exact kt_all (ms := ms) (rs := rs) (acc := putK acc p.1 p.2.2) (xs := storedH xs q.1 q.2.1 q.2.2) t (fun kv hkv => hm kv (List.mem_cons_of_mem _ hkv)) z2
theorem carriesH_of {P : Program} {w : World} {H : Hp} {h : Heap} (ok : HOk P w H h) : ∀ {ms : List (List Key × Addr × V)} {ws : List (Value × Value)}, VV (ms.map fun kv => (V.ref kv.2.1, kv.2.2)) ws → (∀ kv ∈ ms, H kv.2.1 = some (.tup (kv.1.map kV))) →
    ∃ rs, CarriesH (tupleKind (mixKind P w)) h ws rs ∧ Paired (fun p q => p.1 = q.1 ∧ p.2.1 = q.2.1 ∧ RelV p.2.2 q.2.2) ms rs
  | [], _, r, _ => by rw [List.map_nil] at r; cases r; exact ⟨[], True.intro, .nil⟩
  | p :: ms, _, r, hm => by
    rw [List.map_cons] at r
    cases r with
    | @cons a b as bs h1 t =>
      obtain ⟨rs, c, q⟩ := carriesH_of ok t fun kv hkv => hm kv (List.mem_cons_of_mem _ hkv)
      obtain ⟨b1, b2⟩ := b
      obtain ⟨k1, k2⟩ := h1
      cases (show b1 = Value.ref p.2.1 from k1)
      exact ⟨(p.1, p.2.1, b2) :: rs, ⟨rfl, rfl, key_of ok (hm p List.mem_cons_self), c⟩, .cons ⟨rfl, rfl, k2⟩ q⟩
theorem pe_dispT {pos : Pos} {keys : List (Option Expr)} {values : List Expr} {trs : List (TE × TE)} (hu : X.A.units < cLine) (h : PPs X pos keys values trs) (hall : keys.all (·.isSome) = true) (hl : keys.length = values.length) (h0 : keys ≠ []) (h15 : keys.length ≤ 15) : PE X (.Dict keys values pos) (tDispT trs) := by
  refine ⟨fun pins s σ H Q I q => ?_⟩
  have hn := I.hok.fresh (Nat.le_refl s.heap.objs.size)
  have I1 := I.laid (a := s.heap.objs.size) (o := .dT []) (h' := s.heap.push { cls := .type "dict", data := .dict #[] }) (t' := s.toks) (fun _ _ q => Heap.get?_push_of_some _ q) (Nat.le_refl _) (dt_empty s.heap I.big)
  have hn2 := pairTrees_length keys values X.env pos hall hl
  have hne : pairTrees keys values X.env pos ≠ [] := fun he => by
    rw [he] at hn2
    exact h0 (List.length_eq_zero_iff.mp hn2.symm)
  rw [arm_eval_Dict, zip_pairTrees keys values X.env pos hall hl, dictDisplay_pairs _ hne (by omega)]
  refine wpAny_bind (wpAny_standAt (wpAny_bind (wpAny_subDictH (knd := tupleKind (mixKind X.prog X.w)) (Q := fun d s' => wpAny (model X.prog X.w) X.A (pure (Value.ref d)) _ X.xe s') hu (by omega) (thn (h.run pins _ σ _ _ I1 (q _ hn)) fun ws s2 ⟨ps, H2, I2, rel, e, ms, ep, hm, lk, q2⟩ => ?_))))
  subst ep
  obtain ⟨rs, c, rk⟩ := carriesH_of (P := X.prog) (w := X.w) I2.hok rel hm
  obtain ⟨z, hd, xs0, r0, dd⟩ := dt_of I2.hok e
  cases r0
  refine ⟨rs, c, dd, fun h' tk dd' hs => wpAny_pure ⟨.ref s.heap.objs.size, _, ?_, rfl, q2⟩⟩
  have rt := kt_all (H := H2) rk hm (acc := []) (xs := []) .nil
  obtain ⟨qo, es, ep, hq, h2, h3, h4, _, h5⟩ := dd'
  have hz : ((ms.map fun kv => (kv.1, kv.2.2)).foldl (fun acc kv => putK acc kv.1 kv.2) ([] : List (List Key × V))).length ≤ sizeLine := by
    have gen : ∀ (l : List (List Key × V)) (acc : List (List Key × V)), (l.foldl (fun acc kv => putK acc kv.1 kv.2) acc).length ≤ acc.length + l.length := by
      intro l
      induction l with
      | nil => intro acc; simp
      | cons p r ih =>
        intro acc
        have h1 := ih (putK acc p.1 p.2)
        have h2 := length_putK acc p.1 p.2
        simp only [List.foldl_cons, List.length_cons] at h1 ⊢
        omega
    have := gen (ms.map fun kv => (kv.1, kv.2.2)) []
    rw [List.length_map, List.length_nil] at this
    rw [sizeLine_eq]; omega
  refine d_write I2 (by rw [e]; exact True.intro) hs ⟨qo, hq⟩ ⟨hz, hd, _, rt.keeps fun c ys ec => ?_, qo, es, ep, hq, h2, h3, h4, h5⟩
  rw [upd_ne (ne_of ec e (fun z => nomatch z))]
  exact ec
end
section
variable {S : Sg} {W : WX} {X : Cx}
theorem ve_disT {k : Nat} {pos : Pos} {keys : List (Option Expr)} {values : List Expr} {fs : List (DE × DE)} (hr : Room k X.A) (h : VPs S W X pos keys values fs) (hall : keys.all (·.isSome) = true := by rfl) (hl : keys.length = values.length := by rfl) (h0 : keys ≠ [] := by simp) (h15 : keys.length ≤ 15 := by decide) :
    VE S W X (.Dict keys values pos) (dDisT fs) := (pe_dispT (by have := hr.units; omega) h hall hl h0 h15).imp fun σ H Q ⟨g, ρ, ω, st, post⟩ p hp => by
  refine pairs_read (disp_go (.dT []) trivial st hp (k := fun ds ω1 => match mkT ds with
    | some kvs => if kvs.length ≤ 15 then .ok (.own (.dit (putAll [] kvs))) ω1 else .bad
    | none => .bad) post fun ds ω1 g1 H1 vs st1 hw h1 r1 p1 => ?_)
  split at p1
  · rename_i kvs em
    split at p1
    · rename_i hz
      obtain ⟨ms, a1, a2, a3, a4⟩ := mkT_rep st1 r1 em
      refine ⟨h1, ms, a1, a4, by omega, p1 g1 _ _ (.refl _) (st1.wrTmp hw trivial) ⟨_, rfl, hw, _, upd_same, repT_iff.mpr (repP_putAll (acc := []) (vs := []) rfl a2)⟩⟩
    · exact p1.elim
  · exact p1.elim
end
end Vd
/-! VL14: a box frozen; in a comprehension's block nothing is taken. -/
namespace Vd
open PySem PySem.Spec PyProof.Rows L2
section
variable {S : Sg} {W : WX} {g g' : G} {H H' : Hp} {σ σ2 : L2.St} {ρ ρ2 : En} {ω : Om} {d : D} {v : V} {X : Cx} {p : Addr} {o : HO}
theorem Stt.frzObj {n : Nat} (st : Stt S g H σ ρ ω) (e : ω[n]? = some (.box d)) : ∃ g', Le g g' ∧ Stt S g' H σ ρ (ω.set n .dead) ∧ ∀ v, Rep S.K g.gh (.obj n) v → Rep S.K g'.gh d v := by
  obtain ⟨p, ea, hw, c⟩ := st.ob n _ e (by simp)
  obtain ⟨o, ho⟩ := c.some
  obtain ⟨d1, d2, d3⟩ := st.df p _ hw
  have l : Le g ⟨{ g.gh with hf := upd g.gh.hf p o }, g.fr, updW g.ow p none⟩ := ⟨⟨new_mono d1, fun _ _ e => e, [], by simp⟩, rfl⟩
  have neW : ∀ b w', g.ow b = some w' → w' ≠ .obj n → b ≠ p := fun b w' e h z => by
    rw [z, hw] at e
    exact h (Option.some.inj e).symm
  have hn : n < ω.length := (List.getElem?_eq_some_iff.mp e).1
  refine ⟨_, l, ⟨fun b u e => ?_, st.xt, st.xr, fun b w' e => ?_, fun b u e => ?_, st.len, fun i r e => ?_, by rw [List.length_set]; exact st.ol, fun m u em hd => ?_⟩, fun v hv => ?_⟩
  · have e : upd g.gh.hf p o b = some u := e
    by_cases hb : b = p
    · subst hb
      rw [upd_same] at e
      exact .inl (by rw [ho]; exact e)
    · rw [upd_ne hb] at e
      exact st.xf b u e
  · have e : updW g.ow p none b = some w' := e
    by_cases hb : b = p
    · subst hb
      rw [updW_same] at e
      cases e
    · rw [updW_ne hb] at e
      obtain ⟨a1, a2, a3⟩ := st.df b w' e
      exact ⟨(upd_ne hb).trans a1, a2, a3⟩
  · have e : upd g.gh.hf p o b = some u := e
    by_cases hb : b = p
    · subst hb
      exact d2
    · rw [upd_ne hb] at e
      exact st.dj b u e
  · obtain ⟨v, e1, q⟩ := st.sl i r e
    refine ⟨v, e1, ?_⟩
    cases r with
    | fz d => exact Rep.mono l.gh q
    | own d => exact RepOwn.keep (S := S) l.gh (fun b u a c => ⟨(updW_ne (neW b _ a (by simp))).trans a, c⟩) q
    | bor _ _ => exact q
  · by_cases hm : n = m
    · subst hm
      rw [List.getElem?_set_self hn] at em
      cases em
      exact absurd rfl hd
    · rw [List.getElem?_set_ne hm] at em
      obtain ⟨a, e1, e2, q⟩ := st.ob m u em hd
      have hne : Wr.obj m ≠ .obj n := fun z => hm (by cases z; rfl)
      exact ⟨a, e1, (updW_ne (neW a _ e2 hne)).trans e2, q.keep (S := S) l.gh (fun _ h => h) fun b u f a c => ⟨(updW_ne (neW b _ a (by simp))).trans a, c⟩⟩
  · obtain ⟨b, e3, e4⟩ := hv
    rw [ea] at e3
    cases e3
    subst e4
    exact (c.mono (H' := H) l.gh fun _ h => h).rep fun u hu => by
      show upd g.gh.hf p o p = some u
      rw [upd_same, ← hu, ho]
/-- the box that a slot names is frozen; nothing else may name it behind -/
def sFrzO (i : Nat) (f : DS) : DS := fun ρ ω => match ρ[i]? with
  | some (some (.fz (.obj n))) => (match ω[n]? with
    | some (.box d) => f (ρ.set i (some (.fz d))) (ω.set n .dead)
    | _ => f ρ ω)
  | _ => f ρ ω
theorem frzO_read {i : Nat} {f : DS} {E : Ends} (h : upS S W (sFrzO i f) E σ H) : upS S W f E σ H := by
  obtain ⟨g, ρ, ω, st, post⟩ := h
  unfold sFrzO at post
  split at post
  · rename_i n ei
    split at post
    · rename_i d eo
      obtain ⟨v, ev, q⟩ := st.sl i _ ei
      obtain ⟨g2, l2, st2, q2⟩ := st.frzObj eo
      have st3 := st2.setFz (q2 v q) i
      have hi : i < ρ.length := (List.getElem?_eq_some_iff.mp ei).1
      have es : σ.set i (some v) = σ := by
        refine List.ext_getElem? fun j => ?_
        rw [List.getElem?_set]
        split
        · rename_i h
          subst h
          rw [ev]
          split
          · rfl
          · rename_i h2
            exact absurd (by rw [st.len]; exact hi) h2
        · rfl
      rw [es] at st3
      exact ⟨g2, _, _, st3, PostS.mono l2 post⟩
    · exact ⟨g, ρ, ω, st, post⟩
  · exact ⟨g, ρ, ω, st, post⟩
theorem vs_frzO {st : Stmt} {f : DS} (i : Nat) (h : VS S W X st f) : VS S W X st (sFrzO i f) := h.imp fun _ _ _ h => frzO_read h
end
end Vd
/-! VL15: a law's end; a def of which nothing is promised. -/
namespace Vd
open PySem PySem.Spec PyProof.Rows L2
theorem law_sp {S : Sg} {F : DF} {H : Hp} {a : Addr} {ns : List Int} (hS : SqL S.K H a (ns.map V.int)) {ω : Om} (hF : F [.scr ns] [] = .ok (.fz (.bl true)) ω) : SpOf S 1 F [.ref a] H (fun v _ => v = .bl true) (fun _ _ _ => False) := by
  refine ⟨rfl, ⟨⟨fun p => if p = a then H a else none, fun _ => none, []⟩, fun _ => none, fun _ => none⟩, [], [.scr ns], ⟨fun p o e => ?_, fun p o e => (nomatch e), fun p o e => (nomatch e), fun p w e => (nomatch e), fun p o e => rfl, rfl, fun i r e => by simp at e, rfl, fun n o e => by simp at e⟩, ⟨.ref a, [], rfl, ⟨a, rfl, ?_⟩, rfl⟩, ?_⟩
  · have e : (if p = a then H a else none) = some o := e
    split at e
    · rename_i h
      subst h
      exact .inl e
    · cases e
  · show SqL S.K (fun p => if p = a then H a else none) a (ns.map V.int)
    rcases hS with (q | ⟨o, q⟩) | q
    · exact .inl (.inl ((if_pos rfl).trans q))
    · exact .inl (.inr ⟨o, (if_pos rfl).trans q⟩)
    · exact .inr q
  · rw [hF]
    exact fun g' H' v l st q => q
theorem def_bad {P : Program} {w : World} {S : Sg} {mg : Str → Option Value} {base : Heap} {k : Nat} {x : Str} {ps : List Str} {params : Arguments} {b : List Stmt} {scope : Scope} {f : Addr} {fd : FuncData}
    (F : FunD S.K x x params b scope [] [] f fd) (gf : mg x = some (.ref f)) (bi : Binds S.K fd ps []) : Def P w S mg base k x ps (fun _ _ => .bad) := by
  refine ⟨f, fd, gf, F.kp, bi, fun vs H Q E h => h.1, fun A outer s H args us vs Q E _ _ _ _ h => ?_⟩
  obtain ⟨_, g, ω, ds, _, _, post⟩ := h
  exact post.elim
/-- a part of the heap at the end of the top, its names -/
abbrev sgOf (K : PySem.W.Frag) : Sg := ⟨K, He.ga K⟩
section
variable {fa : List He.Fa} {fn : List He.DefD} {K : PySem.W.Frag} {h : Heap} {mg : Str → Option Value}
theorem fx_exc (X : K.In h) (G : h.Ns mainGlobals mg) {x : Str} (c1 : (He.Fa.glo x).ok K = true) (c2 : (He.Fa.exc x).ok K = true) : ExcOk (sgOf K) mg x := by
  obtain ⟨a, b, c, d⟩ := He.exc_ok c2
  exact ⟨He.glo_ok X G c1, a, b, c, d⟩
theorem fx_fld0 {f : Str} : FldOk (sgOf K) [] f := fun _ h => nomatch h
theorem fx_fld {C f : Str} {cs : List Str} (c1 : (He.Fa.cls C).ok K = true) (c2 : (He.Fa.noat C f).ok K = true) (hs : FldOk (sgOf K) cs f) : FldOk (sgOf K) (C :: cs) f := fun D hD => by
  rcases List.mem_cons.mp hD with e | hD
  · subst e
    exact ⟨He.cls_ok c1, He.noat_ok c2⟩
  · exact hs D hD
end
theorem fn_of {P : Program} {w : World} {S : Sg} {mg : Str → Option Value} {base : Heap} {k : Nat} {x : Str} {ps N : List Str} {body : DS} {params : Arguments} {b : List Stmt} {scope : Scope} {f : Addr} {fd : FuncData}
    (F : FunD S.K x x params b scope [] [] f fd) (SC : FnScope N ps scope) (hl : ps.length ≤ N.length)
    (hb : ∀ (cdv : Value) (A : Around) (outer : List Env) (s : Shared) (H : Hp) (E : XK), Bd P w S mg base k N scope (WF E) (cxOf (L2.CX P w) P w S.K mg base N x scope f cdv A outer s H E) →
      VSs S (WF E) (cxOf (L2.CX P w) P w S.K mg base N x scope f cdv A outer s H E) b body) : FnOk P w S.K mg base (L2.CX P w) (k + 1) f fd ps (SpOf S ps.length (dFn N.length ps.length body)) :=
  F.ok SC (fun vs H Q E h => h.1) fun cdv A outer s H vs Q E hr h => ⟨_, hb cdv A outer s H E ⟨takes_of rfl rfl rfl rfl, hr, passes_of (K := fun e s' => L2.CX P w outer H s E e s') rfl, rfl, rfl⟩, body_read hl h⟩
/-- the law's call, what its callees may let out told by the world -/
theorem walkVd {law : PySem.W.OpenLaw} {most lev : Nat} {seen : Program} {names : List Str} {Xp : (Str → Option Value) → Heap → Prop} {Yp : World → Heap → Prop} {dr : DefRec} {par : Str}
    (h1 : law.most = some most) (h2 : most ≤ sizeLine) (h3 : dr.params.defaults = []) (h4 : Room lev callerA)
    (h5 : ∀ (w : World) (mg : Str → Option Value) (fa : Addr) (hp : Heap), Yp w hp → hp.Ns mainGlobals mg → mg dr.name = some (.ref fa) →
      ∃ (K : PySem.W.Frag) (fd : FuncData) (pr : Sp), K.In hp ∧ (∀ (s : Shared) (u : Value), BindsTo s fd ⟨[u], []⟩ [(par, u)]) ∧
        (∀ (H : Hp) (l : Addr) (is : List Int), is.length ≤ most → SqL K H l (is.map V.int) → pr [.ref l] H (fun v _ => v = .bl true) fun _ _ _ => False) ∧
        ∀ b : Heap, K.In b → b.Ns mainGlobals mg → FnOk law.prog w K mg b (L2.CX law.prog w) lev fa fd [par] pr) :
    PySem.W.WalkO seen names Xp Yp law.row.toRowW dr [] (fun f vs => PySem.call f vs) :=
  Att.attach_call h1 h3 fun w _ s' mg _ fa _ _ _ _ l _ is G Y _ _ _ m o i n g => by
    obtain ⟨K, fd, pr, KX, hb, hs, hF⟩ := h5 w mg fa _ Y G.T.g m
    refine L2.law_call KX G.T.g G.T.b G.T.builtins G.T.nolimit g o i (Nat.le_trans n h2) h4 hF hb (fun H _ q => hs H l is n q) fun H e s2 z => ?_
    obtain ⟨_, _, _, _, _, _, _, _, _, _, _, _, bad⟩ := z
    exact bad
end Vd
/-! VP1: plain lemmas about the mirrors' parts. -/
namespace Vd
open PySem L2
/-! ### conditions -/
theorem cMulR {i j : Int} (h : -(2 ^ 64) < j ∧ j < 2 ^ 64) : cMul i j = true := decide_eq_true (.inr h)
theorem cMulL {i j : Int} (h : -(2 ^ 64) < i ∧ i < 2 ^ 64) : cMul i j = true := decide_eq_true (.inl h)
theorem cModP {i j : Int} (h : 0 < j) : cMod i j = true := decide_eq_true h
theorem cDivP {i j : Int} (h : 0 < j ∧ j < 1073741824) : cDiv i j = true := decide_eq_true h
theorem cPowP {i j : Int} (h : 0 ≤ j ∧ j ≤ 1000000 ∧ i.natAbs < 2 ^ 64) : cPow i j = true := decide_eq_true h
theorem cShrP {i j : Int} (h : 0 ≤ j) : cShr i j = true := decide_eq_true h
theorem big62P {i : Int} (h : -(2 ^ 62) ≤ i ∧ i < 2 ^ 62) : big62 i = true := decide_eq_true h
/-! ### texts by their codes -/
def sx (l : List Nat) : Str := ⟨l.toArray⟩
theorem sx_len (l : List Nat) : (sx l).length = l.length := by simp [sx, Str.length]
theorem sx_app (a b : List Nat) : sx a ++ sx b = sx (a ++ b) := by
  show Str.append (sx a) (sx b) = sx (a ++ b)
  simp [sx, Str.append]
theorem sx_cps (l : List Nat) : (sx l).cps.toList = l := by simp [sx]
theorem sx_inj {a b : List Nat} : sx a = sx b ↔ a = b := by
  refine ⟨fun h => ?_, fun h => by rw [h]⟩
  have e := congrArg (fun s : Str => s.cps.toList) h
  simpa [sx] using e
theorem ofS (s : String) : Str.ofString s = sx (s.toList.map Char.toNat) := Str.ofString_eq_toList s
theorem sx_one (c : Nat) : (⟨#[c]⟩ : Str) = sx [c] := rfl
theorem sx_eta (s : Str) : sx s.cps.toList = s := by simp [sx]
/-! ### places -/
theorem atI_nat {α : Type} (xs : List α) (n : Nat) : atI xs (n : Int) = xs[n]? := by
  unfold atI ixN
  by_cases h : n < xs.length
  · rw [if_pos (by omega), if_pos (by omega)]
    simp
  · rw [if_pos (by omega), if_neg (by omega)]
    simp; omega
theorem atI_pos {α : Type} (xs : List α) {i : Int} (h : 0 ≤ i) : atI xs i = xs[i.toNat]? := by
  obtain ⟨n, rfl⟩ := Int.eq_ofNat_of_zero_le h
  rw [atI_nat]
  rfl
theorem atI_last {α : Type} (xs : List α) : atI xs (-1) = xs[xs.length - 1]? := by
  unfold atI ixN
  cases xs with
  | nil => simp
  | cons x xs =>
    rw [if_neg (by decide), List.length_cons]
    have h : (0 : Int) ≤ -1 + ((xs.length + 1 : Nat) : Int) := by omega
    simp only [Nat.add_sub_cancel]
    rw [if_pos (by omega)]
    have e : (-1 + ((xs.length + 1 : Nat) : Int)).toNat = xs.length := by omega
    simp only [Option.bind_some, e]
theorem at_str (l : List Nat) {i : Int} {c : Nat} (hl : l.length ≤ sizeLine) (h : atI l i = some c) : D.at (.str (sx l)) (.int i) = some (.str (sx [c])) := by
  show (if (sx l).length ≤ sizeLine then (atI (sx l).cps.toList i).map fun c => D.str ⟨#[c]⟩ else none) = _
  rw [sx_len, if_pos hl, sx_cps, h]
  rfl
theorem sIx_pos (n d : Nat) {i : Int} (h : 0 ≤ i) : HT.sIx n d (some i) = min i.toNat n := by
  obtain ⟨k, rfl⟩ := Int.eq_ofNat_of_zero_le h
  rw [HT.sIx_nat]
  rfl
theorem cut_take {α : Type} (xs : List α) {i : Int} (h : 0 ≤ i) : cut xs none (some i) = xs.take i.toNat := by
  unfold cut
  rw [HT.sIx_none, sIx_pos _ _ h]
  simp [List.take_eq_take_iff]
theorem cut_drop {α : Type} (xs : List α) {i : Int} (h : 0 ≤ i) : cut xs (some i) none = xs.drop i.toNat := by
  unfold cut
  rw [HT.sIx_none, sIx_pos _ _ h]
  by_cases hi : i.toNat ≤ xs.length
  · rw [Nat.min_eq_left hi, List.take_of_length_le (by simp)]
  · rw [Nat.min_eq_right (by omega), List.drop_of_length_le (Nat.le_refl _), List.drop_of_length_le (by omega)]
    simp
theorem cut_both {α : Type} (xs : List α) {i j : Int} (h : 0 ≤ i) (hj : 0 ≤ j) : cut xs (some i) (some j) = (xs.take j.toNat).drop i.toNat := by
  unfold cut
  rw [sIx_pos _ _ h, sIx_pos _ _ hj, List.drop_take]
  by_cases hi : i.toNat ≤ xs.length
  · rw [Nat.min_eq_left hi, List.take_eq_take_iff]
    simp
    omega
  · rw [Nat.min_eq_right (Nat.le_of_lt (Nat.lt_of_not_le hi) : xs.length ≤ i.toNat), List.drop_of_length_le (Nat.le_refl _), List.drop_of_length_le (i := i.toNat) (by omega)]
    simp
theorem cutS_sx (l : List Nat) (lo hi : Option Int) : cutS (sx l) lo hi = sx (cut l lo hi) := by
  unfold cutS cut
  rw [sx_len, sx_cps]
  rfl
/-! ### dicts by keys -/
section
variable {κ : Type} [DecidableEq κ]
theorem kvGet_nil (k : κ) : kvGet [] k = none := rfl
theorem kvGet_cons (p : κ × D) (r : List (κ × D)) (k : κ) : kvGet (p :: r) k = if p.1 = k then some p.2 else kvGet r k := by
  by_cases h : p.1 = k
  · rw [kvGet_pos h, if_pos h]
  · rw [kvGet_neg h, if_neg h]
theorem kvGet_append (xs ys : List (κ × D)) (k : κ) : kvGet (xs ++ ys) k = (kvGet xs k).or (kvGet ys k) := by
  induction xs with
  | nil => simp [kvGet_nil]
  | cons p r ih =>
    rw [List.cons_append, kvGet_cons, kvGet_cons, ih]
    by_cases h : p.1 = k <;> simp [h]
theorem kvGet_none {xs : List (κ × D)} {k : κ} : kvGet xs k = none ↔ k ∉ xs.map (·.1) := by
  induction xs with
  | nil => simp [kvGet_nil]
  | cons p r ih =>
    rw [kvGet_cons]
    by_cases h : p.1 = k
    · simp [h]
    · simp only [h, if_false, ih, List.map_cons, List.mem_cons, not_or]
      exact ⟨fun z => ⟨fun e => h e.symm, z⟩, fun z => z.2⟩
theorem kvAny {xs : List (κ × D)} {k : κ} : (xs.any fun kv => decide (kv.1 = k)) = true ↔ k ∈ xs.map (·.1) := by
  simp [List.any_eq_true]
theorem kvPut_new {xs : List (κ × D)} {k : κ} {d : D} (h : k ∉ xs.map (·.1)) : kvPut xs k d = xs ++ [(k, d)] := by
  unfold kvPut
  rw [if_neg fun z => h (kvAny.mp z)]
theorem kvPut_old {xs : List (κ × D)} {k : κ} {d : D} (h : k ∈ xs.map (·.1)) : kvPut xs k d = xs.map fun kv => if kv.1 = k then (kv.1, d) else kv := by
  unfold kvPut
  rw [if_pos (kvAny.mpr h)]
theorem kvPut_keys {xs : List (κ × D)} {k : κ} {d : D} : (kvPut xs k d).map (·.1) = if k ∈ xs.map (·.1) then xs.map (·.1) else xs.map (·.1) ++ [k] := by
  by_cases h : k ∈ xs.map (·.1)
  · rw [kvPut_old h, if_pos h, List.map_map]
    refine List.map_congr_left fun p _ => ?_
    show (if p.1 = k then (p.1, d) else p).1 = p.1
    split <;> rfl
  · rw [kvPut_new h, if_neg h]
    simp
theorem kvGet_map {k j : κ} {d : D} : ∀ {xs : List (κ × D)}, kvGet (xs.map fun kv => if kv.1 = k then (kv.1, d) else kv) j = if j = k ∧ k ∈ xs.map (·.1) then some d else kvGet xs j
  | [] => by simp [kvGet_nil]
  | p :: r => by
    rw [List.map_cons, kvGet_cons, kvGet_cons, kvGet_map (xs := r)]
    by_cases e : p.1 = k
    · rw [if_pos e]
      by_cases ej : p.1 = j
      · have ejk : j = k := ej.symm.trans e
        simp [ejk, e]
      · have ejk : ¬ j = k := fun z => ej (e.trans z.symm)
        simp [ej, ejk]
    · rw [if_neg e]
      by_cases ej : p.1 = j
      · have ejk : ¬ j = k := fun z => e (ej.trans z)
        simp [ej, ejk]
      · have h2 : (k ∈ (p :: r).map (·.1)) ↔ k ∈ r.map (·.1) := by
          rw [List.map_cons, List.mem_cons]
          exact ⟨fun z => z.resolve_left fun w => e w.symm, .inr⟩
        simp only [h2, if_neg ej]
theorem kvGet_put {xs : List (κ × D)} {k j : κ} {d : D} : kvGet (kvPut xs k d) j = if j = k then some d else kvGet xs j := by
  by_cases h : k ∈ xs.map (·.1)
  · rw [kvPut_old h, kvGet_map]
    simp only [h, and_true]
  · rw [kvPut_new h, kvGet_append, kvGet_cons, kvGet_nil]
    by_cases e : j = k
    · subst e
      rw [if_pos rfl, if_pos rfl, kvGet_none.mpr h]
      rfl
    · rw [if_neg e, if_neg fun z => e z.symm]
      simp
end
/-! ### loops -/
theorem forL_fold {α β : Type} {t : Tg} {kl : List Nat} {body : DS} (enc : α → D) (env : β → En) (om : β → Om) (step : β → α → β) (P : β → Prop) : ∀ (xs : List α) (s : β),
    (∀ s a, a ∈ xs → P s → P (step s a) ∧ ∃ ρ1 ρ2, tgt t (enc a) (env s) = some ρ1 ∧ (body ρ1 (om s) = .nx ρ2 (om (step s a)) ∨ body ρ1 (om s) = .ct ρ2 (om (step s a))) ∧ kill ρ2 kl = env (step s a)) →
    P s → forL t kl body (xs.map enc) (env s) (om s) = .nx (env (xs.foldl step s)) (om (xs.foldl step s)) ∧ P (xs.foldl step s)
  | [], s, _, hs => ⟨rfl, hs⟩
  | a :: xs, s, h, hs => by
    obtain ⟨h1, ρ1, ρ2, e1, e2, e3⟩ := h s a List.mem_cons_self hs
    have ih := forL_fold enc env om step P xs (step s a) (fun s b hb => h s b (List.mem_cons_of_mem _ hb)) h1
    refine ⟨?_, ih.2⟩
    rw [List.map_cons]
    unfold forL
    rw [e1]
    simp only
    rcases e2 with e2 | e2
    · rw [e2]
      simp only
      rw [e3]
      exact ih.1
    · rw [e2]
      simp only
      rw [e3]
      exact ih.1
theorem lcL_map {α : Type} {t : Tg} {c : DT} {e : DE} {ρ : En} {ω : Om} (enc : α → D) (p : α → Bool) (F : α → D) : ∀ (xs : List α) (acc : List D),
    (∀ a, a ∈ xs → ∃ ρ1, tgt t (enc a) (kill ρ t.ix) = some ρ1 ∧ c ρ1 ω = .ok (p a) ω ∧ (p a = true → ∃ r, e ρ1 ω = .ok r ω ∧ r.keep = some (F a))) → acc.length + xs.length ≤ sizeLine →
    lcL t c e ρ (xs.map enc) acc ω = .ok (.own (.lst (acc ++ (xs.filter p).map F))) ω
  | [], acc, _, _ => by simp [lcL]
  | a :: xs, acc, h, hl => by
    obtain ⟨ρ1, e1, e2, e3⟩ := h a List.mem_cons_self
    rw [List.length_cons] at hl
    rw [List.map_cons]
    unfold lcL
    rw [e1]
    simp only
    rw [e2]
    simp only
    by_cases hp : p a = true
    · obtain ⟨r, e4, e5⟩ := e3 hp
      rw [if_pos hp, e4]
      simp only
      rw [e5]
      simp only
      rw [if_pos (by omega), lcL_map enc p F xs (acc ++ [F a]) (fun b hb => h b (List.mem_cons_of_mem _ hb)) (by rw [List.length_append, List.length_singleton]; omega), List.filter_cons_of_pos hp]
      simp
    · rw [if_neg hp, lcL_map enc p F xs acc (fun b hb => h b (List.mem_cons_of_mem _ hb)) (by omega), List.filter_cons_of_neg hp]
/-- a comprehension whose items change what objects hold -/
theorem lcL_fold {α β : Type} {t : Tg} {e : DE} {ρ : En} (enc : α → D) (om : β → Om) (step : β → α → β) (F : β → α → D) (P : β → Prop) : ∀ (xs : List α) (s : β) (acc : List D),
    (∀ s a, a ∈ xs → P s → P (step s a) ∧ ∃ ρ1 r, tgt t (enc a) (kill ρ t.ix) = some ρ1 ∧ e ρ1 (om s) = .ok r (om (step s a)) ∧ r.keep = some (F s a)) → P s → acc.length + xs.length ≤ sizeLine →
    lcL t dYes e ρ (xs.map enc) acc (om s) = .ok (.own (.lst (xs.foldl (fun q a => (step q.1 a, q.2 ++ [F q.1 a])) (s, acc)).2)) (om (xs.foldl step s)) ∧ P (xs.foldl step s)
  | [], s, acc, _, hs, _ => ⟨rfl, hs⟩
  | a :: xs, s, acc, h, hs, hl => by
    obtain ⟨h1, ρ1, r, e1, e2, e3⟩ := h s a List.mem_cons_self hs
    rw [List.length_cons] at hl
    have ih := lcL_fold enc om step F P xs (step s a) (acc ++ [F s a]) (fun s b hb => h s b (List.mem_cons_of_mem _ hb)) h1 (by rw [List.length_append, List.length_singleton]; omega)
    refine ⟨?_, ih.2⟩
    rw [List.map_cons]
    unfold lcL
    rw [e1]
    simp only [dYes, if_true]
    rw [e2]
    simp only
    rw [e3]
    simp only
    rw [if_pos (by omega)]
    exact ih.1
theorem rints_map (n : Nat) : rints 0 n = (List.range n).map fun i : Nat => D.int (i : Int) := by
  unfold rints
  simp
end Vd
/-! VP2: what the laws' own helpers reckon, in plain numbers. -/
namespace Vd
open PySem L2
def mixF (a b : Int) : Int := ((a * 69621 + b * 16807 + 1013) % 2147483647) * ((a * 69621 + b * 16807 + 1013) % 2147483647) % 2147483629
theorem mixF_lo (a b : Int) : 0 ≤ mixF a b := Int.emod_nonneg _ (by decide)
theorem mixF_hi (a b : Int) : mixF a b < 2147483629 := Int.emod_lt_of_pos _ (by decide)
def cellF (ns : List Int) (k : Nat) : Int := match ns[k]? with
  | some x => x % 1000000007
  | none => (k : Int) * k * 7919 % 1000003
theorem cellF_lo (ns : List Int) (k : Nat) : 0 ≤ cellF ns k := by
  unfold cellF
  split <;> exact Int.emod_nonneg _ (by decide)
theorem cellF_hi (ns : List Int) (k : Nat) : cellF ns k < 1000000007 := by
  unfold cellF
  split
  · exact Int.emod_lt_of_pos _ (by decide)
  · have := Int.emod_lt_of_pos ((k : Int) * k * 7919) (show (0 : Int) < 1000003 by decide)
    omega
/-! ### names -/
def abc : List Nat := [97, 98, 99, 100, 101, 102, 103, 104, 105, 106, 107, 108, 109, 110, 111, 112, 113, 114, 115, 116, 117, 118, 119, 120, 121, 122]
theorem abc_str : Str.ofString "abcdefghijklmnopqrstuvwxyz" = sx abc := by decide +kernel
theorem abc_at {i : Int} (h : 0 ≤ i) (h2 : i < 26) : atI abc i = some (97 + i.toNat) := by
  obtain ⟨n, rfl⟩ := Int.eq_ofNat_of_zero_le h
  rw [atI_nat]
  have hn : n < 26 := by omega
  have : ∀ n : Fin 26, abc[n.1]? = some (97 + n.1) := by decide
  exact this ⟨n, hn⟩
theorem at_abc {i : Int} (h : 0 ≤ i) (h2 : i < 26) : D.at (.str (sx abc)) (.int i) = some (.str (sx [97 + i.toNat])) := at_str abc (by decide) (abc_at h h2)
def stepF (number : Int) : Int := match (number / 26 % 8).toNat with
  | 0 => 1 | 1 => 3 | 2 => 5 | 3 => 7 | 4 => 9 | 5 => 11 | 6 => 15 | _ => 17
def stemF (number : Int) : List Nat := (List.range (1 + number / 208 % 8).toNat).map fun k : Nat => 97 + (mixF number (20 + (k : Int)) % 26).toNat
def signF (number : Int) (k : Nat) : Nat := 97 + ((number % 26 + (k : Int) * stepF number) % 26).toNat
def nameF (number : Int) (k : Nat) : List Nat :=
  if number / 13312 % 2 = 0 then (stemF number).take (number / 1664 % (1 + number / 208 % 8)).toNat ++ [signF number k] ++ (stemF number).drop (number / 1664 % (1 + number / 208 % 8) + 1).toNat
  else List.replicate ((k : Int) % 4).toNat (97 + (number % 26).toNat) ++ [signF number k]
theorem join_sx : ∀ xs : List (List Nat), Txt.join (sx []) (xs.map sx) = sx xs.flatten := by
  intro xs
  unfold Txt.join
  rw [StrLaws.glued_eq_join]
  induction xs with
  | nil => rfl
  | cons x r ih =>
    cases r with
    | nil =>
      show sx x = _
      simp
    | cons y r =>
      show sx x ++ sx [] ++ Str.join (sx []) ((y :: r).map sx) = _
      rw [ih, sx_app, sx_app]
      simp
/-- _law_names' own loop, by its numbers -/
theorem strs_map (xs : List (List Nat)) : D.strs (xs.map fun l => D.str (sx l)) = some (xs.map sx) := by
  induction xs with
  | nil => rfl
  | cons x xs ih => simp [D.strs, ih]
theorem mul_one (c n : Nat) (hn : n ≤ 3) : Txt.mul (sx [c]) (n : Int) = sx (List.replicate n c) := by
  have : n = 0 ∨ n = 1 ∨ n = 2 ∨ n = 3 := by omega
  rcases this with rfl | rfl | rfl | rfl <;> rfl
theorem mulOk_one (c n : Nat) (hn : n ≤ 3) : mulOk (sx [c]) (n : Int) = true := by
  refine decide_eq_true ?_
  rw [sx_len]
  refine ⟨by omega, by omega, ?_, by omega, by simp⟩
  simp
  omega
end Vd
/-! VP3: mirrors run step by step. -/
namespace Vd
open PySem L2
section
variable {ρ ρ' : En} {ω ω1 ω2 ω3 : Om} {f k m : DE} {a : DA} {r s : R} {d x y z : D} {o : Out R} {i n : Nat} {b : Bool} {c : DT}
theorem ev_int {j : Int} : dInt j ρ ω = .ok (.fz (.int j)) ω := rfl
theorem ev_str {t : Str} : dStr t ρ ω = .ok (.fz (.str t)) ω := rfl
theorem ev_bl {b : Bool} : dBl b ρ ω = .ok (.fz (.bl b)) ω := rfl
theorem ev_non : dNon ρ ω = .ok (.fz .non) ω := rfl
theorem ev_dicK : dDicK ρ ω = .ok (.own (.dic [])) ω := rfl
theorem ev_dicT : dDicT ρ ω = .ok (.own (.dit [])) ω := rfl
theorem ev_yes : dYes ρ ω = .ok true ω := rfl
theorem ev_abc : dStr "abcdefghijklmnopqrstuvwxyz" ρ ω = .ok (.fz (.str (sx abc))) ω := by
  show Out.ok (R.fz (.str (Str.ofString "abcdefghijklmnopqrstuvwxyz"))) ω = _
  rw [abc_str]
theorem ev_emp : dStr "" ρ ω = .ok (.fz (.str (sx []))) ω := rfl
theorem ev_var (h : ρ[i]? = some (some (.fz d))) : dVar i ρ ω = .ok (.fz d) ω := by simp only [dVar, h]
theorem ev_varO (h : ρ[i]? = some (some (.own d))) : dVar i ρ ω = .ok (.bor (.slot i) d) ω := by simp only [dVar, h]
theorem vw_box (h : ω[n]? = some (.box d)) : vw ω (.obj n) = d := by simp only [vw, h]
theorem vw_ins {C : Str} {fs : List (Str × R)} (h : ω[n]? = some (.ins C fs)) : vw ω (.obj n) = .obj n := by simp only [vw, h]
theorem ev_op2 {op : D → D → Om → Out R} (h1 : f ρ ω = .ok r ω1) (h2 : r.isF = false) (h3 : k ρ ω1 = .ok s ω2) (h4 : vw ω2 r.d = x) (h5 : vw ω2 s.d = y) (h6 : op x y ω2 = o) : dOp2 op f k ρ ω = o := by
  subst h4 h5 h6
  simp only [dOp2, h1, Out.bind, h2, h3, Bool.false_eq_true, if_false]
theorem ev_op1 {op : D → Om → Out R} (h1 : f ρ ω = .ok r ω1) (h4 : r.d = x) (h6 : op x ω1 = o) : dOp1 op f ρ ω = o := by
  subst h4 h6
  simp only [dOp1, h1, Out.bind]
theorem ev_opV {op : D → D → Om → Out R} {j : Nat} (h1 : f ρ ω = .ok r ω1) (h3 : ρ[j]? = some (some (.fz d))) (h4 : vw ω1 r.d = x) (h5 : vw ω1 d = y) (h6 : op x y ω1 = o) : dOpV op f j ρ ω = o := by
  subst h4 h5 h6
  simp only [dOpV, h1, Out.bind, h3]
theorem ev_bi {op : D → Om → Out R} (h1 : f ρ ω = .ok r ω1) (h4 : vw ω1 r.d = x) (h6 : op x ω1 = o) : dBi op f ρ ω = o := by
  subst h4 h6
  simp only [dBi, h1, Out.bind]
theorem ev_ba {op : List D → Om → Out R} {ds : List D} (h1 : a ρ ω = .ok ds ω1) (h6 : op ds ω1 = o) : dBa op a ρ ω = o := by
  subst h6
  simp only [dBa, h1, Out.bind]
theorem ev_bm {T : String} {op : D → List D → Om → Out R} {ds : List D} (h1 : f ρ ω = .ok r ω1) (h2 : r.isF = false) (h3 : vw ω1 r.d = x) (h4 : dBm.tyD2 T x = true) (h5 : a ρ ω1 = .ok ds ω2) (h6 : vw ω2 r.d = y) (h7 : op y ds ω2 = o) : dBm T op f a ρ ω = o := by
  subst h3 h6 h7
  simp only [dBm, h1, Out.bind, h2, h4, h5, Bool.false_or, Bool.not_true, Bool.false_eq_true, if_false]
theorem ev_nil : dNil ρ ω = .ok [] ω := rfl
theorem ev_cons {ds : List D} (h1 : f ρ ω = .ok r ω1) (h2 : r.keep = some d) (h3 : a ρ ω1 = .ok ds ω2) : dCons f a ρ ω = .ok (d :: ds) ω2 := by
  simp only [dCons, h1, Out.bind, h2, h3]
theorem ev_tup {ds : List D} (h1 : a ρ ω = .ok ds ω1) (h2 : ds.length ≤ 1000000) : dTup a ρ ω = .ok (.fz (.tup ds)) ω1 := by
  have hz := sizeLine_eq
  have h3 : ds.length ≤ sizeLine := by omega
  simp only [dTup, h1, Out.bind, h3, if_true]
theorem ev_lst {ds : List D} (h1 : a ρ ω = .ok ds ω1) (h2 : ds.length ≤ 1000000) : dLst a ρ ω = .ok (.own (.lst ds)) ω1 := by
  have hz := sizeLine_eq
  have h3 : ds.length ≤ sizeLine := by omega
  simp only [dLst, h1, Out.bind, h3, if_true]
theorem ev_call {F : DF} {ds : List D} (h1 : a ρ ω = .ok ds ω1) (h2 : F ds ω1 = o) : dCall F a ρ ω = o := by
  subst h2
  simp only [dCall, h1, Out.bind]
theorem ev_meth {C mm : Str} {F : DF} {ds : List D} {fs : List (Str × R)} (h1 : f ρ ω = .ok (.fz (.obj n)) ω1) (h2 : ω1[n]? = some (.ins C fs)) (h3 : (fs.lookup mm).isNone = true) (h4 : a ρ ω1 = .ok ds ω2) (h5 : F (.obj n :: ds) ω2 = o) : dMeth C mm F f a ρ ω = o := by
  subst h5
  simp only [dMeth, h1, Out.bind, h2, h3, h4, and_self, if_true]
theorem ev_fldO {C g : Str} {cs : List Str} {fs : List (Str × R)} (h1 : f ρ ω = .ok (.fz (.obj n)) ω1) (h2 : ω1[n]? = some (.ins C fs)) (h3 : cs.contains C = true) (h4 : fs.lookup g = some (.own d)) : dFld cs g f ρ ω = .ok (.bor (.fld n g) d) ω1 := by
  simp only [dFld, h1, Out.bind, R.d, h2, h3, h4, if_true]
theorem ev_fldF {C g : Str} {cs : List Str} {fs : List (Str × R)} (h1 : f ρ ω = .ok (.fz (.obj n)) ω1) (h2 : ω1[n]? = some (.ins C fs)) (h3 : cs.contains C = true) (h4 : fs.lookup g = some (.fz d)) : dFld cs g f ρ ω = .ok (.fz d) ω1 := by
  simp only [dFld, h1, Out.bind, R.d, h2, h3, h4, if_true]
theorem ev_box (h1 : f ρ ω = .ok (.own d) ω1) : dBox f ρ ω = .ok (.fz (.obj ω1.length)) (ω1 ++ [.box d]) := by
  simp only [dBox, h1, Out.bind]
theorem ev_chain {op op' : D → D → Om → Out R} {t : R} {w : D} (h1 : f ρ ω = .ok r ω1) (h2 : r.isF = false) (h3 : k ρ ω1 = .ok s ω2) (h4 : s.isF = false) (h5 : vw ω2 r.d = x) (h6 : vw ω2 s.d = y) (h7 : op x y ω2 = .ok (.fz (.bl true)) ω2)
    (h8 : m ρ ω2 = .ok t ω3) (h9 : vw ω3 s.d = z) (h10 : vw ω3 t.d = w) (h11 : op' z w ω3 = o) : dChain op op' f k m ρ ω = o := by
  subst h5 h6 h9 h10 h11
  simp only [dChain, h1, h2, h3, h4, h7, Out.bind, Bool.false_eq_true, if_false]
  show Out.bind (m ρ ω2) _ = _
  rw [h8]
  rfl
theorem ev_tv (h1 : f ρ ω = .ok r ω1) (h2 : r.d = .bl b) : dTv f ρ ω = .ok b ω1 := by
  simp only [dTv, h1, Out.bind, h2]
theorem ev_not (h1 : c ρ ω = .ok b ω1) : dNotT c ρ ω = .ok (!b) ω1 := by
  simp only [dNotT, h1, Out.bind]
theorem ev_andT {e : DT} {b2 : Bool} (h1 : c ρ ω = .ok b ω1) (h2 : b = true → e ρ ω1 = .ok b2 ω1) : dAndT c e ρ ω = .ok (b && b2) ω1 := by
  cases b with
  | true => simp only [dAndT, h1, Out.bind, h2 rfl, if_true, Bool.true_and]
  | false => simp only [dAndT, h1, Out.bind, Bool.false_eq_true, if_false, Bool.false_and]
theorem ev_orT {e : DT} {b2 : Bool} (h1 : c ρ ω = .ok b ω1) (h2 : b = false → e ρ ω1 = .ok b2 ω1) : dOrT c e ρ ω = .ok (b || b2) ω1 := by
  cases b with
  | true => simp only [dOrT, h1, Out.bind, if_true, Bool.true_or]
  | false => simp only [dOrT, h1, Out.bind, h2 rfl, Bool.false_eq_true, if_false, Bool.false_or]
/-! ### operators at work -/
theorem o_addI {i j : Int} : dAddOp (.int i) (.int j) ω = .ok (.fz (.int (i + j))) ω := rfl
theorem o_addS {p q : List Nat} (h : p.length + q.length ≤ 1000000) : dAddOp (.str (sx p)) (.str (sx q)) ω = .ok (.fz (.str (sx (p ++ q)))) ω := by
  have hz := sizeLine_eq
  simp only [dAddOp, sx_len, sx_app]
  rw [if_pos (by omega)]
theorem o_addL {p q : List D} (h : p.length + q.length ≤ 1000000) : dAddOp (.lst p) (.lst q) ω = .ok (.own (.lst (p ++ q))) ω := by
  have hz := sizeLine_eq
  simp only [dAddOp]
  rw [if_pos (by omega)]
theorem o_addT {p q : List D} (h : p.length + q.length ≤ 1000000) : dAddOp (.tup p) (.tup q) ω = .ok (.fz (.tup (p ++ q))) ω := by
  have hz := sizeLine_eq
  simp only [dAddOp]
  rw [if_pos (by omega)]
theorem o_sub {i j : Int} : dSubOp (.int i) (.int j) ω = .ok (.fz (.int (i - j))) ω := rfl
theorem o_mulR {i j : Int} (h : -(2 ^ 64) < j ∧ j < 2 ^ 64) : dMulOp (.int i) (.int j) ω = .ok (.fz (.int (i * j))) ω := by
  simp only [dMulOp, cMulR h, if_true]
theorem o_mulL {i j : Int} (h : -(2 ^ 64) < i ∧ i < 2 ^ 64) : dMulOp (.int i) (.int j) ω = .ok (.fz (.int (i * j))) ω := by
  simp only [dMulOp, cMulL h, if_true]
theorem o_mod {i j : Int} (h : 0 < j) : dModOp (.int i) (.int j) ω = .ok (.fz (.int (i % j))) ω := by
  simp only [dModOp, iOp, cModP h, if_true]
theorem o_div {i j : Int} (h : 0 < j ∧ j < 1073741824) : dDivOp (.int i) (.int j) ω = .ok (.fz (.int (i / j))) ω := by
  simp only [dDivOp, iOp, cDivP h, if_true]
theorem o_shl {i j : Int} (h : 0 ≤ j ∧ j ≤ 1000000 ∧ i.natAbs < 2 ^ 64) : dShlOp (.int i) (.int j) ω = .ok (.fz (.int (i * 2 ^ j.toNat))) ω := by
  simp only [dShlOp, iOp, cPowP h, if_true]
theorem o_pow {i j : Int} (h : 0 ≤ j ∧ j ≤ 1000000 ∧ i.natAbs < 2 ^ 64) : dPowOp (.int i) (.int j) ω = .ok (.fz (.int (i ^ j.toNat))) ω := by
  simp only [dPowOp, iOp, cPowP h, if_true]
theorem o_shr {i j : Int} (h : 0 ≤ j) : dShrOp (.int i) (.int j) ω = .ok (.fz (.int (i / 2 ^ j.toNat))) ω := by
  simp only [dShrOp, iOp, cShrP h, if_true]
theorem o_mul1 {ch kk : Nat} (h : kk ≤ 3) : dMulOp (.str (sx [ch])) (.int (kk : Int)) ω = .ok (.fz (.str (sx (List.replicate kk ch)))) ω := by
  simp only [dMulOp, mulOk_one ch kk h, if_true, mul_one ch kk h]
theorem o_mulZ {ch : Nat} {i : Int} (h : 0 ≤ i ∧ i ≤ 3) : dMulOp (.str (sx [ch])) (.int i) ω = .ok (.fz (.str (sx (List.replicate i.toNat ch)))) ω := by
  obtain ⟨n, rfl⟩ := Int.eq_ofNat_of_zero_le h.1
  rw [Int.toNat_natCast]
  exact o_mul1 (by omega)
theorem o_lt {i j : Int} : dLtOp (.int i) (.int j) ω = .ok (.fz (.bl (decide (i < j)))) ω := rfl
theorem o_le {i j : Int} : dLeOp (.int i) (.int j) ω = .ok (.fz (.bl (decide (i ≤ j)))) ω := rfl
theorem o_gt {i j : Int} : dGtOp (.int i) (.int j) ω = .ok (.fz (.bl (decide (j < i)))) ω := rfl
theorem o_ge {i j : Int} : dGeOp (.int i) (.int j) ω = .ok (.fz (.bl (decide (j ≤ i)))) ω := rfl
theorem eq_int {i j : Int} : D.eq (.int i) (.int j) = some (decide (i = j)) := by
  have e : decide (V.int i = V.int j) = decide (i = j) := by
    by_cases h : i = j
    · subst h; simp
    · rw [decide_eq_false h, decide_eq_false fun z => h (by cases z; rfl)]
  show (if scal (V.int i) (V.int j) = true then some (decide (V.int i = V.int j)) else none) = _
  rw [e]
  rfl
theorem eq_str {i j : Str} : D.eq (.str i) (.str j) = some (decide (i = j)) := by
  have e : decide (V.str i = V.str j) = decide (i = j) := by
    by_cases h : i = j
    · subst h; simp
    · rw [decide_eq_false h, decide_eq_false fun z => h (by cases z; rfl)]
  show (if scal (V.str i) (V.str j) = true then some (decide (V.str i = V.str j)) else none) = _
  rw [e]
  rfl
theorem o_eqI {i j : Int} : dEqOp (.int i) (.int j) ω = .ok (.fz (.bl (decide (i = j)))) ω := by simp only [dEqOp, eq_int]
theorem o_neI {i j : Int} : dNeOp (.int i) (.int j) ω = .ok (.fz (.bl (!decide (i = j)))) ω := by simp only [dNeOp, eq_int]
theorem o_eqS {i j : Str} : dEqOp (.str i) (.str j) ω = .ok (.fz (.bl (decide (i = j)))) ω := by simp only [dEqOp, eq_str]
theorem o_neS {i j : Str} : dNeOp (.str i) (.str j) ω = .ok (.fz (.bl (!decide (i = j)))) ω := by simp only [dNeOp, eq_str]
theorem o_eqD {b : Bool} (h : D.eq x y = some b) : dEqOp x y ω = .ok (.fz (.bl b)) ω := by simp only [dEqOp, h]
theorem o_neD {b : Bool} (h : D.eq x y = some b) : dNeOp x y ω = .ok (.fz (.bl (!b))) ω := by simp only [dNeOp, h]
theorem o_at (h : D.at x y = some d) : dAtOp x y ω = .ok (.fz d) ω := by simp only [dAtOp, h]
theorem at_lst {xs : List D} {j : Int} (h0 : 0 ≤ j) (h : xs[j.toNat]? = some d) : D.at (.lst xs) (.int j) = some d := by
  show (some xs).bind (fun xs => atI xs j) = _
  rw [Option.bind_some, Vd.atI_pos xs h0, h]
theorem at_tup {xs : List D} {j : Int} (h0 : 0 ≤ j) (h : xs[j.toNat]? = some d) : D.at (.tup xs) (.int j) = some d := by
  show (some xs).bind (fun xs => atI xs j) = _
  rw [Option.bind_some, Vd.atI_pos xs h0, h]
theorem at_scr {ns : List Int} {j q : Int} (h0 : 0 ≤ j) (h : ns[j.toNat]? = some q) : D.at (.scr ns) (.int j) = some (.int q) := by
  show (some (ns.map D.int)).bind (fun xs => atI xs j) = _
  rw [Option.bind_some, Vd.atI_pos _ h0, List.getElem?_map, h]
  rfl
theorem at_last {xs : List D} (h : xs[xs.length - 1]? = some d) : D.at (.lst xs) (.int (-1)) = some d := by
  show (some xs).bind (fun xs => atI xs (-1)) = _
  rw [Option.bind_some, Vd.atI_last, h]
theorem o_lenL {xs : List D} : dLenOp (.lst xs) ω = .ok (.fz (.int xs.length)) ω := rfl
theorem o_lenT {xs : List D} : dLenOp (.tup xs) ω = .ok (.fz (.int xs.length)) ω := rfl
theorem o_lenR {xs : List Int} : dLenOp (.scr xs) ω = .ok (.fz (.int xs.length)) ω := by
  show (Out.ok (R.fz (.int ((xs.map D.int).length))) ω : Out R) = _
  rw [List.length_map]
theorem o_lenS {p : List Nat} (h : p.length ≤ 1000000) : dLenOp (.str (sx p)) ω = .ok (.fz (.int p.length)) ω := by
  have hz := sizeLine_eq
  show (if (sx p).length ≤ sizeLine then Out.ok (R.fz (.int (sx p).length)) ω else Out.bad) = _
  rw [sx_len, if_pos (by omega)]
theorem o_lenD {kvs : List (Key × D)} : dLenOp (.dic kvs) ω = .ok (.fz (.int kvs.length)) ω := rfl
theorem o_listL {xs : List D} : dListOp2 (.lst xs) ω = .ok (.own (.lst xs)) ω := rfl
theorem o_listT {xs : List D} : dListOp2 (.tup xs) ω = .ok (.own (.lst xs)) ω := rfl
theorem o_tupL {xs : List D} : dTupleOp (.lst xs) ω = .ok (.fz (.tup xs)) ω := rfl
theorem o_tupT {xs : List D} : dTupleOp (.tup xs) ω = .ok (.fz (.tup xs)) ω := rfl
theorem o_intI {i : Int} : dIntOp (.int i) ω = .ok (.fz (.int i)) ω := rfl
theorem o_intB {b : Bool} : dIntOp (.bl b) ω = .ok (.fz (.int (if b then 1 else 0))) ω := rfl
theorem o_min2 {i j : Int} : dMin2Op [.int i, .int j] ω = .ok (.fz (.int (if j < i then j else i))) ω := rfl
theorem o_max2 {i j : Int} : dMax2Op [.int i, .int j] ω = .ok (.fz (.int (if j > i then j else i))) ω := rfl
theorem o_join {xs : List (List Nat)} (h : xs.flatten.length ≤ 1000000) : oJoin (.str (sx [])) [.lst (xs.map fun l => .str (sx l))] ω = .ok (.fz (.str (sx xs.flatten))) ω := by
  show (match D.strs (xs.map fun l => D.str (sx l)) with
    | some ys => if (ys.map (fun z : Str => z.length)).sum + ys.length * (sx []).length ≤ 16777216 then Out.ok (R.fz (.str (Txt.join (sx []) ys))) ω else Out.bad
    | none => Out.bad) = _
  rw [strs_map]
  simp only [join_sx]
  rw [if_pos]
  have e : (xs.map sx).map (fun z : Str => z.length) = xs.map (fun l => l.length) := by
    rw [List.map_map]
    exact List.map_congr_left fun l _ => sx_len l
  have e2 : (xs.map fun l => l.length).sum = xs.flatten.length := List.length_flatten.symm
  rw [e, e2, sx_len]
  simp only [List.length_nil, Nat.mul_zero, Nat.add_zero]
  omega
/-! ### parts of slices -/
theorem ev_noPart : dNoPart ρ ω = .ok none ω := rfl
theorem ev_part {j : Int} (h : f ρ ω = .ok r ω1) (h2 : r.d = .int j) : dPart f ρ ω = .ok (some j) ω1 := by
  simp only [dPart, h, Out.bind, h2]
theorem ev_sl {lo hi : DO} {l h : Option Int} (h1 : f ρ ω = .ok r ω1) (h2 : r.isF = false) (h3 : lo ρ ω1 = .ok l ω2) (h4 : hi ρ ω2 = .ok h ω3) (h5 : vw ω3 r.d = x) (h6 : dCutOp x l h ω3 = o) : dSl f lo hi ρ ω = o := by
  subst h5 h6
  simp only [dSl, h1, Out.bind, h2, h3, h4, Bool.false_eq_true, if_false]
theorem o_cutS {p : List Nat} {l h : Option Int} (hz : p.length ≤ 1000000) : dCutOp (.str (sx p)) l h ω = .ok (.fz (.str (sx (cut p l h)))) ω := by
  have hs := sizeLine_eq
  show (if (sx p).length ≤ sizeLine then Out.ok (R.fz (.str (cutS (sx p) l h))) ω else Out.bad) = _
  rw [sx_len, if_pos (by omega), cutS_sx]
theorem o_takeS {p : List Nat} {i : Int} (hz : p.length ≤ 1000000 ∧ 0 ≤ i) : dCutOp (.str (sx p)) none (some i) ω = .ok (.fz (.str (sx (p.take i.toNat)))) ω := by rw [o_cutS hz.1, cut_take _ hz.2]
theorem o_dropS {p : List Nat} {i : Int} (hz : p.length ≤ 1000000 ∧ 0 ≤ i) : dCutOp (.str (sx p)) (some i) none ω = .ok (.fz (.str (sx (p.drop i.toNat)))) ω := by rw [o_cutS hz.1, cut_drop _ hz.2]
theorem o_takeL {p : List D} {i : Int} (hz : 0 ≤ i) : dCutOp (.lst p) none (some i) ω = .ok (.own (.lst (p.take i.toNat))) ω := by rw [← cut_take _ hz]; rfl
theorem o_dropL {p : List D} {i : Int} (hz : 0 ≤ i) : dCutOp (.lst p) (some i) none ω = .ok (.own (.lst (p.drop i.toNat))) ω := by rw [← cut_drop _ hz]; rfl
theorem o_partL {p : List D} {i j : Int} (hz : 0 ≤ i ∧ 0 ≤ j) : dCutOp (.lst p) (some i) (some j) ω = .ok (.own (.lst ((p.take j.toNat).drop i.toNat))) ω := by rw [← cut_both _ hz.1 hz.2]; rfl
theorem o_takeT {p : List D} {i : Int} (hz : 0 ≤ i) : dCutOp (.tup p) none (some i) ω = .ok (.fz (.tup (p.take i.toNat))) ω := by rw [← cut_take _ hz]; rfl
theorem o_dropT {p : List D} {i : Int} (hz : 0 ≤ i) : dCutOp (.tup p) (some i) none ω = .ok (.fz (.tup (p.drop i.toNat))) ω := by rw [← cut_drop _ hz]; rfl
theorem o_dropR {p : List Int} {i : Int} (hz : 0 ≤ i) : dCutOp (.scr p) (some i) none ω = .ok (.own (.lst ((p.drop i.toNat).map D.int))) ω := by rw [List.map_drop, ← cut_drop _ hz]; rfl
theorem o_partR {p : List Int} {i j : Int} (hz : 0 ≤ i ∧ 0 ≤ j) : dCutOp (.scr p) (some i) (some j) ω = .ok (.own (.lst (((p.take j.toNat).drop i.toNat).map D.int))) ω := by rw [List.map_drop, List.map_take, ← cut_both _ hz.1 hz.2]; rfl
theorem o_cutL {xs : List D} {l h : Option Int} : dCutOp (.lst xs) l h ω = .ok (.own (.lst (cut xs l h))) ω := rfl
theorem o_cutT {xs : List D} {l h : Option Int} : dCutOp (.tup xs) l h ω = .ok (.fz (.tup (cut xs l h))) ω := rfl
theorem o_cutR {xs : List Int} {l h : Option Int} : dCutOp (.scr xs) l h ω = .ok (.own (.lst (cut (xs.map D.int) l h))) ω := rfl
theorem o_app {xs : List D} {y : D} (h : xs.length ≤ 1000000) : oAppend (.lst xs) [y] = some (.lst (xs ++ [y])) := by
  have hz := sizeLine_eq
  show (if xs.length < sizeLine then some (D.lst (xs ++ [y])) else none) = _
  rw [if_pos (by omega)]
/-! ### comprehensions, loops' sources -/
theorem ev_lc {t : Tg} {it : DI} {e : DE} {xs : List D} {bs : List Nat} (h1 : it ρ ω = .ok (xs, bs) ω1) (h2 : (noOwn ρ t.ix && bs.all fun j => !t.ix.contains j) = true) (h3 : lcL t c e ρ xs [] ω1 = o) : dLc t it c e ρ ω = o := by
  subst h3
  simp only [dLc, h1, Out.bind, h2, if_true]
theorem ev_seqI {xs : List D} (h1 : f ρ ω = .ok r ω1) (h2 : r.isF = false) (h3 : r.d.walk = some xs) : iSeq f ρ ω = .ok (xs, r.bs) ω1 := by
  simp only [iSeq, h1, Out.bind, h2, h3, Bool.false_eq_true, if_false]
theorem ev_range1 {n : Nat} (h1 : a ρ ω = .ok [.int (n : Int)] ω1) (h2 : n < 2 ^ 62) : iRange1 a ρ ω = .ok ((List.range n).map fun k : Nat => D.int (k : Int), []) ω1 := by
  have e : big62 (n : Int) = true := big62P (by omega)
  simp only [iRange1, h1, Out.bind, e, if_true]
  rw [Int.toNat_natCast, rints_map]
theorem lcL_all {α : Type} {t : Tg} (enc : α → D) (F : α → D) (xs : List α) (hl : xs.length ≤ 1000000) (h : ∀ a, a ∈ xs → ∃ ρ1, tgt t (enc a) (kill ρ t.ix) = some ρ1 ∧ (f ρ1 ω = .ok (.fz (F a)) ω ∨ f ρ1 ω = .ok (.own (F a)) ω)) : lcL t dYes f ρ (xs.map enc) [] ω = .ok (.own (.lst (xs.map F))) ω := by
  have hz := sizeLine_eq
  have e := lcL_map (t := t) (c := dYes) (e := f) (ρ := ρ) (ω := ω) enc (fun _ => true) F xs [] (fun a ha => by
    obtain ⟨ρ1, h1, h2⟩ := h a ha
    rcases h2 with h2 | h2
    · exact ⟨ρ1, h1, rfl, fun _ => ⟨_, h2, rfl⟩⟩
    · exact ⟨ρ1, h1, rfl, fun _ => ⟨_, h2, rfl⟩⟩) (by rw [List.length_nil]; omega)
  rw [e]
  have e2 : xs.filter (fun _ => true) = xs := by simp
  rw [e2]
  rfl
/-! ### statements -/
variable {S1 S2 : DS} {so : SO} {ρ0 : En}
theorem ev_seq (h1 : S1 ρ ω = .nx ρ' ω1) (h2 : S2 ρ' ω1 = so) : sSeq S1 S2 ρ ω = so := by
  subst h2
  simp only [sSeq, h1]
theorem ev_seqR (h1 : S1 ρ ω = .rt r ω1) : sSeq S1 S2 ρ ω = .rt r ω1 := by simp only [sSeq, h1]
theorem ev_setF (h1 : f ρ ω = .ok (.fz d) ω1) (h2 : ρ.set i (some (.fz d)) = ρ') : sSet i f ρ ω = .nx ρ' ω1 := by
  subst h2
  simp only [sSet, h1]
theorem ev_setO (h1 : f ρ ω = .ok (.own d) ω1) (h2 : ρ.set i (some (.own d)) = ρ') : sSet i f ρ ω = .nx ρ' ω1 := by
  subst h2
  simp only [sSet, h1]
theorem ev_setG {t : Tg} (h1 : f ρ ω = .ok r ω1) (h2 : r.keep = some d) (h3 : tgt t d ρ = some ρ') : sSetG t f ρ ω = .nx ρ' ω1 := by
  simp only [sSetG, h1, h2, h3]
theorem ev_expr (h1 : f ρ ω = .ok r ω1) : sExpr f ρ ω = .nx ρ ω1 := by simp only [sExpr, h1]
theorem ev_ret (h1 : f ρ ω = .ok (.fz d) ω1) : sRet f ρ ω = .rt (.fz d) ω1 := by simp only [sRet, h1]
theorem ev_retO (h1 : f ρ ω = .ok (.own d) ω1) : sRet f ρ ω = .rt (.own d) ω1 := by simp only [sRet, h1]
theorem ev_retV (h1 : f ρ ω = .ok (.bor (.slot i) d) ω1) : sRet f ρ ω = .rt (.own d) ω1 := by simp only [sRet, h1]
theorem ev_if (h1 : c ρ ω = .ok b ω1) (h2 : b = true → S1 ρ ω1 = so) (h3 : b = false → S2 ρ ω1 = so) : sIf c S1 S2 ρ ω = so := by
  simp only [sIf, h1]
  cases b with
  | true => rw [if_pos rfl]; exact h2 rfl
  | false => rw [if_neg (by simp)]; exact h3 rfl
theorem ev_ifT (h1 : c ρ ω = .ok b ω1) (h0 : b = true) (h2 : S1 ρ ω1 = so) : sIf c S1 S2 ρ ω = so := ev_if h1 (fun _ => h2) fun z => by rw [h0] at z; cases z
theorem ev_ifF (h1 : c ρ ω = .ok b ω1) (h0 : b = false) (h2 : S2 ρ ω1 = so) : sIf c S1 S2 ρ ω = so := ev_if h1 (fun z => by rw [h0] at z; cases z) fun _ => h2
theorem ev_killN {is : List Nat} (h1 : S1 ρ ω = .nx ρ' ω1) (h2 : kill ρ' is = ρ'') : sKill is S1 ρ ω = .nx ρ'' ω1 := by
  subst h2
  simp only [sKill, h1, SO.kill]
theorem ev_killR {is : List Nat} (h1 : S1 ρ ω = .rt r ω1) : sKill is S1 ρ ω = .rt r ω1 := by simp only [sKill, h1, SO.kill]
theorem ev_frz (h1 : frz ρ i = ρ') (h2 : S1 ρ' ω = so) : sFrz i S1 ρ ω = so := by
  subst h1
  exact h2
theorem ev_frzO (h1 : ρ[i]? = some (some (.fz (.obj n)))) (h2 : ω[n]? = some (.box d)) (h3 : ρ.set i (some (.fz d)) = ρ') (h4 : S1 ρ' (ω.set n .dead) = so) : sFrzO i S1 ρ ω = so := by
  subst h3
  simp only [sFrzO, h1, h2, h4]
theorem ev_for {t : Tg} {kl : List Nat} {it : DI} {xs : List D} {bs : List Nat} (h1 : it ρ ω = .ok (xs, bs) ω1) (h2 : bs.isEmpty = true) (h3 : forL t kl S1 xs (kill ρ kl) ω1 = so) : sFor t kl it S1 ρ ω = so := by
  subst h3
  simp only [sFor, h1, h2, if_true]
theorem ev_mut {T : String} {op : D → List D → Option D} {ds : List D} {d' : D} (h1 : ρ[i]? = some (some (.own d))) (h2 : tyD T d = true) (h3 : a ρ ω = .ok ds ω1) (h4 : op d ds = some d') (h5 : ρ.set i (some (.own d')) = ρ') : sMut T i op a ρ ω = .nx ρ' ω1 := by
  subst h5
  simp only [sMut, h1, h2, h3, h4, if_true]
theorem ev_mutB {T : String} {op : D → List D → Option D} {ds : List D} {d' d2 : D} (h1 : f ρ ω = .ok (.fz (.obj n)) ω1) (h2 : ω1[n]? = some (.box d)) (h3 : tyD T d = true) (h4 : a ρ ω1 = .ok ds ω2) (h5 : ω2[n]? = some (.box d2)) (h6 : op d2 ds = some d') : sMutB T f op a ρ ω = .nx ρ (ω2.set n (.box d')) := by
  simp only [sMutB, h1, h2, h3, h4, h5, h6, if_true]
theorem ev_put {dv d' : D} (h1 : k ρ ω = .ok r ω1) (h2 : r.keep = some dv) (h3 : ρ[i]? = some (some (.own d))) (h4 : f ρ ω1 = .ok s ω2) (h5 : oPut d s.d dv = some d') (h6 : ρ.set i (some (.own d')) = ρ') : sPut i f k ρ ω = .nx ρ' ω2 := by
  subst h6
  simp only [sPut, h1, h2, h3, h4, h5]
theorem ev_putB {dv d' : D} (h1 : k ρ ω = .ok r ω1) (h2 : r.keep = some dv) (h3 : m ρ ω1 = .ok (.fz (.obj n)) ω2) (h4 : f ρ ω2 = .ok s ω3) (h5 : ω3[n]? = some (.box d)) (h6 : oPut d s.d dv = some d') : sPutB m f k ρ ω = .nx ρ (ω3.set n (.box d')) := by
  simp only [sPutB, h1, h2, h3, h4, h5, h6]
theorem ev_fn {np nn : Nat} {ds : List D} (h1 : ds.length = np) (h0 : ds.map (fun d => some (.fz d)) ++ List.replicate (nn - np) none = ρ0) (h2 : S1 ρ0 ω = .rt r ω1) : dFn nn np S1 ds ω = .ok r ω1 := by
  subst h0
  simp only [dFn, h1, if_true, h2]
theorem ev_fnN {np nn : Nat} {ds : List D} (h1 : ds.length = np) (h0 : ds.map (fun d => some (.fz d)) ++ List.replicate (nn - np) none = ρ0) (h2 : S1 ρ0 ω = .nx ρ' ω1) : dFn nn np S1 ds ω = .ok (.fz .non) ω1 := by
  subst h0
  simp only [dFn, h1, if_true, h2]
theorem ev_fnX {np nn : Nat} {ds : List D} {C : Str} (h1 : ds.length = np) (h0 : ds.map (fun d => some (.fz d)) ++ List.replicate (nn - np) none = ρ0) (h2 : S1 ρ0 ω = .exn C ρ' ω1) : dFn nn np S1 ds ω = .exn C ω1 := by
  subst h0
  simp only [dFn, h1, if_true, h2]
theorem forL_ix {α β : Type} {t : Tg} {kl : List Nat} {body : DS} (enc : α → D) (env : β → En) (om : β → Om) (step : β → α → β) (P : Nat → β → Prop) : ∀ (xs : List α) (n : Nat) (s : β),
    (∀ i s a, xs[i]? = some a → P (n + i) s → P (n + i + 1) (step s a) ∧ ∃ ρ1 ρ2, tgt t (enc a) (env s) = some ρ1 ∧ (body ρ1 (om s) = .nx ρ2 (om (step s a)) ∨ body ρ1 (om s) = .ct ρ2 (om (step s a))) ∧ kill ρ2 kl = env (step s a)) →
    P n s → forL t kl body (xs.map enc) (env s) (om s) = .nx (env (xs.foldl step s)) (om (xs.foldl step s)) ∧ P (n + xs.length) (xs.foldl step s)
  | [], n, s, _, hs => ⟨rfl, hs⟩
  | a :: xs, n, s, h, hs => by
    obtain ⟨h1, ρ1, ρ2, e1, e2, e3⟩ := h 0 s a rfl hs
    have ih := forL_ix enc env om step P xs (n + 1) (step s a) (fun i s b hb hp => by
      have z := h (i + 1) s b (by simpa using hb)
      rw [show n + (i + 1) = n + 1 + i by omega] at z
      exact z hp) h1
    refine ⟨?_, by rw [List.length_cons, show n + (xs.length + 1) = n + 1 + xs.length by omega]; exact ih.2⟩
    rw [List.map_cons]
    unfold forL
    rw [e1]
    simp only
    rcases e2 with e2 | e2
    · rw [e2]
      simp only
      rw [e3]
      exact ih.1
    · rw [e2]
      simp only
      rw [e3]
      exact ih.1
theorem ev_forL {α β : Type} {t : Tg} {kl : List Nat} {body : DS} (enc : α → D) (env : β → En) (om : β → Om) (step : β → α → β) (P : Nat → β → Prop) (xs : List α) (s : β) (h1 : ρ = env s) (h2 : ω = om s) (h3 : P 0 s)
    (h : ∀ i s a, xs[i]? = some a → P i s → P (i + 1) (step s a) ∧ ∃ ρ1 ρ2, tgt t (enc a) (env s) = some ρ1 ∧ (body ρ1 (om s) = .nx ρ2 (om (step s a)) ∨ body ρ1 (om s) = .ct ρ2 (om (step s a))) ∧ kill ρ2 kl = env (step s a)) :
    forL t kl body (xs.map enc) ρ ω = .nx (env (xs.foldl step s)) (om (xs.foldl step s)) := by
  subst h1 h2
  exact (forL_ix enc env om step P xs 0 s (fun i s a ha hp => by rw [Nat.zero_add] at hp ⊢; exact h i s a ha hp) h3).1
theorem foldl_ix {α β : Type} {step : β → α → β} (P : Nat → β → Prop) : ∀ (xs : List α) (n : Nat) (s : β), P n s → (∀ i s a, xs[i]? = some a → P (n + i) s → P (n + i + 1) (step s a)) → P (n + xs.length) (xs.foldl step s)
  | [], n, _, h, _ => h
  | a :: xs, n, s, h, k => by
    rw [List.length_cons, show n + (xs.length + 1) = n + 1 + xs.length by omega]
    refine foldl_ix P xs (n + 1) _ (k 0 s a rfl h) fun i s b hb hp => ?_
    have z := k (i + 1) s b (by simpa using hb)
    rw [show n + (i + 1) = n + 1 + i by omega] at z
    exact z hp
theorem range_at {n i k : Nat} (h : (List.range n)[i]? = some k) : k = i ∧ i < n := by
  have := (List.getElem?_eq_some_iff.mp h).1
  rw [List.length_range] at this
  rw [List.getElem?_range this] at h
  cases h
  exact ⟨rfl, this⟩
theorem foldl_P {α β : Type} {step : β → α → β} (P : β → Prop) : ∀ (xs : List α) (s : β), P s → (∀ s a, a ∈ xs → P s → P (step s a)) → P (xs.foldl step s)
  | [], _, h, _ => h
  | a :: xs, s, h, k => foldl_P P xs _ (k s a List.mem_cons_self h) fun s b hb => k s b (List.mem_cons_of_mem _ hb)
theorem foldl_app {α β : Type} (F : α → β) (xs : List α) (acc : List β) : xs.foldl (fun acc a => acc ++ [F a]) acc = acc ++ xs.map F := by
  induction xs generalizing acc with
  | nil => simp
  | cons a r ih => rw [List.foldl_cons, ih]; simp
end
end Vd
/-! VP4: nets of gates, their rows. -/
namespace Vd
open PySem L2
inductive Row where
  | no | yes | inp (s n : Str) (p : Int) | and (i j : Int) | xor (i j : Int)
  deriving DecidableEq
def Row.keys : Row → List Key
  | .no => [.inr "no"]
  | .yes => [.inr "yes"]
  | .inp s n p => [.inr "in", .inr s, .inr n, .inl p]
  | .and i j => [.inr "and", .inl i, .inl j]
  | .xor i j => [.inr "xor", .inl i, .inl j]
def Row.enc : Row → D
  | .no => .tup [.str "no"]
  | .yes => .tup [.str "yes"]
  | .inp s n p => .tup [.str "in", .str s, .str n, .int p]
  | .and i j => .tup [.str "and", .int i, .int j]
  | .xor i j => .tup [.str "xor", .int i, .int j]
theorem Row.tkey (r : Row) : r.enc.tkey = some r.keys := by cases r <;> rfl
theorem Row.inj {r s : Row} (h : r.keys = s.keys) : r = s := by
  cases r <;> cases s <;> first
    | rfl
    | (simp only [Row.keys, List.cons.injEq, Sum.inr.injEq, Sum.inl.injEq, and_true, true_and] at h; first | (obtain ⟨h1, h2⟩ := h; first | (obtain ⟨h2, h3⟩ := h2; subst h1 h2 h3; rfl) | (subst h1 h2; rfl)) | (exact absurd h (by decide)) | (exact absurd h.1 (by decide)))
    | (exact absurd (congrArg List.length h) (by decide))
    | (exact absurd (List.cons.inj h).1 (by decide))
def places : Nat → List Row → List (List Key × D)
  | _, [] => []
  | k, r :: rs => (r.keys, .int k) :: places (k + 1) rs
theorem places_app : ∀ (k : Nat) (a b : List Row), places k (a ++ b) = places k a ++ places (k + a.length) b
  | k, [], b => by simp [places]
  | k, r :: a, b => by
    rw [List.cons_append, places, places, places_app (k + 1) a b, List.cons_append, List.length_cons, show k + 1 + a.length = k + (a.length + 1) by omega]
theorem places_len : ∀ (k : Nat) (a : List Row), (places k a).length = a.length
  | _, [] => rfl
  | k, r :: a => by rw [places, List.length_cons, places_len (k + 1) a, List.length_cons]
theorem places_keys : ∀ (k : Nat) (a : List Row), (places k a).map (·.1) = a.map Row.keys
  | _, [] => rfl
  | k, r :: a => by rw [places, List.map_cons, List.map_cons, places_keys (k + 1) a]
theorem places_get : ∀ (k : Nat) (a : List Row) (r : Row), kvGet (places k a) r.keys = if r ∈ a then some (.int ((k + a.idxOf r : Nat) : Int)) else none
  | _, [], r => by simp [places, kvGet_nil]
  | k, s :: a, r => by
    rw [places, kvGet_cons, places_get (k + 1) a r]
    by_cases h : s = r
    · subst h
      simp
    · have h2 : ¬ s.keys = r.keys := fun z => h (Row.inj z)
      rw [if_neg h2]
      have h3 : ¬ r = s := fun z => h z.symm
      simp only [List.mem_cons, h3, false_or]
      split
      · have e : (s :: a).idxOf r = a.idxOf r + 1 := by
          rw [List.idxOf_cons]
          have : (s == r) = false := by simpa using h
          simp [this]
        rw [e, show k + 1 + a.idxOf r = k + (a.idxOf r + 1) by omega]
      · rfl
abbrev netFs (rows : List Row) : List (Str × R) := [("rows", .own (.lst (rows.map Row.enc))), ("places", .own (.dit (places 0 rows)))]
def netOb (rows : List Row) : Ob := .ins "Net" (netFs rows)
theorem net_rows (rows : List Row) : List.lookup (α := Str) "rows" (netFs rows) = some (.own (.lst (rows.map Row.enc))) := rfl
theorem net_places (rows : List Row) : List.lookup (α := Str) "places" (netFs rows) = some (.own (.dit (places 0 rows))) := rfl
theorem net_put (rows : List Row) (m : Str) (h1 : (m == "rows") = false) (h2 : (m == "places") = false) : ((netFs rows).lookup m).isNone = true := by
  simp only [netFs, List.lookup, h1, h2]
  rfl
def putRow (rows : List Row) (r : Row) : List Row := if r ∈ rows then rows else rows ++ [r]
def rowIx (rows : List Row) (r : Row) : Nat := if r ∈ rows then rows.idxOf r else rows.length
section
variable {ρ ρ' : En} {ω ω1 ω2 ω3 : Om} {f k m : DE} {a : DA} {r s : R} {d x y z : D} {o : Out R} {i j n : Nat} {b : Bool}
theorem isin_dit {kvs : List (List Key × D)} {q : List Key} (h : x.tkey = some q) : D.isin x (.dit kvs) = some (kvGet kvs q).isSome := by
  show (x.tkey.map (kvGet kvs)).map (·.isSome) = _
  rw [h]
  rfl
theorem isin_dic {kvs : List (Key × D)} {q : Key} (h : x.key = some q) : D.isin x (.dic kvs) = some (kvGet kvs q).isSome := by
  show (x.key.map (kvGet kvs)).map (·.isSome) = _
  rw [h]
  rfl
theorem q_in {b : Bool} (h : D.isin x y = some b) : dInOp false x y ω = .ok (.fz (.bl b)) ω := by simp only [dInOp, h]; rfl
theorem q_nin {b : Bool} (h : D.isin x y = some b) : dInOp true x y ω = .ok (.fz (.bl (!b))) ω := by simp only [dInOp, h]; rfl
theorem at_dit {kvs : List (List Key × D)} {q : List Key} (h : x.tkey = some q) (h2 : kvGet kvs q = some d) : D.at (.dit kvs) x = some d := by
  show (D.look (.dit kvs) x).join = _
  have e : D.look (.dit kvs) x = x.tkey.map (kvGet kvs) := rfl
  rw [e, h, Option.map_some, h2]
  rfl
theorem at_dic {kvs : List (Key × D)} {q : Key} (h : x.key = some q) (h2 : kvGet kvs q = some d) : D.at (.dic kvs) x = some d := by
  show (D.look (.dic kvs) x).join = _
  have e : D.look (.dic kvs) x = x.key.map (kvGet kvs) := rfl
  rw [e, h, Option.map_some, h2]
  rfl
theorem oPut_dit {kvs : List (List Key × D)} {q : List Key} (h : x.tkey = some q) (hl : kvs.length ≤ 1000000) : oPut (.dit kvs) x y = some (.dit (kvPut kvs q y)) := by
  have hz := sizeLine_eq
  show (if kvs.length < sizeLine then x.tkey.map fun q => D.dit (kvPut kvs q y) else none) = _
  rw [if_pos (by omega), h]
  rfl
theorem oPut_dic {kvs : List (Key × D)} {q : Key} (h : x.key = some q) (hl : kvs.length ≤ 1000000) : oPut (.dic kvs) x y = some (.dic (kvPut kvs q y)) := by
  have hz := sizeLine_eq
  show (if kvs.length < sizeLine then x.key.map fun q => D.dic (kvPut kvs q y) else none) = _
  rw [if_pos (by omega), h]
  rfl
theorem ev_putF {C g : Str} {cs : List Str} {fs : List (Str × R)} {dv d' : D} {v : DE} (h1 : v ρ ω = .ok r ω1) (h2 : r.keep = some dv) (h3 : ρ[i]? = some (some (.fz (.obj n)))) (h4 : ρ[j]? = some (some (.fz y))) (h5 : ω1[n]? = some (.ins C fs)) (h6 : cs.contains C = true) (h7 : fs.lookup g = some (.own d)) (h8 : oPut d y dv = some d') :
    sPutF cs g i j v ρ ω = .nx ρ (ω1.set n (.ins C (putR g (.own d') fs))) := by
  simp only [sPutF, h1, h2, h3, h4, h5, h6, h7, h8, if_true]
theorem ev_mutF {T : String} {C g : Str} {cs : List Str} {fs : List (Str × R)} {op : D → List D → Option D} {d' : D} (h3 : ρ[i]? = some (some (.fz (.obj n)))) (h4 : ρ[j]? = some (some (.fz y))) (h5 : ω[n]? = some (.ins C fs)) (h6 : cs.contains C = true) (h7 : fs.lookup g = some (.own d)) (h8 : tyD T d = true) (h9 : op d [y] = some d') :
    sMutF T cs g i op j ρ ω = .nx ρ (ω.set n (.ins C (putR g (.own d') fs))) := by
  simp only [sMutF, h3, h4, h5, h6, h7, h8, h9, if_true]
theorem ev_fldSetO {C g : Str} {cs : List Str} {fs : List (Str × R)} {v : DE} (h1 : v ρ ω = .ok (.own d) ω1) (h3 : ρ[i]? = some (some (.fz (.obj n)))) (h5 : ω1[n]? = some (.ins C fs)) (h6 : cs.contains C = true) (h7 : fs.length < 1000) : sFldSet cs g true i v ρ ω = .nx ρ (ω1.set n (.ins C (putR g (.own d) fs))) := by
  simp only [sFldSet, h1, h3, h5, h6, h7, and_self, if_true]
theorem ev_fldSetF {C g : Str} {cs : List Str} {fs : List (Str × R)} {v : DE} {w : Bool} (h1 : v ρ ω = .ok (.fz d) ω1) (h3 : ρ[i]? = some (some (.fz (.obj n)))) (h5 : ω1[n]? = some (.ins C fs)) (h6 : cs.contains C = true) (h7 : fs.length < 1000) : sFldSet cs g w i v ρ ω = .nx ρ (ω1.set n (.ins C (putR g (.fz d) fs))) := by
  simp only [sFldSet, h1, h3, h5, h6, h7, and_self, if_true]
theorem ev_make {C : Str} {F : DF} {ds : List D} (h1 : a ρ ω = .ok ds ω1) (h2 : F (.obj ω1.length :: ds) (ω1 ++ [.ins C []]) = .ok (.fz .non) ω2) : dMake C F a ρ ω = .ok (.fz (.obj ω1.length)) ω2 := by
  simp only [dMake, h1, Out.bind, h2]
theorem ev_disT {fs : List (DE × DE)} {ds : List D} {kvs : List (List Key × D)} (h1 : dFlat fs ρ ω = .ok ds ω1) (h2 : mkT ds = some kvs) (h3 : kvs.length ≤ 15) : dDisT fs ρ ω = .ok (.own (.dit (putAll [] kvs))) ω1 := by
  simp only [dDisT, h1, Out.bind, h2, h3, if_true]
theorem ev_disK {fs : List (DE × DE)} {ds : List D} {kvs : List (Key × D)} (h1 : dFlat fs ρ ω = .ok ds ω1) (h2 : mkK ds = some kvs) (h3 : kvs.length ≤ 15) : dDisK fs ρ ω = .ok (.own (.dic (putAll [] kvs))) ω1 := by
  simp only [dDisK, h1, Out.bind, h2, h3, if_true]
theorem ev_isT {T : String} (h1 : f ρ ω = .ok r ω1) (h2 : vw ω1 r.d = x) (h3 : dIsTOp T x ω1 = o) : dIsT T f ρ ω = o := ev_bi h1 h2 h3
end
end Vd
/-! VP5: nets settled: the plain theory. -/
namespace Vd
open PySem L2
abbrev Ins := Str → Str → Int → Int
def getV (found : List Int) (i : Int) : Int := (found[i.toNat]?).getD 0
def rowV (v : Ins) (found : List Int) : Row → Int
  | .no => 0
  | .yes => 1
  | .inp s n p => v s n p
  | .and i j => getV found i * getV found j
  | .xor i j => (getV found i + getV found j) % 2
def settleF (v : Ins) (rows : List Row) : List Int := rows.foldl (fun found r => found ++ [rowV v found r]) []
theorem settle_snoc (v : Ins) (rows : List Row) (r : Row) : settleF v (rows ++ [r]) = settleF v rows ++ [rowV v (settleF v rows) r] := by
  unfold settleF
  rw [List.foldl_append]
  rfl
theorem settle_len (v : Ins) (rows : List Row) : (settleF v rows).length = rows.length := by
  rcases List.eq_nil_or_concat rows with h | ⟨a, r, h⟩
  · subst h; rfl
  · subst h
    rw [List.concat_eq_append, settle_snoc, List.length_append, List.length_append, settle_len v a]
    rfl
termination_by rows.length
decreasing_by simp_all
/-- rows refer to rows ahead of them -/
def rowOk (k : Nat) : Row → Prop
  | .and i j => 0 ≤ i ∧ i < j ∧ j < k
  | .xor i j => 0 ≤ i ∧ i < j ∧ j < k
  | _ => True
def WFr (rows : List Row) : Prop := ∀ k r, rows[k]? = some r → rowOk k r
theorem WFr.snoc {rows : List Row} {r : Row} (h : WFr rows) (hr : rowOk rows.length r) : WFr (rows ++ [r]) := by
  intro k q hq
  rw [List.getElem?_append] at hq
  split at hq
  · exact h k q hq
  · rename_i hk
    have : k - rows.length = 0 := by
      cases e : k - rows.length with
      | zero => rfl
      | succ m => rw [e] at hq; simp at hq
    have e : k = rows.length := by omega
    subst e
    simp at hq
    subst hq
    exact hr
theorem WFr.init {rows : List Row} {r : Row} (h : WFr (rows ++ [r])) : WFr rows ∧ rowOk rows.length r := by
  refine ⟨fun k q hq => h k q ?_, h rows.length r (by simp)⟩
  rw [List.getElem?_append_left (List.getElem?_eq_some_iff.mp hq).1]
  exact hq
theorem getV_app {a b : List Int} {i : Int} (h : i.toNat < a.length) : getV (a ++ b) i = getV a i := by
  unfold getV
  rw [List.getElem?_append_left h]
theorem rowV_app (v : Ins) {a b : List Int} {r : Row} (h : rowOk a.length r) : rowV v (a ++ b) r = rowV v a r := by
  cases r with
  | and i j =>
    obtain ⟨h1, h2, h3⟩ := h
    show getV (a ++ b) i * getV (a ++ b) j = _
    rw [getV_app (by omega), getV_app (by omega)]
    rfl
  | xor i j =>
    obtain ⟨h1, h2, h3⟩ := h
    show (getV (a ++ b) i + getV (a ++ b) j) % 2 = _
    rw [getV_app (by omega), getV_app (by omega)]
    rfl
  | _ => rfl
/-- settled rows, one behind another -/
theorem settle_app (v : Ins) (a : List Row) : ∀ b : List Row, ∃ c, settleF v (a ++ b) = settleF v a ++ c
  | [] => ⟨[], by simp⟩
  | r :: b => by
    have e : a ++ r :: b = (a ++ [r]) ++ b := by simp
    obtain ⟨c, hc⟩ := settle_app v (a ++ [r]) b
    exact ⟨[rowV v (settleF v a) r] ++ c, by rw [e, hc, settle_snoc, List.append_assoc]⟩
theorem settle_get (v : Ins) {rows : List Row} {k : Nat} {r : Row} (h : WFr rows) (hk : rows[k]? = some r) : (settleF v rows)[k]? = some (rowV v (settleF v rows) r) := by
  have hlt : k < rows.length := (List.getElem?_eq_some_iff.mp hk).1
  have e : rows = rows.take k ++ r :: rows.drop (k + 1) := by
    have e1 : rows.drop k = r :: rows.drop (k + 1) := by
      rw [List.drop_eq_getElem_cons hlt]
      rw [List.getElem?_eq_getElem hlt] at hk
      rw [Option.some.inj hk]
    rw [← e1, List.take_append_drop]
  have e2 : rows = (rows.take k ++ [r]) ++ rows.drop (k + 1) := by rw [List.append_assoc]; exact e
  obtain ⟨c, hc⟩ := settle_app v (rows.take k ++ [r]) (rows.drop (k + 1))
  rw [← e2, settle_snoc] at hc
  have hl : (settleF v (rows.take k)).length = k := by rw [settle_len, List.length_take]; omega
  have hok : rowOk (settleF v (rows.take k)).length r := by rw [hl]; exact h k r hk
  rw [hc, List.append_assoc, rowV_app v hok, List.getElem?_append_right (by omega), hl]
  simp
def NV (v : Ins) (rows : List Row) (i : Int) : Int := getV (settleF v rows) i
theorem V_at (v : Ins) {rows : List Row} {k : Nat} {r : Row} (h : WFr rows) (hk : rows[k]? = some r) : NV v rows (k : Int) = rowV v (settleF v rows) r := by
  unfold NV getV
  rw [Int.toNat_natCast, settle_get v h hk]
  rfl
def bit (i : Int) : Prop := i = 0 ∨ i = 1
theorem bit_mul {a b : Int} (ha : bit a) (hb : bit b) : bit (a * b) := by
  rcases ha with rfl | rfl <;> rcases hb with rfl | rfl <;> first | exact .inl rfl | exact .inr rfl
theorem bit_xor {a b : Int} (ha : bit a) (hb : bit b) : bit ((a + b) % 2) := by
  rcases ha with rfl | rfl <;> rcases hb with rfl | rfl <;> first | exact .inl rfl | exact .inr rfl
theorem settle_bits (v : Ins) (hv : ∀ s n p, bit (v s n p)) (rows : List Row) : ∀ x ∈ settleF v rows, bit x := by
  unfold settleF
  refine foldl_P (P := fun found => ∀ x ∈ found, bit x) rows [] (fun x hx => nomatch hx) fun found r hr h x hx => ?_
  have hg : ∀ i, bit (getV found i) := fun i => by
    unfold getV
    cases e : found[i.toNat]? with
    | none => exact .inl rfl
    | some y => exact h y (List.mem_of_getElem? e)
  rcases List.mem_append.mp hx with hx | hx
  · exact h x hx
  · simp at hx
    subst hx
    cases r with
    | no => exact .inl rfl
    | yes => exact .inr rfl
    | inp s n p => exact hv s n p
    | and i j => exact bit_mul (hg i) (hg j)
    | xor i j => exact bit_xor (hg i) (hg j)
theorem V_bit (v : Ins) (hv : ∀ s n p, bit (v s n p)) (rows : List Row) (i : Int) : bit (NV v rows i) := by
  unfold NV getV
  cases e : (settleF v rows)[i.toNat]? with
  | none => exact .inl rfl
  | some y => exact settle_bits v hv rows y (List.mem_of_getElem? e)
/-! ### rows put -/
theorem putRow_len (rows : List Row) (r : Row) : (putRow rows r).length ≤ rows.length + 1 ∧ rows.length ≤ (putRow rows r).length := by
  unfold putRow
  split
  · omega
  · simp
theorem putRow_pre (rows : List Row) (r : Row) : ∃ t, putRow rows r = rows ++ t := by
  unfold putRow
  split
  · exact ⟨[], by simp⟩
  · exact ⟨[r], rfl⟩
theorem rowIx_at (rows : List Row) (r : Row) : (putRow rows r)[rowIx rows r]? = some r := by
  unfold putRow rowIx
  split
  · rename_i h
    rw [List.getElem?_eq_getElem (List.idxOf_lt_length_of_mem h)]
    simp
  · simp
theorem rowIx_lt (rows : List Row) (r : Row) : rowIx rows r < (putRow rows r).length := (List.getElem?_eq_some_iff.mp (rowIx_at rows r)).1
theorem putRow_mem (rows : List Row) (r : Row) : r ∈ putRow rows r := List.mem_of_getElem? (rowIx_at rows r)
theorem putRow_wf {rows : List Row} {r : Row} (h : WFr rows) (hr : rowOk rows.length r) : WFr (putRow rows r) := by
  unfold putRow
  split
  · exact h
  · exact h.snoc hr
theorem putRow_nodup {rows : List Row} {r : Row} (h : rows.Nodup) : (putRow rows r).Nodup := by
  unfold putRow
  split
  · exact h
  · rename_i hr
    rw [List.nodup_append]
    refine ⟨h, by simp, fun a ha b hb => ?_⟩
    simp at hb
    subst hb
    exact fun z => hr (by rw [← z]; exact ha)
theorem V_pre (v : Ins) {a : List Row} (b : List Row) {i : Int} (h : i.toNat < a.length) : NV v (a ++ b) i = NV v a i := by
  obtain ⟨c, hc⟩ := settle_app v a b
  unfold NV
  rw [hc, getV_app (by rw [settle_len]; exact h)]
theorem V_put (v : Ins) {rows : List Row} (r : Row) {i : Int} (h : i.toNat < rows.length) : NV v (putRow rows r) i = NV v rows i := by
  obtain ⟨t, ht⟩ := putRow_pre rows r
  rw [ht, V_pre v t h]
/-- two rows' and, either-or, as the net puts them -/
def lowI (i j : Int) : Int := if j < i then j else i
def highI (i j : Int) : Int := if j > i then j else i
def bothF (rows : List Row) (i j : Int) : Int × List Row :=
  if lowI i j = 0 then (0, rows) else if lowI i j = 1 ∨ lowI i j = highI i j then (highI i j, rows) else ((rowIx rows (.and (lowI i j) (highI i j)) : Nat), putRow rows (.and (lowI i j) (highI i j)))
def differF (rows : List Row) (i j : Int) : Int × List Row :=
  if lowI i j = highI i j then (0, rows) else if lowI i j = 0 then (highI i j, rows) else ((rowIx rows (.xor (lowI i j) (highI i j)) : Nat), putRow rows (.xor (lowI i j) (highI i j)))
def asksF (rows : List Row) (s n : Str) (p : Int) : Int × List Row := ((rowIx rows (.inp s n p) : Nat), putRow rows (.inp s n p))
/-- a net as it grows: well made, the first two rows "no" and "yes" -/
structure NetOk (rows : List Row) : Prop where
  wf : WFr rows
  nd : rows.Nodup
  z0 : rows[0]? = some .no
  z1 : rows[1]? = some .yes
theorem NetOk.two {rows : List Row} (h : NetOk rows) : 2 ≤ rows.length := (List.getElem?_eq_some_iff.mp h.z1).1
theorem netOk0 : NetOk [.no, .yes] := by
  refine ⟨fun k r h => ?_, by decide, rfl, rfl⟩
  match k, h with
  | 0, h => cases h; trivial
  | 1, h => cases h; trivial
  | k + 2, h => simp at h
theorem NetOk.put {rows : List Row} {r : Row} (h : NetOk rows) (hr : rowOk rows.length r) : NetOk (putRow rows r) := by
  obtain ⟨t, ht⟩ := putRow_pre rows r
  have h2 := h.two
  refine ⟨putRow_wf h.wf hr, putRow_nodup h.nd, ?_, ?_⟩
  · rw [ht, List.getElem?_append_left (by omega)]; exact h.z0
  · rw [ht, List.getElem?_append_left (by omega)]; exact h.z1
theorem NetOk.V0 {rows : List Row} (h : NetOk rows) (v : Ins) : NV v rows 0 = 0 := V_at v h.wf (k := 0) h.z0
theorem NetOk.V1 {rows : List Row} (h : NetOk rows) (v : Ins) : NV v rows 1 = 1 := V_at v h.wf (k := 1) h.z1
/-- what a step of a net does: rows ahead stay, the new place is one of a row -/
structure Step (v : Ins) (rows : List Row) (x : Int × List Row) (b : Int) : Prop where
  ok : NetOk x.2
  pre : ∃ t, x.2 = rows ++ t
  len : x.2.length ≤ rows.length + 1
  lo : 0 ≤ x.1
  hi : x.1 < x.2.length
  val : NV v x.2 x.1 = b
section
variable {v : Ins} {rows : List Row} {i j : Int}
theorem lh (i j : Int) : (lowI i j = i ∧ highI i j = j ∧ i ≤ j) ∨ (lowI i j = j ∧ highI i j = i ∧ j ≤ i) := by
  unfold lowI highI
  by_cases h : j < i
  · rw [if_pos h, if_neg (by omega)]
    exact .inr ⟨rfl, rfl, by omega⟩
  · rw [if_neg h]
    by_cases h2 : j > i
    · rw [if_pos h2]
      exact .inl ⟨rfl, rfl, by omega⟩
    · rw [if_neg h2]
      have : i = j := by omega
      subst this
      exact .inl ⟨rfl, rfl, by omega⟩
theorem mul_lh (i j : Int) (f : Int → Int) : f (lowI i j) * f (highI i j) = f i * f j := by
  rcases lh i j with ⟨h1, h2, _⟩ | ⟨h1, h2, _⟩ <;> rw [h1, h2]
  exact Int.mul_comm _ _
theorem add_lh (i j : Int) (f : Int → Int) : f (lowI i j) + f (highI i j) = f i + f j := by
  rcases lh i j with ⟨h1, h2, _⟩ | ⟨h1, h2, _⟩ <;> rw [h1, h2]
  exact Int.add_comm _ _
theorem step_put (hn : NetOk rows) {r : Row} (hr : rowOk rows.length r) : Step v rows ((rowIx rows r : Nat), putRow rows r) (rowV v (settleF v (putRow rows r)) r) := by
  have hok := hn.put hr
  exact ⟨hok, putRow_pre rows r, (putRow_len rows r).1, by simp, by have := rowIx_lt rows r; simp; omega, V_at v hok.wf (rowIx_at rows r)⟩
theorem step_asks (hn : NetOk rows) (s n : Str) (p : Int) : Step v rows (asksF rows s n p) (v s n p) := step_put (v := v) (r := .inp s n p) hn trivial
theorem step_both (hn : NetOk rows) (hv : ∀ s n p, bit (v s n p)) (hi : 0 ≤ i ∧ i < rows.length) (hj : 0 ≤ j ∧ j < rows.length) : Step v rows (bothF rows i j) (NV v rows i * NV v rows j) := by
  have h2 := hn.two
  unfold bothF
  have hl := lh i j
  rw [← mul_lh i j]
  split
  · rename_i h
    refine ⟨hn, ⟨[], by simp⟩, by simp, by simp, by simp; omega, ?_⟩
    show NV v rows 0 = _
    rw [h, hn.V0]
    simp
  · rename_i h0
    split
    · rename_i h
      refine ⟨hn, ⟨[], by simp⟩, by simp, by simp; omega, by simp; omega, ?_⟩
      show NV v rows (highI i j) = _
      rcases h with h | h
      · rw [h, hn.V1]
        simp
      · rw [h]
        rcases V_bit v hv rows (highI i j) with e | e <;> rw [e] <;> rfl
    · rename_i h
      have z := step_put (v := v) (r := .and (lowI i j) (highI i j)) hn ⟨by omega, by omega, by omega⟩
      have e : rowV v (settleF v (putRow rows (.and (lowI i j) (highI i j)))) (.and (lowI i j) (highI i j)) = NV v rows (lowI i j) * NV v rows (highI i j) := by
        show NV v (putRow rows _) (lowI i j) * NV v (putRow rows _) (highI i j) = _
        rw [V_put v _ (by omega), V_put v _ (by omega)]
      rw [e] at z
      exact z
theorem step_differ (hn : NetOk rows) (hv : ∀ s n p, bit (v s n p)) (hi : 0 ≤ i ∧ i < rows.length) (hj : 0 ≤ j ∧ j < rows.length) : Step v rows (differF rows i j) ((NV v rows i + NV v rows j) % 2) := by
  have h2 := hn.two
  unfold differF
  have hl := lh i j
  rw [← add_lh i j]
  split
  · rename_i h
    refine ⟨hn, ⟨[], by simp⟩, by simp, by simp, by simp; omega, ?_⟩
    show NV v rows 0 = _
    rw [h, hn.V0]
    rcases V_bit v hv rows (highI i j) with e | e <;> rw [e] <;> rfl
  · rename_i h0
    split
    · rename_i h
      refine ⟨hn, ⟨[], by simp⟩, by simp, by simp; omega, by simp; omega, ?_⟩
      show NV v rows (highI i j) = _
      rw [h, hn.V0]
      rcases V_bit v hv rows (highI i j) with e | e <;> rw [e] <;> rfl
    · rename_i h
      have z := step_put (v := v) (r := .xor (lowI i j) (highI i j)) hn ⟨by omega, by omega, by omega⟩
      have e : rowV v (settleF v (putRow rows (.xor (lowI i j) (highI i j)))) (.xor (lowI i j) (highI i j)) = (NV v rows (lowI i j) + NV v rows (highI i j)) % 2 := by
        show (NV v (putRow rows _) (lowI i j) + NV v (putRow rows _) (highI i j)) % 2 = _
        rw [V_put v _ (by omega), V_put v _ (by omega)]
      rw [e] at z
      exact z
end
end Vd
/-! VP6: bits handed in, as dicts. -/
namespace Vd
open PySem L2
abbrev Bit := Str × Str × Int
abbrev InsL := List (Bit × Int)
def bitK (b : Bit) : List Key := [.inr b.1, .inr b.2.1, .inl b.2.2]
theorem bitK_inj {a b : Bit} (h : bitK a = bitK b) : a = b := by
  obtain ⟨a1, a2, a3⟩ := a
  obtain ⟨b1, b2, b3⟩ := b
  simp only [bitK, List.cons.injEq, Sum.inr.injEq, Sum.inl.injEq, and_true] at h
  obtain ⟨h1, h2, h3⟩ := h
  subst h1 h2 h3
  rfl
def insD (ins : InsL) : List (List Key × D) := ins.map fun e => (bitK e.1, .int e.2)
def insGet (ins : InsL) (b : Bit) : Option Int := (ins.find? fun e => decide (e.1 = b)).map (·.2)
def insV (ins : InsL) : Ins := fun s n p => (insGet ins (s, n, p)).getD 0
theorem insGet_cons (e : Bit × Int) (r : InsL) (b : Bit) : insGet (e :: r) b = if e.1 = b then some e.2 else insGet r b := by
  unfold insGet
  by_cases h : e.1 = b <;> simp [List.find?_cons, h]
theorem insD_get (ins : InsL) (b : Bit) : kvGet (insD ins) (bitK b) = (insGet ins b).map D.int := by
  induction ins with
  | nil => rfl
  | cons e r ih =>
    have e1 : insD (e :: r) = (bitK e.1, .int e.2) :: insD r := rfl
    rw [e1, kvGet_cons, insGet_cons, ih]
    by_cases h : e.1 = b
    · simp [h]
    · have h2 : ¬ bitK e.1 = bitK b := fun z => h (bitK_inj z)
      simp [h, h2]
theorem insGet_none {ins : InsL} {b : Bit} : insGet ins b = none ↔ b ∉ ins.map (·.1) := by
  induction ins with
  | nil => simp [insGet]
  | cons e r ih =>
    rw [insGet_cons]
    by_cases h : e.1 = b
    · simp [h]
    · simp only [h, if_false, ih, List.map_cons, List.mem_cons, not_or]
      exact ⟨fun z => ⟨fun w => h w.symm, z⟩, fun z => z.2⟩
theorem insGet_app {a c : InsL} {b : Bit} : insGet (a ++ c) b = (insGet a b).or (insGet c b) := by
  induction a with
  | nil => simp [insGet]
  | cons e r ih =>
    rw [List.cons_append, insGet_cons, insGet_cons, ih]
    by_cases h : e.1 = b <;> simp [h]
theorem insGet_mem {ins : InsL} {b : Bit} {x : Int} (h : insGet ins b = some x) : (b, x) ∈ ins := by
  unfold insGet at h
  obtain ⟨e, h1, h2⟩ := Option.map_eq_some_iff.mp h
  have h3 := List.find?_some h1
  have h4 : e.1 = b := by simpa using h3
  have h5 := List.mem_of_find?_eq_some h1
  subst h2
  rw [← h4]
  exact h5
theorem insD_keys (ins : InsL) : (insD ins).map (·.1) = ins.map fun e => bitK e.1 := by
  unfold insD
  rw [List.map_map]
  rfl
theorem insD_new {ins : InsL} {b : Bit} (h : insGet ins b = none) (x : Int) : kvPut (insD ins) (bitK b) (.int x) = insD (ins ++ [(b, x)]) := by
  rw [kvPut_new]
  · unfold insD
    rw [List.map_append]
    rfl
  · rw [← kvGet_none, insD_get, h]
    rfl
/-- the rows' bits are all handed in -/
def Cov (ins : InsL) (rows : List Row) : Prop := ∀ s n p, Row.inp s n p ∈ rows → (insGet ins (s, n, p)).isSome = true
theorem rev_ind {α : Type} {P : List α → Prop} (h0 : P []) (h1 : ∀ l a, P l → P (l ++ [a])) (l : List α) : P l := by
  have z : ∀ m : List α, P m.reverse := fun m => by
    induction m with
    | nil => exact h0
    | cons a r ih =>
      rw [List.reverse_cons]
      exact h1 _ _ ih
  have := z l.reverse
  rwa [List.reverse_reverse] at this
/-- settled with more bits: the same -/
theorem settle_more {ins : InsL} {c : InsL} : ∀ (rows : List Row), Cov ins rows → settleF (insV (ins ++ c)) rows = settleF (insV ins) rows := by
  intro rows
  refine rev_ind (P := fun rows => Cov ins rows → settleF (insV (ins ++ c)) rows = settleF (insV ins) rows) (fun _ => rfl) (fun rows r ih => ?_) rows
  · intro h
    have h1 : Cov ins rows := fun s n p hm => h s n p (List.mem_append_left _ hm)
    rw [settle_snoc, settle_snoc, ih h1]
    congr 2
    cases r with
    | inp s n p =>
      show insV (ins ++ c) s n p = insV ins s n p
      unfold insV
      rw [insGet_app]
      have z := h s n p (by simp)
      cases e : insGet ins (s, n, p) with
      | none => rw [e] at z; cases z
      | some x => rfl
    | _ => rfl
theorem insV_bit {ins : InsL} (h : ∀ e ∈ ins, bit e.2) (s n : Str) (p : Int) : bit (insV ins s n p) := by
  unfold insV
  cases e : insGet ins (s, n, p) with
  | none => exact .inl rfl
  | some x => exact h _ (insGet_mem e)
end Vd
/-! VP7: == of data, sorted. -/
namespace Vd
open PySem L2
mutual
/-- its texts' code points are such -/
def D.sok : D → Bool
  | .str s => PyData.strOk s
  | .lst xs => soks xs
  | .tup xs => soks xs
  | _ => true
def soks : List D → Bool
  | [] => true
  | d :: ds => d.sok && soks ds
end
mutual
theorem py_can : ∀ {d : D} {p : PyData}, d.py = some p → d.sok = true → p.canLay0 = true
  | .non, _, h, _ => by cases h; rfl
  | .bl _, _, h, _ => by cases h; rfl
  | .int _, _, h, _ => by cases h; rfl
  | .str s, _, h, k => by
    cases h
    rw [PyData.canLay0]
    exact k
  | .lst xs, _, h, k => by
    obtain ⟨ps, h1, h2⟩ := Option.map_eq_some_iff.mp h
    subst h2
    rw [PyData.canLay0]
    exact pys_can h1 k
  | .tup xs, _, h, k => by
    obtain ⟨ps, h1, h2⟩ := Option.map_eq_some_iff.mp h
    subst h2
    rw [PyData.canLay0]
    exact pys_can h1 k
  | .ktp _, _, h, _ => by cases h
  | .scr _, _, h, _ => by cases h
  | .dic _, _, h, _ => by cases h
  | .dit _, _, h, _ => by cases h
  | .obj _, _, h, _ => by cases h
theorem pys_can : ∀ {ds : List D} {ps : List PyData}, pys ds = some ps → soks ds = true → PyData.canLayAll0 ps = true
  | [], _, h, _ => by cases h; rfl
  | d :: ds, _, h, k => by
    rw [pys] at h
    rw [soks, Bool.and_eq_true] at k
    split at h
    · rename_i x xs e1 e2
      cases h
      rw [PyData.canLayAll0, py_can e1 k.1, pys_can e2 k.2]
      rfl
    · cases h
end
theorem soks_map {α : Type} {f : α → D} : ∀ {xs : List α}, (∀ a ∈ xs, (f a).sok = true) → soks (xs.map f) = true
  | [], _ => rfl
  | a :: xs, h => by
    rw [List.map_cons, soks, h a List.mem_cons_self, soks_map fun b hb => h b (List.mem_cons_of_mem _ hb)]
    rfl
theorem sok_sx {l : List Nat} (h : ∀ c ∈ l, c < 1114112) : PyData.strOk (sx l) = true := by
  unfold PyData.strOk sx
  rw [Array.all_eq_true']
  intro c hc
  have := h c (by simpa using hc)
  simpa using this
theorem depthAll_le {n : Nat} : ∀ {ps : List PyData}, (∀ p ∈ ps, p.depth ≤ n) → PyData.depthAll ps ≤ n
  | [], _ => by simp [PyData.depthAll]
  | p :: ps, h => by
    rw [PyData.depthAll]
    have h1 := h p List.mem_cons_self
    have h2 := depthAll_le (ps := ps) fun q hq => h q (List.mem_cons_of_mem _ hq)
    omega
theorem shaped_of {d : D} {p : PyData} (h : d.py = some p) (hk : d.sok = true) (hd : p.depth ≤ 64) : SeqAt.shaped p = true := by
  unfold SeqAt.shaped
  rw [py_can h hk, decide_eq_true hd]
  rfl
theorem eq_py {a b : D} {p q : PyData} (hs : a.sc = none) (ha : a.py = some p) (hb : b.py = some q) (ka : a.sok = true) (kb : b.sok = true) (hp : p.depth ≤ 64) (hq : q.depth ≤ 64) : D.eq a b = some (PyData.eqv p q) := by
  have e : D.eq a b = (match a.py, b.py with
    | some x, some y => if (SeqAt.shaped x && SeqAt.shaped y) = true then some (PyData.eqv x y) else none
    | _, _ => none) := by
    unfold D.eq
    rw [hs]
    all_goals (cases b.sc <;> rfl)
  rw [e, ha, hb]
  simp only [shaped_of ha ka hp, shaped_of hb kb hq, Bool.and_self, if_true]
theorem eq_self {a : D} {p : PyData} (hs : a.sc = none) (ha : a.py = some p) (ka : a.sok = true) (hp : p.depth ≤ 64) : D.eq a a = some true := by
  rw [eq_py hs ha ha ka ka hp hp, SeqAt.eqv_refl p (py_can ha ka)]
theorem pys_map {α : Type} {f : α → D} {k : α → PyData} (h : ∀ a, (f a).py = some (k a)) : ∀ xs : List α, pys (xs.map f) = some (xs.map k)
  | [] => rfl
  | a :: xs => by rw [List.map_cons, pys, h a, pys_map h xs]; rfl
def Row.pyd : Row → PyData
  | .no => .tuple [.str "no"]
  | .yes => .tuple [.str "yes"]
  | .inp s n p => .tuple [.str "in", .str s, .str n, .int p]
  | .and i j => .tuple [.str "and", .int i, .int j]
  | .xor i j => .tuple [.str "xor", .int i, .int j]
theorem Row.py (r : Row) : r.enc.py = some r.pyd := by cases r <;> rfl
theorem Row.dep (r : Row) : r.pyd.depth ≤ 1 := by cases r <;> simp [Row.pyd, PyData.depth, PyData.depthAll]
def Row.sok : Row → Prop
  | .inp s n _ => PyData.strOk s = true ∧ PyData.strOk n = true
  | _ => True
theorem Row.sokD {r : Row} (h : r.sok) : r.enc.sok = true := by
  cases r with
  | inp s n p =>
    obtain ⟨h1, h2⟩ := h
    show (PyData.strOk "in" && (PyData.strOk s && (PyData.strOk n && true))) = true
    rw [h1, h2]
    decide +kernel
  | no => decide +kernel
  | yes => decide +kernel
  | and i j =>
    show (PyData.strOk "and" && (true && (true && true))) = true
    decide +kernel
  | xor i j =>
    show (PyData.strOk "xor" && (true && (true && true))) = true
    decide +kernel
theorem row_self {r : Row} (h : r.sok) : D.eq r.enc r.enc = some true := eq_self (by cases r <;> rfl) r.py (Row.sokD h) (by have := r.dep; omega)
theorem rows_self {rows : List Row} (h : ∀ r ∈ rows, r.sok) : D.eq (.lst (rows.map Row.enc)) (.lst (rows.map Row.enc)) = some true := by
  refine eq_self (p := .list (rows.map Row.pyd)) rfl ?_ ?_ ?_
  · show (pys (rows.map Row.enc)).map PyData.list = _
    rw [pys_map Row.py]
    rfl
  · exact soks_map fun r hr => Row.sokD (h r hr)
  · rw [PyData.depth]
    have := depthAll_le (n := 1) (ps := rows.map Row.pyd) fun p hp => by
      obtain ⟨r, _, rfl⟩ := List.mem_map.mp hp
      exact r.dep
    omega
theorem nameF_codes (number : Int) (k : Nat) : ∀ c ∈ nameF number k, 97 ≤ c ∧ c ≤ 122 := by
  have hsg : 97 ≤ signF number k ∧ signF number k ≤ 122 := by unfold signF; omega
  have hst : ∀ c ∈ stemF number, 97 ≤ c ∧ c ≤ 122 := fun c hc => by
    obtain ⟨j, _, rfl⟩ := List.mem_map.mp hc
    omega
  intro c hc
  unfold nameF at hc
  split at hc
  · rcases List.mem_append.mp hc with hc | hc
    · rcases List.mem_append.mp hc with hc | hc
      · exact hst c (List.mem_of_mem_take hc)
      · simp at hc; subst hc; exact hsg
    · exact hst c (List.mem_of_mem_drop hc)
  · rcases List.mem_append.mp hc with hc | hc
    · have := List.eq_of_mem_replicate hc
      omega
    · simp at hc; subst hc; exact hsg
theorem nameF_sok (number : Int) (k : Nat) : PyData.strOk (sx (nameF number k)) = true := sok_sx fun c hc => by have := nameF_codes number k c hc; omega
/-! ### sorted: what stands in it -/
theorem zipD_map {α : Type} (f : α → D) (k : α → PyData) : ∀ xs : List α, zipD (xs.map f) (xs.map k) = xs.map fun a => (f a, k a)
  | [] => rfl
  | a :: xs => by rw [List.map_cons, List.map_cons, zipD, zipD_map f k xs, List.map_cons]
theorem o_sort {α : Type} {f : α → D} {k : α → PyData} {ω : Om} (h : ∀ a, (f a).py = some (k a)) (xs : List α) (h1 : alikeB (xs.map k) = true) (h2 : sortB (xs.map k) = true) (h3 : ∀ a, (k a).depth ≤ 8) :
    dSortOp (.lst (xs.map f)) ω = .ok (.own (.lst ((xs.mergeSort (PySem.W.dataLe false k)).map f))) ω := by
  have e1 : (D.lst (xs.map f)).sqL = some (xs.map f) := rfl
  have h4 : ((xs.map k).all fun p => decide (p.depth ≤ 8)) = true := by
    rw [List.all_eq_true]
    intro p hp
    obtain ⟨a, _, rfl⟩ := List.mem_map.mp hp
    exact decide_eq_true (h3 a)
  simp only [dSortOp, e1, pys_map h xs, h1, h2, h4, Bool.and_self, if_true]
  have e2 : sortD (xs.map f) (xs.map k) = (xs.mergeSort (PySem.W.dataLe false k)).map f := by
    unfold sortD
    rw [zipD_map, ← map_sort (f := fun a => (f a, k a)) (k := fun b : D × PyData => b.2), List.map_map]
    rfl
  rw [e2]
theorem alikeB_of {α : Type} {k : α → PyData} (h : ∀ a b, PySem.W.alike (k a) (k b) = true) (xs : List α) : alikeB (xs.map k) = true := by
  unfold alikeB
  rw [List.all_eq_true]
  intro p hp
  obtain ⟨a, _, rfl⟩ := List.mem_map.mp hp
  rw [List.all_eq_true]
  intro q hq
  obtain ⟨b, _, rfl⟩ := List.mem_map.mp hq
  exact h a b
end Vd
namespace K55
open PySem PySem.Spec PyProof.Rows L2 Vd
abbrev PR : Program := PySem.Challenge.pw_beatwright_k55_gates_put
def top (i : Nat) : Stmt := PR.main.body.getD i (.Pass ⟨0, 0, 0, 0⟩)
def sub (s : Stmt) (i : Nat) : Stmt := match s with
  | .ClassDef _ _ _ b .. => b.getD i (.Pass ⟨0, 0, 0, 0⟩)
  | _ => .Pass ⟨0, 0, 0, 0⟩
abbrev s_f_law_mix : Stmt := (top 4)
abbrev N_f_law_mix : List Str := ["number", "salt", "mixed"]
theorem sc_f_law_mix : FnScope N_f_law_mix ["number", "salt"] (defScope s_f_law_mix) := ⟨rfl, rfl, rfl, by decide +kernel, rfl, by decide +kernel, by decide +kernel⟩
abbrev s_f_Net_init : Stmt := (sub (top 1) 0)
abbrev N_f_Net_init : List Str := ["self"]
theorem sc_f_Net_init : FnScope N_f_Net_init ["self"] (defScope s_f_Net_init) := ⟨rfl, rfl, rfl, by decide +kernel, rfl, by decide +kernel, by decide +kernel⟩
abbrev s_f_Net_told : Stmt := (sub (top 1) 5)
abbrev N_f_Net_told : List Str := ["self"]
theorem sc_f_Net_told : FnScope N_f_Net_told ["self"] (defScope s_f_Net_told) := ⟨rfl, rfl, rfl, by decide +kernel, rfl, by decide +kernel, by decide +kernel⟩
abbrev s_f_law_settled : Stmt := (top 7)
abbrev N_f_law_settled : List Str := ["rows", "ins", "found", "row"]
theorem sc_f_law_settled : FnScope N_f_law_settled ["rows", "ins"] (defScope s_f_law_settled) := ⟨rfl, rfl, rfl, by decide +kernel, rfl, by decide +kernel, by decide +kernel⟩
abbrev s_f_law_cell : Stmt := (top 3)
abbrev N_f_law_cell : List Str := ["script", "k"]
theorem sc_f_law_cell : FnScope N_f_law_cell ["script", "k"] (defScope s_f_law_cell) := ⟨rfl, rfl, rfl, by decide +kernel, rfl, by decide +kernel, by decide +kernel⟩
abbrev s_f_Net_put : Stmt := (sub (top 1) 1)
abbrev N_f_Net_put : List Str := ["self", "row"]
theorem sc_f_Net_put : FnScope N_f_Net_put ["self", "row"] (defScope s_f_Net_put) := ⟨rfl, rfl, rfl, by decide +kernel, rfl, by decide +kernel, by decide +kernel⟩
abbrev s_f_Net_asked : Stmt := (sub (top 1) 2)
abbrev N_f_Net_asked : List Str := ["self", "sort", "name", "place"]
theorem sc_f_Net_asked : FnScope N_f_Net_asked ["self", "sort", "name", "place"] (defScope s_f_Net_asked) := ⟨rfl, rfl, rfl, by decide +kernel, rfl, by decide +kernel, by decide +kernel⟩
abbrev s_f_law_names : Stmt := (top 5)
abbrev N_f_law_names : List Str := ["number", "many", "letters", "first", "step", "size", "at", "k", "stem", "names", "sign"]
theorem sc_f_law_names : FnScope N_f_law_names ["number", "many"] (defScope s_f_law_names) := ⟨rfl, rfl, rfl, by decide +kernel, rfl, by decide +kernel, by decide +kernel⟩
abbrev s_f_Net_differ : Stmt := (sub (top 1) 4)
abbrev N_f_Net_differ : List Str := ["self", "i", "j", "low", "high"]
theorem sc_f_Net_differ : FnScope N_f_Net_differ ["self", "i", "j"] (defScope s_f_Net_differ) := ⟨rfl, rfl, rfl, by decide +kernel, rfl, by decide +kernel, by decide +kernel⟩
abbrev s_f_Net_both : Stmt := (sub (top 1) 3)
abbrev N_f_Net_both : List Str := ["self", "i", "j", "low", "high"]
theorem sc_f_Net_both : FnScope N_f_Net_both ["self", "i", "j"] (defScope s_f_Net_both) := ⟨rfl, rfl, rfl, by decide +kernel, rfl, by decide +kernel, by decide +kernel⟩
abbrev s_f_law_deed : Stmt := (top 9)
abbrev N_f_law_deed : List Str := ["net", "number", "known", "ins", "truth", "way", "one", "other", "names", "bit"]
theorem sc_f_law_deed : FnScope N_f_law_deed ["net", "number", "known", "ins", "truth"] (defScope s_f_law_deed) := ⟨rfl, rfl, rfl, by decide +kernel, rfl, by decide +kernel, by decide +kernel⟩
abbrev s_f_law_place : Stmt := (top 8)
abbrev N_f_law_place : List Str := ["found", "rows"]
theorem sc_f_law_place : FnScope N_f_law_place ["found", "rows"] (defScope s_f_law_place) := ⟨rfl, rfl, rfl, by decide +kernel, rfl, by decide +kernel, by decide +kernel⟩
abbrev s_f_law : Stmt := (top 10)
abbrev N_f_law : List Str := ["script", "truth", "net", "known", "ins", "first", "cell", "rows", "signs", "place", "bit"]
theorem sc_f_law : FnScope N_f_law ["script"] (defScope s_f_law) := ⟨rfl, rfl, rfl, by decide +kernel, rfl, by decide +kernel, by decide +kernel⟩
/-! ### mirrors -/
def f_law_mix : DF := dFn 3 2 ((sSeq (sSet 2 (dOp2 dModOp (dOp2 dAddOp (dOp2 dAddOp (dOp2 dMulOp (dVar 0) (dInt 69621)) (dOp2 dMulOp (dVar 1) (dInt 16807))) (dInt 1013)) (dInt 2147483647)))
    (sRet (dOp2 dModOp (dOp2 dMulOp (dVar 2) (dVar 2)) (dInt 2147483629)))))
def f_Net_init : DF := dFn 1 1 ((sSeq (sFldSet ["Net"] "rows" true 0 (dLst (dCons (dTup (dCons (dStr "no") dNil)) (dCons (dTup (dCons (dStr "yes") dNil)) dNil))))
    (sFldSet ["Net"] "places" true 0 (dDisT [((dTup (dCons (dStr "no") dNil)), (dInt 0)), ((dTup (dCons (dStr "yes") dNil)), (dInt 1))]))))
def f_Net_told : DF := dFn 1 1 ((sRet (dBi dListOp2 (dFld ["Net"] "rows" (dVar 0)))))
def f_law_settled : DF := dFn 4 2 ((sSeq (sSet 2 (dLst dNil))
    (sSeq (sFor (.nm 3) [3] (iSeq (dVar 0))
    (sIf (dTv (dOp2 dEqOp (dOp2 dAtOp (dVar 3) (dInt 0)) (dStr "in")))
    (sMut "list" 2 oAppend (dCons (dOp2 dAtOp (dVar 1) (dTup (dCons (dOp2 dAtOp (dVar 3) (dInt 1)) (dCons (dOp2 dAtOp (dVar 3) (dInt 2)) (dCons (dOp2 dAtOp (dVar 3) (dInt 3)) dNil))))) dNil))
    (sIf (dTv (dOp2 dEqOp (dOp2 dAtOp (dVar 3) (dInt 0)) (dStr "and")))
    (sMut "list" 2 oAppend (dCons (dOp2 dMulOp (dOp2 dAtOp (dVar 2) (dOp2 dAtOp (dVar 3) (dInt 1))) (dOp2 dAtOp (dVar 2) (dOp2 dAtOp (dVar 3) (dInt 2)))) dNil))
    (sIf (dTv (dOp2 dEqOp (dOp2 dAtOp (dVar 3) (dInt 0)) (dStr "xor")))
    (sMut "list" 2 oAppend (dCons (dOp2 dModOp (dOp2 dAddOp (dOp2 dAtOp (dVar 2) (dOp2 dAtOp (dVar 3) (dInt 1))) (dOp2 dAtOp (dVar 2) (dOp2 dAtOp (dVar 3) (dInt 2)))) (dInt 2)) dNil))
    (sMut "list" 2 oAppend (dCons (dBm "list" oIndex (dLst (dCons (dStr "no") (dCons (dStr "yes") dNil))) (dCons (dOp2 dAtOp (dVar 3) (dInt 0)) dNil)) dNil))))))
    (sRet (dVar 2)))))
def f_law_cell : DF := dFn 2 2 ((sSeq (sIf (dTv (dOp2 dLtOp (dVar 1) (dBi dLenOp (dVar 0))))
    (sRet (dOp2 dModOp (dOp2 dAtOp (dVar 0) (dVar 1)) (dInt 1000000007)))
    sNext)
    (sRet (dOp2 dModOp (dOp2 dMulOp (dOp2 dMulOp (dVar 1) (dVar 1)) (dInt 7919)) (dInt 1000003)))))
def f_Net_put : DF := dFn 2 2 ((sSeq (sIf (dTv (dOp2 (dInOp true) (dVar 1) (dFld ["Net"] "places" (dVar 0))))
    (sSeq (sPutF ["Net"] "places" 0 1 (dBi dLenOp (dFld ["Net"] "rows" (dVar 0))))
    (sMutF "list" ["Net"] "rows" 0 oAppend 1))
    sNext)
    (sRet (dOpV dAtOp (dFld ["Net"] "places" (dVar 0)) 1))))
def f_Net_asked : DF := dFn 4 4 ((sRet (dMeth "Net" "put" f_Net_put (dVar 0) (dCons (dTup (dCons (dStr "in") (dCons (dVar 1) (dCons (dVar 2) (dCons (dVar 3) dNil))))) dNil))))
def f_law_names : DF := dFn 11 2 ((sSeq (sSet 2 (dStr "abcdefghijklmnopqrstuvwxyz"))
    (sSeq (sSet 3 (dOp2 dModOp (dVar 0) (dInt 26)))
    (sSeq (sSet 4 (dOp2 dAtOp (dLst (dCons (dInt 1) (dCons (dInt 3) (dCons (dInt 5) (dCons (dInt 7) (dCons (dInt 9) (dCons (dInt 11) (dCons (dInt 15) (dCons (dInt 17) dNil))))))))) (dOp2 dModOp (dOp2 dDivOp (dVar 0) (dInt 26)) (dInt 8))))
    (sSeq (sSet 5 (dOp2 dAddOp (dInt 1) (dOp2 dModOp (dOp2 dDivOp (dVar 0) (dInt 208)) (dInt 8))))
    (sSeq (sSet 6 (dOp2 dModOp (dOp2 dDivOp (dVar 0) (dInt 1664)) (dVar 5)))
    (sSeq (sSet 8 (dBm "str" oJoin (dStr "") (dCons (dLc (.nm 7) (iRange1 (dCons (dVar 5) dNil)) dYes (dOp2 dAtOp (dVar 2) (dOp2 dModOp (dCall f_law_mix (dCons (dVar 0) (dCons (dOp2 dAddOp (dInt 20) (dVar 7)) dNil))) (dInt 26)))) dNil)))
    (sSeq (sSet 9 (dLst dNil))
    (sSeq (sFor (.nm 7) [7, 10] (iRange1 (dCons (dVar 1) dNil))
    (sSeq (sSet 10 (dOp2 dAtOp (dVar 2) (dOp2 dModOp (dOp2 dAddOp (dVar 3) (dOp2 dMulOp (dVar 7) (dVar 4))) (dInt 26))))
    (sIf (dTv (dOp2 dEqOp (dOp2 dModOp (dOp2 dDivOp (dVar 0) (dInt 13312)) (dInt 2)) (dInt 0)))
    (sMut "list" 9 oAppend (dCons (dOp2 dAddOp (dOp2 dAddOp (dSl (dVar 8) dNoPart (dPart (dVar 6))) (dVar 10)) (dSl (dVar 8) (dPart (dOp2 dAddOp (dVar 6) (dInt 1))) dNoPart)) dNil))
    (sMut "list" 9 oAppend (dCons (dOp2 dAddOp (dOp2 dMulOp (dOp2 dAtOp (dVar 2) (dVar 3)) (dOp2 dModOp (dVar 7) (dInt 4))) (dVar 10)) dNil)))))
    (sRet (dVar 9)))))))))))
def f_Net_differ : DF := dFn 5 3 ((sSeq (sSet 3 (dBa dMin2Op (dCons (dVar 1) (dCons (dVar 2) dNil))))
    (sSeq (sSet 4 (dBa dMax2Op (dCons (dVar 1) (dCons (dVar 2) dNil))))
    (sSeq (sIf (dTv (dOp2 dEqOp (dVar 3) (dVar 4)))
    (sRet (dInt 0))
    sNext)
    (sSeq (sIf (dTv (dOp2 dEqOp (dVar 3) (dInt 0)))
    (sRet (dVar 4))
    sNext)
    (sRet (dMeth "Net" "put" f_Net_put (dVar 0) (dCons (dTup (dCons (dStr "xor") (dCons (dVar 3) (dCons (dVar 4) dNil)))) dNil))))))))
def f_Net_both : DF := dFn 5 3 ((sSeq (sSet 3 (dBa dMin2Op (dCons (dVar 1) (dCons (dVar 2) dNil))))
    (sSeq (sSet 4 (dBa dMax2Op (dCons (dVar 1) (dCons (dVar 2) dNil))))
    (sSeq (sIf (dTv (dOp2 dEqOp (dVar 3) (dInt 0)))
    (sRet (dInt 0))
    sNext)
    (sSeq (sIf (dOrT (dTv (dOp2 dEqOp (dVar 3) (dInt 1))) (dTv (dOp2 dEqOp (dVar 3) (dVar 4))))
    (sRet (dVar 4))
    sNext)
    (sRet (dMeth "Net" "put" f_Net_put (dVar 0) (dCons (dTup (dCons (dStr "and") (dCons (dVar 3) (dCons (dVar 4) dNil)))) dNil))))))))
def f_law_deed : DF := dFn 10 5 ((sSeq (sSet 5 (dOp2 dModOp (dVar 1) (dInt 3)))
    (sSeq (sSet 6 (dOp2 dAtOp (dVar 2) (dOp2 dModOp (dOp2 dDivOp (dVar 1) (dInt 3)) (dBi dLenOp (dVar 2)))))
    (sSeq (sSet 7 (dOp2 dAtOp (dVar 2) (dOp2 dModOp (dCall f_law_mix (dCons (dVar 1) (dCons (dInt 2) dNil))) (dBi dLenOp (dVar 2)))))
    (sSeq (sKill [8, 9] (sIf (dTv (dOp2 dEqOp (dVar 5) (dInt 0)))
    (sSeq (sSet 8 (dCall f_law_names (dCons (dCall f_law_mix (dCons (dOp2 dModOp (dOp2 dDivOp (dVar 1) (dInt 3)) (dInt 5)) (dCons (dOp2 dModOp (dVar 4) (dInt 1000)) dNil))) (dCons (dOp2 dAddOp (dInt 1) (dOp2 dModOp (dOp2 dDivOp (dVar 1) (dInt 16)) (dInt 4))) dNil))))
    (sSeq (sSet 9 (dTup (dCons (dOp2 dAtOp (dLst (dCons (dStr "box") (dCons (dStr "door") (dCons (dStr "a") dNil)))) (dOp2 dModOp (dOp2 dDivOp (dVar 1) (dInt 64)) (dInt 3))) (dCons (dOp2 dAtOp (dVar 8) (dOp1 dNegOp (dInt 1))) (dCons (dOp2 dModOp (dOp2 dDivOp (dVar 1) (dInt 256)) (dOp2 dAtOp (dLst (dCons (dInt 2) (dCons (dInt 64) dNil))) (dOp2 dModOp (dOp2 dDivOp (dVar 1) (dInt 1024)) (dInt 2)))) dNil)))))
    (sSeq (sIf (dTv (dOp2 (dInOp true) (dVar 9) (dVar 3)))
    (sPutB (dVar 3) (dVar 9) (dOp2 dModOp (dOp2 dDivOp (dCall f_law_mix (dCons (dVar 4) (dCons (dCall f_law_mix (dCons (dVar 1) (dCons (dInt 4) dNil))) dNil))) (dInt 8)) (dInt 2)))
    sNext)
    (sRet (dTup (dCons (dMeth "Net" "asked" f_Net_asked (dVar 0) (dCons (dOp2 dAtOp (dVar 9) (dInt 0)) (dCons (dOp2 dAtOp (dVar 9) (dInt 1)) (dCons (dOp2 dAtOp (dVar 9) (dInt 2)) dNil)))) (dCons (dOp2 dAtOp (dVar 3) (dVar 9)) dNil)))))))
    sNext))
    (sSeq (sIf (dTv (dOp2 dEqOp (dVar 5) (dInt 1)))
    (sRet (dTup (dCons (dMeth "Net" "both" f_Net_both (dVar 0) (dCons (dOp2 dAtOp (dVar 6) (dInt 0)) (dCons (dOp2 dAtOp (dVar 7) (dInt 0)) dNil))) (dCons (dOp2 dMulOp (dOp2 dAtOp (dVar 6) (dInt 1)) (dOp2 dAtOp (dVar 7) (dInt 1))) dNil))))
    sNext)
    (sRet (dTup (dCons (dMeth "Net" "differ" f_Net_differ (dVar 0) (dCons (dOp2 dAtOp (dVar 6) (dInt 0)) (dCons (dOp2 dAtOp (dVar 7) (dInt 0)) dNil))) (dCons (dOp2 dModOp (dOp2 dAddOp (dOp2 dAtOp (dVar 6) (dInt 1)) (dOp2 dAtOp (dVar 7) (dInt 1))) (dInt 2)) dNil))))))))))
def f_law_place : DF := dFn 2 2 ((sRet (dAndV (dIsT "int" (dVar 0)) (dAndV (dNotV (dIsT "bool" (dVar 0))) (dChain dLeOp dLtOp (dInt 0) (dVar 0) (dBi dLenOp (dVar 1)))))))
def f_law : DF := dFn 11 1 ((sSeq (sSet 1 (dCall f_law_mix (dCons (dCall f_law_cell (dCons (dVar 0) (dCons (dInt 1) dNil))) (dCons (dInt 1) dNil))))
    (sSeq (sSet 2 (dMake "Net" f_Net_init dNil))
    (sSeq (sSet 3 (dBox (dLst (dCons (dTup (dCons (dInt 0) (dCons (dInt 0) dNil))) (dCons (dTup (dCons (dInt 1) (dCons (dInt 1) dNil))) dNil)))))
    (sSeq (sSet 4 (dBox dDicT))
    (sSeq (sSet 5 (dMeth "Net" "told" f_Net_told (dVar 2) dNil))
    (sSeq (sFor (.nm 6) [6] (iSeq (dOp2 dAddOp (dLst (dCons (dCall f_law_cell (dCons (dVar 0) (dCons (dInt 0) dNil))) dNil)) (dSl (dVar 0) (dPart (dInt 2)) (dPart (dInt 92)))))
    (sMutB "list" (dVar 3) oAppend (dCons (dCall f_law_deed (dCons (dVar 2) (dCons (dCall f_law_mix (dCons (dOp2 dModOp (dVar 6) (dInt 1000000007)) (dCons (dInt 5) dNil))) (dCons (dVar 3) (dCons (dVar 4) (dCons (dVar 1) dNil)))))) dNil)))
    (sSeq (sSet 7 (dMeth "Net" "told" f_Net_told (dVar 2) dNil))
    (sSeq (sIf (dOrT (dNotT (dTv (dIsT "list" (dVar 5)))) (dOrT (dTv (dOp2 dNeOp (dVar 5) (dLst (dCons (dTup (dCons (dStr "no") dNil)) (dCons (dTup (dCons (dStr "yes") dNil)) dNil))))) (dNotT (dTv (dIsT "list" (dVar 7))))))
    (sRet (dBl false))
    sNext)
    (sSeq (sFrz 7 (sSet 8 (dCall f_law_settled (dCons (dVar 7) (dCons (dVar 4) dNil)))))
    (sSeq (sFrzO 3 (sFor (.tp [9, 10]) [9, 10] (iSeq (dVar 3))
    (sFrz 7 (sIf (dOrT (dNotT (dTv (dCall f_law_place (dCons (dVar 9) (dCons (dVar 7) dNil))))) (dTv (dOp2 dNeOp (dOp2 dAtOp (dVar 8) (dVar 9)) (dVar 10))))
    (sRet (dBl false))
    sNext))))
    (sSeq (sFor (.nm 10) [9, 10] (iSeq (dBi dSortOp (dBi dListOp2 (dVar 4))))
    (sSeq (sSet 9 (dMeth "Net" "asked" f_Net_asked (dVar 2) (dCons (dOp2 dAtOp (dVar 10) (dInt 0)) (dCons (dOp2 dAtOp (dVar 10) (dInt 1)) (dCons (dOp2 dAtOp (dVar 10) (dInt 2)) dNil)))))
    (sIf (dTv (dOp2 dNeOp (dOp2 dAtOp (dVar 7) (dVar 9)) (dTup (dCons (dStr "in") (dCons (dOp2 dAtOp (dVar 10) (dInt 0)) (dCons (dOp2 dAtOp (dVar 10) (dInt 1)) (dCons (dOp2 dAtOp (dVar 10) (dInt 2)) dNil)))))))
    (sRet (dBl false))
    sNext)))
    (sSeq (sMut "list" 5 oAppend (dCons (dTup (dCons (dStr "no") dNil)) dNil))
    (sRet (dOp2 dEqOp (dMeth "Net" "told" f_Net_told (dVar 2) dNil) (dVar 7))))))))))))))))
/-! ### facts -/
structure Fx (S : Sg) (mg : Str → Option Value) : Prop where
  b_bool : mg "bool" = none
  b_int : mg "int" = none
  b_isinstance : mg "isinstance" = none
  b_len : mg "len" = none
  b_list : mg "list" = none
  b_max : mg "max" = none
  b_min : mg "min" = none
  b_range : mg "range" = none
  b_sorted : mg "sorted" = none
  l_Net_places : FldOk S ["Net"] "places"
  l_Net_rows : FldOk S ["Net"] "rows"
/-! ### derivations -/
section
variable {w : World} {S : Sg} {mg : Str → Option Value} {base : Heap} {f : Addr} {fd : FuncData}
theorem ok_f_law_mix (Z : Fx S mg) (F : FunD S.K "_law_mix" "_law_mix" (defArgs s_f_law_mix) (defBody s_f_law_mix) (defScope s_f_law_mix) [] [] f fd) (gf : mg "_law_mix" = some (.ref f))  : Def PR w S mg base 1 "_law_mix" ["number", "salt"] f_law_mix :=
  def_of F gf (F.bindsN fun _ _ _ _ _ _ us hl => match us, hl with | [_, _], _ => rfl) sc_f_law_mix (by decide) fun cdv A outer s H E B =>
    (vss_cons (vs_set 2 sc_f_law_mix.nd (ve_mod (ve_add (ve_add (ve_mul (ve_var 0) ve_int) (ve_mul (ve_var 1) ve_int)) ve_int) ve_int))
    (vss_one (vs_ret (ve_mod (ve_mul (ve_var 2) (ve_var 2)) ve_int))))
theorem mk_Net (Z : Fx S mg) (F : FunD S.K "__init__" "Net.__init__" (defArgs s_f_Net_init) (defBody s_f_Net_init) (defScope s_f_Net_init) [] [] f fd) (gC : mg "Net" = some (.ref (S.ca "Net"))) (M : Mk S.K (S.ca "Net") f)  : Cla PR w S mg base 1 "Net" ["self"] f_Net_init :=
  cla_of F gC M (F.bindsN fun _ _ _ _ _ _ us hl => match us, hl with | [_], _ => rfl) sc_f_Net_init (by decide) fun cdv A outer s H E B =>
    (vss_cons (vs_fld true 0 Z.l_Net_rows (ve_lst (va_cons (ve_tup (va_cons ve_str va_nil)) (va_cons (ve_tup (va_cons ve_str va_nil)) va_nil))))
    (vss_one (vs_fld true 0 Z.l_Net_places (ve_disT B.hr (vps_cons (ve_tup (va_cons ve_str va_nil)) ve_int (vps_cons (ve_tup (va_cons ve_str va_nil)) ve_int vps_nil))))))
theorem me_Net_told (Z : Fx S mg) (F : FunD S.K "told" "Net.told" (defArgs s_f_Net_told) (defBody s_f_Net_told) (defScope s_f_Net_told) [] [] f fd) (cl : Cls S.K (S.ca "Net")) (me : Meth S.K (S.ca "Net") "told" f)  : Met PR w S mg base 1 "Net" "told" ["self"] f_Net_told :=
  met_of F cl me (F.bindsN fun _ _ _ _ _ _ us hl => match us, hl with | [_], _ => rfl) sc_f_Net_told (by decide) fun cdv A outer s H E B =>
    (vss_one (vs_ret (ve_bi (bi_listA) Z.b_list (ve_fld Z.l_Net_rows (ve_var 0)))))
theorem ok_f_law_settled (Z : Fx S mg) (F : FunD S.K "_law_settled" "_law_settled" (defArgs s_f_law_settled) (defBody s_f_law_settled) (defScope s_f_law_settled) [] [] f fd) (gf : mg "_law_settled" = some (.ref f))  : Def PR w S mg base 1 "_law_settled" ["rows", "ins"] f_law_settled :=
  def_of F gf (F.bindsN fun _ _ _ _ _ _ us hl => match us, hl with | [_, _], _ => rfl) sc_f_law_settled (by decide) fun cdv A outer s H E B =>
    (vss_cons (vs_set 2 sc_f_law_settled.nd (ve_lst va_nil))
    (vss_cons (vs_for [3] B.pp rfl (vi_seq (ve_var 0)) (vg_name 3 sc_f_law_settled.nd)
    (vss_one (vs_if (vt_c (c_eq B.hr) (ve_at B.hr (ve_var 3) ve_int) ve_str)
    (vss_one (vs_mut 2 m_append (va_cons (ve_at B.hr (ve_var 1) (ve_tup (va_cons (ve_at B.hr (ve_var 3) ve_int) (va_cons (ve_at B.hr (ve_var 3) ve_int) (va_cons (ve_at B.hr (ve_var 3) ve_int) va_nil))))) va_nil)))
    (vss_one (vs_if (vt_c (c_eq B.hr) (ve_at B.hr (ve_var 3) ve_int) ve_str)
    (vss_one (vs_mut 2 m_append (va_cons (ve_mul (ve_at B.hr (ve_var 2) (ve_at B.hr (ve_var 3) ve_int)) (ve_at B.hr (ve_var 2) (ve_at B.hr (ve_var 3) ve_int))) va_nil)))
    (vss_one (vs_if (vt_c (c_eq B.hr) (ve_at B.hr (ve_var 3) ve_int) ve_str)
    (vss_one (vs_mut 2 m_append (va_cons (ve_mod (ve_add (ve_at B.hr (ve_var 2) (ve_at B.hr (ve_var 3) ve_int)) (ve_at B.hr (ve_var 2) (ve_at B.hr (ve_var 3) ve_int))) ve_int) va_nil)))
    (vss_one (vs_mut 2 m_append (va_cons (ve_bm (m_index) (ve_lst (va_cons ve_str (va_cons ve_str va_nil))) (va_cons (ve_at B.hr (ve_var 3) ve_int) va_nil)) va_nil))))))))))
    (vss_one (vs_ret (ve_var 2)))))
theorem ok_f_law_cell (Z : Fx S mg) (F : FunD S.K "_law_cell" "_law_cell" (defArgs s_f_law_cell) (defBody s_f_law_cell) (defScope s_f_law_cell) [] [] f fd) (gf : mg "_law_cell" = some (.ref f))  : Def PR w S mg base 1 "_law_cell" ["script", "k"] f_law_cell :=
  def_of F gf (F.bindsN fun _ _ _ _ _ _ us hl => match us, hl with | [_, _], _ => rfl) sc_f_law_cell (by decide) fun cdv A outer s H E B =>
    (vss_cons (vs_if (vt_c c_lt (ve_var 1) (ve_bi (bi_len) Z.b_len (ve_var 0)))
    (vss_one (vs_ret (ve_mod (ve_at B.hr (ve_var 0) (ve_var 1)) ve_int)))
    vss_nil)
    (vss_one (vs_ret (ve_mod (ve_mul (ve_mul (ve_var 1) (ve_var 1)) ve_int) ve_int))))
theorem me_Net_put (Z : Fx S mg) (F : FunD S.K "put" "Net.put" (defArgs s_f_Net_put) (defBody s_f_Net_put) (defScope s_f_Net_put) [] [] f fd) (cl : Cls S.K (S.ca "Net")) (me : Meth S.K (S.ca "Net") "put" f)  : Met PR w S mg base 1 "Net" "put" ["self", "row"] f_Net_put :=
  met_of F cl me (F.bindsN fun _ _ _ _ _ _ us hl => match us, hl with | [_, _], _ => rfl) sc_f_Net_put (by decide) fun cdv A outer s H E B =>
    (vss_cons (vs_if (vt_c (c_notin B.hr rfl) (ve_var 1) (ve_fld Z.l_Net_places (ve_var 0)))
    (vss_cons (vs_putF 0 1 B.hr Z.l_Net_places (ve_bi (bi_len) Z.b_len (ve_fld Z.l_Net_rows (ve_var 0))))
    (vss_one (vs_mutF 0 1 Z.l_Net_rows m_append)))
    vss_nil)
    (vss_one (vs_ret (ve_atV 1 B.hr (ve_fld Z.l_Net_places (ve_var 0))))))
theorem me_Net_asked (Z : Fx S mg) (F : FunD S.K "asked" "Net.asked" (defArgs s_f_Net_asked) (defBody s_f_Net_asked) (defScope s_f_Net_asked) [] [] f fd) (cl : Cls S.K (S.ca "Net")) (me : Meth S.K (S.ca "Net") "asked" f) (h_Net_put : Met PR w S mg base 1 "Net" "put" ["self", "row"] f_Net_put) : Met PR w S mg base 3 "Net" "asked" ["self", "sort", "name", "place"] f_Net_asked :=
  met_of F cl me (F.bindsN fun _ _ _ _ _ _ us hl => match us, hl with | [_, _, _, _], _ => rfl) sc_f_Net_asked (by decide) fun cdv A outer s H E B =>
    (vss_one (vs_ret (ve_meth (pl := _) h_Net_put dFn_len B.tk B.hr (by decide) (ve_var 0) (va_cons (ve_tup (va_cons ve_str (va_cons (ve_var 1) (va_cons (ve_var 2) (va_cons (ve_var 3) va_nil))))) va_nil))))
theorem ok_f_law_names (Z : Fx S mg) (F : FunD S.K "_law_names" "_law_names" (defArgs s_f_law_names) (defBody s_f_law_names) (defScope s_f_law_names) [] [] f fd) (gf : mg "_law_names" = some (.ref f)) (h_f_law_mix : Def PR w S mg base 1 "_law_mix" ["number", "salt"] f_law_mix) : Def PR w S mg base 3 "_law_names" ["number", "many"] f_law_names :=
  def_of F gf (F.bindsN fun _ _ _ _ _ _ us hl => match us, hl with | [_, _], _ => rfl) sc_f_law_names (by decide) fun cdv A outer s H E B =>
    (vss_cons (vs_set 2 sc_f_law_names.nd ve_str)
    (vss_cons (vs_set 3 sc_f_law_names.nd (ve_mod (ve_var 0) ve_int))
    (vss_cons (vs_set 4 sc_f_law_names.nd (ve_at B.hr (ve_lst (va_cons ve_int (va_cons ve_int (va_cons ve_int (va_cons ve_int (va_cons ve_int (va_cons ve_int (va_cons ve_int (va_cons ve_int va_nil))))))))) (ve_mod (ve_div (ve_var 0) ve_int) ve_int)))
    (vss_cons (vs_set 5 sc_f_law_names.nd (ve_add ve_int (ve_mod (ve_div (ve_var 0) ve_int) ve_int)))
    (vss_cons (vs_set 6 sc_f_law_names.nd (ve_mod (ve_div (ve_var 0) ve_int) (ve_var 5)))
    (vss_cons (vs_set 8 sc_f_law_names.nd (ve_bm (m_join) ve_str (va_cons (ve_lc rfl sc_f_law_names.nd (vi_range1 Z.b_range (va_cons (ve_var 5) va_nil)) (blkOk_by (N := N_f_law_names) (own := [("k", 7)]) (by kernel_rfl)) rfl (fun _ _ _ _ _ => (vg_name 7 sc_f_law_names.nd)) (fun _ _ _ _ _ => pts_yes) (fun _ _ _ _ _ => (ve_at B.hr (ve_var 2) (ve_mod (ve_call h_f_law_mix dFn_len rfl takes0 B.hr (by decide) (va_cons (ve_var 0) (va_cons (ve_add ve_int (ve_var 7)) va_nil))) ve_int)))) va_nil)))
    (vss_cons (vs_set 9 sc_f_law_names.nd (ve_lst va_nil))
    (vss_cons (vs_for [7, 10] B.pp rfl (vi_range1 Z.b_range (va_cons (ve_var 1) va_nil)) (vg_name 7 sc_f_law_names.nd)
    (vss_cons (vs_set 10 sc_f_law_names.nd (ve_at B.hr (ve_var 2) (ve_mod (ve_add (ve_var 3) (ve_mul (ve_var 7) (ve_var 4))) ve_int)))
    (vss_one (vs_if (vt_c (c_eq B.hr) (ve_mod (ve_div (ve_var 0) ve_int) ve_int) ve_int)
    (vss_one (vs_mut 9 m_append (va_cons (ve_add (ve_add (ve_sl (ve_var 8) vo_none (vo_some (ve_var 6))) (ve_var 10)) (ve_sl (ve_var 8) (vo_some (ve_add (ve_var 6) ve_int)) vo_none)) va_nil)))
    (vss_one (vs_mut 9 m_append (va_cons (ve_add (ve_mul (ve_at B.hr (ve_var 2) (ve_var 3)) (ve_mod (ve_var 7) ve_int)) (ve_var 10)) va_nil)))))))
    (vss_one (vs_ret (ve_var 9)))))))))))
theorem me_Net_differ (Z : Fx S mg) (F : FunD S.K "differ" "Net.differ" (defArgs s_f_Net_differ) (defBody s_f_Net_differ) (defScope s_f_Net_differ) [] [] f fd) (cl : Cls S.K (S.ca "Net")) (me : Meth S.K (S.ca "Net") "differ" f) (h_Net_put : Met PR w S mg base 1 "Net" "put" ["self", "row"] f_Net_put) : Met PR w S mg base 3 "Net" "differ" ["self", "i", "j"] f_Net_differ :=
  met_of F cl me (F.bindsN fun _ _ _ _ _ _ us hl => match us, hl with | [_, _, _], _ => rfl) sc_f_Net_differ (by decide) fun cdv A outer s H E B =>
    (vss_cons (vs_set 3 sc_f_Net_differ.nd (ve_ba (ba_min2) Z.b_min (va_cons (ve_var 1) (va_cons (ve_var 2) va_nil))))
    (vss_cons (vs_set 4 sc_f_Net_differ.nd (ve_ba (ba_max2) Z.b_max (va_cons (ve_var 1) (va_cons (ve_var 2) va_nil))))
    (vss_cons (vs_if (vt_c (c_eq B.hr) (ve_var 3) (ve_var 4))
    (vss_one (vs_ret ve_int))
    vss_nil)
    (vss_cons (vs_if (vt_c (c_eq B.hr) (ve_var 3) ve_int)
    (vss_one (vs_ret (ve_var 4)))
    vss_nil)
    (vss_one (vs_ret (ve_meth (pl := _) h_Net_put dFn_len B.tk B.hr (by decide) (ve_var 0) (va_cons (ve_tup (va_cons ve_str (va_cons (ve_var 3) (va_cons (ve_var 4) va_nil)))) va_nil))))))))
theorem me_Net_both (Z : Fx S mg) (F : FunD S.K "both" "Net.both" (defArgs s_f_Net_both) (defBody s_f_Net_both) (defScope s_f_Net_both) [] [] f fd) (cl : Cls S.K (S.ca "Net")) (me : Meth S.K (S.ca "Net") "both" f) (h_Net_put : Met PR w S mg base 1 "Net" "put" ["self", "row"] f_Net_put) : Met PR w S mg base 3 "Net" "both" ["self", "i", "j"] f_Net_both :=
  met_of F cl me (F.bindsN fun _ _ _ _ _ _ us hl => match us, hl with | [_, _, _], _ => rfl) sc_f_Net_both (by decide) fun cdv A outer s H E B =>
    (vss_cons (vs_set 3 sc_f_Net_both.nd (ve_ba (ba_min2) Z.b_min (va_cons (ve_var 1) (va_cons (ve_var 2) va_nil))))
    (vss_cons (vs_set 4 sc_f_Net_both.nd (ve_ba (ba_max2) Z.b_max (va_cons (ve_var 1) (va_cons (ve_var 2) va_nil))))
    (vss_cons (vs_if (vt_c (c_eq B.hr) (ve_var 3) ve_int)
    (vss_one (vs_ret ve_int))
    vss_nil)
    (vss_cons (vs_if (L2.PW.pt (vw_or (vt_c (c_eq B.hr) (ve_var 3) ve_int) (vw_or1 (vt_c (c_eq B.hr) (ve_var 3) (ve_var 4)))))
    (vss_one (vs_ret (ve_var 4)))
    vss_nil)
    (vss_one (vs_ret (ve_meth (pl := _) h_Net_put dFn_len B.tk B.hr (by decide) (ve_var 0) (va_cons (ve_tup (va_cons ve_str (va_cons (ve_var 3) (va_cons (ve_var 4) va_nil)))) va_nil))))))))
theorem ok_f_law_deed (Z : Fx S mg) (F : FunD S.K "_law_deed" "_law_deed" (defArgs s_f_law_deed) (defBody s_f_law_deed) (defScope s_f_law_deed) [] [] f fd) (gf : mg "_law_deed" = some (.ref f)) (h_f_law_names : Def PR w S mg base 3 "_law_names" ["number", "many"] f_law_names) (h_f_law_mix : Def PR w S mg base 1 "_law_mix" ["number", "salt"] f_law_mix) (h_Net_asked : Met PR w S mg base 3 "Net" "asked" ["self", "sort", "name", "place"] f_Net_asked) (h_Net_both : Met PR w S mg base 3 "Net" "both" ["self", "i", "j"] f_Net_both) (h_Net_differ : Met PR w S mg base 3 "Net" "differ" ["self", "i", "j"] f_Net_differ) : Def PR w S mg base 5 "_law_deed" ["net", "number", "known", "ins", "truth"] f_law_deed :=
  def_of F gf (F.bindsN fun _ _ _ _ _ _ us hl => match us, hl with | [_, _, _, _, _], _ => rfl) sc_f_law_deed (by decide) fun cdv A outer s H E B =>
    (vss_cons (vs_set 5 sc_f_law_deed.nd (ve_mod (ve_var 1) ve_int))
    (vss_cons (vs_set 6 sc_f_law_deed.nd (ve_at B.hr (ve_var 2) (ve_mod (ve_div (ve_var 1) ve_int) (ve_bi (bi_len) Z.b_len (ve_var 2)))))
    (vss_cons (vs_set 7 sc_f_law_deed.nd (ve_at B.hr (ve_var 2) (ve_mod (ve_call h_f_law_mix dFn_len rfl B.tk B.hr (by decide) (va_cons (ve_var 1) (va_cons ve_int va_nil))) (ve_bi (bi_len) Z.b_len (ve_var 2)))))
    (vss_cons (vs_kill [8, 9] (vs_if (vt_c (c_eq B.hr) (ve_var 5) ve_int)
    (vss_cons (vs_set 8 sc_f_law_deed.nd (ve_call h_f_law_names dFn_len rfl B.tk B.hr (by decide) (va_cons (ve_call h_f_law_mix dFn_len rfl B.tk B.hr (by decide) (va_cons (ve_mod (ve_div (ve_var 1) ve_int) ve_int) (va_cons (ve_mod (ve_var 4) ve_int) va_nil))) (va_cons (ve_add ve_int (ve_mod (ve_div (ve_var 1) ve_int) ve_int)) va_nil))))
    (vss_cons (vs_set 9 sc_f_law_deed.nd (ve_tup (va_cons (ve_at B.hr (ve_lst (va_cons ve_str (va_cons ve_str (va_cons ve_str va_nil)))) (ve_mod (ve_div (ve_var 1) ve_int) ve_int)) (va_cons (ve_at B.hr (ve_var 8) (ve_neg ve_int)) (va_cons (ve_mod (ve_div (ve_var 1) ve_int) (ve_at B.hr (ve_lst (va_cons ve_int (va_cons ve_int va_nil))) (ve_mod (ve_div (ve_var 1) ve_int) ve_int))) va_nil)))))
    (vss_cons (vs_if (vt_c (c_notin B.hr rfl) (ve_var 9) (ve_var 3))
    (vss_one (vs_putB B.hr (ve_var 3) (ve_var 9) (ve_mod (ve_div (ve_call h_f_law_mix dFn_len rfl B.tk B.hr (by decide) (va_cons (ve_var 4) (va_cons (ve_call h_f_law_mix dFn_len rfl B.tk B.hr (by decide) (va_cons (ve_var 1) (va_cons ve_int va_nil))) va_nil))) ve_int) ve_int)))
    vss_nil)
    (vss_one (vs_ret (ve_tup (va_cons (ve_meth (pl := _) h_Net_asked dFn_len B.tk B.hr (by decide) (ve_var 0) (va_cons (ve_at B.hr (ve_var 9) ve_int) (va_cons (ve_at B.hr (ve_var 9) ve_int) (va_cons (ve_at B.hr (ve_var 9) ve_int) va_nil)))) (va_cons (ve_at B.hr (ve_var 3) (ve_var 9)) va_nil))))))))
    vss_nil))
    (vss_cons (vs_if (vt_c (c_eq B.hr) (ve_var 5) ve_int)
    (vss_one (vs_ret (ve_tup (va_cons (ve_meth (pl := _) h_Net_both dFn_len B.tk B.hr (by decide) (ve_var 0) (va_cons (ve_at B.hr (ve_var 6) ve_int) (va_cons (ve_at B.hr (ve_var 7) ve_int) va_nil))) (va_cons (ve_mul (ve_at B.hr (ve_var 6) ve_int) (ve_at B.hr (ve_var 7) ve_int)) va_nil)))))
    vss_nil)
    (vss_one (vs_ret (ve_tup (va_cons (ve_meth (pl := _) h_Net_differ dFn_len B.tk B.hr (by decide) (ve_var 0) (va_cons (ve_at B.hr (ve_var 6) ve_int) (va_cons (ve_at B.hr (ve_var 7) ve_int) va_nil))) (va_cons (ve_mod (ve_add (ve_at B.hr (ve_var 6) ve_int) (ve_at B.hr (ve_var 7) ve_int)) ve_int) va_nil))))))))))
theorem ok_f_law_place (Z : Fx S mg) (F : FunD S.K "_law_place" "_law_place" (defArgs s_f_law_place) (defBody s_f_law_place) (defScope s_f_law_place) [] [] f fd) (gf : mg "_law_place" = some (.ref f))  : Def PR w S mg base 1 "_law_place" ["found", "rows"] f_law_place :=
  def_of F gf (F.bindsN fun _ _ _ _ _ _ us hl => match us, hl with | [_, _], _ => rfl) sc_f_law_place (by decide) fun cdv A outer s H E B =>
    (vss_one (vs_ret (ve_andV (ve_isT Z.b_isinstance Z.b_int (ve_var 0)) (ve_andV (ve_notV (ve_isT Z.b_isinstance Z.b_bool (ve_var 0))) (ve_one (ve_chain c_le c_lt ve_int (ve_var 0) (ve_bi (bi_len) Z.b_len (ve_var 1))))))))
theorem ok_f_law (Z : Fx S mg) (F : FunD S.K "law" "law" (defArgs s_f_law) (defBody s_f_law) (defScope s_f_law) [] [] f fd) (h_f_law_mix : Def PR w S mg base 1 "_law_mix" ["number", "salt"] f_law_mix) (h_f_law_settled : Def PR w S mg base 1 "_law_settled" ["rows", "ins"] f_law_settled) (h_f_law_cell : Def PR w S mg base 1 "_law_cell" ["script", "k"] f_law_cell) (h_f_law_deed : Def PR w S mg base 5 "_law_deed" ["net", "number", "known", "ins", "truth"] f_law_deed) (h_f_law_place : Def PR w S mg base 1 "_law_place" ["found", "rows"] f_law_place) (h_Net_asked : Met PR w S mg base 3 "Net" "asked" ["self", "sort", "name", "place"] f_Net_asked) (h_Net_told : Met PR w S mg base 1 "Net" "told" ["self"] f_Net_told) (k_Net : Cla PR w S mg base 1 "Net" ["self"] f_Net_init) : FnOk PR w S.K mg base (L2.CX PR w) 7 f fd ["script"] (SpOf S 1 f_law) :=
  fn_of F sc_f_law (by decide) fun cdv A outer s H E B =>
    (vss_cons (vs_set 1 sc_f_law.nd (ve_call h_f_law_mix dFn_len rfl B.tk B.hr (by decide) (va_cons (ve_call h_f_law_cell dFn_len rfl B.tk B.hr (by decide) (va_cons (ve_var 0) (va_cons ve_int va_nil))) (va_cons ve_int va_nil))))
    (vss_cons (vs_set 2 sc_f_law.nd (ve_make0 k_Net dFn_len B.hr (by decide)))
    (vss_cons (vs_set 3 sc_f_law.nd (ve_box (ve_lst (va_cons (ve_tup (va_cons ve_int (va_cons ve_int va_nil))) (va_cons (ve_tup (va_cons ve_int (va_cons ve_int va_nil))) va_nil)))))
    (vss_cons (vs_set 4 sc_f_law.nd (ve_box ve_dicT))
    (vss_cons (vs_set 5 sc_f_law.nd (ve_meth0 (pl := _) h_Net_told dFn_len B.tk B.hr (by decide) (ve_var 2)))
    (vss_cons (vs_for [6] B.pp rfl (vi_seq (ve_add (ve_lst (va_cons (ve_call h_f_law_cell dFn_len rfl B.tk B.hr (by decide) (va_cons (ve_var 0) (va_cons ve_int va_nil))) va_nil)) (ve_sl (ve_var 0) (vo_some ve_int) (vo_some ve_int)))) (vg_name 6 sc_f_law.nd)
    (vss_one (vs_mutB m_append (ve_var 3) (va_cons (ve_call h_f_law_deed dFn_len rfl B.tk B.hr (by decide) (va_cons (ve_var 2) (va_cons (ve_call h_f_law_mix dFn_len rfl B.tk B.hr (by decide) (va_cons (ve_mod (ve_var 6) ve_int) (va_cons ve_int va_nil))) (va_cons (ve_var 3) (va_cons (ve_var 4) (va_cons (ve_var 1) va_nil)))))) va_nil))))
    (vss_cons (vs_set 7 sc_f_law.nd (ve_meth0 (pl := _) h_Net_told dFn_len B.tk B.hr (by decide) (ve_var 2)))
    (vss_cons (vs_if (L2.PW.pt (vw_or (vt_not (vt_val (ve_isT Z.b_isinstance Z.b_list (ve_var 5)))) (vw_or (vt_c (c_ne B.hr) (ve_var 5) (ve_lst (va_cons (ve_tup (va_cons ve_str va_nil)) (va_cons (ve_tup (va_cons ve_str va_nil)) va_nil)))) (vw_or1 (vt_not (vt_val (ve_isT Z.b_isinstance Z.b_list (ve_var 7))))))))
    (vss_one (vs_ret ve_bl))
    vss_nil)
    (vss_cons (vs_frz 7 (vs_set 8 sc_f_law.nd (ve_call h_f_law_settled dFn_len rfl B.tk B.hr (by decide) (va_cons (ve_var 7) (va_cons (ve_var 4) va_nil)))))
    (vss_cons (vs_frzO 3 (vs_for [9, 10] B.pp rfl (vi_seq (ve_var 3)) (vg_tup rfl (vgs_cons 9 sc_f_law.nd (vgs_cons 10 sc_f_law.nd vgs_nil)))
    (vss_one (vs_frz 7 (vs_if (L2.PW.pt (vw_or (vt_not (vt_val (ve_call h_f_law_place dFn_len rfl B.tk B.hr (by decide) (va_cons (ve_var 9) (va_cons (ve_var 7) va_nil))))) (vw_or1 (vt_c (c_ne B.hr) (ve_at B.hr (ve_var 8) (ve_var 9)) (ve_var 10)))))
    (vss_one (vs_ret ve_bl))
    vss_nil)))))
    (vss_cons (vs_for [9, 10] B.pp rfl (vi_seq (ve_bi (bi_sorted B.hr) Z.b_sorted (ve_bi (bi_listA) Z.b_list (ve_var 4)))) (vg_name 10 sc_f_law.nd)
    (vss_cons (vs_set 9 sc_f_law.nd (ve_meth (pl := _) h_Net_asked dFn_len B.tk B.hr (by decide) (ve_var 2) (va_cons (ve_at B.hr (ve_var 10) ve_int) (va_cons (ve_at B.hr (ve_var 10) ve_int) (va_cons (ve_at B.hr (ve_var 10) ve_int) va_nil)))))
    (vss_one (vs_if (vt_c (c_ne B.hr) (ve_at B.hr (ve_var 7) (ve_var 9)) (ve_tup (va_cons ve_str (va_cons (ve_at B.hr (ve_var 10) ve_int) (va_cons (ve_at B.hr (ve_var 10) ve_int) (va_cons (ve_at B.hr (ve_var 10) ve_int) va_nil))))))
    (vss_one (vs_ret ve_bl))
    vss_nil))))
    (vss_cons (vs_mut 5 m_append (va_cons (ve_tup (va_cons ve_str va_nil)) va_nil))
    (vss_one (vs_ret (ve_c (c_eq B.hr) (ve_meth0 (pl := _) h_Net_told dFn_len B.tk B.hr (by decide) (ve_var 2)) (ve_var 7))))))))))))))))
end
/-! ### the head -/
def fa : List He.Fa := [.glo "_law_mix", .glo "Net", .mkr "Net", .meth "Net" "told", .cls "Net", .glo "_law_settled", .glo "_law_cell", .meth "Net" "put", .meth "Net" "asked", .glo "_law_names", .meth "Net" "differ", .meth "Net" "both", .glo "_law_deed", .glo "_law_place", .glo "law", .free "bool", .free "int", .free "isinstance", .free "len", .free "list", .free "max", .free "min", .free "range", .free "sorted", .noat "Net" "places", .noat "Net" "rows"]
def dd_law_mix_fn : He.DefD := ⟨("_law_mix", none), "_law_mix", "_law_mix", defArgs s_f_law_mix, defBody s_f_law_mix, defScope s_f_law_mix, [], []⟩
def dd_Net_init : He.DefD := ⟨("Net", some "__init__"), "__init__", "Net.__init__", defArgs s_f_Net_init, defBody s_f_Net_init, defScope s_f_Net_init, [], []⟩
def dd_Net_told : He.DefD := ⟨("Net", some "told"), "told", "Net.told", defArgs s_f_Net_told, defBody s_f_Net_told, defScope s_f_Net_told, [], []⟩
def dd_law_settled_fn : He.DefD := ⟨("_law_settled", none), "_law_settled", "_law_settled", defArgs s_f_law_settled, defBody s_f_law_settled, defScope s_f_law_settled, [], []⟩
def dd_law_cell_fn : He.DefD := ⟨("_law_cell", none), "_law_cell", "_law_cell", defArgs s_f_law_cell, defBody s_f_law_cell, defScope s_f_law_cell, [], []⟩
def dd_Net_put : He.DefD := ⟨("Net", some "put"), "put", "Net.put", defArgs s_f_Net_put, defBody s_f_Net_put, defScope s_f_Net_put, [], []⟩
def dd_Net_asked : He.DefD := ⟨("Net", some "asked"), "asked", "Net.asked", defArgs s_f_Net_asked, defBody s_f_Net_asked, defScope s_f_Net_asked, [], []⟩
def dd_law_names_fn : He.DefD := ⟨("_law_names", none), "_law_names", "_law_names", defArgs s_f_law_names, defBody s_f_law_names, defScope s_f_law_names, [], []⟩
def dd_Net_differ : He.DefD := ⟨("Net", some "differ"), "differ", "Net.differ", defArgs s_f_Net_differ, defBody s_f_Net_differ, defScope s_f_Net_differ, [], []⟩
def dd_Net_both : He.DefD := ⟨("Net", some "both"), "both", "Net.both", defArgs s_f_Net_both, defBody s_f_Net_both, defScope s_f_Net_both, [], []⟩
def dd_law_deed_fn : He.DefD := ⟨("_law_deed", none), "_law_deed", "_law_deed", defArgs s_f_law_deed, defBody s_f_law_deed, defScope s_f_law_deed, [], []⟩
def dd_law_place_fn : He.DefD := ⟨("_law_place", none), "_law_place", "_law_place", defArgs s_f_law_place, defBody s_f_law_place, defScope s_f_law_place, [], []⟩
def dd_law_fn : He.DefD := ⟨("law", none), "law", "law", defArgs s_f_law, defBody s_f_law, defScope s_f_law, [], []⟩
def fn : List He.DefD := [dd_law_mix_fn, dd_Net_init, dd_Net_told, dd_law_settled_fn, dd_law_cell_fn, dd_Net_put, dd_Net_asked, dd_law_names_fn, dd_Net_differ, dd_Net_both, dd_law_deed_fn, dd_law_place_fn, dd_law_fn]
abbrev RO : PySem.W.OpenRow := PySem.W.OpenLaw.row PySem.Challenge.rw_beatwright_k55_gates_put
abbrev hk : PySem.W.Hook := He.hookD 6 fa fn
def ob (s : PySem.W.SharedT) : He.AlD := He.obsDG 6 fa fn (HandSHeadRun.getT s)
theorem ob_eq (s : PySem.W.SharedT) : ob s = hk.obs s.abs := He.obsDG_eq (HandSHeadRun.getT_eq s)
def nm0 : List Str := ["Net", "_law_cell", "_law_mix", "_law_names", "_law_word", "_law_settled", "_law_place", "_law_deed"]
def nms : List Str := nm0
theorem run (w : World) : HandSHeadRun.RunEq RO (PySem.W.view RO.prog [10]) hk ob 20000 nms w := by
  intro os
  kernel_rfl
theorem facts {w : World} {K : PySem.W.Frag} {h : Heap} {mg : Str → Option Value} {f : Addr} (X : K.In h) (G : h.Ns mainGlobals mg) (hfa : mg ("law" : Str) = some (.ref f)) (c : He.SaysD fa fn K) :
    ∃ fd : FuncData, (∀ (s : Shared) (v : Value), BindsTo s fd ⟨[v], []⟩ [("script", v)]) ∧ ∀ base : Heap, K.In base → base.Ns mainGlobals mg → FnOk PR w K mg base (L2.CX PR w) 7 f fd ["script"] (SpOf (sgOf K) 1 f_law) := by
  have Z : Fx (sgOf K) mg := ⟨He.free_ok X G (c.fact 15 rfl), He.free_ok X G (c.fact 16 rfl), He.free_ok X G (c.fact 17 rfl), He.free_ok X G (c.fact 18 rfl), He.free_ok X G (c.fact 19 rfl), He.free_ok X G (c.fact 20 rfl), He.free_ok X G (c.fact 21 rfl), He.free_ok X G (c.fact 22 rfl), He.free_ok X G (c.fact 23 rfl), (fx_fld (c.fact 4 rfl) (c.fact 24 rfl) fx_fld0), (fx_fld (c.fact 4 rfl) (c.fact 25 rfl) fx_fld0)⟩
  obtain ⟨fd0, F0⟩ := c.def_ 0 (d := dd_law_mix_fn) rfl
  obtain ⟨fd1, F1⟩ := c.def_ 1 (d := dd_Net_init) rfl
  obtain ⟨fd2, F2⟩ := c.def_ 2 (d := dd_Net_told) rfl
  obtain ⟨fd3, F3⟩ := c.def_ 3 (d := dd_law_settled_fn) rfl
  obtain ⟨fd4, F4⟩ := c.def_ 4 (d := dd_law_cell_fn) rfl
  obtain ⟨fd5, F5⟩ := c.def_ 5 (d := dd_Net_put) rfl
  obtain ⟨fd6, F6⟩ := c.def_ 6 (d := dd_Net_asked) rfl
  obtain ⟨fd7, F7⟩ := c.def_ 7 (d := dd_law_names_fn) rfl
  obtain ⟨fd8, F8⟩ := c.def_ 8 (d := dd_Net_differ) rfl
  obtain ⟨fd9, F9⟩ := c.def_ 9 (d := dd_Net_both) rfl
  obtain ⟨fd10, F10⟩ := c.def_ 10 (d := dd_law_deed_fn) rfl
  obtain ⟨fd11, F11⟩ := c.def_ 11 (d := dd_law_place_fn) rfl
  obtain ⟨fd12, F12⟩ := c.def_ 12 (d := dd_law_fn) rfl
  have e := hfa.symm.trans (He.glo_ok X G (c.fact 14 rfl))
  cases e
  refine ⟨fd12, fun s v => (FunD.bindsA (ps := ["script"]) F12 fun _ _ _ _ _ _ us hl => match us, hl with | [_], _ => rfl) s [v] rfl, fun base _ _ => ?_⟩
  have h_f_law_mix := ok_f_law_mix (w := w) (base := base) Z F0 (He.glo_ok X G (c.fact 0 rfl))
  have k_Net := mk_Net (w := w) (base := base) Z F1 (He.glo_ok X G (c.fact 1 rfl)) (He.mkr_ok (c.fact 2 rfl))
  have h_Net_told := me_Net_told (w := w) (base := base) Z F2 (He.cls_ok (c.fact 4 rfl)) (He.meth_ok (c.fact 3 rfl))
  have h_f_law_settled := ok_f_law_settled (w := w) (base := base) Z F3 (He.glo_ok X G (c.fact 5 rfl))
  have h_f_law_cell := ok_f_law_cell (w := w) (base := base) Z F4 (He.glo_ok X G (c.fact 6 rfl))
  have h_Net_put := me_Net_put (w := w) (base := base) Z F5 (He.cls_ok (c.fact 4 rfl)) (He.meth_ok (c.fact 7 rfl))
  have h_Net_asked := me_Net_asked (w := w) (base := base) Z F6 (He.cls_ok (c.fact 4 rfl)) (He.meth_ok (c.fact 8 rfl)) h_Net_put
  have h_f_law_names := ok_f_law_names (w := w) (base := base) Z F7 (He.glo_ok X G (c.fact 9 rfl)) h_f_law_mix
  have h_Net_differ := me_Net_differ (w := w) (base := base) Z F8 (He.cls_ok (c.fact 4 rfl)) (He.meth_ok (c.fact 10 rfl)) h_Net_put
  have h_Net_both := me_Net_both (w := w) (base := base) Z F9 (He.cls_ok (c.fact 4 rfl)) (He.meth_ok (c.fact 11 rfl)) h_Net_put
  have h_f_law_deed := ok_f_law_deed (w := w) (base := base) Z F10 (He.glo_ok X G (c.fact 12 rfl)) h_f_law_names h_f_law_mix h_Net_asked h_Net_both h_Net_differ
  have h_f_law_place := ok_f_law_place (w := w) (base := base) Z F11 (He.glo_ok X G (c.fact 13 rfl))
  exact ok_f_law Z F12 h_f_law_mix h_f_law_settled h_f_law_cell h_f_law_deed h_f_law_place h_Net_asked h_Net_told k_Net
/-- the statement, of the plain law -/
theorem holds (plain : ∀ ns : List Int, ns.length ≤ 63 → ∃ ω, f_law [.scr ns] [] = .ok (.fz (.bl true)) ω) : PySem.Challenge.rw_beatwright_k55_gates_put.Holds := by
  open PySem.W PySem.Calls in
  w_on; o_law
  refine HandSHeadRun.head_any (r := RO) (q := PySem.W.view RO.prog [10]) (H := hk) (ob := ob) (M := 20000) (loose := nms) (d := HandSHeadRun.topDef RO.prog 10) (kwd := []) ob_eq
    (by kernel_rfl) (fun s => by kernel_rfl) run (by kernel_rfl) (by kernel_rfl) (by kernel_rfl) (by rfl) (by first | assumption | decide +kernel) (by decide +kernel) ⟨rfl, rfl, rfl, rfl, rfl, by decide +kernel⟩ ?hw ?hc
  case hw => w_witness2
  case hc =>
    refine walkVd (law := PySem.Challenge.rw_beatwright_k55_gates_put) (most := 63) (lev := 7) (par := "script") rfl (by decide) (by kernel_rfl) ⟨rfl, by decide, by decide⟩ ?F
    intro w mg fa h Y G hmg0
    obtain ⟨K, KX, c⟩ := Y
    have hmg : mg ("law" : PySem.Str) = some (.ref fa) := by
      have e : (HandSHeadRun.topDef RO.prog 10).name = ("law" : PySem.Str) := by kernel_rfl
      rw [← e]
      exact hmg0
    obtain ⟨fd, hb, hF⟩ := facts (w := w) KX G hmg c
    exact ⟨K, fd, SpOf (sgOf K) 1 f_law, KX, hb, fun H a ns hl hS => let ⟨ω, e⟩ := plain ns hl; law_sp hS e, hF⟩
end K55
open Vd PySem L2
namespace K55
local macro_rules | `(tactic| walk_at "c") => `(tactic| first | assumption | omega | decide | (simp only [List.length_cons, List.length_nil, List.length_append, List.length_replicate, List.length_map, List.length_range, List.length_take, List.length_drop]; omega))
local macro_rules | `(tactic| walk_at "v") => `(tactic| first | exact vw_box (by assumption) | exact vw_ins (by assumption) | ((conv => (lhs; whnf)) <;> exact rfl))
local macro_rules | `(tactic| walk_at "@") => `(tactic| first | assumption | exact at_abc (by walk_at "c") (by walk_at "c") | exact at_lst (by decide) rfl | exact at_tup (by decide) rfl | exact at_last rfl)
local macro_rules | `(tactic| walk_at "f") => `(tactic| assumption)
local macro_rules | `(tactic| walk_at "o") => `(tactic| first
  | (with_reducible exact o_addI) | (with_reducible exact o_sub) | (with_reducible exact o_lt) | (with_reducible exact o_le) | (with_reducible exact o_gt) | (with_reducible exact o_ge) | (with_reducible exact o_eqI) | (with_reducible exact o_neI) | (with_reducible exact o_eqS) | (with_reducible exact o_neS)
  | ((with_reducible apply o_mod); walk_at "c") | ((with_reducible apply o_div); walk_at "c") | ((with_reducible apply o_mulR); walk_at "c") | ((with_reducible apply o_mulL); walk_at "c") | ((with_reducible apply o_mulZ); walk_at "c")
  | ((with_reducible apply o_shl); walk_at "c") | ((with_reducible apply o_shr); walk_at "c") | ((with_reducible apply o_pow); walk_at "c")
  | ((with_reducible apply o_addS); walk_at "c") | ((with_reducible apply o_addL); walk_at "c") | ((with_reducible apply o_addT); walk_at "c")
  | ((with_reducible apply o_at); walk_at "@") | ((with_reducible apply o_eqD); assumption) | ((with_reducible apply o_neD); assumption)
  | (with_reducible exact o_lenL) | (with_reducible exact o_lenT) | (with_reducible exact o_lenR) | (with_reducible exact o_lenD) | ((with_reducible apply o_lenS); walk_at "c")
  | (with_reducible exact o_listL) | (with_reducible exact o_listT) | (with_reducible exact o_tupL) | (with_reducible exact o_tupT) | (with_reducible exact o_intI) | (with_reducible exact o_intB) | (with_reducible exact o_min2) | (with_reducible exact o_max2)
  | ((with_reducible apply o_join); walk_at "c") | ((with_reducible apply o_takeS); walk_at "c") | ((with_reducible apply o_dropS); walk_at "c") | ((with_reducible apply o_takeL); walk_at "c") | ((with_reducible apply o_dropL); walk_at "c") | ((with_reducible apply o_partL); walk_at "c") | ((with_reducible apply o_takeT); walk_at "c") | ((with_reducible apply o_dropT); walk_at "c") | ((with_reducible apply o_dropR); walk_at "c") | ((with_reducible apply o_partR); walk_at "c") | ((with_reducible apply o_cutS); walk_at "c") | (with_reducible exact o_cutL) | (with_reducible exact o_cutT) | (with_reducible exact o_cutR) | assumption)
local macro_rules | `(tactic| walk_at "a") => `(tactic| first
  | (with_reducible exact ev_nil)
  | ((with_reducible apply ev_cons); (· walk_at "e"); (· exact rfl); (· walk_at "a")))
local macro_rules | `(tactic| walk_at "e") => `(tactic| first
  | (with_reducible exact ev_int) | (with_reducible exact ev_abc) | (with_reducible exact ev_emp) | (with_reducible exact ev_str) | (with_reducible exact ev_bl) | (with_reducible exact ev_non) | (with_reducible exact ev_dicK) | (with_reducible exact ev_dicT)
  | ((with_reducible apply ev_var); exact rfl) | ((with_reducible apply ev_varO); exact rfl)
  | ((with_reducible apply ev_op2); (· walk_at "e"); (· exact rfl); (· walk_at "e"); (· walk_at "v"); (· walk_at "v"); (· walk_at "o"))
  | ((with_reducible apply ev_op1); (· walk_at "e"); (· exact rfl); (· exact rfl))
  | ((with_reducible apply ev_bi); (· walk_at "e"); (· walk_at "v"); (· walk_at "o"))
  | ((with_reducible apply ev_ba); (· walk_at "a"); (· walk_at "o"))
  | ((with_reducible apply ev_bm); (· walk_at "e"); (· exact rfl); (· walk_at "v"); (· exact rfl); (· walk_at "a"); (· walk_at "v"); (· walk_at "o"))
  | ((with_reducible apply ev_tup); (· walk_at "a"); (· walk_at "c"))
  | ((with_reducible apply ev_lst); (· walk_at "a"); (· walk_at "c"))
  | ((with_reducible apply ev_call); (· walk_at "a"); (· walk_at "f"))
  | ((with_reducible apply ev_sl); (· walk_at "e"); (· exact rfl); (· walk_at "p"); (· walk_at "p"); (· walk_at "v"); (· walk_at "o"))
  | assumption)
local macro_rules | `(tactic| walk_at "p") => `(tactic| first
  | (with_reducible exact ev_noPart)
  | ((with_reducible apply ev_part); (· walk_at "e"); (· exact rfl)))
local macro_rules | `(tactic| walk_at "t") => `(tactic| first
  | ((with_reducible apply ev_tv); (· walk_at "e"); (· exact rfl))
  | ((with_reducible apply ev_not); (· walk_at "t"))
  | assumption)
local macro_rules | `(tactic| walk_at "=") => `(tactic| (simp only [List.map_cons, List.map_nil, List.cons_append, List.nil_append, List.replicate_succ, List.replicate_zero, List.set_cons_zero, List.set_cons_succ, Nat.reduceSub, Nat.reduceAdd, kill, frz] <;> exact rfl))
local macro_rules | `(tactic| walk_at "s") => `(tactic| first
  | ((with_reducible apply ev_setF); (· walk_at "e"); (· walk_at "="))
  | ((with_reducible apply ev_setO); (· walk_at "e"); (· walk_at "="))
  | ((with_reducible apply ev_setG); (· walk_at "e"); (· exact rfl); (· exact rfl))
  | ((with_reducible apply ev_mut); (· exact rfl); (· exact rfl); (· walk_at "a"); (· walk_at "m"); (· walk_at "="))
  | ((with_reducible apply ev_expr); (· walk_at "e")))
local macro_rules | `(tactic| walk_at "m") => `(tactic| first | assumption | exact o_app (by walk_at "c"))
local macro_rules | `(tactic| walk_at "r") => `(tactic| first
  | ((with_reducible apply ev_ret); (· walk_at "e"))
  | ((with_reducible apply ev_retO); (· walk_at "e"))
  | ((with_reducible apply ev_retV); (· walk_at "e")))
theorem mix_eq (a b : Int) (ω : Om) : f_law_mix [.int a, .int b] ω = .ok (.fz (.int (mixF a b))) ω := by
  unfold f_law_mix mixF
  refine ev_fn rfl (by walk_at "=") (ev_seq (by walk_at "s") (by walk_at "r"))
theorem cell_eq (ns : List Int) (k : Nat) (hk : k < 2 ^ 20) (ω : Om) : f_law_cell [.scr ns, .int k] ω = .ok (.fz (.int (cellF ns k))) ω := by
  unfold f_law_cell cellF
  by_cases h : k < ns.length
  · have h5 : D.at (.scr ns) (.int k) = some (.int ns[k]) := at_scr (by omega) (by simp [h])
    rw [List.getElem?_eq_getElem h]
    dsimp only
    apply ev_fn
    · rfl
    · walk_at "="
    apply ev_seqR
    apply ev_ifT
    · walk_at "t"
    · simpa using h
    apply ev_ret
    apply ev_op2
    · apply ev_op2
      · walk_at "e"
      · rfl
      · walk_at "e"
      · walk_at "v"
      · walk_at "v"
      · walk_at "o"
    · rfl
    · walk_at "e"
    · walk_at "v"
    · walk_at "v"
    · walk_at "o"

  · rw [List.getElem?_eq_none (by omega)]
    dsimp only
    exact ev_fn rfl (by walk_at "=") (ev_seq (ev_ifF (by walk_at "t") (by simpa using h) rfl) (by walk_at "r"))
theorem names_eq (number : Int) (many : Nat) (h0 : 0 ≤ number) (hm : many ≤ 100) (ω : Om) : f_law_names [.int number, .int many] ω = .ok (.own (.lst ((List.range many).map fun k => .str (sx (nameF number k))))) ω := by
  have hs : (1 + number / 208 % 8).toNat ≤ 8 := by omega
  have hstep : ∀ ω : Om, D.at (.lst [.int 1, .int 3, .int 5, .int 7, .int 9, .int 11, .int 15, .int 17]) (.int (number / 26 % 8)) = some (.int (stepF number)) := by
    intro _
    unfold stepF
    refine at_lst (by omega) ?_
    have : (number / 26 % 8).toNat < 8 := by omega
    generalize (number / 26 % 8).toNat = n at this
    have : n = 0 ∨ n = 1 ∨ n = 2 ∨ n = 3 ∨ n = 4 ∨ n = 5 ∨ n = 6 ∨ n = 7 := by omega
    rcases this with rfl | rfl | rfl | rfl | rfl | rfl | rfl | rfl <;> rfl
  have hst2 := hstep ω
  unfold f_law_names
  apply ev_fn
  · rfl
  · walk_at "="
  apply ev_seq
  · walk_at "s"
  apply ev_seq
  · walk_at "s"
  apply ev_seq
  · walk_at "s"
  apply ev_seq
  · walk_at "s"
  apply ev_seq
  · walk_at "s"
  apply ev_seq
  · apply ev_setF
    · apply ev_bm
      · walk_at "e"
      · rfl
      · walk_at "v"
      · rfl
      · apply ev_cons
        · apply ev_lc
          · apply ev_range1 (n := (1 + number / 208 % 8).toNat)
            · apply ev_cons
              · exact ev_var rfl
              · rw [Int.toNat_of_nonneg (by omega)]
                rfl
              · exact ev_nil
            · omega
          · rfl
          · apply lcL_all (fun k : Nat => D.int (k : Int)) (fun k : Nat => D.str (sx [97 + (mixF number (20 + (k : Int)) % 26).toNat]))
            · rw [List.length_range]; omega
            · intro k hk
              have hm2 := mixF_lo number (20 + (k : Int))
              have e1 := mix_eq number (20 + (k : Int)) ω
              exact ⟨_, rfl, .inl (by walk_at "e")⟩
        · rfl
        · exact ev_nil
      · walk_at "v"
      · have e : (List.range (1 + number / 208 % 8).toNat).map (fun k : Nat => D.str (sx [97 + (mixF number (20 + (k : Int)) % 26).toNat])) = ((stemF number).map fun c => [c]).map fun l => D.str (sx l) := by
          simp [stemF]
        rw [e]
        apply o_join
        have h1 : ∀ l : List Nat, (l.map fun c => [c]).flatten.length = l.length := fun l => by
          induction l with
          | nil => rfl
          | cons c r ih => simp only [List.map_cons, List.flatten_cons, List.length_append, ih, List.length_cons, List.length_nil]; omega
        rw [h1]
        simp only [stemF, List.length_map, List.length_range]
        omega
    · walk_at "="
  have hst : ((stemF number).map fun c => [c]).flatten = stemF number := by
    induction stemF number with
    | nil => rfl
    | cons c r ih => simpa using ih
  rw [hst]
  have hlen : (stemF number).length ≤ 8 := by simp only [stemF, List.length_map, List.length_range]; omega
  apply ev_seq
  · walk_at "s"
  apply ev_seq
  · apply ev_for
    · apply ev_range1 (n := many)
      · walk_at "a"
      · omega
    · rfl
    · apply ev_forL (fun k : Nat => D.int (k : Int)) (fun acc : List D => [some (.fz (.int number)), some (.fz (.int many)), some (.fz (.str (sx abc))), some (.fz (.int (number % 26))), some (.fz (.int (stepF number))), some (.fz (.int (1 + number / 208 % 8))), some (.fz (.int (number / 1664 % (1 + number / 208 % 8)))), none, some (.fz (.str (sx (stemF number)))), some (.own (.lst acc)), none])
        (fun _ => ω) (fun acc k => acc ++ [D.str (sx (nameF number k))]) (fun i acc => acc.length = i) (List.range many) []
      · rfl
      · rfl
      · simp
      intro i acc k hk hacc
      obtain ⟨rfl, hk⟩ := range_at hk
      have ha0 : 0 ≤ number / 1664 % (1 + number / 208 % 8) := Int.emod_nonneg _ (by omega)
      have hl : (stemF number).length ≤ 8 := hlen
      refine ⟨by simp [hacc], _, [some (.fz (.int number)), some (.fz (.int many)), some (.fz (.str (sx abc))), some (.fz (.int (number % 26))), some (.fz (.int (stepF number))), some (.fz (.int (1 + number / 208 % 8))), some (.fz (.int (number / 1664 % (1 + number / 208 % 8)))), some (.fz (.int k)), some (.fz (.str (sx (stemF number)))), some (.own (.lst (acc ++ [D.str (sx (nameF number k))]))), some (.fz (.str (sx [signF number k])))], rfl, .inl ?_, rfl⟩
      apply ev_seq
      · walk_at "s"
      · apply ev_if
        · walk_at "t"
        · intro h
          have h := of_decide_eq_true h
          rw [show nameF number k = _ from if_pos h]
          apply ev_mut
          · rfl
          · rfl
          · apply ev_cons
            · apply ev_op2
              · apply ev_op2
                · apply ev_sl
                  · walk_at "e"
                  · rfl
                  · walk_at "p"
                  · walk_at "p"
                  · walk_at "v"
                  · walk_at "o"
                · rfl
                · walk_at "e"
                · walk_at "v"
                · walk_at "v"
                · walk_at "o"
              · rfl
              · apply ev_sl
                · walk_at "e"
                · rfl
                · walk_at "p"
                · walk_at "p"
                · walk_at "v"
                · walk_at "o"
              · walk_at "v"
              · walk_at "v"
              · walk_at "o"
            · rfl
            · walk_at "a"
          · walk_at "m"
          · walk_at "="
        · intro h
          have h := of_decide_eq_false h
          rw [show nameF number k = _ from if_neg h]
          walk_at "s"
  · rw [foldl_app]
    walk_at "r"
theorem put_eq (rows : List Row) (r : Row) (n : Nat) (ω : Om) (h : ω[n]? = some (netOb rows)) (hl : rows.length ≤ 100000) : f_Net_put [.obj n, r.enc] ω = .ok (.fz (.int (rowIx rows r : Nat))) (ω.set n (netOb (putRow rows r))) := by
  have hn : n < ω.length := (List.getElem?_eq_some_iff.mp h).1
  have hI : D.isin r.enc (.dit (places 0 rows)) = some (kvGet (places 0 rows) r.keys).isSome := isin_dit r.tkey
  have hin : dInOp true r.enc (.dit (places 0 rows)) ω = .ok (.fz (.bl (!(kvGet (places 0 rows) r.keys).isSome))) ω := q_nin hI
  have hvw : vw ω r.enc = r.enc := by cases r <;> rfl
  have test : dTv (dOp2 (dInOp true) (dVar 1) (dFld ["Net"] "places" (dVar 0))) [some (.fz (.obj n)), some (.fz r.enc)] ω = .ok (!(kvGet (places 0 rows) r.keys).isSome) ω := by
    apply ev_tv
    · apply ev_op2
      · exact ev_var rfl
      · rfl
      · exact ev_fldO (ev_var rfl) h (by decide) (net_places rows)
      · exact hvw
      · rfl
      · exact hin
    · rfl
  have look : ∀ (rs : List Row) (ω2 : Om), ω2[n]? = some (netOb rs) → kvGet (places 0 rs) r.keys = some (.int (rowIx rows r : Nat)) → (sRet (dOpV dAtOp (dFld ["Net"] "places" (dVar 0)) 1)) [some (.fz (.obj n)), some (.fz r.enc)] ω2 = .rt (.fz (.int (rowIx rows r : Nat))) ω2 := fun rs ω2 h2 hk => by
    apply ev_ret
    apply ev_opV
    · exact ev_fldO (ev_var rfl) h2 (by decide) (net_places rs)
    · rfl
    · rfl
    · rfl
    · have e : vw ω2 r.enc = r.enc := by cases r <;> rfl
      rw [e]
      exact o_at (at_dit r.tkey hk)
  apply ev_fn
  · rfl
  · walk_at "="
  by_cases hr : r ∈ rows
  · have hg := places_get 0 rows r
    rw [if_pos hr] at hg
    have e1 : putRow rows r = rows := if_pos hr
    have e2 : rowIx rows r = rows.idxOf r := if_pos hr
    have e3 : ω.set n (netOb rows) = ω := by
      refine List.ext_getElem? fun j => ?_
      rw [List.getElem?_set]
      split
      · rename_i hj
        subst hj
        rw [h]
      · rfl
    rw [e1, e3]
    apply ev_seq
    · apply ev_ifF test
      · rw [hg]; rfl
      · rfl
    · refine look rows ω h ?_
      rw [hg, e2, Nat.zero_add]
  · have hg := places_get 0 rows r
    rw [if_neg hr] at hg
    have e1 : putRow rows r = rows ++ [r] := if_neg hr
    have e2 : rowIx rows r = rows.length := if_neg hr
    have hnk : r.keys ∉ (places 0 rows).map (·.1) := kvGet_none.mp hg
    have hg2 := places_get 0 (rows ++ [r]) r
    rw [if_pos (by simp)] at hg2
    rw [e1]
    apply ev_seq (ω1 := ω.set n (netOb (rows ++ [r])))
    · apply ev_ifT test
      · rw [hg]; rfl
      · apply ev_seq
        · apply ev_putF
          · apply ev_bi
            · exact ev_fldO (ev_var rfl) h (by decide) (net_rows rows)
            · rfl
            · exact o_lenL
          · rfl
          · rfl
          · rfl
          · exact h
          · decide
          · exact net_places rows
          · exact oPut_dit r.tkey (by rw [places_len]; omega)
        · have h2 : (ω.set n (.ins "Net" (putR "places" (.own (.dit (kvPut (places 0 rows) r.keys (.int ((rows.map Row.enc).length : Nat))))) (netFs rows))))[n]? = some (.ins "Net" (putR "places" (.own (.dit (kvPut (places 0 rows) r.keys (.int ((rows.map Row.enc).length : Nat))))) (netFs rows))) := List.getElem?_set_self hn
          have e5 : kvPut (places 0 rows) r.keys (.int ((rows.map Row.enc).length : Nat)) = places 0 (rows ++ [r]) := by
            rw [kvPut_new hnk, places_app, List.length_map, Nat.zero_add]
            rfl
          have z := ev_mutF (i := 0) (j := 1) (T := "list") (C := "Net") (g := "rows") (cs := ["Net"]) (op := oAppend) (ρ := [some (.fz (.obj n)), some (.fz r.enc)]) rfl rfl h2 (by decide) (d := .lst (rows.map Row.enc)) rfl rfl (o_app (by rw [List.length_map]; omega))
          rw [z, List.set_set]
          have e6 : putR "rows" (.own (.lst (rows.map Row.enc ++ [r.enc]))) (putR "places" (.own (.dit (kvPut (places 0 rows) r.keys (.int ((rows.map Row.enc).length : Nat))))) (netFs rows)) = netFs (rows ++ [r]) := by
            rw [e5]
            unfold netFs
            rw [List.map_append]
            rfl
          rw [e6]
          rfl
    · refine look (rows ++ [r]) _ (List.getElem?_set_self hn) ?_
      rw [hg2, e2, List.idxOf_append]
      simp [hr]
theorem told_eq (rows : List Row) (n : Nat) (ω : Om) (h : ω[n]? = some (netOb rows)) : f_Net_told [.obj n] ω = .ok (.own (.lst (rows.map Row.enc))) ω := by
  apply ev_fn
  · rfl
  · walk_at "="
  apply ev_retO
  apply ev_bi
  · exact ev_fldO (ev_var rfl) h (by decide) (net_rows rows)
  · rfl
  · rfl
theorem init_eq (ω : Om) : f_Net_init [.obj ω.length] (ω ++ [.ins "Net" []]) = .ok (.fz .non) (ω ++ [netOb [.no, .yes]]) := by
  have h0 : (ω ++ [Ob.ins "Net" []])[ω.length]? = some (.ins "Net" []) := by simp
  apply ev_fnN
  · rfl
  · walk_at "="
  apply ev_seq
  · apply ev_fldSetO
    · walk_at "e"
    · rfl
    · exact h0
    · decide
    · decide
  · have h1 : ((ω ++ [Ob.ins "Net" []]).set ω.length (.ins "Net" (putR "rows" (.own (.lst [.tup [.str "no"], .tup [.str "yes"]])) [])))[ω.length]? = some (.ins "Net" (putR "rows" (.own (.lst [.tup [.str "no"], .tup [.str "yes"]])) [])) := List.getElem?_set_self (by simp)
    have z := ev_fldSetO (cs := ["Net"]) (C := "Net") (g := "places") (i := 0) (n := ω.length) (ρ := [some (.fz (.obj ω.length))]) (v := dDisT [((dTup (dCons (dStr "no") dNil)), (dInt 0)), ((dTup (dCons (dStr "yes") dNil)), (dInt 1))]) (ω := (ω ++ [Ob.ins "Net" []]).set ω.length (.ins "Net" (putR "rows" (.own (.lst [.tup [.str "no"], .tup [.str "yes"]])) [])))
      (d := .dit [([.inr "no"], .int 0), ([.inr "yes"], .int 1)]) (by
        refine (ev_disT (ds := [.tup [.str "no"], .int 0, .tup [.str "yes"], .int 1]) (kvs := [([.inr "no"], .int 0), ([.inr "yes"], .int 1)]) ?_ rfl (by decide)).trans rfl
        simp only [dFlat]
        walk_at "a") rfl h1 (by decide) (by decide)
    rw [z, List.set_set]
    have e : (ω ++ [Ob.ins "Net" []]).set ω.length (netOb [.no, .yes]) = ω ++ [netOb [.no, .yes]] := by
      rw [List.set_append_right _ _ (Nat.le_refl _)]
      simp
    rw [← e]
    rfl
theorem asked_eq (rows : List Row) (s nm : Str) (p : Int) (n : Nat) (ω : Om) (h : ω[n]? = some (netOb rows)) (hl : rows.length ≤ 100000) : f_Net_asked [.obj n, .str s, .str nm, .int p] ω = .ok (.fz (.int (rowIx rows (.inp s nm p) : Nat))) (ω.set n (netOb (putRow rows (.inp s nm p)))) := by
  have z := put_eq rows (.inp s nm p) n ω h hl
  apply ev_fn
  · rfl
  · walk_at "="
  apply ev_ret
  exact ev_meth (ev_var rfl) h (net_put rows "put" (by decide) (by decide)) (ev_cons (ev_tup (by walk_at "a") (by walk_at "c")) rfl ev_nil) z
theorem set_same {ω : Om} {n : Nat} {x : Ob} (h : ω[n]? = some x) : ω.set n x = ω := by
  refine List.ext_getElem? fun j => ?_
  rw [List.getElem?_set]
  have hn : n < ω.length := (List.getElem?_eq_some_iff.mp h).1
  split
  · rename_i hj
    subst hj
    rw [h]
  · rfl
theorem both_eq (rows : List Row) (i j : Int) (n : Nat) (ω : Om) (h : ω[n]? = some (netOb rows)) (hl : rows.length ≤ 100000) : f_Net_both [.obj n, .int i, .int j] ω = .ok (.fz (.int (bothF rows i j).1)) (ω.set n (netOb (bothF rows i j).2)) := by
  have hs := set_same h
  apply ev_fn
  · rfl
  · walk_at "="
  apply ev_seq
  · walk_at "s"
  apply ev_seq
  · walk_at "s"
  have e1 : (if j < i then j else i) = lowI i j := rfl
  have e2 : (if j > i then j else i) = highI i j := rfl
  rw [e1, e2]
  unfold bothF
  by_cases h0 : lowI i j = 0
  · rw [if_pos h0]
    apply ev_seqR
    apply ev_ifT
    · walk_at "t"
    · simpa using h0
    · show _ = SO.rt (R.fz (.int 0)) (ω.set n (netOb rows))
      rw [hs]
      walk_at "r"
  · rw [if_neg h0]
    apply ev_seq
    · apply ev_ifF
      · walk_at "t"
      · simpa using h0
      · rfl
    have ht : (dOrT (dTv (dOp2 dEqOp (dVar 3) (dInt 1))) (dTv (dOp2 dEqOp (dVar 3) (dVar 4)))) [some (.fz (.obj n)), some (.fz (.int i)), some (.fz (.int j)), some (.fz (.int (lowI i j))), some (.fz (.int (highI i j)))] ω = .ok (decide (lowI i j = 1) || decide (lowI i j = highI i j)) ω := by
      apply ev_orT
      · walk_at "t"
      · intro _
        walk_at "t"
    by_cases h1 : lowI i j = 1 ∨ lowI i j = highI i j
    · rw [if_pos h1]
      apply ev_seqR
      apply ev_ifT ht
      · simpa using h1
      · show _ = SO.rt (R.fz (.int (highI i j))) (ω.set n (netOb rows))
        rw [hs]
        walk_at "r"
    · rw [if_neg h1]
      apply ev_seq
      · apply ev_ifF ht
        · simpa using h1
        · rfl
      apply ev_ret
      exact ev_meth (ev_var rfl) h (net_put rows "put" (by decide) (by decide)) (ev_cons (ev_tup (by walk_at "a") (by walk_at "c")) rfl ev_nil) (put_eq rows (.and (lowI i j) (highI i j)) n ω h hl)
theorem differ_eq (rows : List Row) (i j : Int) (n : Nat) (ω : Om) (h : ω[n]? = some (netOb rows)) (hl : rows.length ≤ 100000) : f_Net_differ [.obj n, .int i, .int j] ω = .ok (.fz (.int (differF rows i j).1)) (ω.set n (netOb (differF rows i j).2)) := by
  have hs := set_same h
  apply ev_fn
  · rfl
  · walk_at "="
  apply ev_seq
  · walk_at "s"
  apply ev_seq
  · walk_at "s"
  have e1 : (if j < i then j else i) = lowI i j := rfl
  have e2 : (if j > i then j else i) = highI i j := rfl
  rw [e1, e2]
  unfold differF
  by_cases h0 : lowI i j = highI i j
  · rw [if_pos h0]
    apply ev_seqR
    apply ev_ifT
    · walk_at "t"
    · simpa using h0
    · show _ = SO.rt (R.fz (.int 0)) (ω.set n (netOb rows))
      rw [hs]
      walk_at "r"
  · rw [if_neg h0]
    apply ev_seq
    · apply ev_ifF
      · walk_at "t"
      · simpa using h0
      · rfl
    by_cases h1 : lowI i j = 0
    · rw [if_pos h1]
      apply ev_seqR
      apply ev_ifT
      · walk_at "t"
      · simpa using h1
      · show _ = SO.rt (R.fz (.int (highI i j))) (ω.set n (netOb rows))
        rw [hs]
        walk_at "r"
    · rw [if_neg h1]
      apply ev_seq
      · apply ev_ifF
        · walk_at "t"
        · simpa using h1
        · rfl
      apply ev_ret
      exact ev_meth (ev_var rfl) h (net_put rows "put" (by decide) (by decide)) (ev_cons (ev_tup (by walk_at "a") (by walk_at "c")) rfl ev_nil) (put_eq rows (.xor (lowI i j) (highI i j)) n ω h hl)
local macro_rules | `(tactic| walk_at "f") => `(tactic| with_reducible exact mix_eq _ _ _)
theorem at_ints {found : List Int} {i : Int} (h0 : 0 ≤ i) (h1 : i < found.length) : D.at (.lst (found.map D.int)) (.int i) = some (.int (getV found i)) := by
  refine at_lst h0 ?_
  have h2 : i.toNat < found.length := by omega
  rw [List.getElem?_map, List.getElem?_eq_getElem h2]
  unfold getV
  rw [List.getElem?_eq_getElem h2]
  rfl
theorem at_ins {ins : InsL} {s n : Str} {p : Int} (h : (insGet ins (s, n, p)).isSome = true) : D.at (.dit (insD ins)) (.tup [.str s, .str n, .int p]) = some (.int (insV ins s n p)) := by
  refine at_dit (q := bitK (s, n, p)) rfl ?_
  rw [insD_get]
  unfold insV
  cases e : insGet ins (s, n, p) with
  | none => rw [e] at h; cases h
  | some x => rfl
theorem settled_eq (rows : List Row) (ins : InsL) (m : Nat) (ω : Om) (h : ω[m]? = some (.box (.dit (insD ins)))) (hw : WFr rows) (hc : Cov ins rows) (hb : ∀ e ∈ ins, bit e.2) (hl : rows.length ≤ 100000) :
    f_law_settled [.lst (rows.map Row.enc), .obj m] ω = .ok (.own (.lst ((settleF (insV ins) rows).map D.int))) ω := by
  apply ev_fn
  · rfl
  · walk_at "="
  apply ev_seq
  · walk_at "s"
  apply ev_seq
  · apply ev_for
    · apply ev_seqI
      · exact ev_var rfl
      · rfl
      · rfl
    · rfl
    · apply ev_forL Row.enc (fun found : List Int => [some (.fz (.lst (rows.map Row.enc))), some (.fz (.obj m)), some (.own (.lst (found.map D.int))), none]) (fun _ => ω) (fun found r => found ++ [rowV (insV ins) found r]) (fun k found => found.length = k ∧ ∀ x ∈ found, bit x) rows []
      · rfl
      · rfl
      · exact ⟨rfl, fun x hx => nomatch hx⟩
      intro k found r hr hP
      obtain ⟨hk, hbits⟩ := hP
      have hok := hw k r hr
      have hlt := (List.getElem?_eq_some_iff.mp hr).1
      have hg : ∀ i, bit (getV found i) := fun i => by
        unfold getV
        cases e : found[i.toNat]? with
        | none => exact .inl rfl
        | some y => exact hbits y (List.mem_of_getElem? e)
      have hg2 : ∀ i, -(2 ^ 64) < getV found i ∧ getV found i < 2 ^ 64 := fun i => by rcases hg i with e | e <;> rw [e] <;> decide
      refine ⟨⟨by simp [hk], fun x hx => ?_⟩, _, [some (.fz (.lst (rows.map Row.enc))), some (.fz (.obj m)), some (.own (.lst ((found ++ [rowV (insV ins) found r]).map D.int))), some (.fz r.enc)], rfl, .inl ?_, rfl⟩
      · rcases List.mem_append.mp hx with hx | hx
        · exact hbits x hx
        · simp at hx
          subst hx
          cases r with
          | no => exact .inl rfl
          | yes => exact .inr rfl
          | inp s n p => exact insV_bit hb s n p
          | and i j => exact bit_mul (hg i) (hg j)
          | xor i j => exact bit_xor (hg i) (hg j)
      · rw [List.map_append]
        cases r with
        | no =>
          refine ev_ifF (by walk_at "t") (by decide) (ev_ifF (by walk_at "t") (by decide) (ev_ifF (by walk_at "t") (by decide) ?_))
          have e : oIndex (.lst [.str "no", .str "yes"]) [.str "no"] ω = .ok (.fz (.int 0)) ω := rfl
          walk_at "s"
        | yes =>
          refine ev_ifF (by walk_at "t") (by decide) (ev_ifF (by walk_at "t") (by decide) (ev_ifF (by walk_at "t") (by decide) ?_))
          have e : oIndex (.lst [.str "no", .str "yes"]) [.str "yes"] ω = .ok (.fz (.int 1)) ω := rfl
          walk_at "s"
        | inp s n p =>
          refine ev_ifT (by walk_at "t") (by decide) ?_
          have e := at_ins (hc s n p (List.mem_of_getElem? hr))
          walk_at "s"
        | and i j =>
          obtain ⟨h1, h2, h3⟩ := hok
          have e1 := at_ints (found := found) (i := i) h1 (by omega)
          have e2 := at_ints (found := found) (i := j) (by omega) (by omega)
          have e3 := hg2 j
          refine ev_ifF (by walk_at "t") (by decide) (ev_ifT (by walk_at "t") (by decide) ?_)
          walk_at "s"
        | xor i j =>
          obtain ⟨h1, h2, h3⟩ := hok
          have e1 := at_ints (found := found) (i := i) h1 (by omega)
          have e2 := at_ints (found := found) (i := j) (by omega) (by omega)
          refine ev_ifF (by walk_at "t") (by decide) (ev_ifF (by walk_at "t") (by decide) (ev_ifT (by walk_at "t") (by decide) ?_))
          walk_at "s"
  · walk_at "r"

abbrev om (rows : List Row) (known : List (Int × Int)) (ins : InsL) : Om := [netOb rows, .box (.lst (known.map fun k => .tup [.int k.1, .int k.2])), .box (.dit (insD ins))]
def sortF (number : Int) : Str := match (number / 64 % 3).toNat with
  | 0 => "box" | 1 => "door" | _ => "a"
def wideF (number : Int) : Int := match (number / 1024 % 2).toNat with
  | 0 => 2 | _ => 64
def placeF (number : Int) : Int := number / 256 % wideF number
def bitF (number truth : Int) : Bit := (sortF number, sx (nameF (mixF (number / 3 % 5) (truth % 1000)) (number / 16 % 4).toNat), placeF number)
def knownF (known : List (Int × Int)) (i : Int) : Int × Int := (known[i.toNat]?).getD (0, 0)
structure St where
  rows : List Row
  ins : InsL
def deedF (st : St) (known : List (Int × Int)) (number truth : Int) : (Int × Int) × St :=
  let one := knownF known (number / 3 % (known.length : Nat))
  let other := knownF known (mixF number 2 % (known.length : Nat))
  if number % 3 = 0 then
    let b := bitF number truth
    let ins' := match insGet st.ins b with
      | some _ => st.ins
      | none => st.ins ++ [(b, mixF truth (mixF number 4) / 8 % 2)]
    (((asksF st.rows b.1 b.2.1 b.2.2).1, insV ins' b.1 b.2.1 b.2.2), ⟨(asksF st.rows b.1 b.2.1 b.2.2).2, ins'⟩)
  else if number % 3 = 1 then (((bothF st.rows one.1 other.1).1, one.2 * other.2), ⟨(bothF st.rows one.1 other.1).2, st.ins⟩)
  else (((differF st.rows one.1 other.1).1, (one.2 + other.2) % 2), ⟨(differF st.rows one.1 other.1).2, st.ins⟩)
theorem at_known {known : List (Int × Int)} {i : Int} (h0 : 0 ≤ i) (h1 : i < known.length) : D.at (.lst (known.map fun k => .tup [.int k.1, .int k.2])) (.int i) = some (.tup [.int (knownF known i).1, .int (knownF known i).2]) := by
  refine at_lst h0 ?_
  have h2 : i.toNat < known.length := by omega
  unfold knownF
  rw [List.getElem?_map, List.getElem?_eq_getElem h2]
  rfl
theorem deed_eq (st : St) (known : List (Int × Int)) (number truth : Int) (h0 : 0 ≤ number) (hk : 0 < known.length) (hb : ∀ k ∈ known, bit k.2) (hl : st.rows.length ≤ 10000) (hi : st.ins.length ≤ 10000) :
    f_law_deed [.obj 0, .int number, .obj 1, .obj 2, .int truth] (om st.rows known st.ins) = .ok (.fz (.tup [.int (deedF st known number truth).1.1, .int (deedF st known number truth).1.2])) (om (deedF st known number truth).2.rows known (deedF st known number truth).2.ins) := by
  have w0 : (om st.rows known st.ins)[0]? = some (netOb st.rows) := rfl
  have w1 : (om st.rows known st.ins)[1]? = some (.box (.lst (known.map fun k => .tup [.int k.1, .int k.2]))) := rfl
  have w2 : (om st.rows known st.ins)[2]? = some (.box (.dit (insD st.ins))) := rfl
  have m0 := mixF_lo number 2
  have i1 : 0 ≤ number / 3 % ((known.map fun k => D.tup [.int k.1, .int k.2]).length : Nat) := Int.emod_nonneg _ (by rw [List.length_map]; omega)
  have i2 : number / 3 % ((known.map fun k => D.tup [.int k.1, .int k.2]).length : Nat) < known.length := by have := Int.emod_lt_of_pos (number / 3) (b := ((known.map fun k => D.tup [.int k.1, .int k.2]).length : Nat)) (by simp; omega); simpa using this
  have i3 : 0 ≤ mixF number 2 % ((known.map fun k => D.tup [.int k.1, .int k.2]).length : Nat) := Int.emod_nonneg _ (by rw [List.length_map]; omega)
  have i4 : mixF number 2 % ((known.map fun k => D.tup [.int k.1, .int k.2]).length : Nat) < known.length := by have := Int.emod_lt_of_pos (mixF number 2) (b := ((known.map fun k => D.tup [.int k.1, .int k.2]).length : Nat)) (by simp; omega); simpa using this
  have a1 := at_known i1 i2
  have a2 := at_known i3 i4
  have cl : (0 : Int) < ((known.map fun k => D.tup [.int k.1, .int k.2]).length : Nat) := by simp; omega
  have cd : (0 : Int) < 3 ∧ (3 : Int) < 1073741824 := by decide
  apply ev_fn
  · rfl
  · walk_at "="
  apply ev_seq
  · walk_at "s"
  apply ev_seq
  · walk_at "s"
  apply ev_seq
  · walk_at "s"
  have hlen : ((known.map fun k => D.tup [.int k.1, .int k.2]).length : Nat) = known.length := List.length_map ..
  have k1 : (knownF known (number / 3 % (known.length : Nat))) = knownF known (number / 3 % ((known.map fun k => D.tup [.int k.1, .int k.2]).length : Nat)) := by rw [hlen]
  have k2 : (knownF known (mixF number 2 % (known.length : Nat))) = knownF known (mixF number 2 % ((known.map fun k => D.tup [.int k.1, .int k.2]).length : Nat)) := by rw [hlen]
  unfold deedF
  simp only [k1, k2]
  have kb : ∀ i, bit (knownF known i).2 := fun i => by
    unfold knownF
    cases e : known[i.toNat]? with
    | none => exact .inl rfl
    | some y => exact hb y (List.mem_of_getElem? e)
  have b1 := kb (number / 3 % ((known.map fun k => D.tup [.int k.1, .int k.2]).length : Nat))
  have b2 := kb (mixF number 2 % ((known.map fun k => D.tup [.int k.1, .int k.2]).length : Nat))
  generalize knownF known (number / 3 % ((known.map fun k => D.tup [.int k.1, .int k.2]).length : Nat)) = one at a1 b1 ⊢
  generalize knownF known (mixF number 2 % ((known.map fun k => D.tup [.int k.1, .int k.2]).length : Nat)) = other at a2 b2 ⊢
  by_cases h : number % 3 = 0
  · rw [if_pos h]
    have e1 := names_eq (mixF (number / 3 % 5) (truth % 1000)) (1 + number / 16 % 4).toNat (mixF_lo _ _) (by omega) (om st.rows known st.ins)
    rw [Int.toNat_of_nonneg (by omega)] at e1
    have e2 : D.at (.lst [.str "box", .str "door", .str "a"]) (.int (number / 64 % 3)) = some (.str (sortF number)) := by
      unfold sortF
      refine at_lst (by omega) ?_
      have : (number / 64 % 3).toNat = 0 ∨ (number / 64 % 3).toNat = 1 ∨ (number / 64 % 3).toNat = 2 := by omega
      rcases this with e | e | e <;> rw [e] <;> rfl
    have e3 : D.at (.lst ((List.range (1 + number / 16 % 4).toNat).map fun k => D.str (sx (nameF (mixF (number / 3 % 5) (truth % 1000)) k)))) (.int (-1)) = some (.str (bitF number truth).2.1) := by
      refine at_last ?_
      rw [List.length_map, List.length_range, List.getElem?_map, List.getElem?_range (by omega)]
      show some (D.str (sx (nameF _ ((1 + number / 16 % 4).toNat - 1)))) = some (D.str (sx (nameF _ (number / 16 % 4).toNat)))
      rw [show (1 + number / 16 % 4).toNat - 1 = (number / 16 % 4).toNat by omega]
    have e4 : D.at (.lst [.int 2, .int 64]) (.int (number / 1024 % 2)) = some (.int (wideF number)) := by
      unfold wideF
      refine at_lst (by omega) ?_
      have : (number / 1024 % 2).toNat = 0 ∨ (number / 1024 % 2).toNat = 1 := by omega
      rcases this with e | e <;> rw [e] <;> rfl
    have e5 : 0 < wideF number := by
      unfold wideF
      split <;> decide
    have e6 : dInOp true (.tup [.str (sortF number), .str (bitF number truth).2.1, .int (placeF number)]) (.dit (insD st.ins)) (om st.rows known st.ins) = .ok (.fz (.bl (!(insGet st.ins (bitF number truth)).isSome))) (om st.rows known st.ins) := by
      refine q_nin ?_
      have z := isin_dit (x := .tup [.str (sortF number), .str (bitF number truth).2.1, .int (placeF number)]) (kvs := insD st.ins) (q := bitK (bitF number truth)) rfl
      rw [z, insD_get]
      cases insGet st.ins (bitF number truth) <;> rfl
    apply ev_seqR
    apply ev_killR
    apply ev_ifT
    · walk_at "t"
    · simpa using h
    apply ev_seq
    · walk_at "s"
    apply ev_seq
    · apply ev_setF
      · walk_at "e"
      · walk_at "="
    have fin : ∀ ins' : InsL, (insGet ins' (bitF number truth)).isSome = true → (sRet (dTup (dCons (dMeth "Net" "asked" f_Net_asked (dVar 0) (dCons (dOp2 dAtOp (dVar 9) (dInt 0)) (dCons (dOp2 dAtOp (dVar 9) (dInt 1)) (dCons (dOp2 dAtOp (dVar 9) (dInt 2)) dNil)))) (dCons (dOp2 dAtOp (dVar 3) (dVar 9)) dNil))))
        [some (.fz (.obj 0)), some (.fz (.int number)), some (.fz (.obj 1)), some (.fz (.obj 2)), some (.fz (.int truth)), some (.fz (.int (number % 3))), some (.fz (.tup [.int one.1, .int one.2])), some (.fz (.tup [.int other.1, .int other.2])), some (.own (.lst ((List.range (1 + number / 16 % 4).toNat).map fun k => D.str (sx (nameF (mixF (number / 3 % 5) (truth % 1000)) k))))), some (.fz (.tup [.str (sortF number), .str (bitF number truth).2.1, .int (number / 256 % wideF number)]))] (om st.rows known ins') =
        .rt (.fz (.tup [.int (asksF st.rows (bitF number truth).1 (bitF number truth).2.1 (bitF number truth).2.2).1, .int (insV ins' (bitF number truth).1 (bitF number truth).2.1 (bitF number truth).2.2)])) (om (asksF st.rows (bitF number truth).1 (bitF number truth).2.1 (bitF number truth).2.2).2 known ins') := fun ins' hs => by
      have f1 := asked_eq st.rows (bitF number truth).1 (bitF number truth).2.1 (bitF number truth).2.2 0 (om st.rows known ins') rfl (by omega)
      have f2 := at_ins hs
      apply ev_ret
      apply ev_tup
      · apply ev_cons
        · exact ev_meth (ev_var rfl) rfl (net_put st.rows "asked" (by decide) (by decide)) (by walk_at "a") f1
        · rfl
        · apply ev_cons
          · apply ev_op2
            · exact ev_var rfl
            · rfl
            · exact ev_var rfl
            · exact vw_box rfl
            · rfl
            · exact o_at f2
          · rfl
          · exact ev_nil
      · simp
    cases hI : insGet st.ins (bitF number truth) with
    | some x =>
      apply ev_seq
      · apply ev_ifF
        · walk_at "t"
        · rw [hI]; rfl
        · rfl
      · exact fin st.ins (by rw [hI]; rfl)
    | none =>
      apply ev_seq (ω1 := om st.rows known (st.ins ++ [(bitF number truth, mixF truth (mixF number 4) / 8 % 2)]))
      · apply ev_ifT
        · walk_at "t"
        · rw [hI]; rfl
        · have z := ev_putB (m := dVar 3) (f := dVar 9) (n := 2) (ρ := [some (.fz (.obj 0)), some (.fz (.int number)), some (.fz (.obj 1)), some (.fz (.obj 2)), some (.fz (.int truth)), some (.fz (.int (number % 3))), some (.fz (.tup [.int one.1, .int one.2])), some (.fz (.tup [.int other.1, .int other.2])), some (.own (.lst ((List.range (1 + number / 16 % 4).toNat).map fun k => D.str (sx (nameF (mixF (number / 3 % 5) (truth % 1000)) k))))), some (.fz (.tup [.str (sortF number), .str (bitF number truth).2.1, .int (number / 256 % wideF number)]))])
            (ω := om st.rows known st.ins) (ω1 := om st.rows known st.ins) (k := dOp2 dModOp (dOp2 dDivOp (dCall f_law_mix (dCons (dVar 4) (dCons (dCall f_law_mix (dCons (dVar 1) (dCons (dInt 4) dNil))) dNil))) (dInt 8)) (dInt 2))
            (r := .fz (.int (mixF truth (mixF number 4) / 8 % 2))) (by walk_at "e") rfl (ev_var rfl) (ev_var rfl) rfl (oPut_dit (q := bitK (bitF number truth)) rfl (by rw [insD, List.length_map]; omega))
          rw [insD_new hI] at z
          exact z
      · exact fin _ (by rw [insGet_app, hI]; simp [insGet])
  · rw [if_neg h]
    apply ev_seq
    · apply ev_killN
      · apply ev_ifF
        · walk_at "t"
        · simpa using h
        · rfl
      · walk_at "="
    have m1 : -(2 ^ 64) < other.2 ∧ other.2 < 2 ^ 64 := by rcases b2 with e | e <;> rw [e] <;> decide
    by_cases h1 : number % 3 = 1
    · rw [if_pos h1]
      dsimp only
      have z : f_Net_both [.obj 0, .int one.1, .int other.1] (om st.rows known st.ins) = .ok (.fz (.int (bothF st.rows one.1 other.1).1)) (om (bothF st.rows one.1 other.1).2 known st.ins) := both_eq st.rows one.1 other.1 0 (om st.rows known st.ins) rfl (by omega)
      apply ev_seqR
      apply ev_ifT
      · walk_at "t"
      · simpa using h1
      apply ev_ret
      apply ev_tup
      · apply ev_cons
        · exact ev_meth (ev_var rfl) rfl (net_put st.rows "both" (by decide) (by decide)) (by walk_at "a") z
        · rfl
        · walk_at "a"
      · simp
    · rw [if_neg h1]
      dsimp only
      have z : f_Net_differ [.obj 0, .int one.1, .int other.1] (om st.rows known st.ins) = .ok (.fz (.int (differF st.rows one.1 other.1).1)) (om (differF st.rows one.1 other.1).2 known st.ins) := differ_eq st.rows one.1 other.1 0 (om st.rows known st.ins) rfl (by omega)
      apply ev_seq
      · apply ev_ifF
        · walk_at "t"
        · simpa using h1
        · rfl
      apply ev_ret
      apply ev_tup
      · apply ev_cons
        · exact ev_meth (ev_var rfl) rfl (net_put st.rows "differ" (by decide) (by decide)) (by walk_at "a") z
        · rfl
        · walk_at "a"
      · simp

structure Inv (k : Nat) (st : St) (known : List (Int × Int)) : Prop where
  net : NetOk st.rows
  rl : st.rows.length ≤ 2 + k
  il : st.ins.length ≤ k
  kl : known.length = 2 + k
  cov : Cov st.ins st.rows
  bits : ∀ e ∈ st.ins, bit e.2
  inr : ∀ b, (insGet st.ins b).isSome = true → Row.inp b.1 b.2.1 b.2.2 ∈ st.rows
  sok : ∀ r ∈ st.rows, r.sok
  kn : ∀ p ∈ known, 0 ≤ p.1 ∧ p.1 < st.rows.length ∧ bit p.2 ∧ NV (insV st.ins) st.rows p.1 = p.2
theorem mem_put {rows : List Row} {r q : Row} (h : q ∈ putRow rows r) : q ∈ rows ∨ q = r := by
  unfold putRow at h
  split at h
  · exact .inl h
  · rcases List.mem_append.mp h with h | h
    · exact .inl h
    · exact .inr (by simpa using h)
theorem mem_both {rows : List Row} {i j : Int} {q : Row} (h : q ∈ (bothF rows i j).2) : q ∈ rows ∨ ∃ a b, q = .and a b := by
  unfold bothF at h
  split at h
  · exact .inl h
  · split at h
    · exact .inl h
    · rcases mem_put h with h | h
      · exact .inl h
      · exact .inr ⟨_, _, h⟩
theorem mem_differ {rows : List Row} {i j : Int} {q : Row} (h : q ∈ (differF rows i j).2) : q ∈ rows ∨ ∃ a b, q = .xor a b := by
  unfold differF at h
  split at h
  · exact .inl h
  · split at h
    · exact .inl h
    · rcases mem_put h with h | h
      · exact .inl h
      · exact .inr ⟨_, _, h⟩
/-- a step by a gate -/
theorem inv_gate {k : Nat} {st : St} {known : List (Int × Int)} {x : Int × List Row} {b : Int} (h : Inv k st known) (z : Step (insV st.ins) st.rows x b) (hb : bit b) (hm : ∀ q ∈ x.2, q ∈ st.rows ∨ (∃ a b, q = .and a b) ∨ ∃ a b, q = .xor a b) :
    Inv (k + 1) ⟨x.2, st.ins⟩ (known ++ [(x.1, b)]) := by
  obtain ⟨t, ht⟩ := z.pre
  have rl := h.rl
  have il := h.il
  have kl := h.kl
  have zl := z.len
  refine ⟨z.ok, by show x.2.length ≤ _; omega, by show st.ins.length ≤ _; omega, by rw [List.length_append, kl]; simp; omega, ?_, h.bits, fun c hc => ?_, fun r hr => ?_, fun p hp => ?_⟩
  · intro s n p hp
    rcases hm _ hp with e | ⟨_, _, e⟩ | ⟨_, _, e⟩
    · exact h.cov s n p e
    · cases e
    · cases e
  · show _ ∈ x.2
    rw [ht]
    exact List.mem_append_left _ (h.inr c hc)
  · rcases hm _ hr with e | ⟨_, _, e⟩ | ⟨_, _, e⟩
    · exact h.sok r e
    · subst e; trivial
    · subst e; trivial
  · rcases List.mem_append.mp hp with hp | hp
    · obtain ⟨a1, a2, a3, a4⟩ := h.kn p hp
      refine ⟨a1, ?_, a3, ?_⟩
      · show p.1 < (x.2.length : Nat)
        rw [ht, List.length_append]
        omega
      · show NV (insV st.ins) x.2 p.1 = p.2
        rw [ht, V_pre _ _ (by omega)]
        exact a4
    · have hp : p = (x.1, b) := by simpa using hp
      subst hp
      exact ⟨z.lo, z.hi, hb, z.val⟩
theorem sortF_ok (number : Int) : PyData.strOk (sortF number) = true := by
  unfold sortF
  split <;> decide +kernel
theorem deed_inv {k : Nat} {st : St} {known : List (Int × Int)} (number truth : Int) (h : Inv k st known) : Inv (k + 1) (deedF st known number truth).2 (known ++ [(deedF st known number truth).1]) := by
  have kn1 : ∀ i : Int, 0 ≤ i → i < known.length → knownF known i ∈ known := fun i h0 h1 => by
    unfold knownF
    rw [List.getElem?_eq_getElem (by omega : i.toNat < known.length)]
    exact List.getElem_mem _
  have hl : (0 : Int) < (known.length : Nat) := by rw [h.kl]; omega
  have o1 := h.kn _ (kn1 (number / 3 % (known.length : Nat)) (Int.emod_nonneg _ (by omega)) (Int.emod_lt_of_pos _ hl))
  have o2 := h.kn _ (kn1 (mixF number 2 % (known.length : Nat)) (Int.emod_nonneg _ (by omega)) (Int.emod_lt_of_pos _ hl))
  have hv := insV_bit h.bits
  unfold deedF
  generalize knownF known (number / 3 % (known.length : Nat)) = one at o1 ⊢
  generalize knownF known (mixF number 2 % (known.length : Nat)) = other at o2 ⊢
  dsimp only
  by_cases h0 : number % 3 = 0
  · simp only [h0, if_true]
    generalize hb : bitF number truth = b
    have hbs : PyData.strOk b.1 = true ∧ PyData.strOk b.2.1 = true := by
      rw [← hb]
      exact ⟨sortF_ok number, nameF_sok _ _⟩
    generalize hx : mixF truth (mixF number 4) / 8 % 2 = x
    have hxb : bit x := by
      have : x = 0 ∨ x = 1 := by omega
      exact this
    have main : ∀ c : InsL, (insGet (st.ins ++ c) b).isSome = true → (∀ e ∈ c, bit e.2) → c.length ≤ 1 → (∀ b', (insGet (st.ins ++ c) b').isSome = true → (insGet st.ins b').isSome = true ∨ b' = b) → Inv (k + 1) ⟨(asksF st.rows b.1 b.2.1 b.2.2).2, st.ins ++ c⟩ (known ++ [((asksF st.rows b.1 b.2.1 b.2.2).1, insV (st.ins ++ c) b.1 b.2.1 b.2.2)]) := fun c h1 h2 h3 h4 => by
      have z := step_asks (v := insV (st.ins ++ c)) h.net b.1 b.2.1 b.2.2
      have hbits : ∀ e ∈ st.ins ++ c, bit e.2 := fun e he => by
        rcases List.mem_append.mp he with he | he
        · exact h.bits e he
        · exact h2 e he
      have rl := h.rl
      have il := h.il
      have kl := h.kl
      have zl := z.len
      obtain ⟨t, ht⟩ := z.pre
      refine ⟨z.ok, by show (asksF st.rows b.1 b.2.1 b.2.2).2.length ≤ _; omega, by show (st.ins ++ c).length ≤ _; rw [List.length_append]; omega, by rw [List.length_append, kl]; simp; omega, ?_, hbits, fun b' hb' => ?_, fun r hr => ?_, fun p hp => ?_⟩
      · intro s n p hp
        rcases mem_put hp with e | e
        · have q := h.cov s n p e
          rw [insGet_app]
          cases e2 : insGet st.ins (s, n, p) with
          | none => rw [e2] at q; cases q
          | some y => rfl
        · cases e
          exact h1
      · show _ ∈ (asksF st.rows b.1 b.2.1 b.2.2).2
        rcases h4 b' hb' with e | e
        · rw [ht]
          exact List.mem_append_left _ (h.inr b' e)
        · subst e
          exact putRow_mem _ _
      · rcases mem_put hr with e | e
        · exact h.sok r e
        · subst e
          exact hbs
      · rcases List.mem_append.mp hp with hp | hp
        · obtain ⟨a1, a2, a3, a4⟩ := h.kn p hp
          refine ⟨a1, ?_, a3, ?_⟩
          · show p.1 < ((asksF st.rows b.1 b.2.1 b.2.2).2.length : Nat)
            rw [ht, List.length_append]
            omega
          · show NV (insV (st.ins ++ c)) (asksF st.rows b.1 b.2.1 b.2.2).2 p.1 = p.2
            rw [ht, V_pre _ _ (by omega)]
            unfold NV
            rw [settle_more st.rows h.cov]
            exact a4
        · have hp : p = ((asksF st.rows b.1 b.2.1 b.2.2).1, insV (st.ins ++ c) b.1 b.2.1 b.2.2) := by simpa using hp
          subst hp
          exact ⟨z.lo, z.hi, insV_bit hbits _ _ _, z.val⟩
    cases e : insGet st.ins b with
    | some y =>
      have m := main [] (by rw [List.append_nil, e]; rfl) (fun e he => nomatch he) (by simp) (fun b' hb' => .inl (by rw [List.append_nil] at hb'; exact hb'))
      rw [List.append_nil] at m
      exact m
    | none =>
      refine main [(b, x)] ?_ ?_ (by simp) ?_
      · rw [insGet_app, e, insGet_cons, if_pos rfl]
        rfl
      · intro e he
        have he : e = (b, x) := by simpa using he
        subst he
        exact hxb
      · intro b' hb'
        by_cases eb : b = b'
        · exact .inr eb.symm
        · left
          rw [insGet_app, insGet_cons, if_neg eb] at hb'
          cases e2 : insGet st.ins b' with
          | none => rw [e2] at hb'; cases hb'
          | some y => rfl
  · simp only [h0, if_false]
    obtain ⟨p1, p2, p3, p4⟩ := o1
    obtain ⟨q1, q2, q3, q4⟩ := o2
    by_cases h1 : number % 3 = 1
    · simp only [h1, if_true]
      have z := step_both (v := insV st.ins) h.net hv ⟨p1, p2⟩ ⟨q1, q2⟩
      rw [p4, q4] at z
      exact inv_gate h z (bit_mul p3 q3) fun q hq => (mem_both hq).imp_right .inl
    · simp only [h1, if_false]
      have z := step_differ (v := insV st.ins) h.net hv ⟨p1, p2⟩ ⟨q1, q2⟩
      rw [p4, q4] at z
      exact inv_gate h z (bit_xor p3 q3) fun q hq => (mem_differ hq).imp_right .inr

theorem place_eq (p : Int) (rows : List Row) (ω : Om) (h0 : 0 ≤ p) (h1 : p < rows.length) : f_law_place [.int p, .lst (rows.map Row.enc)] ω = .ok (.fz (.bl true)) ω := by
  have e1 : decide ((0 : Int) ≤ p) = true := decide_eq_true h0
  have e2 : decide (p < ((rows.map Row.enc).length : Nat)) = true := decide_eq_true (by rw [List.length_map]; exact h1)
  apply ev_fn
  · rfl
  · walk_at "="
  apply ev_ret
  have c : (dChain dLeOp dLtOp (dInt 0) (dVar 0) (dBi dLenOp (dVar 1))) [some (.fz (.int p)), some (.fz (.lst (rows.map Row.enc)))] ω = .ok (.fz (.bl true)) ω := by
    exact ev_chain (x := .int 0) (y := .int p) (z := .int p) (w := .int ((rows.map Row.enc).length : Nat)) (by walk_at "e") rfl (by walk_at "e") rfl rfl rfl (by rw [o_le, e1]) (by walk_at "e") rfl rfl (by rw [o_lt, e2])
  have a : (dIsT "int" (dVar 0)) [some (.fz (.int p)), some (.fz (.lst (rows.map Row.enc)))] ω = .ok (.fz (.bl true)) ω := ev_bi (ev_var rfl) rfl rfl
  have b : (dNotV (dIsT "bool" (dVar 0))) [some (.fz (.int p)), some (.fz (.lst (rows.map Row.enc)))] ω = .ok (.fz (.bl true)) ω := by
    have z : (dIsT "bool" (dVar 0)) [some (.fz (.int p)), some (.fz (.lst (rows.map Row.enc)))] ω = .ok (.fz (.bl false)) ω := ev_bi (ev_var rfl) rfl rfl
    simp only [dNotV, z, Out.bind, R.d]
    rfl
  simp only [dAndV, a, b, c, Out.bind, R.d]
theorem plain (ns : List Int) (hn : ns.length ≤ 63) : ∃ ω, f_law [.scr ns] [] = .ok (.fz (.bl true)) ω := by
  have c1 : f_law_cell [.scr ns, .int 1] [] = .ok (.fz (.int (cellF ns 1))) [] := cell_eq ns 1 (by decide) []
  generalize ht : mixF (cellF ns 1) 1 = truth
  have hcells : ((cellF ns 0) :: (ns.take 92).drop 2).length ≤ 64 := by
    rw [List.length_cons, List.length_drop, List.length_take]; omega
  generalize hc : (cellF ns 0) :: (ns.take 92).drop 2 = cells at hcells
  let step : (St × List (Int × Int)) → Int → (St × List (Int × Int)) := fun s c => ((deedF s.1 s.2 (mixF (c % 1000000007) 5) truth).2, s.2 ++ [(deedF s.1 s.2 (mixF (c % 1000000007) 5) truth).1])
  have inv0 : Inv 0 ⟨[.no, .yes], []⟩ [(0, 0), (1, 1)] := by
    refine ⟨netOk0, by simp, by simp, rfl, fun s n p hp => (by simp at hp), fun e he => (nomatch he), fun b hb => (by simp [insGet] at hb), fun r hr => ?_, fun p hp => ?_⟩
    · simp at hr
      rcases hr with e | e <;> subst e <;> trivial
    · simp at hp
      rcases hp with e | e <;> subst e
      · exact ⟨by decide, by decide, .inl rfl, netOk0.V0 _⟩
      · exact ⟨by decide, by decide, .inr rfl, netOk0.V1 _⟩
  have fin := foldl_ix (step := step) (P := fun k s => Inv k s.1 s.2) cells 0 (⟨[.no, .yes], []⟩, [(0, 0), (1, 1)]) inv0 (fun i s a _ hp => deed_inv _ _ hp)
  rw [Nat.zero_add] at fin
  refine ⟨[netOb (List.foldl step (⟨[.no, .yes], []⟩, [(0, 0), (1, 1)]) cells).1.rows, .dead, .box (.dit (insD (List.foldl step (⟨[.no, .yes], []⟩, [(0, 0), (1, 1)]) cells).1.ins))], ?_⟩
  apply ev_fn
  · rfl
  · walk_at "="
  apply ev_seq
  · walk_at "s"
  rw [ht]
  apply ev_seq
  · apply ev_setF (d := .obj 0) (ω1 := [netOb [.no, .yes]])
    · exact ev_make (ω1 := []) (ds := []) (ω2 := [netOb [.no, .yes]]) rfl (init_eq [])
    · walk_at "="
  apply ev_seq
  · apply ev_setF (d := .obj 1) (ω1 := [netOb [.no, .yes], .box (.lst [.tup [.int 0, .int 0], .tup [.int 1, .int 1]])])
    · apply ev_box (ω1 := [netOb [.no, .yes]])
      walk_at "e"
    · walk_at "="
  apply ev_seq
  · apply ev_setF (d := .obj 2) (ω1 := om [.no, .yes] [(0, 0), (1, 1)] [])
    · exact ev_box (ω1 := [netOb [.no, .yes], .box (.lst [.tup [.int 0, .int 0], .tup [.int 1, .int 1]])]) ev_dicT
    · walk_at "="
  apply ev_seq
  · apply ev_setO (d := .lst ([Row.no, .yes].map Row.enc)) (ω1 := om [.no, .yes] [(0, 0), (1, 1)] [])
    · exact ev_meth (n := 0) (C := "Net") (fs := netFs [.no, .yes]) (ω1 := om [.no, .yes] [(0, 0), (1, 1)] []) (ω2 := om [.no, .yes] [(0, 0), (1, 1)] []) (ds := []) (ev_var rfl) rfl (net_put [.no, .yes] "told" (by decide) (by decide)) rfl (told_eq [.no, .yes] 0 (om [.no, .yes] [(0, 0), (1, 1)] []) rfl)
    · walk_at "="
  have c0 : f_law_cell [.scr ns, .int 0] (om [.no, .yes] [(0, 0), (1, 1)] []) = .ok (.fz (.int (cellF ns 0))) (om [.no, .yes] [(0, 0), (1, 1)] []) := cell_eq ns 0 (by decide) _
  have hitems : [D.int (cellF ns 0)] ++ ((ns.take 92).drop 2).map D.int = cells.map D.int := by rw [← hc]; rfl
  let env : En := [some (.fz (.scr ns)), some (.fz (.int truth)), some (.fz (.obj 0)), some (.fz (.obj 1)), some (.fz (.obj 2)), some (.own (.lst ([Row.no, .yes].map Row.enc))), none, none, none, none, none]
  apply ev_seq
  · apply ev_for (xs := cells.map D.int) (bs := []) (ω1 := om [.no, .yes] [(0, 0), (1, 1)] [])
    · rw [← hitems]
      refine ev_seqI (r := .own (.lst ([D.int (cellF ns 0)] ++ ((ns.take 92).drop 2).map D.int))) ?_ rfl rfl
      apply ev_op2 (r := .own (.lst [.int (cellF ns 0)])) (s := .own (.lst (((ns.take 92).drop 2).map D.int))) (x := .lst [.int (cellF ns 0)]) (y := .lst (((ns.take 92).drop 2).map D.int))
      · walk_at "e"
      · rfl
      · exact ev_sl (x := .scr ns) (ev_var rfl) rfl (ev_part ev_int rfl) (ev_part ev_int rfl) rfl (o_partR ⟨by decide, by decide⟩)
      · rfl
      · rfl
      · apply o_addL
        simp
        omega
    · rfl
    · apply ev_forL (fun c : Int => D.int c) (fun _ => env) (fun s => om s.1.rows s.2 s.1.ins) step (fun k s => Inv k s.1 s.2) cells (⟨[.no, .yes], []⟩, [(0, 0), (1, 1)])
      · rfl
      · rfl
      · exact inv0
      intro k s c hc2 hi
      have hk : k < cells.length := (List.getElem?_eq_some_iff.mp hc2).1
      refine ⟨deed_inv _ _ hi, _, env.set 6 (some (.fz (.int c))), rfl, .inl ?_, rfl⟩
      have rl := hi.rl
      have il := hi.il
      have kl := hi.kl
      have d1 := deed_eq s.1 s.2 (mixF (c % 1000000007) 5) truth (mixF_lo _ _) (by omega) (fun p hp => (hi.kn p hp).2.2.1) (by omega) (by omega)
      have z := ev_mutB (T := "list") (f := dVar 3) (n := 1) (ρ := env.set 6 (some (.fz (.int c)))) (ω := om s.1.rows s.2 s.1.ins) (ω1 := om s.1.rows s.2 s.1.ins) (op := oAppend)
        (a := dCons (dCall f_law_deed (dCons (dVar 2) (dCons (dCall f_law_mix (dCons (dOp2 dModOp (dVar 6) (dInt 1000000007)) (dCons (dInt 5) dNil))) (dCons (dVar 3) (dCons (dVar 4) (dCons (dVar 1) dNil)))))) dNil)
        (d := .lst (s.2.map fun k => .tup [.int k.1, .int k.2])) (d2 := .lst (s.2.map fun k => .tup [.int k.1, .int k.2]))
        (ω2 := om (deedF s.1 s.2 (mixF (c % 1000000007) 5) truth).2.rows s.2 (deedF s.1 s.2 (mixF (c % 1000000007) 5) truth).2.ins)
        (ds := [.tup [.int (deedF s.1 s.2 (mixF (c % 1000000007) 5) truth).1.1, .int (deedF s.1 s.2 (mixF (c % 1000000007) 5) truth).1.2]])
        (ev_var rfl) rfl rfl (by walk_at "a") rfl (o_app (by rw [List.length_map]; omega))
      refine z.trans ?_
      show SO.nx _ _ = SO.nx _ (om (deedF s.1 s.2 (mixF (c % 1000000007) 5) truth).2.rows (s.2 ++ [(deedF s.1 s.2 (mixF (c % 1000000007) 5) truth).1]) (deedF s.1 s.2 (mixF (c % 1000000007) 5) truth).2.ins)
      unfold om
      rw [List.map_append]
      rfl
  generalize hfold : List.foldl step (⟨[.no, .yes], []⟩, [(0, 0), (1, 1)]) cells = res at fin ⊢
  obtain ⟨⟨rows, ins⟩, known⟩ := res
  dsimp only at fin ⊢
  have rl := fin.rl
  have il := fin.il
  have kl := fin.kl
  dsimp only at rl il kl
  let env2 : En := [some (.fz (.scr ns)), some (.fz (.int truth)), some (.fz (.obj 0)), some (.fz (.obj 1)), some (.fz (.obj 2)), some (.own (.lst ([Row.no, .yes].map Row.enc))), none, some (.own (.lst (rows.map Row.enc))), none, none, none]
  apply ev_seq (ρ' := env2) (ω1 := om rows known ins)
  · apply ev_setO (d := .lst (rows.map Row.enc)) (ω1 := om rows known ins)
    · exact ev_meth (n := 0) (C := "Net") (fs := netFs rows) (ω1 := om rows known ins) (ω2 := om rows known ins) (ds := []) (ev_var rfl) rfl (net_put rows "told" (by decide) (by decide)) rfl (told_eq rows 0 (om rows known ins) rfl)
    · rfl
  have t1 : (dIsT "list" (dVar 5)) env2 (om rows known ins) = .ok (.fz (.bl true)) (om rows known ins) := ev_bi (ev_varO rfl) rfl rfl
  have t2 : (dIsT "list" (dVar 7)) env2 (om rows known ins) = .ok (.fz (.bl true)) (om rows known ins) := ev_bi (ev_varO rfl) rfl rfl
  have q1 : D.eq (.lst ([Row.no, .yes].map Row.enc)) (.lst [.tup [.str "no"], .tup [.str "yes"]]) = some true := rows_self (rows := [.no, .yes]) (fun r hr => by
    simp at hr
    rcases hr with e | e <;> subst e <;> trivial)
  apply ev_seq (ρ' := env2) (ω1 := om rows known ins)
  · apply ev_ifF (b := false)
    · apply ev_orT (b := false) (b2 := false)
      · exact ev_not (b := true) (ev_tv t1 rfl)
      · intro _
        apply ev_orT (b := false) (b2 := false)
        · refine ev_tv (r := .fz (.bl false)) ?_ rfl
          exact ev_op2 (x := .lst ([Row.no, .yes].map Row.enc)) (y := .lst [.tup [.str "no"], .tup [.str "yes"]]) (ev_varO rfl) rfl (by walk_at "e") rfl rfl (by rw [o_neD q1]; rfl)
        · intro _
          exact ev_not (b := true) (ev_tv t2 rfl)
    · rfl
    · rfl
  let env3 : En := [some (.fz (.scr ns)), some (.fz (.int truth)), some (.fz (.obj 0)), some (.fz (.obj 1)), some (.fz (.obj 2)), some (.own (.lst ([Row.no, .yes].map Row.enc))), none, some (.fz (.lst (rows.map Row.enc))), some (.own (.lst ((settleF (insV ins) rows).map D.int))), none, none]
  apply ev_seq (ρ' := env3) (ω1 := om rows known ins)
  · apply ev_frz (ρ' := [some (.fz (.scr ns)), some (.fz (.int truth)), some (.fz (.obj 0)), some (.fz (.obj 1)), some (.fz (.obj 2)), some (.own (.lst ([Row.no, .yes].map Row.enc))), none, some (.fz (.lst (rows.map Row.enc))), none, none, none])
    · rfl
    · apply ev_setO (d := .lst ((settleF (insV ins) rows).map D.int)) (ω1 := om rows known ins)
      · exact ev_call (ds := [.lst (rows.map Row.enc), .obj 2]) (ω1 := om rows known ins) (ev_cons (ev_var rfl) rfl (ev_cons (ev_var rfl) rfl ev_nil)) (settled_eq rows ins 2 (om rows known ins) rfl fin.net.wf fin.cov fin.bits (by omega))
      · rfl
  let om2 : Om := [netOb rows, .dead, .box (.dit (insD ins))]
  let env4 : En := [some (.fz (.scr ns)), some (.fz (.int truth)), some (.fz (.obj 0)), some (.fz (.lst (known.map fun k => .tup [.int k.1, .int k.2]))), some (.fz (.obj 2)), some (.own (.lst ([Row.no, .yes].map Row.enc))), none, some (.fz (.lst (rows.map Row.enc))), some (.own (.lst ((settleF (insV ins) rows).map D.int))), none, none]
  apply ev_seq (ρ' := env4) (ω1 := om2)
  · apply ev_frzO (n := 1) (d := .lst (known.map fun k => .tup [.int k.1, .int k.2])) (ρ' := env4)
    · rfl
    · rfl
    · rfl
    · apply ev_for (xs := known.map fun k => .tup [.int k.1, .int k.2]) (bs := []) (ω1 := om2)
      · exact ev_seqI (ev_var rfl) rfl rfl
      · rfl
      · have z := fun body h => ev_forL (t := .tp [9, 10]) (kl := [9, 10]) (body := body) (ρ := env4) (ω := om2) (fun k : Int × Int => D.tup [.int k.1, .int k.2]) (fun _ : Unit => env4) (fun _ => om2) (fun _ _ => ()) (fun _ _ => True) known () rfl rfl trivial h
        apply z
        intro k s p hp _
        have hm := fin.kn p (List.mem_of_getElem? hp)
        dsimp only at hm
        obtain ⟨a1, a2, a3, a4⟩ := hm
        have hg : D.at (.lst ((settleF (insV ins) rows).map D.int)) (.int p.1) = some (.int p.2) := by
          rw [at_ints a1 (by rw [settle_len]; exact a2)]
          exact congrArg (fun x => some (D.int x)) a4
        have pe := place_eq p.1 rows om2 a1 a2
        refine ⟨trivial, (env4.set 9 (some (.fz (.int p.1)))).set 10 (some (.fz (.int p.2))), (env4.set 9 (some (.fz (.int p.1)))).set 10 (some (.fz (.int p.2))), rfl, .inl ?_, rfl⟩
        apply ev_frz
        · rfl
        · apply ev_ifF (b := false)
          · apply ev_orT (b := false) (b2 := false)
            · exact ev_not (b := true) (ev_tv (ev_call (ds := [.int p.1, .lst (rows.map Row.enc)]) (ev_cons (ev_var rfl) rfl (ev_cons (ev_var rfl) rfl ev_nil)) pe) rfl)
            · intro _
              refine ev_tv (r := .fz (.bl false)) ?_ rfl
              refine ev_op2 (x := .int p.2) (y := .int p.2) (ev_op2 (x := .lst ((settleF (insV ins) rows).map D.int)) (y := .int p.1) (ev_varO rfl) rfl (ev_var rfl) rfl rfl (o_at hg)) rfl (ev_var rfl) rfl rfl ?_
              rw [o_neI]
              simp
          · rfl
          · rfl
  let fb : Bit × Int → D := fun e => .tup [.str e.1.1, .str e.1.2.1, .int e.1.2.2]
  let kb : Bit × Int → PyData := fun e => .tuple [.str e.1.1, .str e.1.2.1, .int e.1.2.2]
  have hkeys : (insD ins).map (fun kv => D.tup (kv.1.map keyD)) = ins.map fb := by
    unfold insD
    rw [List.map_map]
    rfl
  have hsort := o_sort (f := fb) (k := kb) (ω := om2) (fun e => rfl) ins (alikeB_of (fun a b => by simp [kb, PySem.W.alike, PySem.W.alikeAll]) ins) (by
    unfold sortB
    rw [Bool.or_eq_true]
    left
    rw [List.all_eq_true]
    intro q hq
    obtain ⟨e, _, rfl⟩ := List.mem_map.mp hq
    rfl) (fun e => by simp [kb, PyData.depth, PyData.depthAll])
  apply ev_seq (ρ' := env4) (ω1 := om2)
  · apply ev_for (xs := (ins.mergeSort (PySem.W.dataLe false kb)).map fb) (bs := []) (ω1 := om2)
    · refine ev_seqI (r := .own (.lst ((ins.mergeSort (PySem.W.dataLe false kb)).map fb))) ?_ rfl rfl
      apply ev_bi (r := .own (.lst (ins.map fb))) (x := .lst (ins.map fb)) (ω1 := om2)
      · apply ev_bi (r := .fz (.obj 2)) (x := .dit (insD ins)) (ω1 := om2)
        · exact ev_var rfl
        · exact vw_box rfl
        · rw [← hkeys]
          rfl
      · rfl
      · exact hsort
    · rfl
    · have z := fun body h => ev_forL (t := .nm 10) (kl := [9, 10]) (body := body) (ρ := env4) (ω := om2) fb (fun _ : Unit => env4) (fun _ => om2) (fun _ _ => ()) (fun _ _ => True) (ins.mergeSort (PySem.W.dataLe false kb)) () rfl rfl trivial h
      apply z
      intro k s e he _
      have hmem : e ∈ ins := List.mem_mergeSort.mp (List.mem_of_getElem? he)
      have hget : (insGet ins e.1).isSome = true := by
        cases hh : insGet ins e.1 with
        | none => exact absurd (List.mem_map.mpr ⟨e, hmem, rfl⟩) (insGet_none.mp hh)
        | some x => rfl
      have hin : Row.inp e.1.1 e.1.2.1 e.1.2.2 ∈ rows := fin.inr e.1 hget
      have hput : putRow rows (.inp e.1.1 e.1.2.1 e.1.2.2) = rows := if_pos hin
      have ask := asked_eq rows e.1.1 e.1.2.1 e.1.2.2 0 om2 rfl (by omega)
      rw [hput] at ask
      have hix := rowIx_at rows (.inp e.1.1 e.1.2.1 e.1.2.2)
      rw [hput] at hix
      generalize hj : rowIx rows (.inp e.1.1 e.1.2.1 e.1.2.2) = j at ask hix
      have hat : D.at (.lst (rows.map Row.enc)) (.int (j : Nat)) = some (.tup [.str "in", .str e.1.1, .str e.1.2.1, .int e.1.2.2]) := by
        refine at_lst (by omega) ?_
        rw [Int.toNat_natCast, List.getElem?_map, hix]
        rfl
      have hself : D.eq (.tup [.str "in", .str e.1.1, .str e.1.2.1, .int e.1.2.2]) (.tup [.str "in", .str e.1.1, .str e.1.2.1, .int e.1.2.2]) = some true := row_self (r := .inp e.1.1 e.1.2.1 e.1.2.2) (fin.sok _ hin)
      refine ⟨trivial, env4.set 10 (some (.fz (fb e))), (env4.set 9 (some (.fz (.int (j : Nat))))).set 10 (some (.fz (fb e))), rfl, .inl ?_, rfl⟩
      apply ev_seq (ρ' := (env4.set 9 (some (.fz (.int (j : Nat))))).set 10 (some (.fz (fb e)))) (ω1 := om2)
      · apply ev_setF (d := .int (j : Nat)) (ω1 := om2)
        · refine ev_meth (n := 0) (C := "Net") (fs := netFs rows) (ω1 := om2) (ω2 := om2) (ds := [.str e.1.1, .str e.1.2.1, .int e.1.2.2]) (ev_var rfl) rfl (net_put rows "asked" (by decide) (by decide)) ?_ ask
          have q : ∀ (i : Int) (d : D), D.at (fb e) (.int i) = some d → (dOp2 dAtOp (dVar 10) (dInt i)) (env4.set 10 (some (.fz (fb e)))) om2 = .ok (.fz d) om2 := fun i d hd => ev_op2 (x := fb e) (y := .int i) (ev_var rfl) rfl ev_int rfl rfl (o_at hd)
          exact ev_cons (q 0 _ rfl) rfl (ev_cons (q 1 _ rfl) rfl (ev_cons (q 2 _ rfl) rfl ev_nil))
        · rfl
      · apply ev_ifF (b := false) (ω1 := om2)
        · refine ev_tv (r := .fz (.bl false)) (ω1 := om2) ?_ rfl
          have q : ∀ (i : Int) (d : D), D.at (fb e) (.int i) = some d → (dOp2 dAtOp (dVar 10) (dInt i)) ((env4.set 9 (some (.fz (.int (j : Nat))))).set 10 (some (.fz (fb e)))) om2 = .ok (.fz d) om2 := fun i d hd => ev_op2 (x := fb e) (y := .int i) (ev_var rfl) rfl ev_int rfl rfl (o_at hd)
          refine ev_op2 (x := .tup [.str "in", .str e.1.1, .str e.1.2.1, .int e.1.2.2]) (y := .tup [.str "in", .str e.1.1, .str e.1.2.1, .int e.1.2.2]) (ev_op2 (x := .lst (rows.map Row.enc)) (y := .int (j : Nat)) (ev_var rfl) rfl (ev_var rfl) rfl rfl (o_at hat)) rfl (ev_tup (ev_cons ev_str rfl (ev_cons (q 0 _ rfl) rfl (ev_cons (q 1 _ rfl) rfl (ev_cons (q 2 _ rfl) rfl ev_nil)))) (by simp)) rfl rfl ?_
          rw [o_neD hself]
          rfl
        · rfl
        · rfl
  apply ev_seq (ρ' := env4.set 5 (some (.own (.lst ([Row.no, .yes].map Row.enc ++ [.tup [.str "no"]]))))) (ω1 := om2)
  · exact ev_mut (d := .lst ([Row.no, .yes].map Row.enc)) (ds := [.tup [.str "no"]]) (ω1 := om2) rfl rfl (by walk_at "a") rfl rfl
  · apply ev_ret
    have q2 := rows_self fin.sok
    have t3 : (dMeth "Net" "told" f_Net_told (dVar 2) dNil) (env4.set 5 (some (.own (.lst ([Row.no, .yes].map Row.enc ++ [.tup [.str "no"]]))))) om2 = .ok (.own (.lst (rows.map Row.enc))) om2 := ev_meth (n := 0) (C := "Net") (fs := netFs rows) (ω1 := om2) (ω2 := om2) (ds := []) (ev_var rfl) rfl (net_put rows "told" (by decide) (by decide)) rfl (told_eq rows 0 om2 rfl)
    exact ev_op2 (x := .lst (rows.map Row.enc)) (y := .lst (rows.map Row.enc)) t3 rfl (ev_var rfl) rfl rfl (o_eqD q2)
end K55
theorem PySem.Challenge.cw_beatwright_k55_gates_put_holds : PySem.Challenge.rw_beatwright_k55_gates_put.Holds :=
  K55.holds K55.plain
