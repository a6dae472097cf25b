import PyProof.Rows.All
import Wide.All
import OpenK.AllK
import Wide.FinOn
import HandS.ForMost
import HandS.Walk
import HandS.Star
import HandS.TupAny
import HandS.Slots
import HandS.SlotsOwn
import HandS.Wide
import HandS.IsInst
import HandS.Property
import KE.GoesEnum
import HandS.Style
import HandS.EndBits
import PyProof.ReprRoads
import PySem.Challenge.RW_arealots_k56_whole_walkers_led
set_option autoImplicit false
set_option Elab.async false
set_option linter.all false
set_option maxRecDepth 100000
set_option autoImplicit false
/-! DL1: values as data, what stands for them in the abstract heap, the judgements over data. -/
namespace DL
open PySem PySem.Spec L2

/-- data: what a value is, without addresses, but for things that change (ref) -/
inductive D where
  | non | bl (b : Bool) | int (i : Int) | str (x : Str)
  | tup (ds : List D) | lst (ds : List D) | rl (ds : List D)
  | obj (C : Str) (ns : List Str) (ds : List D)
  | slo (C : Str) (ds : List D)
  | dct (ks : List Key) (ds : List D)
  | ref (a : Addr)

/-- what a changing thing holds -/
inductive MO where
  | lst (ds : List D) | ins (C : Str) (ns : List Str) (ds : List D) | dct (ks : List Key) (ds : List D)

abbrev Mem := Addr → Option MO
def mput (M : Mem) (a : Addr) (o : MO) : Mem := fun b => if b = a then some o else M b
theorem mput_same {M : Mem} {a : Addr} {o : MO} : mput M a o a = some o := by unfold mput; rw [if_pos rfl]
theorem mput_ne {M : Mem} {a b : Addr} {o : MO} (h : b ≠ a) : mput M a o b = M b := by unfold mput; rw [if_neg h]
theorem mput_mput {M : Mem} {a : Addr} {o u : MO} : mput (mput M a o) a u = mput M a u := by funext b; unfold mput; split <;> rfl

/-- a slot of a def: nothing, a value, or a list that only this slot knows -/
inductive Sl where
  | no | val (d : D) | own (ds : List D)
structure DS where
  env : List Sl
  mem : Mem

section
variable (K : PySem.W.Frag) (mg : Str → Option Value) (F : Hp)
mutual
def Rep : D → V → Prop
  | .non, v => v = .non
  | .bl b, v => v = .bl b
  | .int i, v => v = .int i
  | .str x, v => v = .str x
  | .tup ds, v => ∃ a vs, v = .ref a ∧ SqT K F a vs ∧ Reps ds vs
  | .lst ds, v => ∃ a vs, v = .ref a ∧ F a = some (.lst vs) ∧ Reps ds vs
  | .rl ds, v => ∃ a vs, v = .ref a ∧ SqL K F a vs ∧ Reps ds vs
  | .obj C ns ds, v => ∃ a c dx fs, v = .ref a ∧ mg C = some (.ref c) ∧ F a = some (.ins c dx fs) ∧ fs.map (·.1) = ns ∧ Reps ds (fs.map (·.2))
  | .slo C ds, v => ∃ a c dx vs, v = .ref a ∧ mg C = some (.ref c) ∧ SlX.Slt F a c dx (vs.map some) ∧ vs ≠ [] ∧ Reps ds vs
  | .dct ks ds, v => ∃ a kvs, v = .ref a ∧ F a = some (.dK kvs) ∧ kvs.map (·.1) = ks ∧ Reps ds (kvs.map (·.2))
  | .ref a, v => v = .ref a
def Reps : List D → List V → Prop
  | [], vs => vs = []
  | d :: ds, vs => ∃ v r, vs = v :: r ∧ Rep d v ∧ Reps ds r
end
end

def Sub (F H : Hp) : Prop := ∀ b o, F b = some o → H b = some o
theorem Sub.refl (H : Hp) : Sub H H := fun _ _ h => h
theorem Sub.trans {F G H : Hp} (a : Sub F G) (b : Sub G H) : Sub F H := fun c o h => b c o (a c o h)
theorem Sub.upd {F H : Hp} {a : Addr} {o : HO} (s : Sub F H) : Sub (upd F a o) (upd H a o) := fun b u e => by
  by_cases h : b = a
  · rw [h, upd_same] at e ⊢; exact e
  · rw [upd_ne h] at e ⊢; exact s b u e
theorem Sub.new {F : Hp} {a : Addr} {o : HO} (h : F a = none) : Sub F (L2.upd F a o) := fun b u e => by
  rw [upd_ne (ne_of_none e h)]; exact e
theorem Sub.none {F H : Hp} {a : Addr} (s : Sub F H) (h : H a = none) : F a = none := by
  cases e : F a with
  | none => rfl
  | some o => rw [s a o e] at h; cases h
theorem Sub.rd {F H : Hp} {a : Addr} {o : HO} (s : Sub F H) (h : Rd F a o) : Rd H a o := by
  rcases h with h | ⟨u, h⟩
  · exact .inl (s _ _ h)
  · exact .inr ⟨u, s _ _ h⟩
theorem Sub.sqT {K : PySem.W.Frag} {F H : Hp} {a : Addr} {xs : List V} (s : Sub F H) (h : SqT K F a xs) : SqT K H a xs := by
  rcases h with h | h
  · exact .inl (s.rd h)
  · exact .inr h
theorem Sub.sqL {K : PySem.W.Frag} {F H : Hp} {a : Addr} {xs : List V} (s : Sub F H) (h : SqL K F a xs) : SqL K H a xs := by
  rcases h with h | h
  · exact .inl (s.rd h)
  · exact .inr h
theorem Sub.slt {F H : Hp} {a C dx : Addr} {vs : List (Option V)} (s : Sub F H) (h : SlX.Slt F a C dx vs) : SlX.Slt H a C dx vs := by
  rcases h with ⟨h, e⟩ | ⟨h, e⟩
  · exact .inl ⟨s _ _ h, e⟩
  · exact .inr ⟨s _ _ h, s _ _ e⟩

section
variable {K : PySem.W.Frag} {mg : Str → Option Value} {F F' : Hp}
mutual
theorem Rep.mono (s : Sub F F') : ∀ {d : D} {v : V}, Rep K mg F d v → Rep K mg F' d v
  | .non, v, h => h
  | .bl b, v, h => h
  | .int i, v, h => h
  | .str x, v, h => h
  | .tup ds, v, ⟨a, vs, e, q, r⟩ => ⟨a, vs, e, s.sqT q, Reps.mono s r⟩
  | .lst ds, v, ⟨a, vs, e, q, r⟩ => ⟨a, vs, e, s _ _ q, Reps.mono s r⟩
  | .rl ds, v, ⟨a, vs, e, q, r⟩ => ⟨a, vs, e, s.sqL q, Reps.mono s r⟩
  | .obj C ns ds, v, ⟨a, c, dx, fs, e, m, q, n, r⟩ => ⟨a, c, dx, fs, e, m, s _ _ q, n, Reps.mono s r⟩
  | .slo C ds, v, ⟨a, c, dx, vs, e, m, q, n, r⟩ => ⟨a, c, dx, vs, e, m, s.slt q, n, Reps.mono s r⟩
  | .dct ks ds, v, ⟨a, kvs, e, q, n, r⟩ => ⟨a, kvs, e, s _ _ q, n, Reps.mono s r⟩
  | .ref a, v, h => h
theorem Reps.mono (s : Sub F F') : ∀ {ds : List D} {vs : List V}, Reps K mg F ds vs → Reps K mg F' ds vs
  | [], vs, h => h
  | d :: ds, vs, ⟨v, r, e, q, t⟩ => ⟨v, r, e, Rep.mono s q, Reps.mono s t⟩
end
theorem Reps.length : ∀ {ds : List D} {vs : List V}, Reps K mg F ds vs → ds.length = vs.length
  | [], vs, h => by cases h; rfl
  | d :: ds, vs, ⟨v, r, e, q, t⟩ => by subst e; simp [Reps.length t]
theorem Reps.get : ∀ {ds : List D} {vs : List V} {i : Nat} {d : D}, Reps K mg F ds vs → ds[i]? = some d → ∃ v, vs[i]? = some v ∧ Rep K mg F d v
  | [], vs, i, d, h, e => by simp at e
  | c :: ds, vs, 0, d, ⟨v, r, e, q, t⟩, h => by
    subst e
    simp only [List.getElem?_cons_zero, Option.some.injEq] at h
    subst h
    exact ⟨v, rfl, q⟩
  | c :: ds, vs, i + 1, d, ⟨v, r, e, q, t⟩, h => by
    subst e
    obtain ⟨u, h1, h2⟩ := Reps.get (i := i) t (by simpa using h)
    exact ⟨u, by simpa using h1, h2⟩
theorem Reps.getV : ∀ {ds : List D} {vs : List V} {i : Nat} {v : V}, Reps K mg F ds vs → vs[i]? = some v → ∃ d, ds[i]? = some d ∧ Rep K mg F d v := fun {ds vs i v} r h => by
  have hl := r.length
  have hi := (List.getElem?_eq_some_iff.mp h).1
  obtain ⟨u, h1, h2⟩ := Reps.get (i := i) (d := ds[i]) r (by simp)
  rw [h] at h1; cases h1
  exact ⟨_, by simp, h2⟩
theorem Reps.append : ∀ {ds es : List D} {vs us : List V}, Reps K mg F ds vs → Reps K mg F es us → Reps K mg F (ds ++ es) (vs ++ us)
  | [], es, vs, us, h, k => by cases h; exact k
  | d :: ds, es, vs, us, ⟨v, r, e, q, t⟩, k => by subst e; exact ⟨v, r ++ us, rfl, q, Reps.append t k⟩
theorem Reps.one {d : D} {v : V} (h : Rep K mg F d v) : Reps K mg F [d] [v] := ⟨v, [], rfl, h, rfl⟩
theorem Reps.snoc {ds : List D} {vs : List V} {d : D} {v : V} (h : Reps K mg F ds vs) (r : Rep K mg F d v) : Reps K mg F (ds ++ [d]) (vs ++ [v]) := h.append (.one r)
theorem Reps.nil : Reps K mg F [] [] := rfl
theorem Reps.set {d : D} {v : V} (q : Rep K mg F d v) : ∀ {ds : List D} {vs : List V} (i : Nat), Reps K mg F ds vs → Reps K mg F (ds.set i d) (vs.set i v)
  | [], vs, i, h => by cases h; exact rfl
  | c :: ds, vs, 0, ⟨w, r, e, _, t⟩ => by subst e; exact ⟨v, r, rfl, q, t⟩
  | c :: ds, vs, i + 1, ⟨w, r, e, p, t⟩ => by subst e; exact ⟨w, r.set i v, rfl, p, Reps.set q i t⟩
theorem Reps.take : ∀ {ds : List D} {vs : List V} (n : Nat), Reps K mg F ds vs → Reps K mg F (ds.take n) (vs.take n)
  | _, _, 0, h => by simp; exact rfl
  | [], vs, n + 1, h => by cases h; exact rfl
  | d :: ds, vs, n + 1, ⟨v, r, e, q, t⟩ => by subst e; exact ⟨v, _, rfl, q, Reps.take n t⟩
theorem Reps.drop : ∀ {ds : List D} {vs : List V} (n : Nat), Reps K mg F ds vs → Reps K mg F (ds.drop n) (vs.drop n)
  | _, _, 0, h => h
  | [], vs, n + 1, h => by cases h; exact rfl
  | d :: ds, vs, n + 1, ⟨v, r, e, q, t⟩ => by subst e; exact Reps.drop n t
end

section
variable (K : PySem.W.Frag) (mg : Str → Option Value)
/-- what stands at the address of a changing thing -/
def RepM (F : Hp) : MO → HO → Prop
  | .lst ds, o => ∃ vs, o = .lst vs ∧ Reps K mg F ds vs
  | .ins C ns ds, o => ∃ c dx fs, o = .ins c dx fs ∧ mg C = some (.ref c) ∧ fs.map (·.1) = ns ∧ Reps K mg F ds (fs.map (·.2))
  | .dct ks ds, o => ∃ kvs, o = .dK kvs ∧ kvs.map (·.1) = ks ∧ Reps K mg F ds (kvs.map (·.2))
def MemOk (F : Hp) (M : Mem) (H : Hp) : Prop := ∀ a mo, M a = some mo → F a = none ∧ ∃ o, H a = some o ∧ RepM K mg F mo o
theorem RepM.mono {K : PySem.W.Frag} {mg : Str → Option Value} {F F' : Hp} (s : Sub F F') {mo : MO} {o : HO} (h : RepM K mg F mo o) : RepM K mg F' mo o := by
  cases mo with
  | lst ds => obtain ⟨vs, e, r⟩ := h; exact ⟨vs, e, r.mono s⟩
  | ins C ns ds => obtain ⟨c, dx, fs, e, m, n, r⟩ := h; exact ⟨c, dx, fs, e, m, n, r.mono s⟩
  | dct ks ds => obtain ⟨kvs, e, n, r⟩ := h; exact ⟨kvs, e, n, r.mono s⟩

/-- a step: what was known stays, what others know is not touched -/
structure Ext (F : Hp) (M : Mem) (H : Hp) (F' : Hp) (M' : Mem) (H' : Hp) : Prop where
  sub : Sub F F'
  keep : ∀ b o, M b = none → H b = some o → H' b = some o
  nf : ∀ b, H b ≠ none → F b = none → F' b = none
  nm : ∀ b, H b ≠ none → M b = none → M' b = none
  there : ∀ b, H b ≠ none → H' b ≠ none
theorem Ext.refl (F : Hp) (M : Mem) (H : Hp) : Ext F M H F M H := ⟨.refl _, fun _ _ _ h => h, fun _ _ h => h, fun _ _ h => h, fun _ h => h⟩
theorem Ext.trans {F F1 F2 H H1 H2 : Hp} {M M1 M2 : Mem} (a : Ext F M H F1 M1 H1) (b : Ext F1 M1 H1 F2 M2 H2) : Ext F M H F2 M2 H2 where
  sub := a.sub.trans b.sub
  keep := fun c o m h => b.keep c o (a.nm c (by rw [h]; simp) m) (a.keep c o m h)
  nf := fun c h f => b.nf c (a.there c h) (a.nf c h f)
  nm := fun c h f => b.nm c (a.there c h) (a.nm c h f)
  there := fun c h => b.there c (a.there c h)

/-- the state at a call's begin -/
structure Ent where
  F : Hp
  M : Mem
  H : Hp

def SlOk (F H : Hp) (M : Mem) (H0 : Hp) : Sl → Option V → Prop
  | .no, _ => True
  | .val d, o => ∃ v, o = some v ∧ Rep K mg F d v
  | .own ds, o => ∃ a vs, o = some (.ref a) ∧ H a = some (.lst vs) ∧ F a = none ∧ M a = none ∧ H0 a = none ∧ Reps K mg F ds vs

structure Rel (G : Ent) (F : Hp) (st : DS) (σ : St) (H : Hp) : Prop where
  sub : Sub F H
  mem : MemOk K mg F st.mem H
  ext : Ext G.F G.M G.H F st.mem H
  len : st.env.length = σ.length
  slot : ∀ (i : Nat) (sl : Sl), st.env[i]? = some sl → ∃ o : Option V, σ[i]? = some o ∧ SlOk K mg F H st.mem G.H sl o
  uniq : ∀ (i j : Nat) (ds es : List D) (a : Addr), st.env[i]? = some (.own ds) → st.env[j]? = some (.own es) → σ[i]? = some (some (.ref a)) → σ[j]? = some (some (.ref a)) → i = j
end

section
variable {K : PySem.W.Frag} {mg : Str → Option Value} {G : Ent} {F F' H H' : Hp} {st : DS} {σ : St}
/-- behind a step that the slots do not see -/
theorem Rel.step (R : Rel K mg G F st σ H) {M' : Mem} (s : Sub F' H') (m : MemOk K mg F' M' H') (e : Ext F st.mem H F' M' H') : Rel K mg G F' { st with mem := M' } σ H' := by
  refine ⟨s, m, R.ext.trans e, R.len, fun i sl h => ?_, R.uniq⟩
  obtain ⟨o, h1, h2⟩ := R.slot i sl h
  refine ⟨o, h1, ?_⟩
  cases sl with
  | no => trivial
  | val d => obtain ⟨v, q, r⟩ := h2; exact ⟨v, q, r.mono e.sub⟩
  | own ds =>
    obtain ⟨a, vs, q, ha, fa, ma, h0, r⟩ := h2
    exact ⟨a, vs, q, e.keep a _ ma ha, e.nf a (by rw [ha]; simp) fa, e.nm a (by rw [ha]; simp) ma, h0, r.mono e.sub⟩
theorem MemOk.mono {M : Mem} (m : MemOk K mg F M H) (s : Sub F F') (hF : ∀ a mo, M a = some mo → F' a = none) (hH : ∀ a mo o, M a = some mo → H a = some o → H' a = some o) : MemOk K mg F' M H' := fun a mo e => by
  obtain ⟨f, o, h, r⟩ := m a mo e
  exact ⟨hF a mo e, o, hH a mo o e h, r.mono s⟩
/-- a new thing that never changes -/
theorem Rel.laid (R : Rel K mg G F st σ H) {p : Addr} {o : HO} (hp : H p = none) : Rel K mg G (upd F p o) st σ (upd H p o) ∧ Sub F (upd F p o) := by
  have fp : F p = none := R.sub.none hp
  have sF : Sub F (upd F p o) := Sub.new fp
  have nm : ∀ a mo, st.mem a = some mo → a ≠ p := fun a mo e z => by
    obtain ⟨_, u, h, _⟩ := R.mem a mo e
    rw [z, hp] at h; cases h
  refine ⟨R.step (M' := st.mem) R.sub.upd (R.mem.mono sF (fun a mo e => ?_) fun a mo u e h => ?_) ⟨sF, fun b u _ h => ?_, fun b h f => ?_, fun _ _ h => h, fun b h => ?_⟩, sF⟩
  · rw [upd_ne (nm a mo e)]; exact (R.mem a mo e).1
  · rw [upd_ne (nm a mo e)]; exact h
  · rw [upd_ne (ne_of_none h hp)]; exact h
  · have ne : b ≠ p := fun z => h (by rw [z]; exact hp)
    rw [upd_ne ne]; exact f
  · have ne : b ≠ p := fun z => h (by rw [z]; exact hp)
    rw [upd_ne ne]; exact h
end

/-! ### the judgements -/
abbrev DTE := DS → (D → DS → Prop) → Prop
abbrev DTT := DS → (Bool → DS → Prop) → Prop
abbrev DTA := DS → (List D → DS → Prop) → Prop
structure DEnds where
  nx : DS → Prop
  rt : D → Mem → Prop
  bk : DS → Prop := fun _ => False
  ct : DS → Prop := fun _ => False
abbrev DTS := DEnds → DS → Prop

def upE (K : PySem.W.Frag) (mg : Str → Option Value) (G : Ent) (t : DTE) : TE := fun σ H Q =>
  ∃ F st k, Rel K mg G F st σ H ∧ t st k ∧ ∀ d st' F' H' v, k d st' → Rel K mg G F' st' σ H' → Sub F F' → Rep K mg F' d v → Q v H'
def upT (K : PySem.W.Frag) (mg : Str → Option Value) (G : Ent) (t : DTT) : TT := fun σ H Q =>
  ∃ F st k, Rel K mg G F st σ H ∧ t st k ∧ ∀ b st' F' H', k b st' → Rel K mg G F' st' σ H' → Sub F F' → Q b H'
def upA (K : PySem.W.Frag) (mg : Str → Option Value) (G : Ent) (t : DTA) : TA := fun σ H Q =>
  ∃ F st k, Rel K mg G F st σ H ∧ t st k ∧ ∀ ds st' F' H' vs, k ds st' → Rel K mg G F' st' σ H' → Sub F F' → Reps K mg F' ds vs → Q vs H'
structure EndsOk (K : PySem.W.Frag) (mg : Str → Option Value) (G : Ent) (F : Hp) (k : DEnds) (D : Ends) : Prop where
  nx : ∀ st F' σ H, k.nx st → Rel K mg G F' st σ H → Sub F F' → D.nx σ H
  rt : ∀ d st F' σ H v, k.rt d st.mem → Rel K mg G F' st σ H → Sub F F' → Rep K mg F' d v → D.rt v H
  bk : ∀ st F' σ H, k.bk st → Rel K mg G F' st σ H → Sub F F' → D.bk σ H
  ct : ∀ st F' σ H, k.ct st → Rel K mg G F' st σ H → Sub F F' → D.ct σ H
theorem EndsOk.mono {K : PySem.W.Frag} {mg : Str → Option Value} {G : Ent} {F F' : Hp} {k : DEnds} {D : Ends} (e : EndsOk K mg G F k D) (s : Sub F F') : EndsOk K mg G F' k D :=
  ⟨fun st F1 σ H h R s1 => e.nx st F1 σ H h R (s.trans s1), fun d st F1 σ H v h R s1 r => e.rt d st F1 σ H v h R (s.trans s1) r, fun st F1 σ H h R s1 => e.bk st F1 σ H h R (s.trans s1), fun st F1 σ H h R s1 => e.ct st F1 σ H h R (s.trans s1)⟩
def upS (K : PySem.W.Frag) (mg : Str → Option Value) (G : Ent) (t : DTS) : TS := fun D σ H =>
  ∃ F st k, Rel K mg G F st σ H ∧ t k st ∧ EndsOk K mg G F k D

structure DPE (X : Cx) (e : Expr) (t : DTE) : Prop where
  run : ∀ G, PE X e (upE X.K X.mg G t)
structure DPT (X : Cx) (e : Expr) (t : DTT) : Prop where
  run : ∀ G, PT X e (upT X.K X.mg G t)
structure DPW (X : Cx) (e : Expr) (t : DTT) : Prop where
  run : ∀ G, PW X e (upT X.K X.mg G t)
structure DPA (X : Cx) (es : List Expr) (t : DTA) : Prop where
  run : ∀ G, PA X es (upA X.K X.mg G t)
structure DPS (X : Cx) (s : Stmt) (t : DTS) : Prop where
  run : ∀ G, PS X s (upS X.K X.mg G t)
structure DPSs (X : Cx) (s : List Stmt) (t : DTS) : Prop where
  run : ∀ G, PSs X s (upS X.K X.mg G t)

theorem _root_.L2.PE.imp {X : Cx} {e : Expr} {t t' : TE} (h : PE X e t) (f : ∀ σ H Q, t' σ H Q → t σ H Q) : PE X e t' := ⟨fun pins s σ H Q I q => h.run pins s σ H Q I (f σ H Q q)⟩
theorem _root_.L2.PT.imp {X : Cx} {e : Expr} {t t' : TT} (h : PT X e t) (f : ∀ σ H Q, t' σ H Q → t σ H Q) : PT X e t' := ⟨fun pins s σ H Q I q => h.run pins s σ H Q I (f σ H Q q)⟩
theorem _root_.L2.PW.imp {X : Cx} {e : Expr} {t t' : TT} (h : PW X e t) (f : ∀ σ H Q, t' σ H Q → t σ H Q) : PW X e t' := ⟨fun wh pins s σ H Q I q => h.run wh pins s σ H Q I (f σ H Q q)⟩
theorem _root_.L2.PA.imp {X : Cx} {es : List Expr} {t t' : TA} (h : PA X es t) (f : ∀ σ H Q, t' σ H Q → t σ H Q) : PA X es t' := ⟨fun pos pins s σ H Q I q => h.run pos pins s σ H Q I (f σ H Q q)⟩
theorem _root_.L2.PS.imp {X : Cx} {e : Stmt} {t t' : TS} (h : PS X e t) (f : ∀ D σ H, t' D σ H → t D σ H) : PS X e t' := ⟨fun pins s σ H D I q => h.run pins s σ H D I (f D σ H q)⟩
theorem _root_.L2.PSs.imp {X : Cx} {e : List Stmt} {t t' : TS} (h : PSs X e t) (f : ∀ D σ H, t' D σ H → t D σ H) : PSs X e t' := ⟨fun pins s σ H D I q => h.run pins s σ H D I (f D σ H q)⟩

/-- two in a row -/
theorem up2 {K : PySem.W.Frag} {mg : Str → Option Value} {G : Ent} {ta tb : DTE} {op : D → D → DS → (D → DS → Prop) → Prop} {r : R2} {σ : St} {H : Hp} {Q : VK}
    (h : upE K mg G (fun st k => ta st fun d1 st1 => tb st1 fun d2 st2 => op d1 d2 st2 k) σ H Q)
    (hr : ∀ F H' st d1 d2 v1 v2 k, Rel K mg G F st σ H' → Rep K mg F d1 v1 → Rep K mg F d2 v2 → op d1 d2 st k →
      (∀ d st' F' H'' v, k d st' → Rel K mg G F' st' σ H'' → Sub F F' → Rep K mg F' d v → Q v H'') → r v1 v2 H' Q) :
    tOp r (upE K mg G ta) (upE K mg G tb) σ H Q := by
  obtain ⟨F, st, k, R, t, fin⟩ := h
  refine ⟨F, st, _, R, t, fun d1 st1 F1 H1 v1 t1 R1 s1 r1 => ⟨F1, st1, _, R1, t1, fun d2 st2 F2 H2 v2 t2 R2 s2 r2 => ?_⟩⟩
  exact hr F2 H2 st2 d1 d2 v1 v2 k R2 (r1.mono s2) r2 t2 fun d st' F' H'' v q R' s' r' => fin d st' F' H'' v q R' ((s1.trans s2).trans s') r'
theorem up1 {K : PySem.W.Frag} {mg : Str → Option Value} {G : Ent} {ta : DTE} {op : D → DS → (D → DS → Prop) → Prop} {r : V → Hp → VK → Prop} {σ : St} {H : Hp} {Q : VK}
    (h : upE K mg G (fun st k => ta st fun d1 st1 => op d1 st1 k) σ H Q)
    (hr : ∀ F H' st d1 v1 k, Rel K mg G F st σ H' → Rep K mg F d1 v1 → op d1 st k →
      (∀ d st' F' H'' v, k d st' → Rel K mg G F' st' σ H'' → Sub F F' → Rep K mg F' d v → Q v H'') → r v1 H' Q) :
    tUn r (upE K mg G ta) σ H Q := by
  obtain ⟨F, st, k, R, t, fin⟩ := h
  refine ⟨F, st, _, R, t, fun d1 st1 F1 H1 v1 t1 R1 s1 r1 => ?_⟩
  exact hr F1 H1 st1 d1 v1 k R1 r1 t1 fun d st' F' H'' v q R' s' r' => fin d st' F' H'' v q R' (s1.trans s') r'
end DL

set_option autoImplicit false
set_option Elab.async false
set_option linter.all false
set_option maxRecDepth 100000
set_option autoImplicit false
/-! DL2: rules over data: names, constants, operators, tests, displays, statements. -/
namespace DL
open PySem PySem.Spec L2

/-! ### how a state changes -/
section
variable {K : PySem.W.Frag} {mg : Str → Option Value} {G : Ent} {F H : Hp} {st : DS} {σ : L2.St}
theorem get_set {α : Type} {l : List α} {i j : Nat} {x y : α} (h : (l.set i x)[j]? = some y) : (j = i ∧ y = x ∧ i < l.length) ∨ (j ≠ i ∧ l[j]? = some y) := by
  by_cases e : j = i
  · subst e
    have hl : j < (l.set j x).length := (List.getElem?_eq_some_iff.mp h).1
    rw [List.length_set] at hl
    rw [List.getElem?_set_self hl] at h
    exact .inl ⟨rfl, (Option.some.inj h).symm, hl⟩
  · rw [List.getElem?_set_ne (Ne.symm e)] at h
    exact .inr ⟨e, h⟩
theorem Rel.ilt (R : Rel K mg G F st σ H) {i : Nat} {sl : Sl} (h : st.env[i]? = some sl) : i < σ.length := by
  rw [← R.len]; exact (List.getElem?_eq_some_iff.mp h).1
/-- a slot takes a value -/
theorem Rel.setV (R : Rel K mg G F st σ H) {i : Nat} {d : D} {v : V} (r : Rep K mg F d v) : Rel K mg G F ⟨st.env.set i (.val d), st.mem⟩ (σ.set i (some v)) H := by
  refine ⟨R.sub, R.mem, R.ext, by simpa using R.len, fun j sl h => ?_, fun j l ds es a h1 h2 h3 h4 => ?_⟩
  · rcases get_set h with ⟨rfl, rfl, hl⟩ | ⟨hn, h⟩
    · rw [R.len] at hl
      exact ⟨some v, List.getElem?_set_self hl, v, rfl, r⟩
    · obtain ⟨o, e, q⟩ := R.slot j sl h
      exact ⟨o, by rw [List.getElem?_set_ne (Ne.symm hn)]; exact e, q⟩
  · rcases get_set h1 with ⟨_, z, _⟩ | ⟨n1, h1⟩
    · cases z
    · rcases get_set h2 with ⟨_, z, _⟩ | ⟨n2, h2⟩
      · cases z
      · rw [List.getElem?_set_ne (Ne.symm n1)] at h3
        rw [List.getElem?_set_ne (Ne.symm n2)] at h4
        exact R.uniq j l ds es a h1 h2 h3 h4
/-- a new list that only the slot knows -/
theorem Rel.setO (R : Rel K mg G F st σ H) {i : Nat} {ds : List D} {vs : List V} {p : Addr} (hp : H p = none) (r : Reps K mg F ds vs) :
    Rel K mg G F ⟨st.env.set i (.own ds), st.mem⟩ (σ.set i (some (.ref p))) (upd H p (.lst vs)) := by
  have fp : F p = none := R.sub.none hp
  have mp : st.mem p = none := by
    cases e : st.mem p with
    | none => rfl
    | some mo => obtain ⟨_, o, h, _⟩ := R.mem p mo e; rw [hp] at h; cases h
  have nm : ∀ b u, H b = some u → b ≠ p := fun b u h => ne_of_none h hp
  have h0 : G.H p = none := by
    cases e : G.H p with
    | none => rfl
    | some o => exact absurd hp (R.ext.there p (by rw [e]; simp))
  have S : Rel K mg G F ⟨st.env, st.mem⟩ σ (upd H p (.lst vs)) := R.step (M' := st.mem) (fun b u e => by rw [upd_ne (nm b u (R.sub b u e))]; exact R.sub b u e)
    (R.mem.mono (.refl F) (fun a mo e => (R.mem a mo e).1) fun a mo o e h => by rw [upd_ne (nm a o h)]; exact h)
    ⟨.refl F, fun b u _ h => by rw [upd_ne (nm b u h)]; exact h, fun _ _ f => f, fun _ _ f => f, fun b h => by
      by_cases z : b = p
      · rw [z, upd_same]; simp
      · rw [upd_ne z]; exact h⟩
  have old : ∀ (j : Nat) (es : List D), st.env[j]? = some (.own es) → σ[j]? ≠ some (some (.ref p)) := fun j es h z => by
    obtain ⟨o, e, a, us, q, ha, _⟩ := R.slot j _ h
    rw [e] at z; cases z; cases q
    rw [hp] at ha; cases ha
  refine ⟨S.sub, S.mem, S.ext, by simpa using R.len, fun j sl h => ?_, fun j l ds es a h1 h2 h3 h4 => ?_⟩
  · rcases get_set h with ⟨rfl, rfl, hl⟩ | ⟨hn, h⟩
    · have hl' : j < σ.length := by rw [← R.len]; exact hl
      exact ⟨_, List.getElem?_set_self hl', p, vs, rfl, upd_same, fp, mp, h0, r⟩
    · obtain ⟨o, e, q⟩ := S.slot j sl h
      exact ⟨o, by rw [List.getElem?_set_ne (Ne.symm hn)]; exact e, q⟩
  · rcases get_set h1 with ⟨e1, _, hl⟩ | ⟨n1, k1⟩
    · rcases get_set h2 with ⟨e2, _, _⟩ | ⟨n2, k2⟩
      · rw [e1, e2]
      · subst e1
        have hl' : j < σ.length := by rw [← R.len]; exact hl
        rw [List.getElem?_set_self hl'] at h3
        rw [List.getElem?_set_ne (Ne.symm n2)] at h4
        cases h3
        exact absurd h4 (old l es k2)
    · rw [List.getElem?_set_ne (Ne.symm n1)] at h3
      rcases get_set h2 with ⟨e2, _, hl⟩ | ⟨n2, h2⟩
      · subst e2
        have hl' : l < σ.length := by rw [← R.len]; exact hl
        rw [List.getElem?_set_self hl'] at h4
        cases h4
        exact absurd h3 (old j ds k1)
      · rw [List.getElem?_set_ne (Ne.symm n2)] at h4
        exact R.uniq j l ds es a k1 h2 h3 h4
/-- the slot's own list is let go: from here on it never changes -/
theorem Rel.freeze (R : Rel K mg G F st σ H) {i : Nat} {ds : List D} (h : st.env[i]? = some (.own ds)) :
    ∃ a F', σ[i]? = some (some (.ref a)) ∧ Rel K mg G F' ⟨st.env.set i (.val (.lst ds)), st.mem⟩ σ H ∧ Sub F F' ∧ Rep K mg F' (.lst ds) (.ref a) := by
  obtain ⟨o, e, a, vs, q, ha, fa, ma, h0, r⟩ := R.slot i _ h
  subst q
  have sF : Sub F (upd F a (.lst vs)) := Sub.new fa
  have rr : Rep K mg (upd F a (.lst vs)) (.lst ds) (.ref a) := ⟨a, vs, rfl, upd_same, r.mono sF⟩
  have sH : Sub (upd F a (.lst vs)) H := fun b u z => by
    by_cases hb : b = a
    · rw [hb, upd_same] at z; rw [hb, ha]; exact z
    · rw [upd_ne hb] at z; exact R.sub b u z
  have mok : MemOk K mg (upd F a (.lst vs)) st.mem H := R.mem.mono sF (fun b mo z => by
    have hb : b ≠ a := fun w => by rw [w, ma] at z; cases z
    rw [upd_ne hb]; exact (R.mem b mo z).1) fun _ _ _ _ z => z
  refine ⟨a, upd F a (.lst vs), e, ⟨sH, mok, ⟨R.ext.sub.trans sF, R.ext.keep, fun b hb f => ?_, R.ext.nm, R.ext.there⟩, by simpa using R.len, fun j sl hj => ?_, fun j l xs ys c h1 h2 h3 h4 => ?_⟩, sF, rr⟩
  · have hb' : b ≠ a := fun w => hb (by rw [w]; exact h0)
    rw [upd_ne hb']; exact R.ext.nf b hb f
  · rcases get_set hj with ⟨rfl, rfl, hl⟩ | ⟨hn, hj⟩
    · exact ⟨_, e, _, rfl, rr⟩
    · obtain ⟨o, e', q⟩ := R.slot j sl hj
      refine ⟨o, e', ?_⟩
      cases sl with
      | no => trivial
      | val d => obtain ⟨v, q1, q2⟩ := q; exact ⟨v, q1, q2.mono sF⟩
      | own es =>
        obtain ⟨b, us, q1, hb, fb, mb, hb0, r'⟩ := q
        subst q1
        have ne : b ≠ a := fun w => hn (R.uniq j i es ds a hj h (by rw [e', w]) e)
        exact ⟨b, us, rfl, hb, by rw [upd_ne ne]; exact fb, mb, hb0, r'.mono sF⟩
  · rcases get_set h1 with ⟨_, z, _⟩ | ⟨n1, h1⟩
    · cases z
    · rcases get_set h2 with ⟨_, z, _⟩ | ⟨n2, h2⟩
      · cases z
      · exact R.uniq j l xs ys c h1 h2 h3 h4
/-- the slot's own list, as it stands -/
theorem Rel.own (R : Rel K mg G F st σ H) {i : Nat} {ds : List D} (h : st.env[i]? = some (.own ds)) :
    ∃ a vs, σ[i]? = some (some (.ref a)) ∧ H a = some (.lst vs) ∧ Reps K mg F ds vs ∧
      ∀ ds' vs', Reps K mg F ds' vs' → Rel K mg G F ⟨st.env.set i (.own ds'), st.mem⟩ σ (upd H a (.lst vs')) := by
  obtain ⟨o, e, a, vs, q, ha, fa, ma, h0, r⟩ := R.slot i _ h
  subst q
  refine ⟨a, vs, e, ha, r, fun ds' vs' r' => ?_⟩
  have ne : ∀ b u, F b = some u → b ≠ a := fun b u z w => by rw [w, fa] at z; cases z
  refine ⟨fun b u z => by rw [upd_ne (ne b u z)]; exact R.sub b u z, R.mem.mono (.refl F) (fun b mo z => (R.mem b mo z).1) fun b mo u z hu => ?_, ⟨R.ext.sub, fun b u m z => ?_, R.ext.nf, R.ext.nm, fun b hb => ?_⟩, by simpa using R.len, fun j sl hj => ?_, fun j l xs ys c h1 h2 h3 h4 => ?_⟩
  · have hb : b ≠ a := fun w => by rw [w, ma] at z; cases z
    rw [upd_ne hb]; exact hu
  · have hb : b ≠ a := fun w => by rw [w, h0] at z; cases z
    rw [upd_ne hb]; exact R.ext.keep b u m z
  · by_cases z : b = a
    · rw [z, upd_same]; simp
    · rw [upd_ne z]; exact R.ext.there b hb
  · rcases get_set hj with ⟨rfl, rfl, hl⟩ | ⟨hn, hj⟩
    · exact ⟨_, e, a, vs', rfl, upd_same, fa, ma, h0, r'⟩
    · obtain ⟨o, e', q⟩ := R.slot j sl hj
      refine ⟨o, e', ?_⟩
      cases sl with
      | no => trivial
      | val d => exact q
      | own es =>
        obtain ⟨b, us, q1, hb, fb, mb, hb0, r2⟩ := q
        subst q1
        have nb : b ≠ a := fun w => hn (R.uniq j i es ds a hj h (by rw [e', w]) e)
        exact ⟨b, us, rfl, by rw [upd_ne nb]; exact hb, fb, mb, hb0, r2⟩
  · have back : ∀ {m : Nat} {zs : List D}, (st.env.set i (.own ds'))[m]? = some (.own zs) → ∃ ws, st.env[m]? = some (.own ws) := fun {m zs} z => by
      rcases get_set z with ⟨w, _, _⟩ | ⟨_, z⟩
      · exact ⟨ds, by rw [w]; exact h⟩
      · exact ⟨zs, z⟩
    obtain ⟨_, k1⟩ := back h1
    obtain ⟨_, k2⟩ := back h2
    exact R.uniq j l _ _ c k1 k2 h3 h4
/-- a changing thing is written -/
theorem Rel.mset (R : Rel K mg G F st σ H) {a : Addr} {mo mo' : MO} {o' : HO} (h : st.mem a = some mo) (r : RepM K mg F mo' o') :
    Rel K mg G F ⟨st.env, mput st.mem a mo'⟩ σ (upd H a o') := by
  obtain ⟨fa, o, ha, _⟩ := R.mem a mo h
  have ne : ∀ b u, F b = some u → b ≠ a := fun b u z w => by rw [w, fa] at z; cases z
  refine ⟨fun b u z => by rw [upd_ne (ne b u z)]; exact R.sub b u z, fun b m z => ?_, ⟨R.ext.sub, fun b u m z => ?_, R.ext.nf, fun b hb m => ?_, fun b hb => ?_⟩, R.len, fun j sl hj => ?_, R.uniq⟩
  · have z : mput st.mem a mo' b = some m := z
    by_cases w : b = a
    · subst w
      rw [mput_same] at z; cases z
      exact ⟨fa, o', upd_same, r⟩
    · rw [mput_ne w] at z
      obtain ⟨f, u, hu, q⟩ := R.mem b m z
      exact ⟨f, u, by rw [upd_ne w]; exact hu, q⟩
  · have hb : b ≠ a := fun w => by
      have z' := R.ext.nm b (by rw [z]; simp) m
      rw [w, h] at z'; cases z'
    rw [upd_ne hb]; exact R.ext.keep b u m z
  · have hb' : b ≠ a := fun w => by
      have z' := R.ext.nm b hb m
      rw [w, h] at z'; cases z'
    show mput st.mem a mo' b = none
    rw [mput_ne hb']; exact R.ext.nm b hb m
  · by_cases z : b = a
    · rw [z, upd_same]; simp
    · rw [upd_ne z]; exact R.ext.there b hb
  · obtain ⟨u, e', q⟩ := R.slot j sl hj
    refine ⟨u, e', ?_⟩
    cases sl with
    | no => trivial
    | val d => exact q
    | own es =>
      obtain ⟨b, us, q1, hb, fb, mb, hb0, r2⟩ := q
      have nb : b ≠ a := fun w => by rw [w, h] at mb; cases mb
      exact ⟨b, us, q1, by rw [upd_ne nb]; exact hb, fb, (by show mput st.mem a mo' b = none; rw [mput_ne nb]; exact mb), hb0, r2⟩
/-- a new changing thing -/
theorem Rel.mnew (R : Rel K mg G F st σ H) {p : Addr} {mo : MO} {o : HO} (hp : H p = none) (r : RepM K mg F mo o) :
    st.mem p = none ∧ Rel K mg G F ⟨st.env, mput st.mem p mo⟩ σ (upd H p o) := by
  have fp : F p = none := R.sub.none hp
  have mp : st.mem p = none := by
    cases e : st.mem p with
    | none => rfl
    | some m => obtain ⟨_, o, h, _⟩ := R.mem p m e; rw [hp] at h; cases h
  have nm : ∀ b u, H b = some u → b ≠ p := fun b u h => ne_of_none h hp
  refine ⟨mp, R.step (M' := mput st.mem p mo) (fun b u e => by rw [upd_ne (nm b u (R.sub b u e))]; exact R.sub b u e) (fun b m z => ?_) ⟨.refl F, fun b u _ h => by rw [upd_ne (nm b u h)]; exact h, fun _ _ f => f, fun b hb m => ?_, fun b hb => ?_⟩⟩
  · by_cases w : b = p
    · subst w
      rw [mput_same] at z; cases z
      exact ⟨fp, o, upd_same, r⟩
    · rw [mput_ne w] at z
      obtain ⟨f, u, hu, q⟩ := R.mem b m z
      exact ⟨f, u, by rw [upd_ne w]; exact hu, q⟩
  · have hb' : b ≠ p := fun w => hb (by rw [w]; exact hp)
    rw [mput_ne hb']; exact m
  · have hb' : b ≠ p := fun w => hb (by rw [w]; exact hp)
    rw [upd_ne hb']; exact hb
end

/-! ### names, constants -/
section
variable {X : Cx} {pos : Pos}
/-- a name; a list of its own is let go -/
def rV (i : Nat) : DTE := fun st k => match st.env[i]? with
  | some (.val d) => k d st
  | some (.own ds) => k (.lst ds) ⟨st.env.set i (.val (.lst ds)), st.mem⟩
  | _ => False
theorem dv_of {i : Nat} {e : Expr} (h : PE X e (tVar i)) : DPE X e (rV i) := ⟨fun G => h.imp fun σ H Q ⟨F, st, k, R, t, fin⟩ => by
  unfold rV at t
  split at t
  · rename_i d hd
    obtain ⟨o, e, v, q, r⟩ := R.slot i _ hd
    subst q
    exact ⟨v, e, fin d st F H v t R (.refl F) r⟩
  · rename_i ds hd
    obtain ⟨a, F', e, R', s, r⟩ := R.freeze hd
    exact ⟨_, e, fin _ _ F' H _ t R' s r⟩
  · exact t.elim⟩
theorem dv (i : Nat) {x : Str} (hN : X.N[i]? = some x := by rfl) (hv : Vis X.env.scope x := by first | exact Or.inl rfl | exact Or.inr (Or.inl rfl) | exact Or.inr (Or.inr rfl)) (hd : (x == ("__debug__" : Str)) = false := by decide)
    (hcd : (x == ("__classdict__" : Str)) = false := by decide) : DPE X (.Name x pos) (rV i) := dv_of (pe_var hN hv hd hcd)
def rC (d : D) : DTE := fun st k => k d st
theorem dc_of {e : Expr} {d : D} {v : V} (h : PE X e (tC v)) (r : ∀ F, Rep X.K X.mg F d v) : DPE X e (rC d) := ⟨fun G => h.imp fun σ H Q ⟨F, st, k, R, t, fin⟩ => fin d st F H v t R (.refl F) (r F)⟩
theorem d_int {i : Int} {j} : DPE X (.Constant (.int i) j pos) (rC (.int i)) := dc_of pe_int fun _ => rfl
theorem d_bl {b : Bool} {j} : DPE X (.Constant (.bool b) j pos) (rC (.bl b)) := dc_of pe_bl fun _ => rfl
theorem d_non {j} : DPE X (.Constant .none j pos) (rC .non) := dc_of pe_non fun _ => rfl
theorem d_str {x : Str} {j} : DPE X (.Constant (.str x) j pos) (rC (.str x)) := dc_of pe_str fun _ => rfl
/-- a module's constant -/
structure GlobV (K : PySem.W.Frag) (mg : Str → Option Value) (x : Str) (d : D) : Prop where
  ex : ∃ v u, mg x = some u ∧ RelV v u ∧ ∀ F, Rep K mg F d v
theorem d_glob {x : Str} {d : D} (hg : Gl X x) (g : GlobV X.K X.mg x d) (hd : (x == ("__debug__" : Str)) = false := by decide) : DPE X (.Name x pos) (rC d) := by
  obtain ⟨v, u, hm, r, q⟩ := g.ex
  exact dc_of (pe_glob hg hm r hd) q
end

/-! ### operators -/
abbrev OPD := D → D → DS → (D → DS → Prop) → Prop
abbrev FinE (X : Cx) (G : Ent) (F : Hp) (σ : L2.St) (k : D → DS → Prop) (Q : VK) : Prop :=
  ∀ d st' F' H' v, k d st' → Rel X.K X.mg G F' st' σ H' → Sub F F' → Rep X.K X.mg F' d v → Q v H'
def OpD (X : Cx) (opd : OPD) (r : R2) : Prop := ∀ (G : Ent) (F H : Hp) (σ : L2.St) (st : DS) (d1 d2 : D) (v1 v2 : V) (k : D → DS → Prop) (Q : VK),
  Rel X.K X.mg G F st σ H → Rep X.K X.mg F d1 v1 → Rep X.K X.mg F d2 v2 → opd d1 d2 st k → FinE X G F σ k Q → r v1 v2 H Q
def r2 (opd : OPD) (ta tb : DTE) : DTE := fun st k => ta st fun d1 st1 => tb st1 fun d2 st2 => opd d1 d2 st2 k
section
variable {X : Cx} {pos : Pos} {a b : Expr} {ta tb : DTE} {opd : OPD} {r : R2}
theorem d_op {op : Operator} (ho : OpR X (binaryOp op) r) (hd : OpD X opd r) (ha : DPE X a ta) (hb : DPE X b tb) : DPE X (.BinOp a op b pos) (r2 opd ta tb) :=
  ⟨fun G => (pe_op ho (ha.run G) (hb.run G)).imp fun σ H Q h => up2 h fun F H' st d1 d2 v1 v2 k R r1 r2 t fin => hd G F H' σ st d1 d2 v1 v2 k Q R r1 r2 t fin⟩
theorem d_cmp {op : CmpOp} (ho : OpR X (compareOp op) r) (hd : OpD X opd r) (ha : DPE X a ta) (hb : DPE X b tb) (hm : behindInMarks op b = false) : DPE X (.Compare a [op] [b] pos) (r2 opd ta tb) :=
  ⟨fun G => (pe_cmpR ho (ha.run G) (hb.run G) hm).imp fun σ H Q h => up2 h fun F H' st d1 d2 v1 v2 k R r1 r2 t fin => hd G F H' σ st d1 d2 v1 v2 k Q R r1 r2 t fin⟩
theorem d_ixr (hi : IxR X r) (hd : OpD X opd r) (ha : DPE X a ta) (hb : DPE X b tb) (hs : PlainIx b) : DPE X (.Subscript a b pos) (r2 opd ta tb) :=
  ⟨fun G => (pe_ix hi (ha.run G) (hb.run G) hs).imp fun σ H Q h => up2 h fun F H' st d1 d2 v1 v2 k R r1 r2 t fin => hd G F H' σ st d1 d2 v1 v2 k Q R r1 r2 t fin⟩
theorem OpD.or {opd' : OPD} {r' : R2} (h : OpD X opd r) (h' : OpD X opd' r') : OpD X (fun d e st k => opd d e st k ∨ opd' d e st k) (fun x y H Q => r x y H Q ∨ r' x y H Q) :=
  fun G F H σ st d1 d2 v1 v2 k Q R r1 r2 t fin => t.elim (fun t => .inl (h G F H σ st d1 d2 v1 v2 k Q R r1 r2 t fin)) fun t => .inr (h' G F H σ st d1 d2 v1 v2 k Q R r1 r2 t fin)
end

/-! ints -/
def MulOk (i j : Int) : Prop := IntMulOk i j
/-- a divisor that is not 0, below 2^9000 -/
def DivOk (j : Int) : Prop := j ≠ 0 ∧ j.natAbs.log2 < 9000
section
variable {X : Cx}
theorem op_mulD : OpR X (binaryOp .Mult) (rI IntMulOk fun i j => .int (i * j)) := opI fun _ _ _ _ _ _ _ hc q => PyProof.Rows.mul_int q hc
theorem op_fdivD : OpR X (binaryOp .FloorDiv) (rI (fun _ j => DivOk j) fun i j => .int (i.fdiv j)) := opI fun _ _ _ _ _ _ _ hc q => PyProof.Rows.floordiv_int hc.1 q (.inl (PyProof.noPylong_of_log2 hc.2))
def oInt (f : Int → Int → DS → (D → DS → Prop) → Prop) : OPD := fun d e st k => match d, e with
  | .int i, .int j => f i j st k
  | _, _ => False
theorem oInt_ok {f : Int → Int → DS → (D → DS → Prop) → Prop} {r : R2} (h : ∀ G F H σ st i j k Q, Rel X.K X.mg G F st σ H → f i j st k → FinE X G F σ k Q → r (.int i) (.int j) H Q) : OpD X (oInt f) r := by
  intro G F H σ st d1 d2 v1 v2 k Q R r1 r2 t fin
  unfold oInt at t
  split at t
  · cases r1; cases r2
    exact h G F H σ st _ _ k Q R t fin
  · exact t.elim
def oAddI : OPD := oInt fun i j st k => k (.int (i + j)) st
def oSub : OPD := oInt fun i j st k => k (.int (i - j)) st
def oMulI : OPD := oInt fun i j st k => MulOk i j ∧ k (.int (i * j)) st
def oDiv : OPD := oInt fun i j st k => DivOk j ∧ k (.int (i.fdiv j)) st
def oMod : OPD := oInt fun i j st k => j ≠ 0 ∧ k (.int (i.fmod j)) st
def oPow : OPD := oInt fun i j st k => CPow i j ∧ k (.int (i ^ j.toNat)) st
theorem oAddI_ok : OpD X oAddI (rI0 fun i j => .int (i + j)) := oInt_ok fun G F H σ st i j k Q R t fin => ⟨i, j, rfl, rfl, fin _ st F H _ t R (.refl F) rfl⟩
theorem oSub_ok : OpD X oSub (rI0 fun i j => .int (i - j)) := oInt_ok fun G F H σ st i j k Q R t fin => ⟨i, j, rfl, rfl, fin _ st F H _ t R (.refl F) rfl⟩
theorem oMulI_ok : OpD X oMulI (rI IntMulOk fun i j => .int (i * j)) := oInt_ok fun G F H σ st i j k Q R t fin => ⟨i, j, rfl, rfl, t.1, fin _ st F H _ t.2 R (.refl F) rfl⟩
theorem oDiv_ok : OpD X oDiv (rI (fun _ j => DivOk j) fun i j => .int (i.fdiv j)) := oInt_ok fun G F H σ st i j k Q R t fin => ⟨i, j, rfl, rfl, t.1, fin _ st F H _ t.2 R (.refl F) rfl⟩
theorem oMod_ok : OpD X oMod (rI (fun _ j => j ≠ 0) fun i j => .int (i.fmod j)) := oInt_ok fun G F H σ st i j k Q R t fin => ⟨i, j, rfl, rfl, t.1, fin _ st F H _ t.2 R (.refl F) rfl⟩
theorem oPow_ok : OpD X oPow (rI CPow fun i j => .int (i ^ j.toNat)) := oInt_ok fun G F H σ st i j k Q R t fin => ⟨i, j, rfl, rfl, t.1, fin _ st F H _ t.2 R (.refl F) rfl⟩
/-- comparisons of ints -/
def oCmp (p : Int → Int → Bool) : OPD := oInt fun i j st k => k (.bl (p i j)) st
theorem oCmp_ok {p : Int → Int → Bool} : OpD X (oCmp p) (rI0 fun i j => .bl (p i j)) := oInt_ok fun G F H σ st i j k Q R t fin => ⟨i, j, rfl, rfl, fin _ st F H _ t R (.refl F) rfl⟩
/-- texts put together -/
def oAddS : OPD := fun d e st k => match d, e with
  | .str x, .str y => x.length + y.length ≤ sizeLine ∧ k (.str (x ++ y)) st
  | _, _ => False
theorem oAddS_ok : OpD X oAddS (fun x y H Q => ∃ i j, x = .str i ∧ y = .str j ∧ i.length + j.length ≤ sizeLine ∧ Q (.str (i ++ j)) H) := by
  intro G F H σ st d1 d2 v1 v2 k Q R r1 r2 t fin
  unfold oAddS at t
  split at t
  · cases r1; cases r2
    exact ⟨_, _, rfl, rfl, t.1, fin _ st F H _ t.2 R (.refl F) rfl⟩
  · exact t.elim
/-- lists put together: a new one that no one changes -/
def oAddL : OPD := fun d e st k => match d, e with
  | .lst x, .lst y => x.length + y.length ≤ sizeLine ∧ k (.lst (x ++ y)) st
  | _, _ => False
theorem oAddL_ok : OpD X oAddL rCat := by
  intro G F H σ st d1 d2 v1 v2 k Q R r1 r2 t fin
  unfold oAddL at t
  split at t
  · obtain ⟨a, xs, rfl, fa, ra⟩ := r1
    obtain ⟨b, ys, rfl, fb, rb⟩ := r2
    refine ⟨a, b, xs, ys, rfl, rfl, R.sub _ _ fa, R.sub _ _ fb, by rw [← ra.length, ← rb.length]; exact t.1, fun p hp => ?_⟩
    obtain ⟨R', s⟩ := R.laid (o := .lst (xs ++ ys)) hp
    exact fin _ st _ _ _ t.2 R' s ⟨p, _, rfl, upd_same, (ra.append rb).mono s⟩
  · exact t.elim
/-- two tuples put together -/
def oAddT : OPD := fun d e st k => match d, e with
  | .tup x, .tup y => x.length + y.length ≤ sizeLine ∧ k (.tup (x ++ y)) st
  | _, _ => False
theorem oAddT_ok : OpD X oAddT (rCatA X.K) := by
  intro G F H σ st d1 d2 v1 v2 k Q R r1 r2 t fin
  unfold oAddT at t
  split at t
  · obtain ⟨a, xs, rfl, fa, ra⟩ := r1
    obtain ⟨b, ys, rfl, fb, rb⟩ := r2
    obtain ⟨t1, t2⟩ := t
    rename_i dx dy
    refine ⟨a, b, xs, ys, rfl, rfl, R.sub.sqT fa, R.sub.sqT fb, by rw [← ra.length, ← rb.length]; exact t1, fun hx => ?_, fun _ hy => ?_, fun _ _ p hp => ?_⟩
    · subst hx
      have e : dx = [] := List.eq_nil_of_length_eq_zero ra.length
      subst e
      exact fin _ st F H _ t2 R (.refl F) ⟨b, ys, rfl, fb, rb⟩
    · subst hy
      have e : dy = [] := List.eq_nil_of_length_eq_zero rb.length
      subst e
      rw [List.append_nil] at t2
      exact fin _ st F H _ t2 R (.refl F) ⟨a, xs, rfl, fa, ra⟩
    · obtain ⟨R', s⟩ := R.laid (o := .tup (xs ++ ys)) hp
      exact fin _ st _ _ _ t2 R' s ⟨p, _, rfl, SqT.of upd_same, (ra.append rb).mono s⟩
  · exact t.elim
end
/-- + of any kind -/
def oAdd : OPD := fun d e st k => match d, e with
  | .int i, .int j => k (.int (i + j)) st
  | .str x, .str y => x.length + y.length ≤ sizeLine ∧ k (.str (x ++ y)) st
  | .lst x, .lst y => x.length + y.length ≤ sizeLine ∧ k (.lst (x ++ y)) st
  | .tup x, .tup y => x.length + y.length ≤ sizeLine ∧ k (.tup (x ++ y)) st
  | _, _ => False
section
variable {X : Cx} {pos : Pos} {a b : Expr} {ta tb : DTE}
theorem op_addA : OpR X (binaryOp .Add) (fun x y H Q => rI0 (fun i j => .int (i + j)) x y H Q ∨ (∃ i j, x = .str i ∧ y = .str j ∧ i.length + j.length ≤ sizeLine ∧ Q (.str (i ++ j)) H) ∨ rCat x y H Q ∨ rCatA X.K x y H Q) :=
  op_add.or (op_add_str.or (op_cat.or op_catA))
theorem oAdd_ok : OpD X oAdd (fun x y H Q => rI0 (fun i j => .int (i + j)) x y H Q ∨ (∃ i j, x = .str i ∧ y = .str j ∧ i.length + j.length ≤ sizeLine ∧ Q (.str (i ++ j)) H) ∨ rCat x y H Q ∨ rCatA X.K x y H Q) := by
  intro G F H σ st d1 d2 v1 v2 k Q R r1 r2 t fin
  refine (oAddI_ok.or (oAddS_ok.or (oAddL_ok.or oAddT_ok))) G F H σ st d1 d2 v1 v2 k Q R r1 r2 ?_ fin
  unfold oAdd at t
  split at t
  · exact .inl t
  · exact .inr (.inl t)
  · exact .inr (.inr (.inl t))
  · exact .inr (.inr (.inr t))
  · exact t.elim
theorem d_add (ha : DPE X a ta) (hb : DPE X b tb) : DPE X (.BinOp a .Add b pos) (r2 oAdd ta tb) := d_op op_addA oAdd_ok ha hb
theorem d_sub (ha : DPE X a ta) (hb : DPE X b tb) : DPE X (.BinOp a .Sub b pos) (r2 oSub ta tb) := d_op op_sub oSub_ok ha hb
theorem d_mul (ha : DPE X a ta) (hb : DPE X b tb) : DPE X (.BinOp a .Mult b pos) (r2 oMulI ta tb) := d_op op_mulD oMulI_ok ha hb
theorem d_div (ha : DPE X a ta) (hb : DPE X b tb) : DPE X (.BinOp a .FloorDiv b pos) (r2 oDiv ta tb) := d_op op_fdivD oDiv_ok ha hb
theorem d_mod (ha : DPE X a ta) (hb : DPE X b tb) : DPE X (.BinOp a .Mod b pos) (r2 oMod ta tb) := d_op op_modN oMod_ok ha hb
theorem d_pow (ha : DPE X a ta) (hb : DPE X b tb) : DPE X (.BinOp a .Pow b pos) (r2 oPow ta tb) := d_op op_pow oPow_ok ha hb
theorem d_lt (ha : DPE X a ta) (hb : DPE X b tb) : DPE X (.Compare a [.Lt] [b] pos) (r2 (oCmp fun i j => decide (i < j)) ta tb) := d_cmp op_lt oCmp_ok ha hb (nomark _)
theorem d_le (ha : DPE X a ta) (hb : DPE X b tb) : DPE X (.Compare a [.LtE] [b] pos) (r2 (oCmp fun i j => decide (i ≤ j)) ta tb) := d_cmp op_le oCmp_ok ha hb (nomark _)
theorem d_gt (ha : DPE X a ta) (hb : DPE X b tb) : DPE X (.Compare a [.Gt] [b] pos) (r2 (oCmp fun i j => decide (j < i)) ta tb) := d_cmp op_gt oCmp_ok ha hb (nomark _)
theorem d_ge (ha : DPE X a ta) (hb : DPE X b tb) : DPE X (.Compare a [.GtE] [b] pos) (r2 (oCmp fun i j => decide (j ≤ i)) ta tb) := d_cmp op_ge oCmp_ok ha hb (nomark _)
/-- -a -/
def r1 (opd : D → DS → (D → DS → Prop) → Prop) (ta : DTE) : DTE := fun st k => ta st fun d st1 => opd d st1 k
def oNeg : D → DS → (D → DS → Prop) → Prop := fun d st k => match d with
  | .int i => k (.int (-i)) st
  | _ => False
theorem d_neg (ha : DPE X a ta) : DPE X (.UnaryOp .USub a pos) (r1 oNeg ta) :=
  ⟨fun G => (pe_un un_neg (ha.run G)).imp fun σ H Q h => up1 (op := oNeg) h fun F H' st d1 v1 k R r1 t fin => by
    unfold oNeg at t
    split at t
    · cases r1
      exact ⟨_, rfl, fin _ st F H' _ t R (.refl F) rfl⟩
    · exact t.elim⟩
end
end DL

set_option autoImplicit false
set_option Elab.async false
set_option linter.all false
set_option maxRecDepth 100000
set_option autoImplicit false
/-! DL3: comparisons, tests, subscripts, displays, calls of built-ins over data. -/
namespace DL
open PySem PySem.Spec L2

/-! ### == of data -/
mutual
def py : D → PyData
  | .non => .none
  | .bl b => .bool b
  | .int i => .int i
  | .str x => .str x
  | .tup ds => .tuple (pys ds)
  | .lst ds => .list (pys ds)
  | .rl ds => .list (pys ds)
  | .obj _ _ _ => .dict []
  | .slo _ _ => .dict []
  | .dct _ _ => .dict []
  | .ref _ => .dict []
def pys : List D → List PyData
  | [] => []
  | d :: ds => py d :: pys ds
end
/-- data of at most so many storeys -/
def okD : Nat → D → Bool
  | 0, _ => false
  | _ + 1, .non => true
  | _ + 1, .bl _ => true
  | _ + 1, .int _ => true
  | _ + 1, .str x => PyData.strOk x
  | n + 1, .tup ds => ds.all (okD n)
  | n + 1, .lst ds => ds.all (okD n)
  | n + 1, .rl ds => ds.all (okD n)
  | _ + 1, .obj _ _ _ => false
  | _ + 1, .slo _ _ => false
  | _ + 1, .dct _ _ => false
  | _ + 1, .ref _ => false
/-- Python's == of data -/
def deq (d e : D) : Bool := PyData.eqv (py d) (py e)
def deqs (ds es : List D) : Bool := PyData.eqvAll (pys ds) (pys es)
section
variable {K : PySem.W.Frag} {mg : Str → Option Value} {F H : Hp}
mutual
theorem dp_of (s : Sub F H) : ∀ (n : Nat) (d : D) (v : V), okD n d = true → Rep K mg F d v → Dp K H v (py d)
  | 0, d, v, h, _ => by simp [okD] at h
  | n + 1, .non, v, h, r => by cases r; exact .non
  | n + 1, .bl b, v, h, r => by cases r; exact .bl b
  | n + 1, .int i, v, h, r => by cases r; exact .int i
  | n + 1, .str x, v, h, r => by cases r; exact .str x
  | n + 1, .tup ds, v, h, ⟨a, vs, e, q, r⟩ => by subst e; exact .tup (s.sqT q) (dps_of s n ds vs (by simpa [okD] using h) r)
  | n + 1, .lst ds, v, h, ⟨a, vs, e, q, r⟩ => by subst e; exact .lst (SqL.of (s _ _ q)) (dps_of s n ds vs (by simpa [okD] using h) r)
  | n + 1, .rl ds, v, h, ⟨a, vs, e, q, r⟩ => by subst e; exact .lst (s.sqL q) (dps_of s n ds vs (by simpa [okD] using h) r)
  | n + 1, .obj _ _ _, v, h, _ => by simp [okD] at h
  | n + 1, .slo _ _, v, h, _ => by simp [okD] at h
  | n + 1, .dct _ _, v, h, _ => by simp [okD] at h
  | n + 1, .ref _, v, h, _ => by simp [okD] at h
theorem dps_of (s : Sub F H) : ∀ (n : Nat) (ds : List D) (vs : List V), (∀ d ∈ ds, okD n d = true) → Reps K mg F ds vs → DpAll K H vs (pys ds)
  | n, [], vs, h, r => by cases r; exact .nil
  | n, d :: ds, vs, h, ⟨v, r, e, q, t⟩ => by subst e; exact .cons (dp_of s n d v (h d List.mem_cons_self) q) (dps_of s n ds r (fun d hd => h d (List.mem_cons_of_mem _ hd)) t)
end
end
mutual
theorem lay_of : ∀ (n : Nat) (d : D), okD n d = true → (py d).canLay0 = true ∧ (py d).depth ≤ n
  | 0, d, h => by simp [okD] at h
  | n + 1, .non, h => by simp [py, PyData.canLay0, PyData.depth]
  | n + 1, .bl b, h => by simp [py, PyData.canLay0, PyData.depth]
  | n + 1, .int i, h => by simp [py, PyData.canLay0, PyData.depth]
  | n + 1, .str x, h => by
    have h' : PyData.strOk x = true := h
    simp [py, PyData.canLay0, PyData.depth, h']
  | n + 1, .tup ds, h => by
    have q := lays_of n ds (by simpa [okD] using h)
    simp only [py, PyData.canLay0, PyData.depth]
    exact ⟨q.1, by omega⟩
  | n + 1, .lst ds, h => by
    have q := lays_of n ds (by simpa [okD] using h)
    simp only [py, PyData.canLay0, PyData.depth]
    exact ⟨q.1, by omega⟩
  | n + 1, .rl ds, h => by
    have q := lays_of n ds (by simpa [okD] using h)
    simp only [py, PyData.canLay0, PyData.depth]
    exact ⟨q.1, by omega⟩
  | n + 1, .obj _ _ _, h => by simp [okD] at h
  | n + 1, .slo _ _, h => by simp [okD] at h
  | n + 1, .dct _ _, h => by simp [okD] at h
  | n + 1, .ref _, h => by simp [okD] at h
theorem lays_of : ∀ (n : Nat) (ds : List D), (∀ d ∈ ds, okD n d = true) → PyData.canLayAll0 (pys ds) = true ∧ PyData.depthAll (pys ds) ≤ n
  | n, [], h => by simp [pys, PyData.canLayAll0, PyData.depthAll]
  | n, d :: ds, h => by
    have a := lay_of n d (h d List.mem_cons_self)
    have b := lays_of n ds fun d hd => h d (List.mem_cons_of_mem _ hd)
    simp only [pys, PyData.canLayAll0, PyData.depthAll, Bool.and_eq_true]
    exact ⟨⟨a.1, b.1⟩, by omega⟩
end
theorem shaped_of {n : Nat} {d : D} (h : okD n d = true) (hn : n ≤ 64) : SeqAt.shaped (py d) = true := by
  have q := lay_of n d h
  unfold SeqAt.shaped
  rw [q.1, decide_eq_true (by omega)]
  rfl
/-- == and != of data of at most 60 storeys -/
def oEqD : OPD := fun d e st k => (okD 60 d = true ∧ okD 60 e = true) ∧ k (.bl (deq d e)) st
def oNeD : OPD := fun d e st k => (okD 60 d = true ∧ okD 60 e = true) ∧ k (.bl (!deq d e)) st
section
variable {X : Cx}
theorem oEqD_ok : OpD X oEqD (rEqD X.K) := fun G F H σ st d1 d2 v1 v2 k Q R r1 r2 t fin =>
  ⟨py d1, py d2, dp_of R.sub 60 d1 v1 t.1.1 r1, dp_of R.sub 60 d2 v2 t.1.2 r2, shaped_of t.1.1 (by decide), shaped_of t.1.2 (by decide), fin _ st F H _ t.2 R (.refl F) rfl⟩
theorem oNeD_ok : OpD X oNeD (rNeD X.K) := fun G F H σ st d1 d2 v1 v2 k Q R r1 r2 t fin =>
  ⟨py d1, py d2, dp_of R.sub 60 d1 v1 t.1.1 r1, dp_of R.sub 60 d2 v2 t.1.2 r2, shaped_of t.1.1 (by decide), shaped_of t.1.2 (by decide), fin _ st F H _ t.2 R (.refl F) rfl⟩
/-! is None -/
def isNon : D → Bool
  | .non => true
  | _ => false
theorem isNon_of {K : PySem.W.Frag} {mg : Str → Option Value} {F : Hp} {d : D} {v : V} (r : Rep K mg F d v) : decide (v = .non) = isNon d := by
  cases d with
  | non => cases r; rfl
  | bl _ => cases r; rfl
  | int _ => cases r; rfl
  | str _ => cases r; rfl
  | tup _ => obtain ⟨a, vs, e, _⟩ := r; subst e; rfl
  | lst _ => obtain ⟨a, vs, e, _⟩ := r; subst e; rfl
  | rl _ => obtain ⟨a, vs, e, _⟩ := r; subst e; rfl
  | obj _ _ _ => obtain ⟨a, c, dx, fs, e, _⟩ := r; subst e; rfl
  | slo _ _ => obtain ⟨a, c, dx, vs, e, _⟩ := r; subst e; rfl
  | dct _ _ => obtain ⟨a, vs, e, _⟩ := r; subst e; rfl
  | ref _ => cases r; rfl
def oIsN : OPD := fun d e st k => isNon e = true ∧ k (.bl (isNon d)) st
def oNotN : OPD := fun d e st k => isNon e = true ∧ k (.bl (!isNon d)) st
theorem oIsN_ok : OpD X oIsN (fun x y H Q => y = .non ∧ Q (.bl (decide (x = .non))) H) := fun G F H σ st d1 d2 v1 v2 k Q R r1 r2 t fin => by
  have e := isNon_of r2
  rw [t.1] at e
  refine ⟨of_decide_eq_true e, ?_⟩
  rw [isNon_of r1]
  exact fin _ st F H _ t.2 R (.refl F) rfl
theorem oNotN_ok : OpD X oNotN (fun x y H Q => y = .non ∧ Q (.bl (!decide (x = .non))) H) := fun G F H σ st d1 d2 v1 v2 k Q R r1 r2 t fin => by
  have e := isNon_of r2
  rw [t.1] at e
  refine ⟨of_decide_eq_true e, ?_⟩
  rw [isNon_of r1]
  exact fin _ st F H _ t.2 R (.refl F) rfl
/-! in, not in -/
def flatD : D → Bool
  | .non => true
  | .bl _ => true
  | .int _ => true
  | .str _ => true
  | _ => false
def toV : D → V
  | .non => .non
  | .bl b => .bl b
  | .int i => .int i
  | .str x => .str x
  | _ => .non
theorem toV_of {K : PySem.W.Frag} {mg : Str → Option Value} {F : Hp} {d : D} {v : V} (r : Rep K mg F d v) (h : flatD d = true) : v = toV d ∧ flatV v = true := by
  cases d with
  | non => cases r; exact ⟨rfl, rfl⟩
  | bl _ => cases r; exact ⟨rfl, rfl⟩
  | int _ => cases r; exact ⟨rfl, rfl⟩
  | str _ => cases r; exact ⟨rfl, rfl⟩
  | _ => simp [flatD] at h
theorem toVs_of {K : PySem.W.Frag} {mg : Str → Option Value} {F : Hp} : ∀ {ds : List D} {vs : List V}, Reps K mg F ds vs → ds.all flatD = true → vs = ds.map toV ∧ vs.all flatV = true
  | [], vs, r, h => by cases r; exact ⟨rfl, rfl⟩
  | d :: ds, vs, ⟨v, r, e, q, t⟩, h => by
    subst e
    rw [List.all_cons, Bool.and_eq_true] at h
    obtain ⟨e1, f1⟩ := toV_of q h.1
    obtain ⟨e2, f2⟩ := toVs_of t h.2
    refine ⟨by rw [List.map_cons, e1, e2], ?_⟩
    rw [List.all_cons, f1, f2]; rfl
/-- x in xs, flat things -/
def inD (d : D) (ds : List D) : Bool := ds.any fun e => eqV (toV e) (toV d)
theorem inD_eq (d : D) (ds : List D) : inV (toV d) (ds.map toV) = inD d ds := by
  unfold inV inD
  rw [List.any_map]
  rfl
def oIn (f : Bool → Bool) : OPD := fun d e st k => match e with
  | .tup ds => (flatD d = true ∧ ds.all flatD = true) ∧ k (.bl (f (inD d ds))) st
  | .lst ds => (flatD d = true ∧ ds.all flatD = true) ∧ k (.bl (f (inD d ds))) st
  | .str z => match d with
    | .str x => ∃ c, x = ⟨#[c]⟩ ∧ k (.bl (f (decide (c ∈ z.cps.toList)))) st
    | _ => False
  | _ => False
theorem oIn_ok : OpD X (oIn id) (fun x y H Q => rIn X.K false x y H Q ∨ ∃ (c : Nat) (z : Str), x = .str ⟨#[c]⟩ ∧ y = .str z ∧ Q (.bl (decide (c ∈ z.cps.toList))) H) := by
  intro G F H σ st d1 d2 v1 v2 k Q R r1 r2 t fin
  unfold oIn at t
  split at t
  · obtain ⟨⟨h1, h2⟩, t⟩ := t
    obtain ⟨a, vs, rfl, q, r⟩ := r2
    obtain ⟨e1, f1⟩ := toV_of r1 h1
    obtain ⟨e2, f2⟩ := toVs_of r h2
    refine .inl ⟨a, vs, rfl, .inr (R.sub.sqT q), f1, f2, ?_⟩
    rw [e1, e2]
    exact fin _ st F H _ t R (.refl F) (by rw [inD_eq]; rfl)
  · obtain ⟨⟨h1, h2⟩, t⟩ := t
    obtain ⟨a, vs, rfl, q, r⟩ := r2
    obtain ⟨e1, f1⟩ := toV_of r1 h1
    obtain ⟨e2, f2⟩ := toVs_of r h2
    refine .inl ⟨a, vs, rfl, .inl (SqL.of (R.sub _ _ q)), f1, f2, ?_⟩
    rw [e1, e2]
    exact fin _ st F H _ t R (.refl F) (by rw [inD_eq]; rfl)
  · split at t
    · obtain ⟨c, rfl, t⟩ := t
      cases r1; cases r2
      exact .inr ⟨c, _, rfl, rfl, fin _ st F H _ t R (.refl F) rfl⟩
    · exact t.elim
  · exact t.elim
theorem oNotIn_ok : OpD X (oIn not) (fun x y H Q => rIn X.K true x y H Q ∨ ∃ (c : Nat) (z : Str), x = .str ⟨#[c]⟩ ∧ y = .str z ∧ Q (.bl (!decide (c ∈ z.cps.toList))) H) := by
  intro G F H σ st d1 d2 v1 v2 k Q R r1 r2 t fin
  unfold oIn at t
  split at t
  · obtain ⟨⟨h1, h2⟩, t⟩ := t
    obtain ⟨a, vs, rfl, q, r⟩ := r2
    obtain ⟨e1, f1⟩ := toV_of r1 h1
    obtain ⟨e2, f2⟩ := toVs_of r h2
    refine .inl ⟨a, vs, rfl, .inr (R.sub.sqT q), f1, f2, ?_⟩
    rw [e1, e2]
    exact fin _ st F H _ t R (.refl F) (by rw [inD_eq]; rfl)
  · obtain ⟨⟨h1, h2⟩, t⟩ := t
    obtain ⟨a, vs, rfl, q, r⟩ := r2
    obtain ⟨e1, f1⟩ := toV_of r1 h1
    obtain ⟨e2, f2⟩ := toVs_of r h2
    refine .inl ⟨a, vs, rfl, .inl (SqL.of (R.sub _ _ q)), f1, f2, ?_⟩
    rw [e1, e2]
    exact fin _ st F H _ t R (.refl F) (by rw [inD_eq]; rfl)
  · split at t
    · obtain ⟨c, rfl, t⟩ := t
      cases r1; cases r2
      exact .inr ⟨c, _, rfl, rfl, fin _ st F H _ t R (.refl F) rfl⟩
    · exact t.elim
  · exact t.elim
theorem op_inA : OpR X (compareOp .In) (fun x y H Q => rIn X.K false x y H Q ∨ ∃ (c : Nat) (z : Str), x = .str ⟨#[c]⟩ ∧ y = .str z ∧ Q (.bl (decide (c ∈ z.cps.toList))) H) := op_in_seq.or op_in_sign
theorem op_notInA : OpR X (compareOp .NotIn) (fun x y H Q => rIn X.K true x y H Q ∨ ∃ (c : Nat) (z : Str), x = .str ⟨#[c]⟩ ∧ y = .str z ∧ Q (.bl (!decide (c ∈ z.cps.toList))) H) := op_notIn_seq.or op_notIn_sign
end

/-! ### comparisons, by their rules -/
structure CmpD (X : Cx) (op : CmpOp) (b : Expr) (opd : OPD) : Prop where
  ex : ∃ r, OpR X (compareOp op) r ∧ OpD X opd r
  hm : behindInMarks op b = false
section
variable {X : Cx} {pos : Pos} {a b c : Expr} {ta tb tc : DTE} {opd opd' : OPD} {op op' : CmpOp}
theorem c_lt : CmpD X .Lt b (oCmp fun i j => decide (i < j)) := ⟨⟨_, op_lt, oCmp_ok⟩, nomark _⟩
theorem c_le : CmpD X .LtE b (oCmp fun i j => decide (i ≤ j)) := ⟨⟨_, op_le, oCmp_ok⟩, nomark _⟩
theorem c_gt : CmpD X .Gt b (oCmp fun i j => decide (j < i)) := ⟨⟨_, op_gt, oCmp_ok⟩, nomark _⟩
theorem c_ge : CmpD X .GtE b (oCmp fun i j => decide (j ≤ i)) := ⟨⟨_, op_ge, oCmp_ok⟩, nomark _⟩
theorem c_eq (hu : X.A.units + 64 < cLine) : CmpD X .Eq b oEqD := ⟨⟨_, op_eqD hu, oEqD_ok⟩, nomark _⟩
theorem c_ne (hu : X.A.units + 64 < cLine) : CmpD X .NotEq b oNeD := ⟨⟨_, op_neD hu, oNeD_ok⟩, nomark _⟩
theorem c_is : CmpD X .Is b oIsN := ⟨⟨_, op_isN, oIsN_ok⟩, nomark _⟩
theorem c_isnot : CmpD X .IsNot b oNotN := ⟨⟨_, op_notN, oNotN_ok⟩, nomark _⟩
theorem c_in (h : behindInMarks .In b = false := by rfl) : CmpD X .In b (oIn id) := ⟨⟨_, op_inA, oIn_ok⟩, h⟩
theorem c_notin (h : behindInMarks .NotIn b = false := by rfl) : CmpD X .NotIn b (oIn not) := ⟨⟨_, op_notInA, oNotIn_ok⟩, h⟩
theorem d_cm (h : CmpD X op b opd) (ha : DPE X a ta) (hb : DPE X b tb) : DPE X (.Compare a [op] [b] pos) (r2 opd ta tb) := by
  obtain ⟨⟨r, ho, hd⟩, hm⟩ := h
  exact d_cmp ho hd ha hb hm
/-- a test: an expression's value that is a bool -/
def rB (t : DTE) : DTT := fun st k => t st fun d st1 => match d with
  | .bl b => k b st1
  | _ => False
theorem rB_up {K : PySem.W.Frag} {mg : Str → Option Value} {G : Ent} {t : DTE} {σ : L2.St} {H : Hp} {Q : Bool → Hp → Prop} (h : upT K mg G (rB t) σ H Q) : upE K mg G t σ H fun x H1 => ∃ c, x = .bl c ∧ Q c H1 := by
  obtain ⟨F, st, k, R, t, fin⟩ := h
  refine ⟨F, st, _, R, t, fun d st1 F1 H1 v1 q R1 s1 r => ?_⟩
  split at q
  · cases r
    exact ⟨_, rfl, fin _ st1 F1 H1 q R1 s1⟩
  · exact q.elim
theorem t_cm (h : CmpD X op b opd) (ha : DPE X a ta) (hb : DPE X b tb) : DPT X (.Compare a [op] [b] pos) (rB (r2 opd ta tb)) := by
  obtain ⟨⟨r, ho, hd⟩, hm⟩ := h
  refine ⟨fun G => (pt_cmpR ho (ha.run G) (hb.run G) hm).imp fun σ H Q h => ?_⟩
  exact up2 (rB_up h) fun F H' st d1 d2 v1 v2 k R r1 r2 t fin => hd G F H' σ st d1 d2 v1 v2 k _ R r1 r2 t fin
/-- a < b < c -/
def rChain (o o' : OPD) (ta tb tc : DTE) : DTE := fun st k => ta st fun x st1 => tb st1 fun y st2 => o x y st2 fun z st3 => match z with
  | .bl c => if c = true then tc st3 fun w st4 => o' y w st4 k else k (.bl false) st3
  | _ => False
theorem chain_up {K : PySem.W.Frag} {mg : Str → Option Value} {G : Ent} {σ : L2.St} {H : Hp} {Q : VK} {r r' : R2} (hK : X.K = K) (hm : X.mg = mg) (hd : OpD X opd r) (hd' : OpD X opd' r') (h : upE K mg G (rChain opd opd' ta tb tc) σ H Q) :
    tChain r r' (upE K mg G ta) (upE K mg G tb) (upE K mg G tc) σ H Q := by
  subst hK hm
  obtain ⟨F, st, k, R, t, fin⟩ := h
  refine ⟨F, st, _, R, t, fun d1 st1 F1 H1 v1 t1 R1 s1 r1 => ⟨F1, st1, _, R1, t1, fun d2 st2 F2 H2 v2 t2 R2 s2 r2 => ?_⟩⟩
  refine hd G F2 H2 σ st2 d1 d2 v1 v2 _ _ R2 (r1.mono s2) r2 t2 fun d3 st3 F3 H3 v3 t3 R3 s3 r3 => ?_
  split at t3
  · cases r3
    refine ⟨_, rfl, ?_⟩
    split at t3
    · rename_i hc
      rw [if_pos hc]
      exact ⟨F3, st3, _, R3, t3, fun d4 st4 F4 H4 v4 t4 R4 s4 r4 => hd' G F4 H4 σ st4 d2 d4 v2 v4 k Q R4 (r2.mono (s3.trans s4)) r4 t4 fun d5 st5 F5 H5 v5 t5 R5 s5 r5 =>
        fin d5 st5 F5 H5 v5 t5 R5 ((((s1.trans s2).trans s3).trans s4).trans s5) r5⟩
    · rename_i hc
      rw [if_neg hc]
      exact fin _ st3 F3 H3 _ t3 R3 ((s1.trans s2).trans s3) rfl
  · exact t3.elim
theorem d_chain (h : CmpD X op b opd) (h' : CmpD X op' c opd') (ha : DPE X a ta) (hb : DPE X b tb) (hc : DPE X c tc)
    (hm : lastMarks [op, op'] [b, c] = false := by with_unfolding_all rfl) : DPE X (.Compare a [op, op'] [b, c] pos) (rChain opd opd' ta tb tc) := by
  obtain ⟨⟨r, ho, hd⟩, _⟩ := h
  obtain ⟨⟨r', ho', hd'⟩, _⟩ := h'
  exact ⟨fun G => (pe_chain ho ho' (ha.run G) (hb.run G) (hc.run G) hm).imp fun σ H Q h => chain_up rfl rfl hd hd' h⟩
theorem t_chain (h : CmpD X op b opd) (h' : CmpD X op' c opd') (ha : DPE X a ta) (hb : DPE X b tb) (hc : DPE X c tc)
    (hm : lastMarks [op, op'] [b, c] = false := by with_unfolding_all rfl) : DPT X (.Compare a [op, op'] [b, c] pos) (rB (rChain opd opd' ta tb tc)) := by
  obtain ⟨⟨r, ho, hd⟩, _⟩ := h
  obtain ⟨⟨r', ho', hd'⟩, _⟩ := h'
  exact ⟨fun G => (pt_chain ho ho' (ha.run G) (hb.run G) (hc.run G) hm).imp fun σ H Q h => chain_up rfl rfl hd hd' (rB_up h)⟩

/-! ### tests -/
variable {tA tB' : DTT} {rest : List Expr} {e : Expr} {te : DTE}
/-- a value's truth -/
def truD : D → Bool
  | .non => false
  | .bl b => b
  | .int i => i != 0
  | .str x => (x.length : Int) != 0
  | .tup ds => !ds.isEmpty
  | .lst ds => !ds.isEmpty
  | .rl ds => !ds.isEmpty
  | .dct ks _ => !ks.isEmpty
  | _ => false
def TruOk : D → Prop
  | .str x => x.length ≤ sizeLine
  | .obj _ _ _ => False
  | .slo _ _ => False
  | .ref _ => False
  | _ => True
theorem isEmpty_len {α β : Type} {xs : List α} {ys : List β} (h : xs.length = ys.length) : (!xs.isEmpty) = !ys.isEmpty := by
  cases xs <;> cases ys <;> simp_all
theorem truV_of {K : PySem.W.Frag} {mg : Str → Option Value} {F H : Hp} {d : D} {v : V} (s : Sub F H) (r : Rep K mg F d v) (h : TruOk d) : TruV K v H (truD d) := by
  cases d with
  | non => cases r; rfl
  | bl _ => cases r; rfl
  | int _ => cases r; rfl
  | str _ => cases r; exact ⟨h, rfl⟩
  | tup _ => obtain ⟨a, vs, e, q, r⟩ := r; subst e; exact .inr (.inl ⟨vs, s.sqT q, isEmpty_len r.length⟩)
  | lst _ => obtain ⟨a, vs, e, q, r⟩ := r; subst e; exact .inl ⟨vs, SqL.of (s _ _ q), isEmpty_len r.length⟩
  | rl _ => obtain ⟨a, vs, e, q, r⟩ := r; subst e; exact .inl ⟨vs, s.sqL q, isEmpty_len r.length⟩
  | dct ks _ => obtain ⟨a, kvs, e, q, n, r⟩ := r; subst e; exact .inr (.inr ⟨kvs, s _ _ q, by rw [← n]; exact isEmpty_len (by simp)⟩)
  | obj _ _ _ => exact h.elim
  | slo _ _ => exact h.elim
  | ref _ => exact h.elim
/-- a test by its value's truth -/
def rT (t : DTE) : DTT := fun st k => t st fun d st1 => TruOk d ∧ k (truD d) st1
theorem t_val (ha : DPE X e te) (he : ∀ whole, isTrue e X.env whole = (do let v ← whole; standAt e.pos; holding [v] (truthy v)) := by intro _; rfl) : DPT X e (rT te) :=
  ⟨fun G => (pt_truth (ha.run G) he).imp fun σ H Q ⟨F, st, k, R, t, fin⟩ => ⟨F, st, _, R, t, fun d st1 F1 H1 v1 q R1 s1 r => ⟨_, truV_of R1.sub r q.1, fin _ st1 F1 H1 q.2 R1 s1⟩⟩⟩
def rAnd (t u : DTT) : DTT := fun st k => t st fun c st1 => if c = true then u st1 k else k false st1
def rOr (t u : DTT) : DTT := fun st k => t st fun c st1 => if c = true then k true st1 else u st1 k
def rNot (t : DTT) : DTT := fun st k => t st fun c st1 => k (!c) st1
theorem w_and1 (ha : DPT X a tA) : DPW X (.BoolOp .And [a] pos) tA := ⟨fun G => pw_and1 (ha.run G)⟩
theorem w_or1 (ha : DPT X a tA) : DPW X (.BoolOp .Or [a] pos) tA := ⟨fun G => pw_or1 (ha.run G)⟩
theorem w_and (ha : DPT X a tA) (hb : DPW X (.BoolOp .And (b :: rest) pos) tB') : DPW X (.BoolOp .And (a :: b :: rest) pos) (rAnd tA tB') :=
  ⟨fun G => (pw_and (ha.run G) (hb.run G)).imp fun σ H Q ⟨F, st, k, R, t, fin⟩ => ⟨F, st, _, R, t, fun c st1 F1 H1 q R1 s1 => by
    cases c with
    | true => exact iteT ⟨F1, st1, k, R1, q, fun b st' F' H' q' R' s' => fin b st' F' H' q' R' (s1.trans s')⟩
    | false => exact iteF (fin false st1 F1 H1 q R1 s1)⟩⟩
theorem w_or (ha : DPT X a tA) (hb : DPW X (.BoolOp .Or (b :: rest) pos) tB') : DPW X (.BoolOp .Or (a :: b :: rest) pos) (rOr tA tB') :=
  ⟨fun G => (pw_or (ha.run G) (hb.run G)).imp fun σ H Q ⟨F, st, k, R, t, fin⟩ => ⟨F, st, _, R, t, fun c st1 F1 H1 q R1 s1 => by
    cases c with
    | false => exact iteF ⟨F1, st1, k, R1, q, fun b st' F' H' q' R' s' => fin b st' F' H' q' R' (s1.trans s')⟩
    | true => exact iteT (fin true st1 F1 H1 q R1 s1)⟩⟩
theorem t_w (h : DPW X e tA) : DPT X e tA := ⟨fun G => (h.run G).pt⟩
theorem t_not (ha : DPT X a tA) : DPT X (.UnaryOp .Not a pos) (rNot tA) :=
  ⟨fun G => (pt_not (ha.run G)).imp fun σ H Q ⟨F, st, k, R, t, fin⟩ => ⟨F, st, _, R, t, fun c st1 F1 H1 q R1 s1 => fin _ st1 F1 H1 q R1 s1⟩⟩
/-- a if t else b, as a test -/
def rIfT (t u w : DTT) : DTT := fun st k => t st fun c st1 => if c = true then u st1 k else w st1 k
theorem t_if {tC : DTT} (hc : DPT X c tC) (ha : DPT X a tA) (hb : DPT X b tB') : DPT X (.IfExp c a b pos) (rIfT tC tA tB') := by
  refine ⟨fun G => ⟨fun pins s σ H Q I h => ?_⟩⟩
  obtain ⟨F, st, k, R, t, fin⟩ := h
  refine PyProof.Rows.isTrue_IfExp (thn ((hc.run G).run pins s σ H (fun b H1 => ∃ F1 st1, Rel X.K X.mg G F1 st1 σ H1 ∧ Sub F F1 ∧ if b = true then tA st1 k else tB' st1 k) I ⟨F, st, _, R, t, fun b st1 F1 H1 q R1 s1 => ⟨F1, st1, R1, s1, q⟩⟩) fun d s1 ⟨H1, I1, F1, st1, R1, sF, q⟩ => ?_)
  cases d with
  | true => exact (ha.run G).run pins s1 σ H1 Q I1 ⟨F1, st1, k, R1, q, fun b st' F' H' q' R' s' => fin b st' F' H' q' R' (sF.trans s')⟩
  | false => exact (hb.run G).run pins s1 σ H1 Q I1 ⟨F1, st1, k, R1, q, fun b st' F' H' q' R' s' => fin b st' F' H' q' R' (sF.trans s')⟩
/-- a if t else b -/
def rIf (t : DTT) (ta tb : DTE) : DTE := fun st k => t st fun c st1 => if c = true then ta st1 k else tb st1 k
theorem d_if {tC : DTT} (hc : DPT X c tC) (ha : DPE X a ta) (hb : DPE X b tb) : DPE X (.IfExp c a b pos) (rIf tC ta tb) :=
  ⟨fun G => (pe_ifExp (hc.run G) (ha.run G) (hb.run G)).imp fun σ H Q ⟨F, st, k, R, t, fin⟩ => ⟨F, st, _, R, t, fun c st1 F1 H1 q R1 s1 => by
    cases c with
    | true => exact iteT ⟨F1, st1, k, R1, q, fun d st' F' H' v q' R' s' r => fin d st' F' H' v q' R' (s1.trans s') r⟩
    | false => exact iteF ⟨F1, st1, k, R1, q, fun d st' F' H' v q' R' s' r => fin d st' F' H' v q' R' (s1.trans s') r⟩⟩⟩
/-- and, or, not as values: bools -/
def rAndV (ta tb : DTE) : DTE := fun st k => ta st fun d st1 => match d with
  | .bl c => if c = true then tb st1 k else k (.bl false) st1
  | _ => False
def rOrV (ta tb : DTE) : DTE := fun st k => ta st fun d st1 => match d with
  | .bl c => if c = true then k (.bl true) st1 else tb st1 k
  | _ => False
def rNotV (ta : DTE) : DTE := fun st k => ta st fun d st1 => match d with
  | .bl c => k (.bl (!c)) st1
  | _ => False
theorem d_one {o : BoolOp} (ha : DPE X a ta) : DPE X (.BoolOp o [a] pos) ta := ⟨fun G => pe_one (ha.run G)⟩
theorem d_and (ha : DPE X a ta) (hb : DPE X (.BoolOp .And (b :: rest) pos) tb) : DPE X (.BoolOp .And (a :: b :: rest) pos) (rAndV ta tb) :=
  ⟨fun G => (pe_and (ha.run G) (hb.run G)).imp fun σ H Q ⟨F, st, k, R, t, fin⟩ => ⟨F, st, _, R, t, fun d st1 F1 H1 v q R1 s1 r => by
    split at q
    · cases r
      rename_i c
      refine ⟨c, rfl, ?_⟩
      cases c with
      | true => exact iteT ⟨F1, st1, k, R1, q, fun d st' F' H' v q' R' s' r => fin d st' F' H' v q' R' (s1.trans s') r⟩
      | false => exact iteF (fin _ st1 F1 H1 _ q R1 s1 rfl)
    · exact q.elim⟩⟩
theorem d_or (ha : DPE X a ta) (hb : DPE X (.BoolOp .Or (b :: rest) pos) tb) : DPE X (.BoolOp .Or (a :: b :: rest) pos) (rOrV ta tb) :=
  ⟨fun G => (pe_or (ha.run G) (hb.run G)).imp fun σ H Q ⟨F, st, k, R, t, fin⟩ => ⟨F, st, _, R, t, fun d st1 F1 H1 v q R1 s1 r => by
    split at q
    · cases r
      rename_i c
      refine ⟨c, rfl, ?_⟩
      cases c with
      | false => exact iteF ⟨F1, st1, k, R1, q, fun d st' F' H' v q' R' s' r => fin d st' F' H' v q' R' (s1.trans s') r⟩
      | true => exact iteT (fin _ st1 F1 H1 _ q R1 s1 rfl)
    · exact q.elim⟩⟩
theorem d_not (ha : DPE X a ta) : DPE X (.UnaryOp .Not a pos) (rNotV ta) :=
  ⟨fun G => (pe_not (ha.run G)).imp fun σ H Q ⟨F, st, k, R, t, fin⟩ => ⟨F, st, _, R, t, fun d st1 F1 H1 v q R1 s1 r => by
    split at q
    · cases r
      exact ⟨_, rfl, fin _ st1 F1 H1 _ q R1 s1 rfl⟩
    · exact q.elim⟩⟩

/-! ### x[i] -/
def kO (o : Option D) (k : D → DS → Prop) (st : DS) : Prop := match o with
  | some x => k x st
  | none => False
theorem kO_of {o : Option D} {k : D → DS → Prop} {st : DS} (h : kO o k st) : ∃ x, o = some x ∧ k x st := by
  unfold kO at h
  split at h
  · exact ⟨_, rfl, h⟩
  · exact h.elim
def oIx : OPD := fun d e st k => match e with
  | .int i => match d with
    | .tup ds => kO (atI ds i) k st
    | .lst ds => kO (atI ds i) k st
    | .rl ds => kO (atI ds i) k st
    | .str z => z.length ≤ sizeLine ∧ kO ((atI z.cps.toList i).map fun c => .str ⟨#[c]⟩) k st
    | .ref a => match st.mem a with
      | some (.lst ds) => kO (atI ds i) k st
      | _ => False
    | _ => False
  | _ => False
theorem atI_rep {K : PySem.W.Frag} {mg : Str → Option Value} {F : Hp} {ds : List D} {vs : List V} {i : Int} {x : D} (r : Reps K mg F ds vs) (h : atI ds i = some x) : ∃ v, atI vs i = some v ∧ Rep K mg F x v := by
  unfold atI at h ⊢
  rw [← r.length]
  cases e : ixN ds.length i with
  | none => rw [e] at h; cases h
  | some j =>
    rw [e] at h
    exact r.get h
theorem oIx_ok : OpD X oIx (rIx X.K) := by
  intro G F H σ st d1 d2 v1 v2 k Q R r1 r2 t fin
  unfold oIx at t
  split at t
  · cases r2
    split at t
    · obtain ⟨x, h, t⟩ := kO_of t
      obtain ⟨a, vs, rfl, q, r⟩ := r1
      obtain ⟨v, hv, rv⟩ := atI_rep r h
      exact .inr (.inl ⟨a, vs, _, v, rfl, rfl, R.sub.sqT q, hv, fin x st F H v t R (.refl F) rv⟩)
    · obtain ⟨x, h, t⟩ := kO_of t
      obtain ⟨a, vs, rfl, q, r⟩ := r1
      obtain ⟨v, hv, rv⟩ := atI_rep r h
      exact .inl ⟨a, vs, _, v, rfl, rfl, SqL.of (R.sub _ _ q), hv, fin x st F H v t R (.refl F) rv⟩
    · obtain ⟨x, h, t⟩ := kO_of t
      obtain ⟨a, vs, rfl, q, r⟩ := r1
      obtain ⟨v, hv, rv⟩ := atI_rep r h
      exact .inl ⟨a, vs, _, v, rfl, rfl, R.sub.sqL q, hv, fin x st F H v t R (.refl F) rv⟩
    · obtain ⟨hz, t⟩ := t
      obtain ⟨y, h, t⟩ := kO_of t
      obtain ⟨c, hc, rfl⟩ := Option.map_eq_some_iff.mp h
      cases r1
      exact .inr (.inr ⟨_, _, c, rfl, rfl, hz, hc, fin _ st F H _ t R (.refl F) rfl⟩)
    · cases r1
      split at t
      · rename_i hm
        obtain ⟨x, h, t⟩ := kO_of t
        obtain ⟨_, o, ho, vs, e, r⟩ := R.mem _ _ hm
        subst e
        obtain ⟨v, hv, rv⟩ := atI_rep r h
        exact .inl ⟨_, vs, _, v, rfl, rfl, SqL.of ho, hv, fin x st F H v t R (.refl F) rv⟩
      · exact t.elim
    · exact t.elim
  · exact t.elim
theorem d_ix (ha : DPE X a ta) (hb : DPE X b tb) (hs : PlainIx b := by exact fun _ _ => rfl) : DPE X (.Subscript a b pos) (r2 oIx ta tb) := d_ixr ix_seq oIx_ok ha hb hs
/-- x[i], x a list that only this slot knows -/
def rIxO (i : Nat) (tb : DTE) : DTE := fun st k => (∃ ds, st.env[i]? = some (.own ds)) ∧ tb st fun e st1 => match e, st1.env[i]? with
  | .int j, some (.own ds) => kO (atI ds j) k st1
  | _, _ => False
theorem d_ixO_of {i : Nat} {p : Pos} {x : Str} (h : PE X (.Name x p) (tVar i)) (hb : DPE X b tb) (hs : PlainIx b) : DPE X (.Subscript (.Name x p) b pos) (rIxO i tb) := by
  refine ⟨fun G => (pe_ix ix_seq h (hb.run G) hs).imp fun σ H Q ⟨F, st, k, R, ⟨⟨ds0, h0⟩, t⟩, fin⟩ => ?_⟩
  obtain ⟨a0, vs0, e0, _⟩ := R.own h0
  refine ⟨_, e0, F, st, _, R, t, fun e st1 F1 H1 v1 q R1 s1 r => ?_⟩
  split at q
  · rename_i j ds hown
    cases r
    obtain ⟨y, hy, q⟩ := kO_of q
    obtain ⟨a, vs, e, ha, rr, _⟩ := R1.own hown
    rw [e0] at e; cases e
    obtain ⟨v, hv, rv⟩ := atI_rep rr hy
    exact .inl ⟨a0, vs, _, v, rfl, rfl, SqL.of ha, hv, fin y st1 F1 H1 v q R1 s1 rv⟩
  · exact q.elim
theorem d_ixO (i : Nat) {p : Pos} {x : Str} (hb : DPE X b tb) (hs : PlainIx b := by exact fun _ _ => rfl) (hN : X.N[i]? = some x := by rfl) (hv : Vis X.env.scope x := by first | exact Or.inl rfl | exact Or.inr (Or.inl rfl) | exact Or.inr (Or.inr rfl)) (hd : (x == ("__debug__" : Str)) = false := by decide)
    (hcd : (x == ("__classdict__" : Str)) = false := by decide) : DPE X (.Subscript (.Name x p) b pos) (rIxO i tb) := d_ixO_of (pe_var hN hv hd hcd) hb hs
end
end DL

set_option autoImplicit false
set_option Elab.async false
set_option linter.all false
set_option maxRecDepth 100000
set_option autoImplicit false
/-! DL4: arguments, displays, built-ins, slices, isinstance. -/
namespace DL
open PySem PySem.Spec L2

section
variable {X : Cx} {pos : Pos} {a b c e : Expr} {es : List Expr} {ta tb tc te : DTE} {t : DTA}
/-! ### arguments -/
def rNil : DTA := fun st k => k [] st
def rCons (te : DTE) (t : DTA) : DTA := fun st k => te st fun d st1 => t st1 fun ds st2 => k (d :: ds) st2
/-- *xs, .. -/
def rStar (te : DTE) (t : DTA) : DTA := fun st k => te st fun d st1 => match d with
  | .tup xs => t st1 fun ds st2 => k (xs ++ ds) st2
  | .lst xs => t st1 fun ds st2 => k (xs ++ ds) st2
  | _ => False
theorem a_nil : DPA X [] rNil := ⟨fun G => pa_nil.imp fun σ H Q ⟨F, st, k, R, t, fin⟩ => fin [] st F H [] t R (.refl F) rfl⟩
theorem a_cons (ha : DPE X e te) (hr : DPA X es t) (hs : starEach (e :: es) X.env = (false, eval e X.env) :: starEach es X.env := by rfl) : DPA X (e :: es) (rCons te t) :=
  ⟨fun G => (pa_cons (ha.run G) (hr.run G) hs).imp fun σ H Q ⟨F, st, k, R, q, fin⟩ => ⟨F, st, _, R, q, fun d st1 F1 H1 v q1 R1 s1 r1 => ⟨F1, st1, _, R1, q1, fun ds st2 F2 H2 vs q2 R2 s2 r2 =>
    fin (d :: ds) st2 F2 H2 (v :: vs) q2 R2 (s1.trans s2) ⟨v, vs, rfl, r1.mono s2, r2⟩⟩⟩⟩
theorem a_star {p : Pos} (ha : DPE X e te) (hr : DPA X es t) (hs : starEach (.Starred e p :: es) X.env = (true, eval e X.env) :: starEach es X.env := by rfl) : DPA X (.Starred e p :: es) (rStar te t) :=
  ⟨fun G => (StX.pa_star (ha.run G) (hr.run G) hs).imp fun σ H Q ⟨F, st, k, R, q, fin⟩ => ⟨F, st, _, R, q, fun d st1 F1 H1 v q1 R1 s1 r1 => by
    split at q1
    · obtain ⟨p, us, rfl, hq, r⟩ := r1
      exact ⟨p, us, rfl, .inl (R1.sub.sqT hq), F1, st1, _, R1, q1, fun ds st2 F2 H2 vs q2 R2 s2 r2 => fin _ st2 F2 H2 _ q2 R2 (s1.trans s2) ((r.mono s2).append r2)⟩
    · obtain ⟨p, us, rfl, hq, r⟩ := r1
      exact ⟨p, us, rfl, .inr (SqL.of (R1.sub _ _ hq)), F1, st1, _, R1, q1, fun ds st2 F2 H2 vs q2 R2 s2 r2 => fin _ st2 F2 H2 _ q2 R2 (s1.trans s2) ((r.mono s2).append r2)⟩
    · exact q1.elim⟩⟩
/-! ### displays -/
def rTup (t : DTA) : DTE := fun st k => t st fun ds st1 => ds.length ≤ sizeLine ∧ k (.tup ds) st1
def rLst (t : DTA) : DTE := fun st k => t st fun ds st1 => ds.length ≤ sizeLine ∧ k (.lst ds) st1
/-- a list that will be changed by others -/
def rLstM (t : DTA) : DTE := fun st k => t st fun ds st1 => ds.length ≤ sizeLine ∧ ∀ p, st1.mem p = none → k (.ref p) ⟨st1.env, mput st1.mem p (.lst ds)⟩
theorem d_tup {x1} (h : DPA X es t) : DPE X (.Tuple es x1 pos) (rTup t) :=
  ⟨fun G => (pe_tup (h.run G)).imp fun σ H Q ⟨F, st, k, R, q, fin⟩ => ⟨F, st, _, R, q, fun ds st1 F1 H1 vs q1 R1 s1 r1 => ⟨by rw [← r1.length]; exact q1.1, fun p hp => by
    obtain ⟨R', s⟩ := R1.laid (o := .tup vs) hp
    exact fin _ st1 _ _ _ q1.2 R' (s1.trans s) ⟨p, vs, rfl, SqT.of upd_same, r1.mono s⟩⟩⟩⟩
theorem d_lst (h : DPA X es t) : DPE X (.List es pos) (rLst t) :=
  ⟨fun G => (pe_lst (h.run G)).imp fun σ H Q ⟨F, st, k, R, q, fin⟩ => ⟨F, st, _, R, q, fun ds st1 F1 H1 vs q1 R1 s1 r1 => ⟨by rw [← r1.length]; exact q1.1, fun p hp => by
    obtain ⟨R', s⟩ := R1.laid (o := .lst vs) hp
    exact fin _ st1 _ _ _ q1.2 R' (s1.trans s) ⟨p, vs, rfl, upd_same, r1.mono s⟩⟩⟩⟩
theorem d_lstM (h : DPA X es t) : DPE X (.List es pos) (rLstM t) :=
  ⟨fun G => (pe_lst (h.run G)).imp fun σ H Q ⟨F, st, k, R, q, fin⟩ => ⟨F, st, _, R, q, fun ds st1 F1 H1 vs q1 R1 s1 r1 => ⟨by rw [← r1.length]; exact q1.1, fun p hp => by
    obtain ⟨mp, R'⟩ := R1.mnew (mo := .lst ds) (o := .lst vs) hp ⟨vs, rfl, r1⟩
    exact fin _ _ _ _ _ (q1.2 p mp) R' s1 rfl⟩⟩⟩

/-! ### built-ins -/
abbrev CD := List D → DS → (D → DS → Prop) → Prop
/-- a built-in's call over data: what it asks, by what HandS asks -/
def CallD (X : Cx) (cd : CD) (r : List V → Hp → VK → Prop) : Prop := ∀ (G : Ent) (F H : Hp) (σ : L2.St) (st : DS) (ds : List D) (vs : List V) (k : D → DS → Prop) (Q : VK),
  Rel X.K X.mg G F st σ H → Reps X.K X.mg F ds vs → cd ds st k → FinE X G F σ k Q → r vs H Q
structure BiD (X : Cx) (f : Value) (cd : CD) : Prop where
  ex : ∃ r, CallR X f r ∧ CallD X cd r
def rA (cd : CD) (t : DTA) : DTE := fun st k => t st fun ds st1 => cd ds st1 k
theorem rA_up {K : PySem.W.Frag} {mg : Str → Option Value} (hK : X.K = K) (hm : X.mg = mg) {cd : CD} {r : List V → Hp → VK → Prop} {G : Ent} {σ : L2.St} {H : Hp} {Q : VK} (hd : CallD X cd r) (h : upE K mg G (rA cd t) σ H Q) : upA K mg G t σ H fun vs H1 => r vs H1 Q := by
  subst hK hm
  obtain ⟨F, st, k, R, q, fin⟩ := h
  exact ⟨F, st, _, R, q, fun ds st1 F1 H1 vs q1 R1 s1 r1 => hd G F1 H1 σ st1 ds vs k Q R1 r1 q1 fun d st' F' H' v q' R' s' r' => fin d st' F' H' v q' R' (s1.trans s') r'⟩
theorem d_callB {x : Str} {p : Pos} {id : String} {cd : CD} (hc : BiD X (.builtin id) cd) (hg : Gl X x) (hm : X.mg x = none) (hv : bootBuiltins x = some (.builtin id)) (ha : DPA X (e :: es) t) (hn : x ≠ "__name__" := by decide) (hdb : (x == ("__debug__" : Str)) = false := by decide)
    (he : starEach (e :: es) X.env = (false, eval e X.env) :: starEach es X.env := by rfl) (hpl : (backTo pos (starEach es X.env)).any (·.1) = false := by rfl) : DPE X (.Call (.Name x p) (e :: es) [] pos) (rA cd t) := by
  obtain ⟨r, hr, hd⟩ := hc.ex
  exact ⟨fun G => (pe_callB hr hg hm hv (ha.run G) hn hdb he hpl).imp fun σ H Q h => rA_up rfl rfl hd h⟩
theorem d_callT {x : Str} {p : Pos} {T : String} {cd : CD} (hc : BiD X (.type T) cd) (hg : Gl X x) (hm : X.mg x = none) (hv : bootBuiltins x = some (.type T)) (ha : DPA X (e :: es) t) (hn : x ≠ "__name__" := by decide) (hdb : (x == ("__debug__" : Str)) = false := by decide)
    (he : starEach (e :: es) X.env = (false, eval e X.env) :: starEach es X.env := by rfl) (hpl : (backTo pos (starEach es X.env)).any (·.1) = false := by rfl) : DPE X (.Call (.Name x p) (e :: es) [] pos) (rA cd t) := by
  obtain ⟨r, hr, hd⟩ := hc.ex
  exact ⟨fun G => (pe_callTy hr hg hm hv (ha.run G) hn hdb he hpl).imp fun σ H Q h => rA_up rfl rfl hd h⟩

/-- len -/
def cLen : CD := fun ds st k => match ds with
  | [.tup xs] => k (.int xs.length) st
  | [.lst xs] => k (.int xs.length) st
  | [.rl xs] => k (.int xs.length) st
  | [.str z] => z.length ≤ sizeLine ∧ k (.int z.length) st
  | [.ref a] => match st.mem a with
    | some (.lst xs) => k (.int xs.length) st
    | _ => False
  | _ => False
theorem b_len : BiD X (.builtin "len") cLen := by
  refine ⟨_, call_len, fun G F H σ st ds vs k Q R rs t fin => ?_⟩
  unfold cLen at t
  split at t
  · obtain ⟨v, r, rfl, ⟨a, us, rfl, q, ru⟩, er⟩ := rs
    cases er
    exact ⟨_, us.length, rfl, .inr ⟨us, R.sub.sqT q, rfl⟩, by rw [← ru.length]; exact fin _ st F H _ t R (.refl F) rfl⟩
  · obtain ⟨v, r, rfl, ⟨a, us, rfl, q, ru⟩, er⟩ := rs
    cases er
    exact ⟨_, us.length, rfl, .inl ⟨us, SqL.of (R.sub _ _ q), rfl⟩, by rw [← ru.length]; exact fin _ st F H _ t R (.refl F) rfl⟩
  · obtain ⟨v, r, rfl, ⟨a, us, rfl, q, ru⟩, er⟩ := rs
    cases er
    exact ⟨_, us.length, rfl, .inl ⟨us, R.sub.sqL q, rfl⟩, by rw [← ru.length]; exact fin _ st F H _ t R (.refl F) rfl⟩
  · obtain ⟨v, r, rfl, rv, er⟩ := rs
    cases er
    cases rv
    exact ⟨_, _, rfl, ⟨t.1, rfl⟩, fin _ st F H _ t.2 R (.refl F) rfl⟩
  · obtain ⟨v, r, rfl, rv, er⟩ := rs
    cases er
    cases rv
    split at t
    · rename_i hm
      obtain ⟨_, o, ho, us, e, ru⟩ := R.mem _ _ hm
      subst e
      exact ⟨_, us.length, rfl, .inl ⟨us, SqL.of ho, rfl⟩, by rw [← ru.length]; exact fin _ st F H _ t R (.refl F) rfl⟩
    · exact t.elim
  · exact t.elim
/-- one int -/
def cInt1 (f : Int → DS → (D → DS → Prop) → Prop) : CD := fun ds st k => match ds with
  | [.int i] => f i st k
  | _ => False
def cAbs : CD := cInt1 fun i st k => k (.int (if i < 0 then -i else i)) st
theorem b_abs : BiD X (.builtin "abs") cAbs := by
  refine ⟨_, call_abs, fun G F H σ st ds vs k Q R rs t fin => ?_⟩
  unfold cAbs cInt1 at t
  split at t
  · obtain ⟨v, r, rfl, rv, er⟩ := rs
    cases er; cases rv
    exact ⟨_, rfl, fin _ st F H _ t R (.refl F) rfl⟩
  · exact t.elim
def cIntI : CD := cInt1 fun i st k => k (.int i) st
theorem b_int : BiD X (.type "int") cIntI := by
  refine ⟨_, call_int1, fun G F H σ st ds vs k Q R rs t fin => ?_⟩
  unfold cIntI cInt1 at t
  split at t
  · obtain ⟨v, r, rfl, rv, er⟩ := rs
    cases er; cases rv
    exact .inl ⟨_, rfl, fin _ st F H _ t R (.refl F) rfl⟩
  · exact t.elim
def cStrI : CD := cInt1 fun i st k => i.natAbs.log2 < 1920 ∧ k (.str (toString i)) st
theorem b_strI : BiD X (.type "str") cStrI := by
  refine ⟨_, call_str_int, fun G F H σ st ds vs k Q R rs t fin => ?_⟩
  unfold cStrI cInt1 at t
  split at t
  · obtain ⟨v, r, rfl, rv, er⟩ := rs
    cases er; cases rv
    exact ⟨_, rfl, t.1, fin _ st F H _ t.2 R (.refl F) rfl⟩
  · exact t.elim
/-- two ints -/
def cInt2 (f : Int → Int → DS → (D → DS → Prop) → Prop) : CD := fun ds st k => match ds with
  | [.int i, .int j] => f i j st k
  | _ => False
def cMax : CD := cInt2 fun i j st k => k (.int (if j > i then j else i)) st
def cMin : CD := cInt2 fun i j st k => k (.int (if j < i then j else i)) st
theorem b_max (hc : X.calm = true) : BiD X (.builtin "max") cMax := by
  refine ⟨_, call_max2 hc, fun G F H σ st ds vs k Q R rs t fin => ?_⟩
  unfold cMax cInt2 at t
  split at t
  · obtain ⟨v, r, rfl, rv, w, r', rfl, rw', er⟩ := rs
    cases er; cases rv; cases rw'
    exact ⟨_, _, rfl, fin _ st F H _ t R (.refl F) rfl⟩
  · exact t.elim
theorem b_min (hc : X.calm = true) : BiD X (.builtin "min") cMin := by
  refine ⟨_, call_min2 hc, fun G F H σ st ds vs k Q R rs t fin => ?_⟩
  unfold cMin cInt2 at t
  split at t
  · obtain ⟨v, r, rfl, rv, w, r', rfl, rw', er⟩ := rs
    cases er; cases rv; cases rw'
    exact ⟨_, _, rfl, fin _ st F H _ t R (.refl F) rfl⟩
  · exact t.elim
def cDivmod : CD := cInt2 fun i j st k => CDiv i j ∧ k (.tup [.int (i / j), .int (i % j)]) st
theorem b_divmod : BiD X (.builtin "divmod") cDivmod := by
  refine ⟨_, call_divmod, fun G F H σ st ds vs k Q R rs t fin => ?_⟩
  unfold cDivmod cInt2 at t
  split at t
  · obtain ⟨v, r, rfl, rv, w, r', rfl, rw', er⟩ := rs
    cases er; cases rv; cases rw'
    refine ⟨_, _, rfl, t.1, fun p hp => ?_⟩
    obtain ⟨R', s⟩ := R.laid (o := .tup [.int _, .int _]) hp
    exact fin _ st _ _ _ t.2 R' s ⟨p, _, rfl, SqT.of upd_same, _, _, rfl, rfl, _, _, rfl, rfl, rfl⟩
  · exact t.elim
/-- all(..), any(..) of a list of bools -/
def bls : List D → Option (List Bool)
  | [] => some []
  | .bl b :: ds => (bls ds).map (b :: ·)
  | _ :: _ => none
def kB (o : Option (List Bool)) (k : List Bool → Prop) : Prop := match o with
  | some x => k x
  | none => False
theorem kB_of {o : Option (List Bool)} {k : List Bool → Prop} (h : kB o k) : ∃ x, o = some x ∧ k x := by
  unfold kB at h
  split at h
  · exact ⟨_, rfl, h⟩
  · exact h.elim
theorem bls_of {K : PySem.W.Frag} {mg : Str → Option Value} {F : Hp} : ∀ {ds : List D} {vs : List V} {bs : List Bool}, Reps K mg F ds vs → bls ds = some bs → vs = bs.map V.bl
  | [], vs, bs, r, h => by cases r; cases h; rfl
  | d :: ds, vs, bs, ⟨v, r, e, q, t⟩, h => by
    subst e
    cases d with
    | bl b =>
      cases q
      simp only [bls, Option.map_eq_some_iff] at h
      obtain ⟨cs, h1, rfl⟩ := h
      rw [bls_of t h1]; rfl
    | _ => cases h
theorem bls_map (bs : List Bool) : bls (bs.map D.bl) = some bs := by
  induction bs with
  | nil => rfl
  | cons b bs ih => simp [bls, ih]
def cAll : CD := fun ds st k => match ds with
  | [.lst xs] => kB (bls xs) fun bs => k (.bl (bs.all id)) st
  | _ => False
def cAny : CD := fun ds st k => match ds with
  | [.lst xs] => kB (bls xs) fun bs => k (.bl (bs.any id)) st
  | _ => False
theorem b_all (hc : X.calm = true) : BiD X (.builtin "all") cAll := by
  refine ⟨_, cr_all hc, fun G F H σ st ds vs k Q R rs t fin => ?_⟩
  unfold cAll at t
  split at t
  · obtain ⟨v, r, rfl, ⟨a, us, rfl, q, ru⟩, er⟩ := rs
    cases er
    obtain ⟨bs, hb, t⟩ := kB_of t
    exact ⟨a, bs, rfl, by rw [← bls_of ru hb]; exact SqL.of (R.sub _ _ q), fin _ st F H _ t R (.refl F) rfl⟩
  · exact t.elim
theorem b_any (hc : X.calm = true) : BiD X (.builtin "any") cAny := by
  refine ⟨_, cr_any hc, fun G F H σ st ds vs k Q R rs t fin => ?_⟩
  unfold cAny at t
  split at t
  · obtain ⟨v, r, rfl, ⟨a, us, rfl, q, ru⟩, er⟩ := rs
    cases er
    obtain ⟨bs, hb, t⟩ := kB_of t
    exact ⟨a, bs, rfl, by rw [← bls_of ru hb]; exact SqL.of (R.sub _ _ q), fin _ st F H _ t R (.refl F) rfl⟩
  · exact t.elim
/-- tuple(xs) -/
def cTuple : CD := fun ds st k => match ds with
  | [.lst xs] => k (.tup xs) st
  | [.tup xs] => k (.tup xs) st
  | _ => False
theorem b_tuple : BiD X (.type "tuple") cTuple := by
  refine ⟨_, call_tuple_of, fun G F H σ st ds vs k Q R rs t fin => ?_⟩
  unfold cTuple at t
  split at t
  · obtain ⟨v, r, rfl, ⟨a, us, rfl, q, ru⟩, er⟩ := rs
    cases er
    refine ⟨a, us, rfl, .inl ⟨SqL.of (R.sub _ _ q), fun l hl => ?_⟩⟩
    obtain ⟨R', s⟩ := R.laid (o := .tup us) hl
    exact fin _ st _ _ _ t R' s ⟨l, us, rfl, SqT.of upd_same, ru.mono s⟩
  · obtain ⟨v, r, rfl, ⟨a, us, rfl, q, ru⟩, er⟩ := rs
    cases er
    exact ⟨a, us, rfl, .inr ⟨R.sub.sqT q, fin _ st F H _ t R (.refl F) ⟨a, us, rfl, q, ru⟩⟩⟩
  · exact t.elim
/-- list(xs) -/
def cList : CD := fun ds st k => match ds with
  | [.lst xs] => k (.lst xs) st
  | [.tup xs] => k (.lst xs) st
  | _ => False
theorem b_list : BiD X (.type "list") cList := by
  refine ⟨_, call_list_of, fun G F H σ st ds vs k Q R rs t fin => ?_⟩
  unfold cList at t
  split at t
  · obtain ⟨v, r, rfl, ⟨a, us, rfl, q, ru⟩, er⟩ := rs
    cases er
    refine ⟨a, us, rfl, .inl (SqL.of (R.sub _ _ q)), fun l hl => ?_⟩
    obtain ⟨R', s⟩ := R.laid (o := .lst us) hl
    exact fin _ st _ _ _ t R' s ⟨l, us, rfl, upd_same, ru.mono s⟩
  · obtain ⟨v, r, rfl, ⟨a, us, rfl, q, ru⟩, er⟩ := rs
    cases er
    refine ⟨a, us, rfl, .inr (R.sub.sqT q), fun l hl => ?_⟩
    obtain ⟨R', s⟩ := R.laid (o := .lst us) hl
    exact fin _ st _ _ _ t R' s ⟨l, us, rfl, upd_same, ru.mono s⟩
  · exact t.elim
/-- sum of ints -/
def intsD : List D → Option (List Int)
  | [] => some []
  | .int b :: ds => (intsD ds).map (b :: ·)
  | _ :: _ => none
theorem ints_of {K : PySem.W.Frag} {mg : Str → Option Value} {F : Hp} : ∀ {ds : List D} {vs : List V} {bs : List Int}, Reps K mg F ds vs → intsD ds = some bs → vs = bs.map V.int
  | [], vs, bs, r, h => by cases r; cases h; rfl
  | d :: ds, vs, bs, ⟨v, r, e, q, t⟩, h => by
    subst e
    cases d with
    | int b =>
      cases q
      simp only [intsD, Option.map_eq_some_iff] at h
      obtain ⟨cs, h1, rfl⟩ := h
      rw [ints_of t h1]; rfl
    | _ => cases h
theorem ints_map (bs : List Int) : intsD (bs.map D.int) = some bs := by
  induction bs with
  | nil => rfl
  | cons b bs ih => simp [intsD, ih]
def kI (o : Option (List Int)) (k : List Int → Prop) : Prop := match o with
  | some x => k x
  | none => False
theorem kI_of {o : Option (List Int)} {k : List Int → Prop} (h : kI o k) : ∃ x, o = some x ∧ k x := by
  unfold kI at h
  split at h
  · exact ⟨_, rfl, h⟩
  · exact h.elim
def cSum : CD := fun ds st k => match ds with
  | [.lst xs] => kI (intsD xs) fun ns => k (.int ns.sum) st
  | _ => False
theorem b_sum (hc : X.calm = true) : BiD X (.builtin "sum") cSum := by
  refine ⟨_, cr_sum hc, fun G F H σ st ds vs k Q R rs t fin => ?_⟩
  unfold cSum at t
  split at t
  · obtain ⟨v, r, rfl, ⟨a, us, rfl, q, ru⟩, er⟩ := rs
    cases er
    obtain ⟨bs, hb, t⟩ := kI_of t
    exact ⟨a, bs, rfl, by rw [← ints_of ru hb]; exact SqL.of (R.sub _ _ q), fin _ st F H _ t R (.refl F) rfl⟩
  · exact t.elim

/-! ### isinstance with a built-in class -/
def tyN : D → Option String
  | .non => some "NoneType"
  | .bl _ => some "bool"
  | .int _ => some "int"
  | .str _ => some "str"
  | .tup _ => some "tuple"
  | .lst _ => some "list"
  | .dct _ _ => some "dict"
  | _ => none
theorem tyX_of {K : PySem.W.Frag} {mg : Str → Option Value} {F H : Hp} {d : D} {v : V} {T : String} (s : Sub F H) (r : Rep K mg F d v) (h : tyN d = some T) : TyX K H v (.type T) := by
  cases d with
  | non => cases r; cases h; exact .base .non
  | bl _ => cases r; cases h; exact .base (.bl _)
  | int _ => cases r; cases h; exact .base (.int _)
  | str _ => cases r; cases h; exact .base (.str _)
  | tup _ =>
    obtain ⟨a, vs, rfl, q, _⟩ := r
    cases h
    rcases q with (q | ⟨o, q⟩) | ⟨o, its, n, hk, hc, _⟩
    · exact .base (.tup (s _ _ q))
    · exact .fTuple (s _ _ q)
    · exact .kTuple hk hc
  | lst _ => obtain ⟨a, vs, rfl, q, _⟩ := r; cases h; exact .base (.lst (s _ _ q))
  | dct _ _ => obtain ⟨a, kvs, rfl, q, _⟩ := r; cases h; exact .base (.dK (s _ _ q))
  | _ => cases h
structure IsiOk (T : String) (f : D → Bool) : Prop where
  ok : ∀ d t, tyN d = some t → kitB t T = some (f d)
def isInt : D → Bool
  | .int _ => true
  | .bl _ => true
  | _ => false
def isBool : D → Bool
  | .bl _ => true
  | _ => false
def isStr : D → Bool
  | .str _ => true
  | _ => false
def isTup : D → Bool
  | .tup _ => true
  | _ => false
theorem isi_int : IsiOk "int" isInt := ⟨fun d t h => by cases d <;> cases h <;> first | (show kitB _ _ = some true; decide +kernel) | (show kitB _ _ = some false; decide +kernel)⟩
theorem isi_bool : IsiOk "bool" isBool := ⟨fun d t h => by cases d <;> cases h <;> first | (show kitB _ _ = some true; decide +kernel) | (show kitB _ _ = some false; decide +kernel)⟩
theorem isi_str : IsiOk "str" isStr := ⟨fun d t h => by cases d <;> cases h <;> first | (show kitB _ _ = some true; decide +kernel) | (show kitB _ _ = some false; decide +kernel)⟩
theorem isi_tup : IsiOk "tuple" isTup := ⟨fun d t h => by cases d <;> cases h <;> first | (show kitB _ _ = some true; decide +kernel) | (show kitB _ _ = some false; decide +kernel)⟩
/-- isinstance(e, T) -/
def rIsi (f : D → Bool) (te : DTE) : DTE := fun st k => te st fun d st1 => (tyN d).isSome = true ∧ k (.bl (f d)) st1
theorem d_isi {x y : Str} {p p2 : Pos} {T : String} {f : D → Bool} (hf : IsiOk T f) (hg : Gl X x) (hm : X.mg x = none) (hv : bootBuiltins x = some (.builtin "isinstance")) (hg2 : Gl X y) (hm2 : X.mg y = none) (hv2 : bootBuiltins y = some (.type T)) (ha : DPE X a ta)
    (hn : x ≠ "__name__" := by decide) (hdb : (x == ("__debug__" : Str)) = false := by decide) (hn2 : y ≠ "__name__" := by decide) (hdb2 : (y == ("__debug__" : Str)) = false := by decide)
    (he : starEach [a, .Name y p2] X.env = (false, eval a X.env) :: starEach [.Name y p2] X.env := by rfl) (he2 : starEach [.Name y p2] X.env = (false, eval (.Name y p2) X.env) :: starEach [] X.env := by rfl) (hpl : (backTo pos (starEach [.Name y p2] X.env)).any (·.1) = false := by rfl) : DPE X (.Call (.Name x p) [a, .Name y p2] [] pos) (rIsi f ta) := by
  refine ⟨fun G => (pe_callB call_isi hg hm hv (pa_cons (ha.run G) (pa_cons (pe_bltn (v := .ty T) hg2 hm2 hv2 rfl hn2 hdb2) pa_nil he2) he) hn hdb he hpl).imp fun σ H Q h => ?_⟩
  obtain ⟨F, st, k, R, t, fin⟩ := h
  refine ⟨F, st, _, R, t, fun d st1 F1 H1 v1 q R1 s1 r => ?_⟩
  obtain ⟨t1, ht⟩ := Option.isSome_iff_exists.mp q.1
  exact ⟨v1, .ty T, .type t1, .type T, f d, rfl, .ty T, tyX_of R1.sub r ht, kit_ty (hf.ok d t1 ht), fin _ st1 F1 H1 _ q.2 R1 s1 rfl⟩

/-! ### slices -/
abbrev DTO := DS → (Option Int → DS → Prop) → Prop
structure DPO (X : Cx) (e : Option Expr) (t : DTO) : Prop where
  run : ∀ G, PO X e fun σ H Q => ∃ F st k, Rel X.K X.mg G F st σ H ∧ t st k ∧ ∀ o st' F' H', k o st' → Rel X.K X.mg G F' st' σ H' → Sub F F' → Q o H'
def rNoP : DTO := fun st k => k none st
def rPart (te : DTE) : DTO := fun st k => te st fun d st1 => match d with
  | .int i => k (some i) st1
  | _ => False
theorem _root_.L2.PO.imp {e : Option Expr} {t t' : TO} (h : PO X e t) (f : ∀ σ H Q, t' σ H Q → t σ H Q) : PO X e t' := by
  obtain ⟨h⟩ := h
  exact ⟨fun pins s σ H Q I q => h pins s σ H Q I (f σ H Q q)⟩
theorem o_none : DPO X none rNoP := ⟨fun G => po_none.imp fun σ H Q ⟨F, st, k, R, t, fin⟩ => fin none st F H t R (.refl F)⟩
theorem o_some (h : DPE X e te) : DPO X (some e) (rPart te) := ⟨fun G => (po_some (h.run G)).imp fun σ H Q ⟨F, st, k, R, t, fin⟩ => ⟨F, st, _, R, t, fun d st1 F1 H1 v q R1 s1 r => by
  split at q
  · cases r
    exact ⟨_, rfl, fin _ st1 F1 H1 q R1 s1⟩
  · exact q.elim⟩⟩
def cutD (ds : List D) (lo hi : Option Int) : List D := (ds.drop (HT.sIx ds.length 0 lo)).take (HT.sIx ds.length ds.length hi - HT.sIx ds.length 0 lo)
theorem cut_rep {K : PySem.W.Frag} {mg : Str → Option Value} {F : Hp} {ds : List D} {vs : List V} (lo hi : Option Int) (r : Reps K mg F ds vs) : Reps K mg F (cutD ds lo hi) (cutV vs lo hi) := by
  unfold cutD cutV
  rw [r.length]
  exact (r.drop _).take _
/-- x[lo:hi] of a tuple, a list, a text -/
def rSlice (te : DTE) (tl th : DTO) : DTE := fun st k => te st fun d st1 => tl st1 fun lo st2 => th st2 fun hi st3 => match d with
  | .tup ds => k (.tup (cutD ds lo hi)) st3
  | .lst ds => k (.lst (cutD ds lo hi)) st3
  | .rl ds => k (.lst (cutD ds lo hi)) st3
  | .str z => z.length ≤ sizeLine ∧ k (.str (cutS z lo hi)) st3
  | _ => False
theorem d_slice {p2 : Pos} {lo hi : Option Expr} {tl th : DTO} (he : DPE X e te) (hl : DPO X lo tl) (hu : DPO X hi th) : DPE X (.Subscript e (.Slice lo hi none p2) pos) (rSlice te tl th) := by
  refine ⟨fun G => (pe_slice ((sl_tupA (X := X)).or (sl_list.or sl_str)) (he.run G) (hl.run G) (hu.run G)).imp fun σ H Q ⟨F, st, k, R, t, fin⟩ => ?_⟩
  refine ⟨F, st, _, R, t, fun d st1 F1 H1 v q R1 s1 r => ⟨F1, st1, _, R1, q, fun lo st2 F2 H2 q2 R2 s2 => ⟨F2, st2, _, R2, q2, fun hi st3 F3 H3 q3 R3 s3 => ?_⟩⟩⟩
  have s4 := (s1.trans s2).trans s3
  have r3 := r.mono (s2.trans s3)
  split at q3
  · obtain ⟨a, vs, rfl, hq, rr⟩ := r3
    refine .inl ⟨a, vs, rfl, R3.sub.sqT hq, fun hw => ?_, fun hw p hp => ?_⟩
    · refine fin _ st3 F3 H3 _ q3 R3 s4 ⟨a, vs, rfl, hq, ?_⟩
      have e := cut_rep lo hi rr
      have e2 : cutV vs lo hi = vs := by
        unfold cutV
        rw [hw.1, hw.2]
        simp
      rw [e2] at e
      exact e
    · obtain ⟨R', s⟩ := R3.laid (o := .tup (cutV vs lo hi)) hp
      exact fin _ st3 _ _ _ q3 R' (s4.trans s) ⟨p, _, rfl, SqT.of upd_same, (cut_rep lo hi rr).mono s⟩
  · obtain ⟨a, vs, rfl, hq, rr⟩ := r3
    refine .inr (.inl ⟨a, vs, rfl, SqL.of (R3.sub _ _ hq), fun p hp => ?_⟩)
    obtain ⟨R', s⟩ := R3.laid (o := .lst (cutV vs lo hi)) hp
    exact fin _ st3 _ _ _ q3 R' (s4.trans s) ⟨p, _, rfl, upd_same, (cut_rep lo hi rr).mono s⟩
  · obtain ⟨a, vs, rfl, hq, rr⟩ := r3
    refine .inr (.inl ⟨a, vs, rfl, R3.sub.sqL hq, fun p hp => ?_⟩)
    obtain ⟨R', s⟩ := R3.laid (o := .lst (cutV vs lo hi)) hp
    exact fin _ st3 _ _ _ q3 R' (s4.trans s) ⟨p, _, rfl, upd_same, (cut_rep lo hi rr).mono s⟩
  · cases r3
    exact .inr (.inr ⟨_, rfl, q3.1, fin _ st3 F3 H3 _ q3.2 R3 s4 rfl⟩)
  · exact q3.elim
end
end DL

set_option autoImplicit false
set_option Elab.async false
set_option linter.all false
set_option maxRecDepth 100000
set_option autoImplicit false
/-! DL5: targets, statements, loops, comprehensions. -/
namespace DL
open PySem PySem.Spec L2

/-! ### targets -/
abbrev DTG := D → DS → (DS → Prop) → Prop
abbrev DTGs := List D → DS → (DS → Prop) → Prop
def upG (K : PySem.W.Frag) (mg : Str → Option Value) (G : Ent) (vs : List Nat) (t : DTG) : TG := fun v σ H Q =>
  ∃ F st d k, Rel K mg G F st σ H ∧ Rep K mg F d v ∧ t d st k ∧ ∀ st' F' σ' H', k st' → Rel K mg G F' st' σ' H' → Sub F F' → wipe σ' vs = wipe σ vs → Q σ' H'
def upGs (K : PySem.W.Frag) (mg : Str → Option Value) (G : Ent) (vs : List Nat) (t : DTGs) : TGs := fun us σ H Q =>
  ∃ F st ds k, Rel K mg G F st σ H ∧ Reps K mg F ds us ∧ t ds st k ∧ ∀ st' F' σ' H', k st' → Rel K mg G F' st' σ' H' → Sub F F' → wipe σ' vs = wipe σ vs → Q σ' H'
structure DPG (X : Cx) (vs : List Nat) (tg : Expr) (t : DTG) : Prop where
  run : ∀ G, PG X tg (upG X.K X.mg G vs t)
structure DPGs (X : Cx) (vs : List Nat) (tg : List Expr) (t : DTGs) : Prop where
  run : ∀ G, PGs X tg (upGs X.K X.mg G vs t)
theorem pg_imp {X : Cx} {e : Expr} {t t' : TG} (h : PG X e t) (f : ∀ v σ H Q, t' v σ H Q → t v σ H Q) : PG X e t' := ⟨fun pins s σ H v u Q I r q => h.run pins s σ H v u Q I r (f v σ H Q q)⟩
theorem pgs_imp {X : Cx} {e : List Expr} {t t' : TGs} (h : PGs X e t) (f : ∀ v σ H Q, t' v σ H Q → t v σ H Q) : PGs X e t' := ⟨fun pins s σ H v u Q I r q => h.run pins s σ H v u Q I r (f v σ H Q q)⟩
theorem wipe_set {σ : L2.St} {i : Nat} {o : Option V} : ∀ {vs : List Nat}, i ∈ vs → wipe (σ.set i o) vs = wipe σ vs
  | v :: vs, h => by
    unfold wipe
    by_cases e : i ∈ vs
    · rw [wipe_set e]
    · have hi : i = v := (List.mem_cons.mp h).resolve_right e
      subst hi
      have : ∀ (ws : List Nat) (τ : L2.St) (o : Option V), i ∉ ws → wipe (τ.set i o) ws = (wipe τ ws).set i o := by
        intro ws
        induction ws with
        | nil => intro τ o _; rfl
        | cons w ws ih =>
          intro τ o hw
          simp only [List.mem_cons, not_or] at hw
          unfold wipe
          rw [ih τ o hw.2, List.set_comm _ _ hw.1]
      rw [this vs σ o e, List.set_set]
def gV (i : Nat) : DTG := fun d st k => k ⟨st.env.set i (.val d), st.mem⟩
section
variable {X : Cx} {pos : Pos} {vs : List Nat}
theorem g_name (i : Nat) {x : Str} (hN : X.N.Nodup) (hi : X.N[i]? = some x := by rfl) (hx : Loc X.env.scope x := by first | exact Or.inl rfl | exact Or.inr rfl) (hf : X.fn x = true ∨ X.env.scope.names.lookup x = some .local := by first | exact .inl rfl | exact .inr rfl) (hv : i ∈ vs := by decide) : DPG X vs (.Name x pos) (gV i) :=
  ⟨fun G => pg_imp (pg_name hN hi hx hf) fun v σ H Q ⟨F, st, d, k, R, r, t, fin⟩ => fin _ F _ H t (R.setV r) (.refl F) (wipe_set hv)⟩
def gN0 : DTGs := fun ds st k => ds = [] ∧ k st
def gCs (t : DTG) (u : DTGs) : DTGs := fun ds st k => match ds with
  | d :: r => t d st fun st1 => u r st1 k
  | [] => False
theorem gs_nil : DPGs X vs [] gN0 := ⟨fun G => pgs_imp pgs_nil fun us σ H Q ⟨F, st, ds, k, R, r, t, fin⟩ => by
  obtain ⟨rfl, t⟩ := t
  cases r
  exact ⟨rfl, fin st F σ H t R (.refl F) rfl⟩⟩
theorem gs_cons {e : Expr} {es : List Expr} {t : DTG} {u : DTGs} (h1 : DPG X vs e t) (h2 : DPGs X vs es u) (hs : (assignEach (e :: es) X.env).map (·.2) = assign e X.env :: (assignEach es X.env).map (·.2) := by rfl) : DPGs X vs (e :: es) (gCs t u) :=
  ⟨fun G => pgs_imp (pgs_cons (h1.run G) (h2.run G) hs) fun us σ H Q ⟨F, st, ds, k, R, r, t, fin⟩ => by
    unfold gCs at t
    split at t
    · obtain ⟨v, w, rfl, rv, rw'⟩ := r
      exact ⟨v, w, rfl, F, st, _, _, R, rv, t, fun st1 F1 σ1 H1 t1 R1 s1 w1 => ⟨F1, st1, _, _, R1, rw'.mono s1, t1, fun st2 F2 σ2 H2 t2 R2 s2 w2 => fin st2 F2 σ2 H2 t2 R2 (s1.trans s2) (w2.trans w1)⟩⟩
    · exact t.elim⟩
def gT (n : Nat) (t : DTGs) : DTG := fun d st k => match d with
  | .tup ds => ds.length = n ∧ t ds st k
  | _ => False
theorem g_tup {es : List Expr} {j : Nat} {t : DTGs} {n : Nat} (hc : X.calm = true) (h : DPGs X vs es t) (hn : (assignEach es X.env).length = n := by rfl) (hst : (assignEach es X.env).findIdx? (·.1) = none := by rfl) : DPG X vs (.Tuple es j pos) (gT n t) :=
  ⟨fun G => pg_imp (pg_tup hc (h.run G) hn hst) fun v σ H Q ⟨F, st, d, k, R, r, t, fin⟩ => by
    unfold gT at t
    split at t
    · obtain ⟨a, us, rfl, q, ru⟩ := r
      exact ⟨a, us, rfl, R.sub.sqT q, by rw [← ru.length]; exact t.1, F, st, _, k, R, ru, t.2, fin⟩
    · exact t.elim⟩
def kN (o : Option Nat) (k : Nat → Prop) : Prop := match o with
  | some x => k x
  | none => False
theorem kN_of {o : Option Nat} {k : Nat → Prop} (h : kN o k) : ∃ x, o = some x ∧ k x := by
  unfold kN at h
  split at h
  · exact ⟨_, rfl, h⟩
  · exact h.elim
/-- o[i] = .., o a changing list -/
def gIx (to ti : DTE) : DTG := fun d st k => to st fun o st1 => ti st1 fun e st2 => match o, e with
  | .ref a, .int j => match st2.mem a with
    | some (.lst ds) => kN (ixN ds.length j) fun n => k ⟨st2.env, mput st2.mem a (.lst (ds.set n d))⟩
    | _ => False
  | _, _ => False
variable {o ie : Expr} {to ti : DTE}
theorem g_ix (ho : DPE X o to) (hi : DPE X ie ti) (ha : ∀ v, assign (.Subscript o ie pos) X.env v = (do
      let ov ← holding [v] (eval o X.env)
      let iv ← holding [v, ov] (eval ie X.env)
      standAt pos
      holding [v, ov, iv] (setItem ov iv v)
      release [v, ov, iv] []) := by intro _; rfl) : DPG X vs (.Subscript o ie pos) (gIx to ti) :=
  ⟨fun G => pg_imp (pg_sub (ho.run G) (hi.run G) set_list ha) fun v σ H Q ⟨F, st, d, k, R, r, t, fin⟩ => by
    refine ⟨F, st, _, R, t, fun o st1 F1 H1 v1 q1 R1 s1 r1 => ⟨F1, st1, _, R1, q1, fun e st2 F2 H2 v2 q2 R2 s2 r2 => ?_⟩⟩
    split at q2
    · cases r1; cases r2
      split at q2
      · rename_i ds hm
        obtain ⟨n, hn, q2⟩ := kN_of q2
        obtain ⟨_, u, hu, us, e, ru⟩ := R2.mem _ _ hm
        subst e
        refine ⟨_, us, _, n, rfl, rfl, hu, by rw [← ru.length]; exact hn, ?_⟩
        exact fin _ F2 σ _ q2 (R2.mset hm ⟨_, rfl, ru.set (r.mono (s1.trans s2)) n⟩) (s1.trans s2) rfl
      · exact q2.elim
    · exact q2.elim⟩
/-- x[i] = .., x a list that only this slot knows -/
def gIxO (i : Nat) (ti : DTE) : DTG := fun d st k => (∃ ds, st.env[i]? = some (.own ds)) ∧ ti st fun e st2 => match e, st2.env[i]? with
  | .int j, some (.own ds) => kN (ixN ds.length j) fun n => k ⟨st2.env.set i (.own (ds.set n d)), st2.mem⟩
  | _, _ => False
theorem g_ixO (i : Nat) {x : Str} {p : Pos} (hi : DPE X ie ti) (hN : X.N[i]? = some x := by rfl) (hv : Vis X.env.scope x := by first | exact Or.inl rfl | exact Or.inr (Or.inl rfl) | exact Or.inr (Or.inr rfl)) (ha : ∀ v, assign (.Subscript (.Name x p) ie pos) X.env v = (do
      let ov ← holding [v] (eval (.Name x p) X.env)
      let iv ← holding [v, ov] (eval ie X.env)
      standAt pos
      holding [v, ov, iv] (setItem ov iv v)
      release [v, ov, iv] []) := by intro _; rfl) (hd : (x == ("__debug__" : Str)) = false := by decide)
    (hcd : (x == ("__classdict__" : Str)) = false := by decide) : DPG X vs (.Subscript (.Name x p) ie pos) (gIxO i ti) :=
  ⟨fun G => pg_imp (pg_sub (pe_var hN hv hd hcd) (hi.run G) set_list ha) fun v σ H Q ⟨F, st, d, k, R, r, ⟨⟨ds0, h0⟩, t⟩, fin⟩ => by
    obtain ⟨a0, vs0, e0, _⟩ := R.own h0
    refine ⟨_, e0, F, st, _, R, t, fun e st2 F2 H2 v2 q2 R2 s2 r2 => ?_⟩
    split at q2
    · rename_i j ds hm
      cases r2
      obtain ⟨n, hn, q2⟩ := kN_of q2
      obtain ⟨a, us, e1, hu, ru, w⟩ := R2.own hm
      rw [e0] at e1; cases e1
      exact ⟨a0, us, j, n, rfl, rfl, hu, by rw [← ru.length]; exact hn, fin _ F2 σ _ q2 (w _ _ (ru.set (r.mono s2) n)) s2 rfl⟩
    · exact q2.elim⟩
end

/-! ### statements -/
section
variable {X : Cx} {pos : Pos} {st : Stmt} {rest : List Stmt} {t u : DTS} {e : Expr} {te : DTE}
def rNext : DTS := fun k st => k.nx st
def rSeq (t u : DTS) : DTS := fun k st => t { k with nx := u k } st
theorem ss_nil : DPSs X [] rNext := ⟨fun G => pss_nil.imp fun D σ H ⟨F, st, k, R, t, fin⟩ => fin.nx st F σ H t R (.refl F)⟩
theorem ss_cons (h1 : DPS X st t) (h2 : DPSs X rest u) : DPSs X (st :: rest) (rSeq t u) :=
  ⟨fun G => (pss_cons (h1.run G) (h2.run G)).imp fun D σ H ⟨F, st, k, R, t, fin⟩ => ⟨F, st, { k with nx := u k }, R, t, ⟨fun st1 F1 σ1 H1 q R1 s1 => ⟨F1, st1, k, R1, q, fin.mono s1⟩, fin.rt, fin.bk, fin.ct⟩⟩⟩
theorem ss_one (h1 : DPS X st t) : DPSs X [st] t := ⟨fun G => pss_one (h1.run G)⟩
def rNever : DTS := fun _ _ => False
theorem s_never : DPS X st rNever := ⟨fun G => ps_never.imp fun D σ H ⟨F, st, k, R, t, fin⟩ => t.elim⟩
theorem ss_never {sts : List Stmt} : DPSs X sts rNever := ⟨fun G => pss_never.imp fun D σ H ⟨F, st, k, R, t, fin⟩ => t.elim⟩
theorem s_pass : DPS X (.Pass pos) rNext := ⟨fun G => ps_pass.imp fun D σ H ⟨F, st, k, R, t, fin⟩ => fin.nx st F σ H t R (.refl F)⟩
def rBrk : DTS := fun k st => k.bk st
def rCont : DTS := fun k st => k.ct st
theorem s_break : DPS X (.Break pos) rBrk := ⟨fun G => ps_break.imp fun D σ H ⟨F, st, k, R, t, fin⟩ => fin.bk st F σ H t R (.refl F)⟩
theorem s_cont : DPS X (.Continue pos) rCont := ⟨fun G => ps_continue.imp fun D σ H ⟨F, st, k, R, t, fin⟩ => fin.ct st F σ H t R (.refl F)⟩
theorem s_doc {x : Str} {j} {p : Pos} : DPS X (.Expr (.Constant (.str x) j p) pos) rNext := ⟨fun G => ps_doc.imp fun D σ H ⟨F, st, k, R, t, fin⟩ => fin.nx st F σ H t R (.refl F)⟩
def rDrop (te : DTE) : DTS := fun k st => te st fun _ st1 => k.nx st1
theorem s_expr (he : DPE X e te) (hs : swapsWith e none pos.line X.env = pure false := by rfl) : DPS X (.Expr e pos) (rDrop te) :=
  ⟨fun G => (ps_expr (he.run G) hs).imp fun D σ H ⟨F, st, k, R, t, fin⟩ => ⟨F, st, _, R, t, fun d st1 F1 H1 v q R1 s1 r => fin.nx st1 F1 σ H1 q R1 s1⟩⟩
def rRet (te : DTE) : DTS := fun k st => te st fun d st1 => k.rt d st1.mem
theorem s_ret (he : DPE X e te) : DPS X (.Return (some e) pos) (rRet te) :=
  ⟨fun G => (ps_ret (he.run G)).imp fun D σ H ⟨F, st, k, R, t, fin⟩ => ⟨F, st, _, R, t, fun d st1 F1 H1 v q R1 s1 r => fin.rt d st1 F1 σ H1 v q R1 s1 r⟩⟩
def rRetN : DTS := fun k st => k.rt .non st.mem
theorem s_retN : DPS X (.Return none pos) rRetN := ⟨fun G => ps_retN.imp fun D σ H ⟨F, st, k, R, t, fin⟩ => fin.rt .non st F σ H .non t R (.refl F) rfl⟩
def rIfS (c : DTT) (t u : DTS) : DTS := fun k st => c st fun b st1 => if b = true then t k st1 else u k st1
theorem s_if {c : Expr} {a b : List Stmt} {tc : DTT} (hc : DPT X c tc) (ha : DPSs X a t) (hb : DPSs X b u) : DPS X (.If c a b pos) (rIfS tc t u) :=
  ⟨fun G => (ps_if (hc.run G) (ha.run G) (hb.run G)).imp fun D σ H ⟨F, st, k, R, t, fin⟩ => ⟨F, st, _, R, t, fun b st1 F1 H1 q R1 s1 => by
    cases b with
    | true => exact iteT ⟨F1, st1, k, R1, q, fin.mono s1⟩
    | false => exact iteF ⟨F1, st1, k, R1, q, fin.mono s1⟩⟩⟩
def rAsg (te : DTE) (g : DTG) : DTS := fun k st => te st fun d st1 => g d st1 k.nx
theorem s_asg {tg : Expr} {g : DTG} {vs : List Nat} (he : DPE X e te) (hg : DPG X vs tg g) (hs : swapsWithSole [tg] e pos.line X.env = pure false := by rfl) (hw : swappedStores [tg] e X.env = pure none := by rfl)
    (h1 : (assignEach [tg] X.env).map (·.2) = [assign tg X.env] := by rfl) : DPS X (.Assign [tg] e pos) (rAsg te g) :=
  ⟨fun G => (ps_asg (he.run G) (hg.run G) hs hw h1).imp fun D σ H ⟨F, st, k, R, t, fin⟩ => ⟨F, st, _, R, t, fun d st1 F1 H1 v q R1 s1 r => ⟨F1, st1, d, _, R1, r, q, fun st2 F2 σ2 H2 q2 R2 s2 _ => fin.nx st2 F2 σ2 H2 q2 R2 (s1.trans s2)⟩⟩⟩
/-- x = e -/
theorem s_set (i : Nat) {x : Str} {p : Pos} (hN : X.N.Nodup) (he : DPE X e te) (hi : X.N[i]? = some x := by rfl) (hx : Loc X.env.scope x := by first | exact Or.inl rfl | exact Or.inr rfl) (hs : swapsWith e (some (.Name x p)) pos.line X.env = pure false := by rfl)
    (hf : X.fn x = true ∨ X.env.scope.names.lookup x = some .local := by first | exact .inl rfl | exact .inr rfl) : DPS X (.Assign [.Name x p] e pos) (rAsg te (gV i)) :=
  ⟨fun G => (ps_set hN hi hx (he.run G) hs hf).imp fun D σ H ⟨F, st, k, R, t, fin⟩ => ⟨F, st, _, R, t, fun d st1 F1 H1 v q R1 s1 r => fin.nx _ F1 _ H1 q (R1.setV r) s1⟩⟩
/-- x = [..], a list that only x knows -/
def rOwn (i : Nat) (t : DTA) : DTS := fun k st => t st fun ds st1 => ds.length ≤ sizeLine ∧ k.nx ⟨st1.env.set i (.own ds), st1.mem⟩
theorem s_own (i : Nat) {x : Str} {p p2 : Pos} {es : List Expr} {t : DTA} (hN : X.N.Nodup) (he : DPA X es t) (hi : X.N[i]? = some x := by rfl) (hx : Loc X.env.scope x := by first | exact Or.inl rfl | exact Or.inr rfl) (hs : swapsWith (.List es p2) (some (.Name x p)) pos.line X.env = pure false := by rfl)
    (hf : X.fn x = true ∨ X.env.scope.names.lookup x = some .local := by first | exact .inl rfl | exact .inr rfl) : DPS X (.Assign [.Name x p] (.List es p2) pos) (rOwn i t) :=
  ⟨fun G => (ps_set hN hi hx (pe_lst (he.run G)) hs hf).imp fun D σ H ⟨F, st, k, R, t, fin⟩ => ⟨F, st, _, R, t, fun ds st1 F1 H1 vs q R1 s1 r => ⟨by rw [← r.length]; exact q.1, fun p hp =>
    fin.nx _ F1 _ _ q.2 (R1.setO hp r) s1⟩⟩⟩
/-- x, y = a, b of two local names -/
def rPar (i j : Nat) (t : DTA) : DTS := fun k st => t st fun ds st1 => match ds with
  | [d, e] => k.nx ⟨(st1.env.set i (.val d)).set j (.val e), st1.mem⟩
  | _ => False
theorem s_par (i j : Nat) {x y : Str} {a b : Expr} {ta : DTA} {px py pt : Pos} {kt k2 pt2} (hc : X.calm = true) (hN : X.N.Nodup) (ha : DPA X [a, b] ta) (hi : X.N[i]? = some x := by rfl) (hj : X.N[j]? = some y := by rfl) (hij : i ≠ j := by decide)
    (hx : X.env.scope.names.lookup x = some .local := by rfl) (hy : X.env.scope.names.lookup y = some .local := by rfl)
    (hw : swappedStores [.Tuple [.Name x px, .Name y py] kt pt] (.Tuple [a, b] k2 pt2) X.env = pure (some [x, y]) := by rfl)
    (hs : swapsWithSole [.Tuple [.Name x px, .Name y py] kt pt] (.Tuple [a, b] k2 pt2) pos.line X.env = pure false := by rfl) :
    DPS X (.Assign [.Tuple [.Name x px, .Name y py] kt pt] (.Tuple [a, b] k2 pt2) pos) (rPar i j ta) :=
  ⟨fun G => (ps_par hc hN hi hj hij hx hy (ha.run G) hw hs).imp fun D σ H ⟨F, st, k, R, t, fin⟩ => ⟨F, st, _, R, t, fun ds st1 F1 H1 vs q R1 s1 r => by
    split at q
    · obtain ⟨v, w, rfl, rv, u, w2, rfl, ru, e⟩ := r
      cases e
      exact ⟨v, u, rfl, fin.nx _ F1 _ H1 q ((R1.setV rv).setV ru) s1⟩
    · exact q.elim⟩⟩
/-- x.append(e), x a list that only this slot knows -/
def rApp (i : Nat) (te : DTE) : DTS := fun k st => (∃ ds, st.env[i]? = some (.own ds)) ∧ te st fun d st1 => match st1.env[i]? with
  | some (.own ds) => ds.length < sizeLine ∧ k.nx ⟨st1.env.set i (.own (ds ++ [d])), st1.mem⟩
  | _ => False
theorem s_app (i : Nat) {x : Str} {p apos cpos : Pos} (he : DPE X e te) (hN : X.N[i]? = some x := by rfl) (hv : Vis X.env.scope x := by first | exact Or.inl rfl | exact Or.inr (Or.inl rfl) | exact Or.inr (Or.inr rfl)) (hd : (x == ("__debug__" : Str)) = false := by decide)
    (hcd : (x == ("__classdict__" : Str)) = false := by decide) (hbase : attributeBase (.Name x p) "append" X.env (eval (.Name x p) X.env) = eval (.Name x p) X.env := by rfl)
    (hfew : ((backTo cpos (starEach [e] X.env)).all (fun x => !x.1) && (backToKw cpos (keywordEach [] X.env)).all (fun x => x.1.isSome)
      && decide ([e].length + ([] : List Keyword).length + (if ([] : List Keyword).isEmpty then 0 else 1) < 30)) = true := by rfl)
    (hline : (apos.endLine == cpos.line) = true := by rfl) (hs : starEach [e] X.env = (false, eval e X.env) :: starEach [] X.env := by rfl) (hplain : (backTo cpos (starEach [] X.env)).any (·.1) = false := by rfl)
    (hsw : swapsWith (.Call (.Attribute (.Name x p) "append" apos) [e] [] cpos) none pos.line X.env = pure false := by rfl) :
    DPS X (.Expr (.Call (.Attribute (.Name x p) "append" apos) [e] [] cpos) pos) (rApp i te) :=
  ⟨fun G => (ps_expr (pe_bm PySem.F.plainAttrs_list PySem.F.slot_list_append PySem.F.type_list_append mt_append (pe_var hN hv hd hcd) (pa_cons (he.run G) pa_nil hs) hbase hfew hline hs hplain) hsw).imp fun D σ H ⟨F, st, k, R, ⟨⟨ds0, h0⟩, t⟩, fin⟩ => by
    obtain ⟨a0, vs0, e0, ha0, _⟩ := R.own h0
    refine ⟨_, e0, .inl ⟨rfl, _, SqL.of ha0⟩, F, st, _, R, t, fun d st2 F2 H2 v2 q2 R2 s2 r2 => ?_⟩
    split at q2
    · rename_i ds hm
      obtain ⟨a, us, e1, hu, ru, w⟩ := R2.own hm
      rw [e0] at e1; cases e1
      exact ⟨a0, us, v2, rfl, rfl, hu, by rw [← ru.length]; exact q2.1, fin.nx _ F2 σ _ q2.2 (w _ _ (ru.snoc r2)) s2⟩
    · exact q2.elim⟩

/-! ### while -/
def rWh (c : DTT) (tb : DTS) (k : DEnds) : Nat → DS → Prop
  | 0, _ => False
  | n + 1, st => c st fun b st1 => if b = true then tb { k with nx := rWh c tb k n, ct := rWh c tb k n, bk := k.nx } st1 else k.nx st1
def rWhile (c : DTT) (tb : DTS) : DTS := fun k st => ∃ n, rWh c tb k n st
theorem s_while {c : Expr} {body : List Stmt} {tc : DTT} {tb : DTS} (hp : PassesOwn (model X.prog X.w) X.A X.env X.xe) (hc : DPT X c tc) (hb : DPSs X body tb) : DPS X (.While c body [] pos) (rWhile tc tb) := by
  refine ⟨fun G => (ps_while hp (hc.run G) (hb.run G)).imp fun D σ H ⟨F, st, k, R, ⟨n, t⟩, fin⟩ => ?_⟩
  refine ⟨fun m σ H => ∃ F1 st1, Rel X.K X.mg G F1 st1 σ H ∧ Sub F F1 ∧ rWh tc tb k m st1, ⟨n, F, st, R, .refl F, t⟩, ?_⟩
  rintro m σ1 H1 ⟨F1, st1, R1, s1, t1⟩
  cases m with
  | zero => exact t1.elim
  | succ m =>
    refine ⟨F1, st1, _, R1, t1, fun b st2 F2 H2 q R2 s2 => ?_⟩
    cases b with
    | true =>
      refine iteT ⟨fun σ' H' => ∃ F3 st3, Rel X.K X.mg G F3 st3 σ' H' ∧ Sub F F3 ∧ rWh tc tb k m st3, fun σ' H' h => ⟨m, Nat.lt_succ_self m, h⟩, F2, st2, _, R2, q, ?_⟩
      have f2 := fin.mono (s1.trans s2)
      exact ⟨fun st3 F3 σ3 H3 q3 R3 s3 => ⟨F3, st3, R3, (s1.trans s2).trans s3, q3⟩, f2.rt, f2.nx, fun st3 F3 σ3 H3 q3 R3 s3 => ⟨F3, st3, R3, (s1.trans s2).trans s3, q3⟩⟩
    | false => exact iteF (fin.nx st2 F2 σ1 H2 q R2 (s1.trans s2))
end

/-! ### what is walked -/
structure WalkD (K : PySem.W.Frag) (mg : Str → Option Value) (F : Hp) (J : It) (items : List D) : Prop where
  goes : ∀ i H, i < items.length → Sub F H → J.go i H
  stops : ∀ H, Sub F H → J.stop items.length H
  yields : ∀ i H x H', Sub F H → J.yld i H x H' → ∀ d, items[i]? = some d → (H' = H ∧ Rep K mg F d x) ∨ (∃ T o, x = .ref T ∧ H T = none ∧ H' = upd H T o ∧ Rep K mg (upd F T o) d x)
theorem WalkD.mono {K : PySem.W.Frag} {mg : Str → Option Value} {F F' : Hp} {J : It} {items : List D} (w : WalkD K mg F J items) (s : Sub F F') : WalkD K mg F' J items :=
  ⟨fun i H hi h => w.goes i H hi (s.trans h), fun H h => w.stops H (s.trans h), fun i H x H' h y d hd => (w.yields i H x H' (s.trans h) y d hd).imp (fun q => ⟨q.1, q.2.mono s⟩) fun ⟨T, o, e, n, u, r⟩ => ⟨T, o, e, n, u, r.mono s.upd⟩⟩
def upI (K : PySem.W.Frag) (mg : Str → Option Value) (G : Ent) (t : DTA) : TI := fun σ H R =>
  ∃ F st k, Rel K mg G F st σ H ∧ t st k ∧ ∀ items st' F' H' J, k items st' → Rel K mg G F' st' σ H' → Sub F F' → WalkD K mg F' J items → R J H'
structure DPI (X : Cx) (tg iter : Expr) (t : DTA) : Prop where
  run : ∀ G, PI X tg iter (upI X.K X.mg G t)
theorem pi_imp {X : Cx} {tg e : Expr} {t t' : TI} (h : PI X tg e t) (f : ∀ σ H Q, t' σ H Q → t σ H Q) : PI X tg e t' := ⟨fun pins s σ H Q I q => h.run pins s σ H Q I (f σ H Q q)⟩
section
variable {X : Cx} {pos : Pos} {tg e : Expr} {te : DTE} {t : DTA}
/-- a list, a tuple -/
def iSeq (te : DTE) : DTA := fun st k => te st fun d st1 => match d with
  | .lst ds => k ds st1
  | .rl ds => k ds st1
  | _ => False
def iTupD (te : DTE) : DTA := fun st k => te st fun d st1 => match d with
  | .tup ds => k ds st1
  | _ => False
theorem walkd_list {K : PySem.W.Frag} {mg : Str → Option Value} {F : Hp} {a : Addr} {vs : List V} {ds : List D} (h : SqL K F a vs) (r : Reps K mg F ds vs) : WalkD K mg F (Itl K a) ds :=
  ⟨fun i H hi s => walk_list.goes i H (by rw [← r.length]; exact hi) (s.sqL h), fun H s => by rw [r.length]; exact walk_list.stops H (s.sqL h), fun i H x H' s y d hd => by
    have hi : i < vs.length := by rw [← r.length]; exact (List.getElem?_eq_some_iff.mp hd).1
    obtain ⟨e, hx⟩ := walk_list.yields i H x H' hi (s.sqL h) y
    obtain ⟨v, hv, rv⟩ := r.get hd
    rw [hx] at hv; cases hv
    exact .inl ⟨e, rv⟩⟩
theorem walkd_tup {K : PySem.W.Frag} {mg : Str → Option Value} {F : Hp} {a : Addr} {vs : List V} {ds : List D} (h : SqT K F a vs) (r : Reps K mg F ds vs) : WalkD K mg F (Itt K a) ds :=
  ⟨fun i H hi s => walk_tup.goes i H (by rw [← r.length]; exact hi) (s.sqT h), fun H s => by rw [r.length]; exact walk_tup.stops H (s.sqT h), fun i H x H' s y d hd => by
    have hi : i < vs.length := by rw [← r.length]; exact (List.getElem?_eq_some_iff.mp hd).1
    obtain ⟨e, hx⟩ := walk_tup.yields i H x H' hi (s.sqT h) y
    obtain ⟨v, hv, rv⟩ := r.get hd
    rw [hx] at hv; cases hv
    exact .inl ⟨e, rv⟩⟩
theorem i_lst (h : DPE X e te) : DPI X tg e (iSeq te) := ⟨fun G => pi_imp (pi_list (h.run G)) fun σ H R ⟨F, st, k, Rl, t, fin⟩ => ⟨F, st, _, Rl, t, fun d st1 F1 H1 v q R1 s1 r => by
  split at q
  · obtain ⟨a, us, rfl, hq, ru⟩ := r
    exact ⟨a, rfl, ⟨us, SqL.of (R1.sub _ _ hq)⟩, fin _ st1 F1 H1 _ q R1 s1 (walkd_list (SqL.of hq) ru)⟩
  · obtain ⟨a, us, rfl, hq, ru⟩ := r
    exact ⟨a, rfl, ⟨us, R1.sub.sqL hq⟩, fin _ st1 F1 H1 _ q R1 s1 (walkd_list hq ru)⟩
  · exact q.elim⟩⟩
theorem i_tup (h : DPE X e te) : DPI X tg e (iTupD te) := ⟨fun G => pi_imp (pi_tup (h.run G)) fun σ H R ⟨F, st, k, Rl, t, fin⟩ => ⟨F, st, _, Rl, t, fun d st1 F1 H1 v q R1 s1 r => by
  split at q
  · obtain ⟨a, us, rfl, hq, ru⟩ := r
    exact ⟨a, rfl, ⟨us, R1.sub.sqT hq⟩, fin _ st1 F1 H1 _ q R1 s1 (walkd_tup hq ru)⟩
  · exact q.elim⟩⟩
/-- range -/
def rangeD (lo : Int) (n : Nat) : List D := (List.range n).map fun i => .int (lo + (i : Nat))
theorem rangeD_get {lo : Int} {n i : Nat} {d : D} (h : (rangeD lo n)[i]? = some d) : i < n ∧ d = .int (lo + (i : Nat)) := by
  unfold rangeD at h
  rw [List.getElem?_map] at h
  obtain ⟨j, hj, rfl⟩ := Option.map_eq_some_iff.mp h
  obtain ⟨hl, e⟩ := List.getElem?_eq_some_iff.mp hj
  rw [List.getElem_range] at e
  rw [List.length_range] at hl
  subst e
  exact ⟨hl, rfl⟩
theorem walkd_range {K : PySem.W.Frag} {mg : Str → Option Value} {F : Hp} {lo : Int} {n : Nat} : WalkD K mg F (Itr lo n) (rangeD lo n) := by
  have hl : (rangeD lo n).length = n := by simp [rangeD]
  exact ⟨fun i H hi s => walk_range.goes i H (by rw [hl] at hi; exact hi) trivial, fun H s => by rw [hl]; exact walk_range.stops H trivial, fun i H x H' s y d hd => by
    obtain ⟨hi, rfl⟩ := rangeD_get hd
    obtain ⟨e, hx⟩ := walk_range.yields i H x H' hi trivial y
    exact .inl ⟨e, hx⟩⟩
def iRange1 (ta : DTA) : DTA := fun st k => ta st fun ds st1 => match ds with
  | [.int j] => (-(2 ^ 62) ≤ j ∧ j < 2 ^ 62) ∧ k (rangeD 0 j.toNat) st1
  | _ => False
def iRange2 (ta : DTA) : DTA := fun st k => ta st fun ds st1 => match ds with
  | [.int i, .int j] => (-(2 ^ 62) ≤ i ∧ i < 2 ^ 62 ∧ -(2 ^ 62) ≤ j ∧ j < 2 ^ 62) ∧ k (rangeD i (j - i).toNat) st1
  | _ => False
theorem i_range1 {a : Expr} {ta : DTA} {p : Pos} (hg : Gl X "range") (hm : X.mg "range" = none) (ha : DPA X [a] ta) (hs : starEach [a] X.env = [(false, eval a X.env)] := by rfl) : DPI X tg (.Call (.Name "range" p) [a] [] pos) (iRange1 ta) :=
  ⟨fun G => pi_imp (pi_range1 hg hm (ha.run G) hs) fun σ H R ⟨F, st, k, Rl, t, fin⟩ => ⟨F, st, _, Rl, t, fun ds st1 F1 H1 vs q R1 s1 r => by
    split at q
    · obtain ⟨v, w, rfl, rv, e⟩ := r
      cases e; cases rv
      exact ⟨_, rfl, q.1.1, q.1.2, fin _ st1 F1 H1 _ q.2 R1 s1 walkd_range⟩
    · exact q.elim⟩⟩
theorem i_range2 {a b : Expr} {ta : DTA} {p : Pos} (hg : Gl X "range") (hm : X.mg "range" = none) (ha : DPA X [a, b] ta) (hs : starEach [a, b] X.env = [(false, eval a X.env), (false, eval b X.env)] := by rfl) (hs2 : starEach [b] X.env = [(false, eval b X.env)] := by rfl) :
    DPI X tg (.Call (.Name "range" p) [a, b] [] pos) (iRange2 ta) :=
  ⟨fun G => pi_imp (pi_range2 hg hm (ha.run G) hs hs2) fun σ H R ⟨F, st, k, Rl, t, fin⟩ => ⟨F, st, _, Rl, t, fun ds st1 F1 H1 vs q R1 s1 r => by
    split at q
    · obtain ⟨v, w, rfl, rv, v2, w2, rfl, rv2, e⟩ := r
      cases e; cases rv; cases rv2
      exact ⟨_, _, rfl, q.1, fin _ st1 F1 H1 _ q.2 R1 s1 walkd_range⟩
    · exact q.elim⟩⟩

/-! ### for -/
def rForL (g : DTG) (tb : DTS) (k : DEnds) : List D → DS → Prop
  | [], st => k.nx st
  | d :: ds, st => g d st fun st1 => tb { k with nx := rForL g tb k ds, ct := rForL g tb k ds, bk := k.nx } st1
def rFor (wi : DTA) (g : DTG) (tb : DTS) : DTS := fun k st => wi st fun items st1 => rForL g tb k items st1
theorem s_for {iter : Expr} {body : List Stmt} {wi : DTA} {g : DTG} {tb : DTS} {vs : List Nat} (hp : PassesOwn (model X.prog X.w) X.A X.env X.xe) (hc : X.calm = true) (hi : DPI X tg iter wi) (hg : DPG X vs tg g) (hb : DPSs X body tb)
    (hs : ∀ x, foldedSetIterable iter X.env x = pure x := by intro _; rfl) : DPS X (.For tg iter body [] pos) (rFor wi g tb) := by
  refine ⟨fun G => (ps_for hp hc (hi.run G) (hg.run G) (hb.run G) hs).imp fun D σ H ⟨F, st, k, R, t, fin⟩ => ?_⟩
  refine ⟨F, st, _, R, t, fun items st1 F1 H1 J t1 R1 s1 w => ?_⟩
  refine ⟨fun i m σ H => ∃ F2 st2, Rel X.K X.mg G F2 st2 σ H ∧ Sub F1 F2 ∧ i ≤ items.length ∧ m = items.length - i ∧ rForL g tb k (items.drop i) st2, ⟨items.length, F1, st1, R1, .refl F1, Nat.zero_le _, by simp, t1⟩, ?_⟩
  rintro i m σ2 H2 ⟨F2, st2, R2, s2, hi, rfl, t2⟩
  by_cases hlt : i < items.length
  · refine .inr ⟨w.goes i H2 hlt (s2.trans R2.sub), fun σ' H' => ∃ F3 st3, Rel X.K X.mg G F3 st3 σ' H' ∧ Sub F1 F3 ∧ rForL g tb k (items.drop (i + 1)) st3, fun σ' H' ⟨F3, st3, R3, s3, t3⟩ => ⟨_, by omega, F3, st3, R3, s3, hlt, rfl, t3⟩, fun x H' y => ?_⟩
    have hd : items[i]? = some items[i] := List.getElem?_eq_getElem hlt
    rw [List.drop_eq_getElem_cons hlt] at t2
    have ends : ∀ {F3 : Hp}, Sub F2 F3 → EndsOk X.K X.mg G F3 { k with nx := rForL g tb k (items.drop (i + 1)), ct := rForL g tb k (items.drop (i + 1)), bk := k.nx } { D with nx := (fun σ' H' => ∃ F3 st3, Rel X.K X.mg G F3 st3 σ' H' ∧ Sub F1 F3 ∧ rForL g tb k (items.drop (i + 1)) st3), ct := (fun σ' H' => ∃ F3 st3, Rel X.K X.mg G F3 st3 σ' H' ∧ Sub F1 F3 ∧ rForL g tb k (items.drop (i + 1)) st3), bk := D.nx } := fun {F3} s3 => by
      have f3 := fin.mono ((s1.trans s2).trans s3)
      exact ⟨fun st4 F4 σ4 H4 q4 R4 s4 => ⟨F4, st4, R4, (s2.trans s3).trans s4, q4⟩, f3.rt, f3.nx, fun st4 F4 σ4 H4 q4 R4 s4 => ⟨F4, st4, R4, (s2.trans s3).trans s4, q4⟩⟩
    rcases (w.mono s2).yields i H2 x H' R2.sub y _ hd with ⟨e, r⟩ | ⟨T, o, e, n, u, r⟩
    · subst e
      exact ⟨F2, st2, _, _, R2, r, t2, fun st3 F3 σ3 H3 q R3 s3 _ => ⟨F3, st3, _, R3, q, ends s3⟩⟩
    · subst u
      obtain ⟨R2', s2'⟩ := R2.laid (o := o) n
      exact ⟨_, st2, _, _, R2', r, t2, fun st3 F3 σ3 H3 q R3 s3 _ => ⟨F3, st3, _, R3, q, ends (s2'.trans s3)⟩⟩
  · have e : i = items.length := by omega
    subst e
    rw [List.drop_length] at t2
    exact .inl ⟨w.stops H2 (s2.trans R2.sub), fin.nx st2 F2 σ2 H2 t2 R2 (s1.trans s2)⟩

/-! ### comprehensions -/
/-- what a comprehension's element sees: its own names empty, no list that is still changed -/
def hideE : List Sl → List Nat → List Sl
  | e, [] => e.map fun s => match s with
    | .own _ => .no
    | s => s
  | e, v :: vs => (hideE e vs).set v .no
def rCompL (g : DTG) (tt : DTT) (te : DTE) (env : List Sl) (k : List D → Mem → Prop) : List D → List D → Mem → Prop
  | [], acc, M => k acc M
  | d :: ds, acc, M => g d ⟨env, M⟩ fun st1 => tt st1 fun b st2 => if b = true then te st2 fun y st3 => acc.length < sizeLine ∧ rCompL g tt te env k ds (acc ++ [y]) st3.mem else rCompL g tt te env k ds acc st2.mem
def rComp (wi : DTA) (g : DTG) (tt : DTT) (te : DTE) (vs : List Nat) : DTA := fun st k => wi st fun items st1 => rCompL g tt te (hideE st1.env vs) (fun acc M => k acc ⟨st1.env, M⟩) items [] st1.mem
structure DPTs (X : Cx) (ifs : List Expr) (t : DTT) : Prop where
  run : ∀ G, PTs X ifs (upT X.K X.mg G t)
theorem pts_imp {ifs : List Expr} {t t' : TT} (h : PTs X ifs t) (f : ∀ σ H Q, t' σ H Q → t σ H Q) : PTs X ifs t' := ⟨fun pins s σ H Q I q => h.run pins s σ H Q I (f σ H Q q)⟩
def rYes : DTT := fun st k => k true st
theorem ts_nil : DPTs X [] rYes := ⟨fun G => pts_imp pts_nil fun σ H Q ⟨F, st, k, R, t, fin⟩ => fin true st F H t R (.refl F)⟩
theorem ts_one {c : Expr} {t : DTT} (h : DPT X c t) : DPTs X [c] t := ⟨fun G => pts_one (h.run G)⟩
theorem hideE_len (e : List Sl) : ∀ vs : List Nat, (hideE e vs).length = e.length
  | [] => by simp [hideE]
  | v :: vs => by simp [hideE, hideE_len e vs]
theorem hideE_get {e : List Sl} {i : Nat} {sl : Sl} : ∀ {vs : List Nat}, (hideE e vs)[i]? = some sl → sl = .no ∨ (i ∉ vs ∧ e[i]? = some sl ∧ ∀ ds, sl ≠ .own ds)
  | [], h => by
    simp only [hideE, List.getElem?_map, Option.map_eq_some_iff] at h
    obtain ⟨s, h1, h2⟩ := h
    cases s with
    | no => exact .inl h2.symm
    | own ds => exact .inl h2.symm
    | val d => subst h2; exact .inr ⟨by simp, h1, fun ds z => by cases z⟩
  | v :: vs, h => by
    simp only [hideE] at h
    rcases get_set h with ⟨_, e1, _⟩ | ⟨n, h⟩
    · exact .inl e1
    · rcases hideE_get h with h | ⟨h1, h2, h3⟩
      · exact .inl h
      · exact .inr ⟨by simp only [List.mem_cons, not_or]; exact ⟨n, h1⟩, h2, h3⟩
theorem wipe_get {σ : L2.St} {i : Nat} : ∀ {vs : List Nat}, i ∉ vs → (wipe σ vs)[i]? = σ[i]?
  | [], _ => rfl
  | v :: vs, h => by
    simp only [List.mem_cons, not_or] at h
    unfold wipe
    rw [List.getElem?_set_ne (Ne.symm h.1), wipe_get h.2]
/-- the state at an element's begin -/
theorem Rel.hide {K : PySem.W.Frag} {mg : Str → Option Value} {G : Ent} {F H : Hp} {env : List Sl} {M : Mem} {σ : L2.St} (R : Rel K mg G F ⟨env, M⟩ σ H) (vs : List Nat) : Rel K mg ⟨F, M, H⟩ F ⟨hideE env vs, M⟩ (wipe σ vs) H := by
  refine ⟨R.sub, R.mem, Ext.refl _ _ _, by simp only [hideE_len, wipe_length]; exact R.len, fun i sl h => ?_, fun i j ds es a h1 _ _ _ => ?_⟩
  · have h : (hideE env vs)[i]? = some sl := h
    rcases hideE_get h with e | ⟨hi, h2, h3⟩
    · subst e
      have hl : i < (wipe σ vs).length := by rw [wipe_length]; have := (List.getElem?_eq_some_iff.mp h).1; rw [hideE_len] at this; rw [← R.len]; exact this
      exact ⟨_, List.getElem?_eq_getElem hl, trivial⟩
    · obtain ⟨o, e, q⟩ := R.slot i sl h2
      refine ⟨o, by rw [wipe_get hi]; exact e, ?_⟩
      cases sl with
      | no => trivial
      | val d => exact q
      | own ds => exact absurd rfl (h3 ds)
  · have h1 : (hideE env vs)[i]? = some (.own ds) := h1
    rcases hideE_get h1 with e | ⟨_, _, h3⟩
    · cases e
    · exact absurd rfl (h3 ds)
/-- behind an element -/
theorem Rel.back {K : PySem.W.Frag} {mg : Str → Option Value} {G : Ent} {F F' H H' : Hp} {env : List Sl} {M : Mem} {st' : DS} {σ σ' : L2.St} (R : Rel K mg G F ⟨env, M⟩ σ H) (R' : Rel K mg ⟨F, M, H⟩ F' st' σ' H') : Rel K mg G F' ⟨env, st'.mem⟩ σ H' :=
  R.step R'.sub R'.mem R'.ext
/-- a thing that nothing known leans on is written -/
theorem Rel.poke {K : PySem.W.Frag} {mg : Str → Option Value} {G : Ent} {F H : Hp} {st : DS} {σ : L2.St} (R : Rel K mg G F st σ H) {a : Addr} {o : HO} (fa : F a = none) (ma : st.mem a = none) (h0 : G.H a = none)
    (ow : ∀ (i : Nat) (ds : List D), st.env[i]? = some (.own ds) → σ[i]? ≠ some (some (.ref a))) : Rel K mg G F st σ (upd H a o) := by
  have ne : ∀ b u, F b = some u → b ≠ a := fun b u z w => by rw [w, fa] at z; cases z
  refine ⟨fun b u z => by rw [upd_ne (ne b u z)]; exact R.sub b u z, R.mem.mono (.refl F) (fun b mo z => (R.mem b mo z).1) fun b mo u z hu => ?_, ⟨R.ext.sub, fun b u m z => ?_, R.ext.nf, R.ext.nm, fun b hb => ?_⟩, R.len, fun j sl hj => ?_, R.uniq⟩
  · have hb : b ≠ a := fun w => by rw [w, ma] at z; cases z
    rw [upd_ne hb]; exact hu
  · have hb : b ≠ a := fun w => by rw [w, h0] at z; cases z
    rw [upd_ne hb]; exact R.ext.keep b u m z
  · by_cases z : b = a
    · rw [z, upd_same]; simp
    · rw [upd_ne z]; exact R.ext.there b hb
  · obtain ⟨o', e', q⟩ := R.slot j sl hj
    refine ⟨o', e', ?_⟩
    cases sl with
    | no => trivial
    | val d => exact q
    | own es =>
      obtain ⟨b, us, q1, hb, fb, mb, hb0, r2⟩ := q
      subst q1
      have nb : b ≠ a := fun w => ow j es hj (by rw [e', w])
      exact ⟨b, us, rfl, by rw [upd_ne nb]; exact hb, fb, mb, hb0, r2⟩
/-- such a thing is let go: from here on it never changes -/
theorem Rel.letgo {K : PySem.W.Frag} {mg : Str → Option Value} {G : Ent} {F H : Hp} {st : DS} {σ : L2.St} (R : Rel K mg G F st σ H) {a : Addr} {o : HO} (ha : H a = some o) (fa : F a = none) (ma : st.mem a = none) (h0 : G.H a = none)
    (ow : ∀ (i : Nat) (ds : List D), st.env[i]? = some (.own ds) → σ[i]? ≠ some (some (.ref a))) : Rel K mg G (upd F a o) st σ H ∧ Sub F (upd F a o) := by
  have sF : Sub F (upd F a o) := Sub.new fa
  have sH : Sub (upd F a o) H := fun b u z => by
    by_cases hb : b = a
    · rw [hb, upd_same] at z; rw [hb, ha]; exact z
    · rw [upd_ne hb] at z; exact R.sub b u z
  refine ⟨⟨sH, R.mem.mono sF (fun b mo z => ?_) fun _ _ _ _ z => z, ⟨R.ext.sub.trans sF, R.ext.keep, fun b hb f => ?_, R.ext.nm, R.ext.there⟩, R.len, fun j sl hj => ?_, R.uniq⟩, sF⟩
  · have hb : b ≠ a := fun w => by rw [w, ma] at z; cases z
    rw [upd_ne hb]; exact (R.mem b mo z).1
  · have hb' : b ≠ a := fun w => hb (by rw [w]; exact h0)
    rw [upd_ne hb']; exact R.ext.nf b hb f
  · obtain ⟨o', e', q⟩ := R.slot j sl hj
    refine ⟨o', e', ?_⟩
    cases sl with
    | no => trivial
    | val d => obtain ⟨v, q1, q2⟩ := q; exact ⟨v, q1, q2.mono sF⟩
    | own es =>
      obtain ⟨b, us, q1, hb, fb, mb, hb0, r'⟩ := q
      subst q1
      have nb : b ≠ a := fun w => ow j es hj (by rw [e', w])
      exact ⟨b, us, rfl, hb, by rw [upd_ne nb]; exact fb, mb, hb0, r'.mono sF⟩
/-- a new thing that is not spoken of -/
theorem Rel.veil {K : PySem.W.Frag} {mg : Str → Option Value} {G : Ent} {F H : Hp} {st : DS} {σ : L2.St} (R : Rel K mg G F st σ H) {p : Addr} {o : HO} (hp : H p = none) :
    Rel K mg G F st σ (upd H p o) ∧ F p = none ∧ st.mem p = none ∧ G.H p = none ∧ ∀ (i : Nat) (ds : List D), st.env[i]? = some (.own ds) → σ[i]? ≠ some (some (.ref p)) := by
  have fp : F p = none := R.sub.none hp
  have mp : st.mem p = none := by
    cases e : st.mem p with
    | none => rfl
    | some m => obtain ⟨_, o, h, _⟩ := R.mem p m e; rw [hp] at h; cases h
  have h0 : G.H p = none := by
    cases e : G.H p with
    | none => rfl
    | some o => exact absurd hp (R.ext.there p (by rw [e]; simp))
  have ow : ∀ (i : Nat) (ds : List D), st.env[i]? = some (.own ds) → σ[i]? ≠ some (some (.ref p)) := fun j es h z => by
    obtain ⟨o, e, a, us, q, ha, _⟩ := R.slot j _ h
    rw [e] at z; cases z; cases q
    rw [hp] at ha; cases ha
  exact ⟨R.poke fp mp h0 ow, fp, mp, h0, ow⟩
theorem wipe_none {σ : L2.St} {i : Nat} : ∀ {vs : List Nat}, i ∈ vs → i < σ.length → (wipe σ vs)[i]? = some none
  | v :: vs, h, hl => by
    unfold wipe
    by_cases e : i = v
    · subst e
      exact List.getElem?_set_self (by rw [wipe_length]; exact hl)
    · rw [List.getElem?_set_ne (Ne.symm e)]
      exact wipe_none ((List.mem_cons.mp h).resolve_left e) hl
theorem wipe_wipe (σ : L2.St) (vs : List Nat) : wipe (wipe σ vs) vs = wipe σ vs := by
  apply List.ext_getElem?
  intro i
  by_cases h : i ∈ vs
  · by_cases hl : i < σ.length
    · rw [wipe_none h (by rw [wipe_length]; exact hl), wipe_none h hl]
    · rw [List.getElem?_eq_none (by rw [wipe_length, wipe_length]; omega), List.getElem?_eq_none (by rw [wipe_length]; omega)]
  · rw [wipe_get h]
/-- whatever the entry was -/
def xG (X : Cx) (vs : List Nat) (g : DTG) : TG := fun v σ H Q => ∃ G', upG X.K X.mg G' vs g v σ H Q
def xT (X : Cx) (t : DTT) : TT := fun σ H Q => ∃ G', upT X.K X.mg G' t σ H Q
def xE (X : Cx) (t : DTE) : TE := fun σ H Q => ∃ G', upE X.K X.mg G' t σ H Q
theorem pg_x {vs : List Nat} {g : DTG} (h : DPG X vs tg g) : PG X tg (xG X vs g) := ⟨fun pins s σ H v u Q I r ⟨G', q⟩ => (h.run G').run pins s σ H v u Q I r q⟩
theorem pts_x {ifs : List Expr} {t : DTT} (h : DPTs X ifs t) : PTs X ifs (xT X t) := ⟨fun pins s σ H Q I ⟨G', q⟩ => (h.run G').run pins s σ H Q I q⟩
theorem pe_x {t : DTE} (h : DPE X e t) : PE X e (xE X t) := ⟨fun pins s σ H Q I ⟨G', q⟩ => (h.run G').run pins s σ H Q I q⟩
/-- where a comprehension's turn begins -/
structure CompAt (X : Cx) (g : DTG) (tt : DTT) (te : DTE) (G : Ent) (F1 : Hp) (env : List Sl) (vs : List Nat) (k : List D → Mem → Prop) (σ : L2.St) (L : Addr) (rest : List D) (H : Hp) : Prop where
  ex : ∃ F M acc us, Rel X.K X.mg G F ⟨env, M⟩ σ H ∧ Sub F1 F ∧ H L = some (.lst us) ∧ F L = none ∧ M L = none ∧ Reps X.K X.mg F acc us ∧ rCompL g tt te (hideE env vs) k rest acc M
theorem comp_turn {g : DTG} {tt : DTT} {te : DTE} {G : Ent} {F1 F2 H2 : Hp} {env : List Sl} {M : Mem} {vs : List Nat} {k : List D → Mem → Prop} {σ : L2.St} {L : Addr} {d : D} {rest acc : List D} {us : List V} {x : V} {F3 H3 : Hp}
    (R2 : Rel X.K X.mg G F2 ⟨env, M⟩ σ H2) (s2 : Sub F1 F2) (hL : H2 L = some (.lst us)) (f2 : F2 L = none) (m2 : M L = none) (gL : G.H L = none) (ow : ∀ (i : Nat) (ds : List D), env[i]? = some (.own ds) → σ[i]? ≠ some (some (.ref L)))
    (ra : Reps X.K X.mg F2 acc us) (t2 : rCompL g tt te (hideE env vs) k (d :: rest) acc M)
    (R3 : Rel X.K X.mg ⟨F2, M, H2⟩ F3 ⟨hideE env vs, M⟩ (wipe σ vs) H3) (s3 : Sub F2 F3) (r : Rep X.K X.mg F3 d x) :
    xG X vs g x (wipe σ vs) H3 fun σ2 H4 => wipe σ2 vs = wipe σ vs ∧ xT X tt σ2 H4 fun b H5 => if b = true then xE X te σ2 H5 fun y H6 => ∃ acc, H6 L = some (.lst acc) ∧ acc.length < sizeLine ∧ CompAt X g tt te G F1 env vs k σ L rest (upd H6 L (.lst (acc ++ [y])))
      else CompAt X g tt te G F1 env vs k σ L rest H5 := by
  refine ⟨_, F3, _, d, _, R3, r, t2, fun st4 F4 σ4 H4 t4 R4 s4 w4 => ⟨w4.trans (wipe_wipe σ vs), _, F4, st4, _, R4, t4, fun b st5 F5 H5 t5 R5 s5 => ?_⟩⟩
  cases b with
  | false =>
    refine iteF ⟨F5, st5.mem, acc, us, R2.back R5, ((s2.trans s3).trans s4).trans s5, R5.ext.keep L _ m2 hL, R5.ext.nf L (by show H2 L ≠ none; rw [hL]; simp) f2, R5.ext.nm L (by show H2 L ≠ none; rw [hL]; simp) m2, ra.mono ((s3.trans s4).trans s5), t5⟩
  | true =>
    refine iteT ⟨_, F5, st5, _, R5, t5, fun y st6 F6 H6 v t6 R6 s6 r6 => ?_⟩
    have e6 : H6 L = some (.lst us) := R6.ext.keep L _ m2 hL
    have f6 : F6 L = none := R6.ext.nf L (by show H2 L ≠ none; rw [hL]; simp) f2
    have m6 : st6.mem L = none := R6.ext.nm L (by show H2 L ≠ none; rw [hL]; simp) m2
    have sx : Sub F2 F6 := ((s3.trans s4).trans s5).trans s6
    refine ⟨us, e6, by rw [← ra.length]; exact t6.1, F6, st6.mem, acc ++ [y], us ++ [v], ?_, s2.trans sx, upd_same, f6, m6, (ra.mono sx).snoc r6, t6.2⟩
    exact (R2.back R6).poke f6 m6 gL ow
theorem comp_up {wi : DTA} {g : DTG} {tt : DTT} {te : DTE} {vs : List Nat} {G : Ent} {σ : L2.St} {H : Hp} {Q : VK}
    (h : ∃ F st k, Rel X.K X.mg G F st σ H ∧ rComp wi g tt te vs st k ∧ ∀ acc st' F' H' L us, k acc st' → Rel X.K X.mg G F' st' σ H' → Sub F F' → H' L = some (.lst us) → F' L = none → st'.mem L = none → G.H L = none →
      (∀ (i : Nat) (ds : List D), st'.env[i]? = some (.own ds) → σ[i]? ≠ some (some (.ref L))) → Reps X.K X.mg F' acc us → Q (.ref L) H') :
    tLc (upI X.K X.mg G wi) (xG X vs g) (xT X tt) (xE X te) vs σ H Q := by
  obtain ⟨F, st, k, R, t, fin⟩ := h
  refine ⟨F, st, _, R, t, fun items st1 F1 H1 J t1 R1 s1 w L hD => ?_⟩
  obtain ⟨RD, fD, mD, gD, ow⟩ := R1.veil (o := .lst []) hD
  refine ⟨fun i m H => i ≤ items.length ∧ m = items.length - i ∧ CompAt X g tt te G F1 st1.env vs (fun acc M => k acc ⟨st1.env, M⟩) σ L (items.drop i) H, ⟨items.length, Nat.zero_le _, by simp, F1, st1.mem, [], [], RD, .refl F1, upd_same, fD, mD, rfl, t1⟩, ?_⟩
  rintro i m H2 ⟨hi, rfl, F2, M, acc, us, R2, s2, hL, f2, m2, ra, t2⟩
  by_cases hlt : i < items.length
  · refine .inr ⟨w.goes i H2 hlt (s2.trans R2.sub), CompAt X g tt te G F1 st1.env vs (fun acc M => k acc ⟨st1.env, M⟩) σ L (items.drop (i + 1)), fun H' c => ⟨_, by omega, hlt, rfl, c⟩, fun x H' y => ?_⟩
    have hd : items[i]? = some items[i] := List.getElem?_eq_getElem hlt
    rw [List.drop_eq_getElem_cons hlt] at t2
    have RH := R2.hide vs
    rcases (w.mono s2).yields i H2 x H' R2.sub y _ hd with ⟨e, r⟩ | ⟨T, o, e, n, u, r⟩
    · subst e
      exact comp_turn R2 s2 hL f2 m2 gD ow ra t2 RH (.refl _) r
    · subst u
      obtain ⟨RH', sH⟩ := RH.laid (o := o) n
      exact comp_turn R2 s2 hL f2 m2 gD ow ra t2 RH' sH r
  · have e : i = items.length := by omega
    subst e
    rw [List.drop_length] at t2
    exact .inl ⟨w.stops H2 (s2.trans R2.sub), fin acc _ F2 H2 L us t2 R2 (s1.trans s2) hL f2 m2 gD ow ra⟩
/-- as a value -/
def rCompE (wi : DTA) (g : DTG) (tt : DTT) (te : DTE) (vs : List Nat) : DTE := fun st k => rComp wi g tt te vs st fun acc st1 => k (.lst acc) st1
theorem d_lc {elt tg iter : Expr} {ifs : List Expr} {scope : Scope} (own : List (Str × Nat)) {wi : DTA} {g : DTG} {tt : DTT} {te : DTE} (hc : X.calm = true) (hN : X.N.Nodup) (hi : DPI X tg iter wi) (ok : BlkOk X.N X.env.scope scope own)
    (hg : ∀ (s : Shared) (H : Hp) (C : Addr) (cl : List (Str × Addr)) (fp : List Addr), DPG (X.blk s H scope (compEnvC scope cl C X.env) fp) (own.map (·.2)) tg g) (ht : ∀ (s : Shared) (H : Hp) (C : Addr) (cl : List (Str × Addr)) (fp : List Addr), DPTs (X.blk s H scope (compEnvC scope cl C X.env) fp) ifs tt)
    (he : ∀ (s : Shared) (H : Hp) (C : Addr) (cl : List (Str × Addr)) (fp : List Addr), DPE (X.blk s H scope (compEnvC scope cl C X.env) fp) elt te) (hs : ∀ x, foldedSetIterable iter X.env x = pure x := by intro _; rfl) :
    DPE X (.ListComp elt [⟨tg, iter, ifs, 0⟩] scope pos) (rCompE wi g tt te (own.map (·.2))) :=
  ⟨fun G => (pe_lc hc hN (hi.run G) ok (fun s H C cl fp => pg_x (hg s H C cl fp)) (fun s H C cl fp => pts_x (ht s H C cl fp)) (fun s H C cl fp => pe_x (he s H C cl fp)) hs).imp fun σ H Q ⟨F, st, k, R, t, fin⟩ =>
    comp_up ⟨F, st, _, R, t, fun acc st' F' H' L us q R' s' hL fL mL gL ow ra => by
      obtain ⟨R2, s2⟩ := R'.letgo hL fL mL gL ow
      exact fin _ st' _ H' _ q R2 (s'.trans s2) ⟨L, us, rfl, upd_same, ra.mono s2⟩⟩⟩
/-- x = [..]: a list that only x knows -/
def rCompS (i : Nat) (wi : DTA) (g : DTG) (tt : DTT) (te : DTE) (vs : List Nat) : DTS := fun k st => rComp wi g tt te vs st fun acc st1 => k.nx ⟨st1.env.set i (.own acc), st1.mem⟩
theorem Rel.take {K : PySem.W.Frag} {mg : Str → Option Value} {G : Ent} {F H : Hp} {st : DS} {σ : L2.St} (R : Rel K mg G F st σ H) {i : Nat} {a : Addr} {ds : List D} {us : List V} (ha : H a = some (.lst us)) (fa : F a = none) (ma : st.mem a = none) (h0 : G.H a = none)
    (ow : ∀ (i : Nat) (ds : List D), st.env[i]? = some (.own ds) → σ[i]? ≠ some (some (.ref a))) (r : Reps K mg F ds us) : Rel K mg G F ⟨st.env.set i (.own ds), st.mem⟩ (σ.set i (some (.ref a))) H := by
  refine ⟨R.sub, R.mem, R.ext, by simpa using R.len, fun j sl h => ?_, fun j l ds es b h1 h2 h3 h4 => ?_⟩
  · rcases get_set h with ⟨rfl, rfl, hl⟩ | ⟨hn, h⟩
    · have hl' : j < σ.length := by rw [← R.len]; exact hl
      exact ⟨_, List.getElem?_set_self hl', a, us, rfl, ha, fa, ma, h0, r⟩
    · obtain ⟨o, e, q⟩ := R.slot j sl h
      exact ⟨o, by rw [List.getElem?_set_ne (Ne.symm hn)]; exact e, q⟩
  · rcases get_set h1 with ⟨e1, _, hl⟩ | ⟨n1, k1⟩
    · rcases get_set h2 with ⟨e2, _, _⟩ | ⟨n2, k2⟩
      · rw [e1, e2]
      · subst e1
        have hl' : j < σ.length := by rw [← R.len]; exact hl
        rw [List.getElem?_set_self hl'] at h3
        rw [List.getElem?_set_ne (Ne.symm n2)] at h4
        cases h3
        exact absurd h4 (ow l es k2)
    · rw [List.getElem?_set_ne (Ne.symm n1)] at h3
      rcases get_set h2 with ⟨e2, _, hl⟩ | ⟨n2, h2⟩
      · subst e2
        have hl' : l < σ.length := by rw [← R.len]; exact hl
        rw [List.getElem?_set_self hl'] at h4
        cases h4
        exact absurd h3 (ow j ds k1)
      · rw [List.getElem?_set_ne (Ne.symm n2)] at h4
        exact R.uniq j l ds es b k1 h2 h3 h4
theorem s_lc (i : Nat) {y : Str} {py : Pos} {elt tg iter : Expr} {ifs : List Expr} {scope : Scope} {spos : Pos} (own : List (Str × Nat)) {wi : DTA} {g : DTG} {tt : DTT} {te : DTE} (hc : X.calm = true) (hN : X.N.Nodup)
    (hsw : swapsWith (.ListComp elt [⟨tg, iter, ifs, 0⟩] scope pos) (some (.Name y py)) spos.line X.env = pure true) (hi : DPI X tg iter wi) (ok : BlkOk X.N X.env.scope scope own)
    (hg : ∀ (s : Shared) (H : Hp) (C : Addr) (cl : List (Str × Addr)) (fp : List Addr), DPG (X.blk s H scope (compEnvC scope cl C X.env) fp) (own.map (·.2)) tg g) (ht : ∀ (s : Shared) (H : Hp) (C : Addr) (cl : List (Str × Addr)) (fp : List Addr), DPTs (X.blk s H scope (compEnvC scope cl C X.env) fp) ifs tt)
    (he : ∀ (s : Shared) (H : Hp) (C : Addr) (cl : List (Str × Addr)) (fp : List Addr), DPE (X.blk s H scope (compEnvC scope cl C X.env) fp) elt te) (hy : X.N[i]? = some y := by rfl) (hyl : X.env.scope.names.lookup y = some .local := by rfl) (hs : ∀ x, foldedSetIterable iter X.env x = pure x := by intro _; rfl) :
    DPS X (.Assign [.Name y py] (.ListComp elt [⟨tg, iter, ifs, 0⟩] scope pos) spos) (rCompS i wi g tt te (own.map (·.2))) :=
  ⟨fun G => (ps_setLc hc hN hy hyl hsw (hi.run G) ok (fun s H C cl fp => pg_x (hg s H C cl fp)) (fun s H C cl fp => pts_x (ht s H C cl fp)) (fun s H C cl fp => pe_x (he s H C cl fp)) hs).imp fun Dd σ H ⟨F, st, k, R, t, fin⟩ =>
    comp_up (Q := fun x H1 => gName i x σ H1 Dd.nx) ⟨F, st, _, R, t, fun acc st' F' H' L us q R' s' hL fL mL gL ow ra => fin.nx _ F' _ H' q (R'.take hL fL mL gL ow ra) s'⟩⟩
end
end DL

set_option autoImplicit false
set_option Elab.async false
set_option linter.all false
set_option maxRecDepth 100000
set_option autoImplicit false
/-! DL6: defs, calls, methods, fields, properties, instances made. -/
namespace DL
open PySem PySem.Spec L2

/-- a promise over data: arguments, the changing things, what is wanted of the answer and of them -/
abbrev DSp := List D → Mem → (D → Mem → Prop) → Prop
def lift (K : PySem.W.Frag) (mg : Str → Option Value) (n : Nat) (sp : DSp) : Sp := fun vs H Q _ =>
  ∃ F M ds k, Sub F H ∧ MemOk K mg F M H ∧ Reps K mg F ds vs ∧ ds.length = n ∧ sp ds M k ∧
    ∀ d M' F' H' v, k d M' → Ext F M H F' M' H' → Sub F' H' → MemOk K mg F' M' H' → Rep K mg F' d v → Q v H'
/-- the call's end, in the caller's words -/
theorem lift_of {K : PySem.W.Frag} {mg : Str → Option Value} {G : Ent} {F H : Hp} {st : DS} {σ : L2.St} {n : Nat} {sp : DSp} {ds : List D} {vs : List V} {k : D → DS → Prop} {Q : VK} {E : XK} (R : Rel K mg G F st σ H) (r : Reps K mg F ds vs) (hn : ds.length = n)
    (t : sp ds st.mem fun d M => k d ⟨st.env, M⟩) (fin : ∀ d st' F' H' v, k d st' → Rel K mg G F' st' σ H' → Sub F F' → Rep K mg F' d v → Q v H') : lift K mg n sp vs H Q E :=
  ⟨F, st.mem, ds, _, R.sub, R.mem, r, hn, t, fun d M' F' H' v q e s m rv => fin d ⟨st.env, M'⟩ F' H' v q (R.step s m e) e.sub rv⟩

/-- a def of the module that keeps a promise over data -/
structure FnG (P : Program) (w : World) (K : PySem.W.Frag) (mg : Str → Option Value) (base : Heap) (x : Str) (k n : Nat) (sp : DSp) : Prop where
  ex : ∃ f fd ps, FnOk P w K mg base CX0 k f fd ps (lift K mg n sp) ∧ mg x = some (.ref f) ∧ PySem.W.keepIn K (.ref f) = true ∧ Binds K fd ps []
theorem FnG.imp {P : Program} {w : World} {K : PySem.W.Frag} {mg : Str → Option Value} {base : Heap} {x : Str} {k n : Nat} {sp sp' : DSp} (h : FnG P w K mg base x k n sp) (i : ∀ ds M q, ds.length = n → sp' ds M q → sp ds M q) : FnG P w K mg base x k n sp' := by
  obtain ⟨f, fd, ps, a, b⟩ := h.ex
  exact ⟨f, fd, ps, a.imp fun vs H Q E ⟨F, M, ds, q, h1, h2, h3, h4, h5, h6⟩ => ⟨F, M, ds, q, h1, h2, h3, h4, i _ _ _ h4 h5, h6⟩, b⟩
theorem FnG.mono {P : Program} {w : World} {K : PySem.W.Frag} {mg : Str → Option Value} {base : Heap} {x : Str} {j k n : Nat} {sp : DSp} (h : FnG P w K mg base x j n sp) (i : j ≤ k) : FnG P w K mg base x k n sp := by
  obtain ⟨f, fd, ps, a, b⟩ := h.ex
  exact ⟨f, fd, ps, a.mono i, b⟩
abbrev FnX (X : Cx) (x : Str) (k n : Nat) (sp : DSp) : Prop := FnG X.prog X.w X.K X.mg X.base x k n sp

def rCall (n : Nat) (sp : DSp) (t : DTA) : DTE := fun st k => t st fun ds st1 => ds.length = n ∧ sp ds st1.mem fun d M => k d ⟨st1.env, M⟩
section
variable {X : Cx} {x m f : Str} {p pos apos : Pos} {e o : Expr} {es : List Expr} {k n j : Nat} {sp : DSp} {t : DTA} {te to : DTE} {C : Str}
theorem call_up {G : Ent} {σ : L2.St} {H : Hp} {Q : VK} (h : upE X.K X.mg G (rCall n sp t) σ H Q) : tCall (lift X.K X.mg n sp) [] E0 (upA X.K X.mg G t) σ H Q := by
  obtain ⟨F, st, k, R, t, fin⟩ := h
  refine ⟨F, st, _, R, t, fun ds st1 F1 H1 vs q R1 s1 r => ?_⟩
  show lift X.K X.mg n sp (vs ++ []) H1 Q E0
  rw [List.append_nil]
  exact lift_of R1 r q.1 q.2 fun d st' F' H' v q' R' s' rv => fin d st' F' H' v q' R' (s1.trans s') rv
theorem d_call (h : FnX X x k n sp) (hr : Room k X.A) (hg : Gl X x) (ha : DPA X (e :: es) t) (hdb : (x == ("__debug__" : Str)) = false := by decide) (he : starEach (e :: es) X.env = (false, eval e X.env) :: starEach es X.env := by rfl) (hpl : (backTo pos (starEach es X.env)).any (·.1) = false := by rfl) :
    DPE X (.Call (.Name x p) (e :: es) [] pos) (rCall n sp t) := by
  obtain ⟨f, fd, ps, F, hm, hk, hb⟩ := h.ex
  exact ⟨fun G => (pe_call F hr hg hm hk hb .nil pass0 (ha.run G) hdb he hpl).imp fun σ H Q h => call_up h⟩
theorem d_call0 (h : FnX X x k 0 sp) (hr : Room k X.A) (hg : Gl X x) (hdb : (x == ("__debug__" : Str)) = false := by decide) : DPE X (.Call (.Name x p) [] [] pos) (rCall 0 sp rNil) := by
  obtain ⟨f, fd, ps, F, hm, hk, hb⟩ := h.ex
  refine ⟨fun G => (pe_call0 F hr hg hm hk hb .nil pass0 hdb).imp fun σ H Q ⟨F, st, k, R, t, fin⟩ => ?_⟩
  exact lift_of (E := E0) R (ds := []) (vs := []) rfl t.1 t.2 fun d st' F' H' v q' R' s' rv => fin d st' F' H' v q' R' s' rv

/-! ### a def's body -/
def startE (N : List Str) (ds : List D) : List Sl := ds.map .val ++ List.replicate (N.length - ds.length) .no
theorem rel_start {K : PySem.W.Frag} {mg : Str → Option Value} {F H : Hp} {M : Mem} {N : List Str} {ds : List D} {vs : List V} (s : Sub F H) (m : MemOk K mg F M H) (r : Reps K mg F ds vs) : Rel K mg ⟨F, M, H⟩ F ⟨startE N ds, M⟩ (L2.start N vs) H := by
  have hl := r.length
  refine ⟨s, m, Ext.refl _ _ _, by simp [startE, L2.start, hl], fun i sl h => ?_, fun i j xs ys a h1 _ _ _ => ?_⟩
  · have h : (ds.map Sl.val ++ List.replicate (N.length - ds.length) Sl.no)[i]? = some sl := h
    by_cases hi : i < ds.length
    · rw [List.getElem?_append_left (by simpa using hi), List.getElem?_map] at h
      obtain ⟨d, hd, rfl⟩ := Option.map_eq_some_iff.mp h
      obtain ⟨v, hv, rv⟩ := r.get hd
      refine ⟨some v, ?_, v, rfl, rv⟩
      show (vs.map some ++ List.replicate (N.length - vs.length) none)[i]? = _
      rw [List.getElem?_append_left (by simpa [← hl] using hi), List.getElem?_map, hv]
      rfl
    · have hlen : i < (startE N ds).length := (List.getElem?_eq_some_iff.mp h).1
      rw [List.getElem?_append_right (by simpa using hi), List.getElem?_replicate] at h
      split at h
      · cases h
        have hs : i < (L2.start N vs).length := by simp [startE] at hlen; simp [L2.start, ← hl]; omega
        exact ⟨_, List.getElem?_eq_getElem hs, trivial⟩
      · cases h
  · have h1 : (ds.map Sl.val ++ List.replicate (N.length - ds.length) Sl.no)[i]? = some (.own xs) := h1
    exfalso
    by_cases hi : i < ds.length
    · rw [List.getElem?_append_left (by simpa using hi), List.getElem?_map] at h1
      obtain ⟨d, hd, e⟩ := Option.map_eq_some_iff.mp h1
      cases e
    · rw [List.getElem?_append_right (by simpa using hi), List.getElem?_replicate] at h1
      split at h1 <;> cases h1
/-- the context of a def's body that lets nothing out -/
abbrev bodyX (P : Program) (w : World) (K : PySem.W.Frag) (mg : Str → Option Value) (base : Heap) (N : List Str) (qual : Str) (st : Stmt) (f : Addr) (cdv : Value) (A : Around) (outer : List Env) (s : Shared) (H : Hp) (E : XK) : Cx :=
  (cxOf CX0 P w K mg base N qual (defScope st) f cdv A outer s H E).nox
def dEnds (k : D → Mem → Prop) : DEnds := { nx := fun st => k .non st.mem, rt := k }
/-- THE RULE for a def: its body as a term of rules, what the term asks -/
theorem fn_mk {P : Program} {w : World} {K : PySem.W.Frag} {mg : Str → Option Value} {base : Heap} {y qual : Str} {st : Stmt} {f : Addr} {fd : FuncData} {N ps : List Str} {k : Nat} {sp : DSp} (F : Fun K y qual st f fd) (S : FnScope N ps (defScope st))
    (hb : ∀ (cdv : Value) (A : Around) (outer : List Env) (s : Shared) (H : Hp) (E : XK), Room k (A.deeper (PyProof.Rows.envOfC qual (defScope st) s.heap.objs.size f cdv)) →
      ∃ t, DPSs (bodyX P w K mg base N qual st f cdv A outer s H E) (defBody st) t ∧ ∀ ds M q, ds.length = ps.length → sp ds M q → t (dEnds q) ⟨startE N ds, M⟩) :
    FnOk P w K mg base CX0 (k + 1) f fd ps (lift K mg ps.length sp) := by
  refine F.ok S (fun vs H Q E ⟨F0, M, ds, q, _, _, r, hn, _⟩ => by rw [← r.length]; exact hn) (fun cdv A outer s H vs Q E hr ⟨F0, M, ds, q, s0, m0, r, hn, hsp, fin⟩ => ?_)
  obtain ⟨t, ht, hq⟩ := hb cdv A outer s H E hr
  refine ⟨_, ht.run ⟨F0, M, H⟩, F0, _, _, rel_start s0 m0 r, hq ds M q hn hsp, ⟨fun st1 F1 σ1 H1 q1 R1 s1 => ?_, fun d st1 F1 σ1 H1 v q1 R1 s1 rv => ?_, fun st1 F1 σ1 H1 q1 R1 s1 => q1.elim, fun st1 F1 σ1 H1 q1 R1 s1 => q1.elim⟩⟩
  · exact fin .non st1.mem F1 H1 .non q1 R1.ext R1.sub R1.mem rfl
  · exact fin d st1.mem F1 H1 v q1 R1.ext R1.sub R1.mem rv
/-- .. as a fact of the module -/
theorem fng_mk {P : Program} {w : World} {K : PySem.W.Frag} {mg : Str → Option Value} {base : Heap} {y qual : Str} {st : Stmt} {f : Addr} {fd : FuncData} {N ps : List Str} {k n : Nat} {sp : DSp} (F : Fun K y qual st f fd) (hm : mg y = some (.ref f)) (S : FnScope N ps (defScope st))
    (hbi : ∀ (kV doc pm : Value) (an : Option Addr) (cdv ct : Value) (us : List Value), us.length = ps.length → bindArgs (PySem.W.fnOf y qual (defArgs st) (defBody st) (defScope st) .none kV doc pm an cdv ct) ⟨us, []⟩ = pure (ps.zip us))
    (hn : ps.length = n) (hb : ∀ (cdv : Value) (A : Around) (outer : List Env) (s : Shared) (H : Hp) (E : XK), Room k (A.deeper (PyProof.Rows.envOfC qual (defScope st) s.heap.objs.size f cdv)) →
      ∃ t, DPSs (bodyX P w K mg base N qual st f cdv A outer s H E) (defBody st) t ∧ ∀ ds M q, ds.length = n → sp ds M q → t (dEnds q) ⟨startE N ds, M⟩) :
    FnG P w K mg base y (k + 1) n sp := by
  subst hn
  exact ⟨f, fd, ps, fn_mk F S hb, hm, F.kp, F.binds hbi⟩

/-! ### fields -/
structure FldG (K : PySem.W.Frag) (mg : Str → Option Value) (C f : Str) : Prop where
  ex : ∃ c, mg C = some (.ref c) ∧ Cls K c ∧ NoAttr K c f
theorem lookup_at {f : Str} {L : List Str} {j : Nat} : ∀ {fs : List (Str × V)}, fs.map (·.1) = L → L.Nodup → L[j]? = some f → ∃ v, fs.lookup f = some v ∧ (fs.map (·.2))[j]? = some v := by
  intro fs hL hN hj
  subst hL
  induction fs generalizing j with
  | nil => simp at hj
  | cons p fs ih =>
    obtain ⟨g, v⟩ := p
    rw [List.map_cons, List.nodup_cons] at hN
    cases j with
    | zero =>
      simp only [List.map_cons, List.getElem?_cons_zero, Option.some.injEq] at hj
      subst hj
      exact ⟨v, by rw [List.lookup_cons]; simp, rfl⟩
    | succ j =>
      have hj' : (fs.map (·.1))[j]? = some f := by simpa using hj
      obtain ⟨u, h1, h2⟩ := ih hN.2 hj'
      have ne : f ≠ g := fun z => hN.1 (by rw [← z]; exact List.mem_of_getElem? hj')
      refine ⟨u, ?_, by simpa using h2⟩
      rw [List.lookup_cons, show (f == g) = false from beq_eq_false_iff_ne.mpr ne]
      exact h1
theorem putF_at {f : Str} {v : V} {L : List Str} {j : Nat} : ∀ {fs : List (Str × V)}, fs.map (·.1) = L → L.Nodup → L[j]? = some f → (putF f v fs).map (·.1) = L ∧ (putF f v fs).map (·.2) = (fs.map (·.2)).set j v := by
  intro fs hL hN hj
  subst hL
  induction fs generalizing j with
  | nil => simp at hj
  | cons p fs ih =>
    obtain ⟨g, u⟩ := p
    rw [List.map_cons, List.nodup_cons] at hN
    cases j with
    | zero =>
      simp only [List.map_cons, List.getElem?_cons_zero, Option.some.injEq] at hj
      subst hj
      simp [putF]
    | succ j =>
      have hj' : (fs.map (·.1))[j]? = some f := by simpa using hj
      have ne : g ≠ f := fun z => hN.1 (by rw [z]; exact List.mem_of_getElem? hj')
      obtain ⟨h1, h2⟩ := ih hN.2 hj'
      simp only [putF, if_neg ne, List.map_cons, h1, h2, List.set_cons_succ]
      exact ⟨trivial, trivial⟩
theorem putF_new {f : Str} {v : V} : ∀ {fs : List (Str × V)}, f ∉ fs.map (·.1) → putF f v fs = fs ++ [(f, v)]
  | [], _ => rfl
  | (g, u) :: fs, h => by
    simp only [List.map_cons, List.mem_cons, not_or] at h
    have ne : g ≠ f := fun z => h.1 z.symm
    simp only [putF, if_neg ne, putF_new h.2, List.cons_append]
theorem lookup_none {f : Str} : ∀ {fs : List (Str × V)}, f ∉ fs.map (·.1) → fs.lookup f = none
  | [], _ => rfl
  | (g, u) :: fs, h => by
    simp only [List.map_cons, List.mem_cons, not_or] at h
    rw [List.lookup_cons, show (f == g) = false from beq_eq_false_iff_ne.mpr h.1]
    exact lookup_none h.2
/-- o.f, o an instance of the class C whose attributes are L, f the j-th of them -/
def rFld (C : Str) (L : List Str) (j : Nat) (to : DTE) : DTE := fun st k => to st fun d st1 => match d with
  | .obj C' ns ds => (C' = C ∧ ns = L) ∧ kO ds[j]? k st1
  | .ref a => match st1.mem a with
    | some (.ins C' ns ds) => (C' = C ∧ ns = L) ∧ kO ds[j]? k st1
    | _ => False
  | _ => False
theorem ins_field {K : PySem.W.Frag} {mg : Str → Option Value} {F : Hp} {L : List Str} {fs : List (Str × V)} {ds : List D} {f : Str} {j : Nat} {x : D} (hL : L.Nodup) (hj : L[j]? = some f) (e : fs.map (·.1) = L) (r : Reps K mg F ds (fs.map (·.2))) (h : ds[j]? = some x) :
    ∃ v, fs.lookup f = some v ∧ Rep K mg F x v := by
  obtain ⟨v, h1, h2⟩ := lookup_at e hL hj
  obtain ⟨u, h3, h4⟩ := r.get h
  rw [h2] at h3; cases h3
  exact ⟨v, h1, h4⟩
theorem d_fld (L : List Str) (j : Nat) (g : FldG X.K X.mg C f) (ho : DPE X o to) (hL : L.Nodup := by decide +kernel) (hj : L[j]? = some f := by rfl) (hb : attributeBase o f X.env (eval o X.env) = eval o X.env := by rfl) : DPE X (.Attribute o f pos) (rFld C L j to) := by
  obtain ⟨c, hc, cl, na⟩ := g.ex
  refine ⟨fun G => (pe_fld (ho.run G) hb).imp fun σ H Q ⟨F, st, k, R, t, fin⟩ => ⟨F, st, _, R, t, fun d st1 F1 H1 v q R1 s1 r => ?_⟩⟩
  split at q
  · obtain ⟨⟨rfl, rfl⟩, q⟩ := q
    obtain ⟨x, hx, q⟩ := kO_of q
    obtain ⟨a, c', dx, fs, rfl, hc', ha, hn, rr⟩ := r
    rw [hc] at hc'; cases hc'
    obtain ⟨v, h1, h2⟩ := ins_field hL hj hn rr hx
    exact ⟨a, c, dx, fs, v, rfl, R1.sub _ _ ha, cl, na, h1, fin x st1 F1 H1 v q R1 s1 h2⟩
  · cases r
    split at q
    · rename_i hm
      obtain ⟨⟨rfl, rfl⟩, q⟩ := q
      obtain ⟨x, hx, q⟩ := kO_of q
      obtain ⟨_, o, ha, c', dx, fs, rfl, hc', hn, rr⟩ := R1.mem _ _ hm
      rw [hc] at hc'; cases hc'
      obtain ⟨v, h1, h2⟩ := ins_field hL hj hn rr hx
      exact ⟨_, c, dx, fs, v, rfl, ha, cl, na, h1, fin x st1 F1 H1 v q R1 s1 h2⟩
    · exact q.elim
  · exact q.elim
/-- o.f = e, f one of the attributes -/
def rSetF (C : Str) (L : List Str) (j : Nat) (to te : DTE) : DTS := fun k st => te st fun d st1 => to st1 fun o st2 => match o with
  | .ref a => match st2.mem a with
    | some (.ins C' ns ds) => (C' = C ∧ ns = L) ∧ k.nx ⟨st2.env, mput st2.mem a (.ins C L (ds.set j d))⟩
    | _ => False
  | _ => False
theorem s_fld (L : List Str) (j : Nat) (g : FldG X.K X.mg C f) (ho : DPE X o to) (he : DPE X e te) (hL : L.Nodup := by decide +kernel) (hj : L[j]? = some f := by rfl) (hz : L.length < 1000 := by decide) (hs : swapsWith e (some (.Attribute o f apos)) pos.line X.env = pure false := by rfl) :
    DPS X (.Assign [.Attribute o f apos] e pos) (rSetF C L j to te) := by
  obtain ⟨c, hc, cl, na⟩ := g.ex
  refine ⟨fun G => (ps_fld (ho.run G) (he.run G) hs).imp fun Dd σ H ⟨F, st, k, R, t, fin⟩ => ⟨F, st, _, R, t, fun d st1 F1 H1 v q R1 s1 r => ⟨F1, st1, _, R1, q, fun ob st2 F2 H2 v2 q2 R2 s2 r2 => ?_⟩⟩⟩
  split at q2
  · cases r2
    split at q2
    · rename_i ns ds hm
      obtain ⟨⟨rfl, rfl⟩, q2⟩ := q2
      obtain ⟨_, o, ha, c', dx, fs, rfl, hc', hn, rr⟩ := R2.mem _ _ hm
      rw [hc] at hc'; cases hc'
      obtain ⟨p1, p2⟩ := putF_at (v := v) hn hL hj
      refine ⟨_, c, dx, fs, rfl, ha, cl, na, by rw [← hn, List.length_map] at hz; exact hz, fin.nx _ F2 σ _ q2 (R2.mset hm ⟨c, dx, _, rfl, hc, p1, ?_⟩) (s1.trans s2)⟩
      rw [p2]
      exact rr.set (r.mono s2) j
    · exact q2.elim
  · exact q2.elim
/-- o.f = e, a new attribute -/
def rNewF (C : Str) (L : List Str) (f : Str) (to te : DTE) : DTS := fun k st => te st fun d st1 => to st1 fun o st2 => match o with
  | .ref a => match st2.mem a with
    | some (.ins C' ns ds) => (C' = C ∧ ns = L) ∧ k.nx ⟨st2.env, mput st2.mem a (.ins C (L ++ [f]) (ds ++ [d]))⟩
    | _ => False
  | _ => False
theorem s_fldN (L : List Str) (g : FldG X.K X.mg C f) (ho : DPE X o to) (he : DPE X e te) (hL : f ∉ L := by decide +kernel) (hz : L.length < 1000 := by decide) (hs : swapsWith e (some (.Attribute o f apos)) pos.line X.env = pure false := by rfl) :
    DPS X (.Assign [.Attribute o f apos] e pos) (rNewF C L f to te) := by
  obtain ⟨c, hc, cl, na⟩ := g.ex
  refine ⟨fun G => (ps_fld (ho.run G) (he.run G) hs).imp fun Dd σ H ⟨F, st, k, R, t, fin⟩ => ⟨F, st, _, R, t, fun d st1 F1 H1 v q R1 s1 r => ⟨F1, st1, _, R1, q, fun ob st2 F2 H2 v2 q2 R2 s2 r2 => ?_⟩⟩⟩
  split at q2
  · cases r2
    split at q2
    · rename_i ns ds hm
      obtain ⟨⟨rfl, rfl⟩, q2⟩ := q2
      obtain ⟨_, o, ha, c', dx, fs, rfl, hc', hn, rr⟩ := R2.mem _ _ hm
      rw [hc] at hc'; cases hc'
      have p1 : putF f v fs = fs ++ [(f, v)] := putF_new (by rw [hn]; exact hL)
      refine ⟨_, c, dx, fs, rfl, ha, cl, na, by rw [← hn, List.length_map] at hz; exact hz, fin.nx _ F2 σ _ q2 (R2.mset hm ⟨c, dx, _, rfl, hc, by rw [p1, List.map_append, hn]; rfl, ?_⟩) (s1.trans s2)⟩
      rw [p1, List.map_append]
      exact rr.append (.one (r.mono s2))
    · exact q2.elim
  · exact q2.elim

/-! ### methods, properties -/
structure MtG (P : Program) (w : World) (K : PySem.W.Frag) (mg : Str → Option Value) (base : Heap) (C m : Str) (k n : Nat) (sp : DSp) : Prop where
  ex : ∃ c f fd ps, mg C = some (.ref c) ∧ Cls K c ∧ Meth K c m f ∧ FnOk P w K mg base CX0 k f fd ps (lift K mg n sp) ∧ Binds K fd ps []
abbrev MtX (X : Cx) (C m : Str) (k n : Nat) (sp : DSp) : Prop := MtG X.prog X.w X.K X.mg X.base C m k n sp
def selfOk (C m : Str) (d : D) (M : Mem) : Prop := match d with
  | .obj C' ns _ => C' = C ∧ m ∉ ns
  | .ref a => match M a with
    | some (.ins C' ns _) => C' = C ∧ m ∉ ns
    | _ => False
  | _ => False
theorem self_of {G : Ent} {F H : Hp} {st : DS} {σ : L2.St} {d : D} {v : V} {c : Addr} (R : Rel X.K X.mg G F st σ H) (r : Rep X.K X.mg F d v) (hc : X.mg C = some (.ref c)) (h : selfOk C m d st.mem) : ∃ a dx fs, v = .ref a ∧ H a = some (.ins c dx fs) ∧ fs.lookup m = none := by
  unfold selfOk at h
  split at h
  · obtain ⟨rfl, h⟩ := h
    obtain ⟨a, c', dx, fs, rfl, hc', ha, hn, rr⟩ := r
    rw [hc] at hc'; cases hc'
    exact ⟨a, dx, fs, rfl, R.sub _ _ ha, lookup_none (by rw [hn]; exact h)⟩
  · cases r
    split at h
    · rename_i hm
      obtain ⟨rfl, h⟩ := h
      obtain ⟨_, o, ha, c', dx, fs, rfl, hc', hn, rr⟩ := R.mem _ _ hm
      rw [hc] at hc'; cases hc'
      exact ⟨_, dx, fs, rfl, ha, lookup_none (by rw [hn]; exact h)⟩
    · exact h.elim
  · exact h.elim
def rMeth (C m : Str) (n : Nat) (sp : DSp) (to : DTE) (t : DTA) : DTE := fun st k => to st fun d st1 => selfOk C m d st1.mem ∧ t st1 fun ds st2 => ds.length + 1 = n ∧ sp (d :: ds) st2.mem fun r M => k r ⟨st2.env, M⟩
theorem d_meth {pl : Sem Bool} (h : MtX X C m k n sp) (hr : Room k X.A) (ho : DPE X o to) (ha : DPA X (e :: es) t)
    (hst : starEach (e :: es) X.env = (false, eval e X.env) :: starEach es X.env := by rfl) (hpl : (backTo pos (starEach es X.env)).any (·.1) = false := by rfl)
    (ht : eval (.Call (.Attribute o m apos) (e :: es) [] pos) X.env = (do
      let ov ← eval o X.env
      standAt apos.atName
      let (f, first) ← holding [ov] (getMethod ov m pl)
      callWith pos f first (backTo pos (starEach (e :: es) X.env)) (backToKw pos (keywordEach [] X.env))) := by rfl) : DPE X (.Call (.Attribute o m apos) (e :: es) [] pos) (rMeth C m n sp to t) := by
  obtain ⟨c, f, fd, ps, hc, cl, me, F, hb⟩ := h.ex
  refine ⟨fun G => (pe_meth (ho.run G) cl me F hr hb .nil pass0 (ha.run G) hst hpl ht).imp fun σ H Q ⟨F, st, k, R, t, fin⟩ => ⟨F, st, _, R, t, fun d st1 F1 H1 v q R1 s1 r => ?_⟩⟩
  obtain ⟨a, dx, fs, ea, ha', hl⟩ := self_of R1 r hc q.1
  refine ⟨a, dx, fs, ea, ha', hl, F1, st1, _, R1, q.2, fun ds st2 F2 H2 vs q2 R2 s2 r2 => ?_⟩
  show lift X.K X.mg n sp (v :: (vs ++ [])) H2 Q E0
  rw [List.append_nil]
  exact lift_of R2 (ds := d :: ds) ⟨v, vs, rfl, r.mono s2, r2⟩ q2.1 q2.2 fun d st' F' H' v q' R' s' rv => fin d st' F' H' v q' R' ((s1.trans s2).trans s') rv
theorem d_meth0 {pl : Sem Bool} (h : MtX X C m k n sp) (hr : Room k X.A) (ho : DPE X o to)
    (ht : eval (.Call (.Attribute o m apos) [] [] pos) X.env = (do
      let ov ← eval o X.env
      standAt apos.atName
      let (f, first) ← holding [ov] (getMethod ov m pl)
      callWith pos f first (backTo pos (starEach [] X.env)) (backToKw pos (keywordEach [] X.env))) := by rfl) : DPE X (.Call (.Attribute o m apos) [] [] pos) (rMeth C m n sp to rNil) := by
  obtain ⟨c, f, fd, ps, hc, cl, me, F, hb⟩ := h.ex
  refine ⟨fun G => (pe_meth0 (ho.run G) cl me F hr hb .nil pass0 ht).imp fun σ H Q ⟨F, st, k, R, t, fin⟩ => ⟨F, st, _, R, t, fun d st1 F1 H1 v q R1 s1 r => ?_⟩⟩
  obtain ⟨a, dx, fs, ea, ha', hl⟩ := self_of R1 r hc q.1
  refine ⟨a, dx, fs, ea, ha', hl, ?_⟩
  show lift X.K X.mg n sp (v :: ([] ++ [])) H1 Q E0
  exact lift_of R1 (ds := [d]) ⟨v, [], rfl, r, rfl⟩ q.2.1 q.2.2 fun d st' F' H' v q' R' s' rv => fin d st' F' H' v q' R' (s1.trans s') rv
structure PrG (P : Program) (w : World) (K : PySem.W.Frag) (mg : Str → Option Value) (base : Heap) (C f : Str) (k : Nat) (sp : DSp) : Prop where
  ex : ∃ c p g fd ps, mg C = some (.ref c) ∧ Cls K c ∧ PropOf K c f p g ∧ FnOk P w K mg base CX0 k g fd ps (lift K mg 1 sp) ∧ Binds K fd ps []
abbrev PrX (X : Cx) (C f : Str) (k : Nat) (sp : DSp) : Prop := PrG X.prog X.w X.K X.mg X.base C f k sp
def insOk (C : Str) (d : D) (M : Mem) : Prop := match d with
  | .obj C' _ _ => C' = C
  | .ref a => match M a with
    | some (.ins C' _ _) => C' = C
    | _ => False
  | _ => False
theorem ins_of {G : Ent} {F H : Hp} {st : DS} {σ : L2.St} {d : D} {v : V} {c : Addr} (R : Rel X.K X.mg G F st σ H) (r : Rep X.K X.mg F d v) (hc : X.mg C = some (.ref c)) (h : insOk C d st.mem) : ∃ a dx fs, v = .ref a ∧ H a = some (.ins c dx fs) := by
  unfold insOk at h
  split at h
  · subst h
    obtain ⟨a, c', dx, fs, rfl, hc', ha, hn, rr⟩ := r
    rw [hc] at hc'; cases hc'
    exact ⟨a, dx, fs, rfl, R.sub _ _ ha⟩
  · cases r
    split at h
    · rename_i hm
      subst h
      obtain ⟨_, o, ha, c', dx, fs, rfl, hc', hn, rr⟩ := R.mem _ _ hm
      rw [hc] at hc'; cases hc'
      exact ⟨_, dx, fs, rfl, ha⟩
    · exact h.elim
  · exact h.elim
def rProp (C : Str) (sp : DSp) (to : DTE) : DTE := fun st k => to st fun d st1 => insOk C d st1.mem ∧ sp [d] st1.mem fun r M => k r ⟨st1.env, M⟩
theorem d_prop (h : PrX X C f k sp) (hr : Room (k + 1) X.A) (ho : DPE X o to) (hb : attributeBase o f X.env (eval o X.env) = eval o X.env := by rfl) : DPE X (.Attribute o f pos) (rProp C sp to) := by
  obtain ⟨c, p, g, fd, ps, hc, cl, po, F, hbi⟩ := h.ex
  refine ⟨fun G => (pe_prop (ho.run G) cl po F hr hbi .nil pass0 hb).imp fun σ H Q ⟨F, st, k, R, t, fin⟩ => ⟨F, st, _, R, t, fun d st1 F1 H1 v q R1 s1 r => ?_⟩⟩
  obtain ⟨a, dx, fs, ea, ha'⟩ := ins_of R1 r hc q.1
  subst ea
  exact ⟨a, dx, fs, rfl, ha', lift_of R1 (ds := [d]) (vs := [.ref a]) ⟨_, [], rfl, r, rfl⟩ rfl q.2 fun d st' F' H' v q' R' s' rv => fin d st' F' H' v q' R' (s1.trans s') rv⟩

/-! ### instances made -/
/-- a class whose __init__ only stores its parameters, as the attributes L -/
structure MkP (P : Program) (w : World) (K : PySem.W.Frag) (mg : Str → Option Value) (base : Heap) (C : Str) (k : Nat) (L : List Str) : Prop where
  ex : ∃ c f fd ps, mg C = some (.ref c) ∧ Mk K c f ∧ FnOk P w K mg base CX0 k f fd ps (fun vs H Q _ => ∃ x dx args, vs = .ref x :: args ∧ args.length = L.length ∧ H x = some (.ins c dx []) ∧ Q .non (upd H x (.ins c dx (L.zip args)))) ∧ Binds K fd ps []
def rMkP (C : Str) (L : List Str) (t : DTA) : DTE := fun st k => t st fun ds st1 => ds.length = L.length ∧ k (.obj C L ds) st1
theorem d_mkP {L : List Str} (h : MkP X.prog X.w X.K X.mg X.base C k L) (hr : Room (k + 1) X.A) (hg : Gl X C) (ha : DPA X (e :: es) t) (hdb : (C == ("__debug__" : Str)) = false := by decide) (he : starEach (e :: es) X.env = (false, eval e X.env) :: starEach es X.env := by rfl) (hpl : (backTo pos (starEach es X.env)).any (·.1) = false := by rfl) :
    DPE X (.Call (.Name C p) (e :: es) [] pos) (rMkP C L t) := by
  obtain ⟨c, f, fd, ps, hc, mk, F, hb⟩ := h.ex
  refine ⟨fun G => (pe_make mk F hr hg hc hb .nil (E := E0) pass0 (ha.run G) hdb he hpl).imp fun σ H Q ⟨F, st, k, R, t, fin⟩ => ⟨F, st, _, R, t, fun ds st1 F1 H1 vs q R1 s1 r => fun x dx hx hdx ne => ?_⟩⟩
  rw [List.append_nil]
  refine ⟨x, dx, vs, rfl, by rw [← r.length]; exact q.1, upd_same, rfl, ?_⟩
  rw [upd_upd]
  obtain ⟨R2, _⟩ := R1.veil (o := .own x) hdx
  have hx2 : upd H1 dx (.own x) x = none := by rw [upd_ne (Ne.symm ne)]; exact hx
  obtain ⟨R3, s3⟩ := R2.laid (o := .ins c dx (L.zip vs)) hx2
  have hl : vs.length = L.length := by rw [← r.length]; exact q.1
  refine fin _ st1 _ _ _ q.2 R3 (s1.trans s3) ⟨x, c, dx, L.zip vs, rfl, hc, upd_same, ?_, ?_⟩
  · rw [List.map_fst_zip]; omega
  · rw [List.map_snd_zip (by omega)]; exact r.mono s3
/-- a new changing instance -/
structure MkG (P : Program) (w : World) (K : PySem.W.Frag) (mg : Str → Option Value) (base : Heap) (C : Str) (k n : Nat) (sp : DSp) : Prop where
  ex : ∃ c f fd ps, mg C = some (.ref c) ∧ Mk K c f ∧ FnOk P w K mg base CX0 k f fd ps (lift K mg n sp) ∧ Binds K fd ps []
def rMkM (C : Str) (n : Nat) (sp : DSp) (t : DTA) : DTE := fun st k => t st fun ds st1 => ds.length + 1 = n ∧ ∀ x, st1.mem x = none → sp (.ref x :: ds) (mput st1.mem x (.ins C [] [])) fun r M => isNon r = true ∧ k (.ref x) ⟨st1.env, M⟩
theorem mkM_up {c : Addr} {G : Ent} {F1 H1 : Hp} {st1 : DS} {σ : L2.St} {k : D → DS → Prop} {Q : VK} {E : XK} {ds : List D} {vs : List V} (hc : X.mg C = some (.ref c)) (R1 : Rel X.K X.mg G F1 st1 σ H1) (r : Reps X.K X.mg F1 ds vs) (hn : ds.length + 1 = n)
    (q : ∀ x, st1.mem x = none → sp (.ref x :: ds) (mput st1.mem x (.ins C [] [])) fun r M => isNon r = true ∧ k (.ref x) ⟨st1.env, M⟩) (fin : FinE X G F1 σ k Q) :
    ∀ x dx, H1 x = none → H1 dx = none → dx ≠ x → lift X.K X.mg n sp (.ref x :: (vs ++ [])) (upd (upd H1 dx (.own x)) x (.ins c dx [])) (fun v H2 => v = .non ∧ Q (.ref x) H2) E := by
  intro x dx hx hdx ne
  rw [List.append_nil]
  obtain ⟨R2, _⟩ := R1.veil (o := .own x) hdx
  have hx2 : upd H1 dx (.own x) x = none := by rw [upd_ne (Ne.symm ne)]; exact hx
  obtain ⟨mx, R3⟩ := R2.mnew (mo := .ins C [] []) (o := .ins c dx []) hx2 ⟨c, dx, [], rfl, hc, rfl, rfl⟩
  have hsp := q x mx
  refine lift_of R3 (ds := .ref x :: ds) (k := fun d st => isNon d = true ∧ k (.ref x) st) ⟨_, vs, rfl, rfl, r⟩ hn hsp fun d st' F' H' v q' R' s' rv => ?_
  have e := isNon_of rv
  rw [q'.1] at e
  exact ⟨of_decide_eq_true e, fin _ st' F' H' _ q'.2 R' s' rfl⟩
theorem d_mkM (h : MkG X.prog X.w X.K X.mg X.base C k n sp) (hr : Room (k + 1) X.A) (hg : Gl X C) (ha : DPA X (e :: es) t) (hdb : (C == ("__debug__" : Str)) = false := by decide) (he : starEach (e :: es) X.env = (false, eval e X.env) :: starEach es X.env := by rfl) (hpl : (backTo pos (starEach es X.env)).any (·.1) = false := by rfl) :
    DPE X (.Call (.Name C p) (e :: es) [] pos) (rMkM C n sp t) := by
  obtain ⟨c, f, fd, ps, hc, mk, F, hb⟩ := h.ex
  exact ⟨fun G => (pe_make mk F hr hg hc hb .nil (E := E0) pass0 (ha.run G) hdb he hpl).imp fun σ H Q ⟨F, st, k, R, t, fin⟩ => ⟨F, st, _, R, t, fun ds st1 F1 H1 vs q R1 s1 r => mkM_up hc R1 r q.1 q.2 fun d st' F' H' v q' R' s' rv => fin d st' F' H' v q' R' (s1.trans s') rv⟩⟩
theorem d_mkM0 (h : MkG X.prog X.w X.K X.mg X.base C k n sp) (hr : Room (k + 1) X.A) (hg : Gl X C) (hdb : (C == ("__debug__" : Str)) = false := by decide) : DPE X (.Call (.Name C p) [] [] pos) (rMkM C n sp rNil) := by
  obtain ⟨c, f, fd, ps, hc, mk, F, hb⟩ := h.ex
  exact ⟨fun G => (pe_make0 mk F hr hg hc hb .nil (E := E0) pass0 hdb).imp fun σ H Q ⟨F, st, k, R, q, fin⟩ => mkM_up (ds := []) (vs := []) hc R rfl q.1 q.2 fin⟩
end
end DL

set_option autoImplicit false
set_option Elab.async false
set_option linter.all false
set_option maxRecDepth 100000
set_option autoImplicit false
set_option maxHeartbeats 1000000
/-! DL7: enumerate and zip over lists and tuples in any mix, texts sign by sign. -/
namespace DL
open PySem PySem.Spec L2

/-- a list or a tuple that is read -/
def SqA (K : PySem.W.Frag) (H : Hp) (a : Addr) (xs : List V) : Prop := SqL K H a xs ∨ SqT K H a xs
section
variable {X : Cx} {pins : List (Addr × Obj)} {σ : L2.St} {H : Hp} {s : Shared} {a : Addr} {xs ys : List V}
theorem sqa_inj (I : Inv X pins σ H s) (h : SqA X.K H a xs) (h' : SqA X.K H a ys) : xs = ys := by
  rcases h with h | h <;> rcases h' with h' | h'
  · exact I.list_inj h h'
  · obtain ⟨_, _, ⟨o, n, e, c, _⟩, _⟩ := I.list h
    obtain ⟨_, _, ⟨o', e', c', _⟩, _⟩ := I.tuple h'
    rw [e] at e'; cases e'; rw [c] at c'; injection c' with z; exact absurd z (by decide)
  · obtain ⟨_, _, ⟨o, n, e, c, _⟩, _⟩ := I.list h'
    obtain ⟨_, _, ⟨o', e', c', _⟩, _⟩ := I.tuple h
    rw [e] at e'; cases e'; rw [c] at c'; injection c' with z; exact absurd z (by decide)
  · exact I.tuple_inj h h'
/-- its iterator's object -/
def itO (isT : Bool) (a : Addr) : Obj := if isT then { cls := .type "tuple_iterator", data := .fields #[.ref a, .int 0 0] } else { cls := .type "list_iterator", data := .fields #[.ref a, .int 0 0] }
def ItAt (isT : Bool) (h : Heap) (it a : Addr) (i : Nat) : Prop := if isT then h.IsTupleIter it a i else h.IsListIter it a i
def CntAt (isT : Bool) (h : Heap) (a : Addr) (its : Array Value) : Prop := if isT then h.IsTuple a its else h.IsList a its
theorem ItAt.at {isT : Bool} {h h' : Heap} {it a : Addr} {i : Nat} (x : ItAt isT h it a i) (k : ∀ o, h.get? it = some o → h'.get? it = some o) : ItAt isT h' it a i := by
  cases isT
  · exact Heap.IsListIter.at (show h.IsListIter it a i from x) k
  · exact Heap.IsTupleIter.at (show h.IsTupleIter it a i from x) k
theorem ItAt.obj {isT : Bool} {h : Heap} {it a : Addr} {i : Nat} (x : ItAt isT h it a i) : ∃ o, h.get? it = some o ∧ ∀ v, o.data ≠ .cell v := by
  cases isT
  · obtain ⟨o, e, _, d⟩ := (show h.IsListIter it a i from x); exact ⟨o, e, fun v q => by rw [d] at q; cases q⟩
  · obtain ⟨o, e, _, d⟩ := (show h.IsTupleIter it a i from x); exact ⟨o, e, fun v q => by rw [d] at q; cases q⟩
theorem ItAt.new {isT : Bool} {h : Heap} {it a : Addr} (e : h.get? it = some (itO isT a)) : ItAt isT h it a 0 := by
  cases isT
  · exact ⟨_, e, rfl, rfl⟩
  · exact ⟨_, e, rfl, rfl⟩
theorem ItAt.ne {isT : Bool} {h : Heap} {it a : Addr} {i : Nat} {its : Array Value} (x : ItAt isT h it a i) (c : CntAt isT h a its) : a ≠ it := by
  rintro rfl
  cases isT
  · obtain ⟨o, e, q, _⟩ := (show h.IsListIter a a i from x)
    obtain ⟨_, e', q', _⟩ := (show h.IsList a its from c)
    rw [e] at e'; cases e'; rw [q] at q'; injection q' with z; exact absurd z (by decide)
  · obtain ⟨o, e, q, _⟩ := (show h.IsTupleIter a a i from x)
    obtain ⟨_, e', q', _⟩ := (show h.IsTuple a its from c)
    rw [e] at e'; cases e'; rw [q] at q'; injection q' with z; exact absurd z (by decide)
theorem draws_of {prog : Program} {w : World} {A : Around} (hh : A.handled = none) (isT : Bool) (it a : Addr) (hne : a ≠ it) (its : Array Value) :
    Draws prog w A it [it, a] its.size (fun i v => its[i]? = some v) (fun i h => ItAt isT h it a i ∧ CntAt isT h a its) := by
  cases isT
  · exact Draws.list hh it a hne its
  · exact Draws.tuple hh it a hne its
theorem begins_of (isT : Bool) (a : Addr) (its : Array Value) : Begins (.ref a) (itO isT a) fun h => CntAt isT h a its := by
  cases isT
  · exact begins_list a its
  · exact begins_tuple a its
/-- which of both it is -/
def SqB (isT : Bool) (K : PySem.W.Frag) (H : Hp) (a : Addr) (xs : List V) : Prop := if isT then SqT K H a xs else SqL K H a xs
theorem SqB.any {isT : Bool} {K : PySem.W.Frag} (h : SqB isT K H a xs) : SqA K H a xs := by
  cases isT
  · exact .inl h
  · exact .inr h
theorem sqb_of {K : PySem.W.Frag} (h : SqA K H a xs) : ∃ isT, SqB isT K H a xs := by
  rcases h with h | h
  · exact ⟨false, h⟩
  · exact ⟨true, h⟩
theorem Inv.sqb {isT : Bool} (I : Inv X pins σ H s) (h : SqB isT X.K H a xs) : ∃ its : List Value, Vals xs its ∧ CntAt isT s.heap a its.toArray := by
  cases isT
  · obtain ⟨its, r, p, _⟩ := I.list (show SqL X.K H a xs from h); exact ⟨its, r, p.isList⟩
  · obtain ⟨its, r, p, _⟩ := I.tuple (show SqT X.K H a xs from h); exact ⟨its, r, p⟩
end
theorem Sub.sqB {isT : Bool} {K : PySem.W.Frag} {F H : Hp} {a : Addr} {xs : List V} (s : Sub F H) (h : SqB isT K F a xs) : SqB isT K H a xs := by
  cases isT
  · exact s.sqL h
  · exact s.sqT h

/-- a walk by new pairs, told by WalksT whenever the state is known -/
theorem turn_pairs {P : Program} {w : World} {K : PySem.W.Frag} {elts : List Expr} {kk : Nat} {tpos : Pos} (e : Addr) (fp wr : List Addr) (own : Nat → Heap → Prop) (J : It)
    (mem : e ∈ fp) (hwr : ∀ b ∈ wr, b ∈ fp) (obj : ∀ i h, own i h → ∀ b ∈ fp, ∃ o, h.get? b = some o ∧ ∀ v, o.data ≠ .cell v) (keep : ∀ i h h', own i h → (∀ b ∈ fp, ∀ o, h.get? b = some o → h'.get? b = some o) → own i h')
    (W : ∀ (X : Cx), X.prog = P → X.w = w → X.K = K → X.A.handled = none → ∀ (i : Nat) (pins : List (Addr × Obj)) (s : Shared) (σ : L2.St) (H : Hp), Inv X pins σ H s → (∀ b ∈ fp, FpOk X pins H b) → own i s.heap → (J.go i H ∨ J.stop i H) →
      ∃ fpW n Pt St Mid, WalksT P w X.A e fpW wr n Pt St Mid ∧ St i s.heap ∧ (J.go i H → i < n) ∧ (J.stop i H → i = n) ∧ (∀ j h, St j h → own j h) ∧
        ∀ vals, Pt i vals → ∃ vs : List V, Vals vs vals.toList ∧ vals.size ≤ sizeLine ∧ ∀ T, H T = none → J.yld i H (.ref T) (upd H T (.tup vs)))
    (self : ∀ (A : Around) (i : Nat) (s : Shared) (Q : Value → Shared → Prop) (E : Value → Shared → Prop), own i s.heap → Q (.ref e) s → wpAny (model P w) A (pyIter (.ref e)) Q E s) :
    Turn P w K (.Tuple elts kk tpos) J fp e own where
  mem := mem
  obj := obj
  keep := keep
  item := by
    intro X hP hw hK hc i pins s σ H E I hf st hg
    obtain ⟨fpW, n, Pt, St, Mid, wk, hs, hlt, _, back, yl⟩ := W X hP hw hK (I.ok.hd hc) i pins s σ H I hf st (.inl hg)
    refine wk.item i s _ _ (hlt hg) hs fun T vals h' tk hp hT ht hm hk => ?_
    obtain ⟨vs, rv, hz, hy⟩ := yl vals hp
    refine ⟨_, rfl, wk.go elts kk tpos i T { s with heap := h', toks := tk } _ _ hm fun h'' hs'' sb => ?_⟩
    have hTw : T ∉ fp := fun z => by
      obtain ⟨o, eo, _⟩ := obj i s.heap st T z
      exact absurd (Nat.lt_of_lt_of_le (Heap.lt_size eo) hT) (Nat.lt_irrefl _)
    have nw : ∀ b, b ∉ fp → b ∉ wr := fun b h z => h (hwr b z)
    subst hP hw
    have ht2 : h''.IsTuple T vals := by
      obtain ⟨o, eo, c, n', d⟩ := ht
      exact ⟨o, sb T o (nw T hTw) eo, c, n', d⟩
    have new : ObjOk X.prog X.w (upd H T (.tup vs)) h'' T (.tup vs) := ⟨by rw [rv.length]; simpa using hz, vals.toList, rv, by obtain ⟨o, eo, c, n', d⟩ := ht2; exact ⟨o, eo, c, n', by simpa using d⟩⟩
    have I1 : Inv X pins σ (upd H T (.tup vs)) { s with heap := h'', toks := tk } :=
      I.turnedNew (ch := fp) (fun b ob hb q => sb b ob (nw b hb) (hk b ob (nw b hb) q)) hf hT new
    refine ⟨.ref T, _, I1, rfl, hy T (I.hok.fresh hT), back _ _ hs'', fun b hb => ?_⟩
    rw [upd_ne (a := T) (b := b) (fun z => hTw (by rw [← z]; exact hb))]
    exact (hf b hb).1
  done := by
    intro X hP hw hK hc i pins s σ H E I hf st hg
    obtain ⟨fpW, n, Pt, St, Mid, wk, hs, _, hn, _, _⟩ := W X hP hw hK (I.ok.hd hc) i pins s σ H I hf st (.inr hg)
    rw [hn hg] at hs
    exact wk.done s _ _ hs fun h' tk k => ⟨rfl, I.turnedL (ch := fp) (fun b o hb q => k b o (fun z => hb (hwr b z)) q) hf⟩
  self := self

/-! ### enumerate -/
def Iea (isT : Bool) (K : PySem.W.Frag) (a : Addr) : It :=
  ⟨fun i H => ∃ (xs : List V) (x : V), SqB isT K H a xs ∧ xs[i]? = some x, fun i H v H' => ∃ T x, v = .ref T ∧ H T = none ∧ H' = upd H T (.tup [.int (i : Nat), x]) ∧ ∀ xs, SqB isT K H a xs → xs[i]? = some x, fun i H => ∃ xs : List V, SqB isT K H a xs ∧ i = xs.length⟩
theorem turn_enumA {P : Program} {w : World} {K : PySem.W.Frag} {elts : List Expr} {kk : Nat} {tpos : Pos} (isT : Bool) (a e it : Addr) :
    Turn P w K (.Tuple elts kk tpos) (Iea isT K a) [e, it] e (fun i h => (∃ old, IsEnum h e it ((i : Nat) : Int) old) ∧ ItAt isT h it a i ∧ e ≠ it) := by
  refine turn_pairs e [e, it] [e, it] _ _ (by simp) (fun b hb => hb) (fun i h st b hb => ?_) (fun i h h' st k => let ⟨⟨old, he⟩, hi, hne⟩ := st; ⟨⟨old, k e (by simp) _ he⟩, hi.at fun o q => k it (by simp) o q, hne⟩) (fun X hP hw hK hh i pins s σ H I hn st hg => ?_) (fun A i s Q E st h => let ⟨⟨_, he⟩, _⟩ := st; wpAny_pyIter_enum he h)
  · obtain ⟨⟨old, he⟩, hi, _⟩ := st
    have e' : b = e ∨ b = it := by simpa using hb
    rcases e' with z | z
    · rw [z]; exact ⟨_, he, fun v q => nomatch q⟩
    · rw [z]; exact hi.obj
  · subst hP hw hK
    obtain ⟨⟨old, he⟩, hi, hne⟩ := st
    obtain ⟨xs, hq⟩ : ∃ xs, SqB isT X.K H a xs := by
      rcases hg with ⟨xs, x, q, _⟩ | ⟨xs, q, _⟩
      · exact ⟨xs, q⟩
      · exact ⟨xs, q⟩
    obtain ⟨its, rv, hc⟩ := Inv.sqb I hq
    have hl := rv.length
    have nea : e ≠ a := by
      rintro rfl
      cases isT
      · obtain ⟨_, e', c', _⟩ := (show s.heap.IsList e its.toArray from hc)
        rw [he] at e'; cases e'; injection c' with z; exact absurd z (by decide)
      · obtain ⟨_, e', c', _⟩ := (show s.heap.IsTuple e its.toArray from hc)
        rw [he] at e'; cases e'; injection c' with z; exact absurd z (by decide)
    have D := draws_of (prog := X.prog) (w := X.w) (A := X.A.in1) hh isT it a (hi.ne hc) its.toArray
    refine ⟨_, _, _, _, _, WalksT.enumFrom 0 D e hne (by simp only [List.mem_cons, List.not_mem_nil, or_false, not_or]; exact ⟨hne, nea⟩) (by simp), ⟨⟨old, by rw [Int.zero_add]; exact he⟩, hi, hc⟩, fun ⟨ys, y, q, hy⟩ => ?_, fun ⟨ys, q, hy⟩ => ?_, fun j h st => ?_, fun vals ⟨t, x, hx, ev⟩ => ?_⟩
    · have e2 := sqa_inj I q.any hq.any
      subst e2
      have := (List.getElem?_eq_some_iff.mp hy).1
      simp only [List.size_toArray]; omega
    · have e2 := sqa_inj I q.any hq.any
      subst e2
      simp only [List.size_toArray]; omega
    · obtain ⟨⟨old, he⟩, hi, _⟩ := st
      exact ⟨⟨old, by rw [Int.zero_add] at he; exact he⟩, hi, hne⟩
    · subst ev
      have hx' : its[i]? = some x := by simpa using hx
      have hlt : i < xs.length := by rw [hl]; exact (List.getElem?_eq_some_iff.mp hx').1
      obtain ⟨u, hu, ru⟩ := rv.get (List.getElem?_eq_getElem hlt)
      rw [hx'] at hu; cases hu
      refine ⟨[.int (i : Nat), xs[i]], .cons ⟨t, by rw [Int.zero_add]⟩ (.cons ru .nil), by show 2 ≤ sizeLine; decide, fun T hT => ⟨T, _, rfl, hT, rfl, fun ys hy => ?_⟩⟩
      rw [sqa_inj I hy.any hq.any]
      exact List.getElem?_eq_getElem hlt
def iEnumB (isT : Bool) (K : PySem.W.Frag) (ta : TA) : TI := fun σ H R => ta σ H fun vs H1 => ∃ a xs, vs = [.ref a] ∧ SqB isT K H1 a xs ∧ R (Iea isT K a) H1
set_option maxHeartbeats 4000000 in
theorem meets_enumerate_new1 {v : Value} {o : Obj} {H : Heap → Prop} (B : Begins v o H) :
    Meets (Builtin.«enumerate.__new__» ⟨[.type "enumerate", v], []⟩) (fun _ R s => H s.heap ∧
      R (.ok (.ret (.ref (s.heap.push o).objs.size))) { s with heap := (s.heap.push o).push { cls := .type "enumerate", data := .fields #[.none, .bool false, .ref s.heap.objs.size, rawInt 0, .none, .none] } }) :=
  .of_wp fun prog w A R s h => by
    obtain ⟨hp, g, d, tk, os⟩ := s; obtain ⟨h1, h⟩ := h
    have hsub := sub_enumerate
    have q1 : ∀ {A' : Around} {E : Value → Shared → Prop} {Q : Value → Shared → Prop}, Q (.ref hp.objs.size) ⟨hp.push o, g, d, tk, os⟩ → wpAny (model prog w) A' (pyIter v) Q E ⟨hp, g, d, tk, os⟩ :=
      fun q => B.iter prog w _ _ ⟨hp, g, d, tk, os⟩ _ h1 q
    wp_walk using q1
    refine wpAny_stack_any fun st => wpAny_pure ?_
    split
    · rename_i c _ _ _ _ _
      cases (c == Value.type "enumerate")
      · wp_walk using q1
        exact ⟨_, rfl, h⟩
      · wp_walk using q1
        exact ⟨_, rfl, h⟩
    · wp_walk using q1
      exact ⟨_, rfl, h⟩
theorem enum1_begins {prog : Program} {w : World} {A : Around} {E : Value → Shared → Prop} {s : Shared} {isT : Bool} {a : Addr} {its : Array Value} {Q : Value → Shared → Prop} (hc : CntAt isT s.heap a its)
    (h : ∀ h', IsEnum h' (s.heap.objs.size + 1) s.heap.objs.size 0 .none → ItAt isT h' s.heap.objs.size a 0 → (∀ b o, s.heap.get? b = some o → h'.get? b = some o) → Q (.ref (s.heap.objs.size + 1)) { s with heap := h' }) :
    wpAny (model prog w) A (call (.type "enumerate") [.ref a]) Q E s := by
  have B := begins_of isT a its
  refine callType_new F.called_enumerate (by decide) (F.typeCall_enumerate_1 _) (F.newCall_enumerate_1 _) (fun obj => F.args_object_init_2 obj _) F.entry_enumerate_new
    (meets_enumerate_new1 B) ⟨hc, ?_⟩
  have hz : (s.heap.push (itO isT a)).objs.size = s.heap.objs.size + 1 := Heap.size_push ..
  show _ ∧ _
  rw [hz]
  have he : IsEnum ((s.heap.push (itO isT a)).push { cls := .type "enumerate", data := .fields #[.none, .bool false, .ref s.heap.objs.size, rawInt 0, .none, .none] }) (s.heap.objs.size + 1) s.heap.objs.size 0 .none := by
    have := Heap.get?_push_size (s.heap.push (itO isT a)) (o := { cls := .type "enumerate", data := .fields #[.none, .bool false, .ref s.heap.objs.size, rawInt 0, .none, .none] }) rfl
    rw [hz] at this; exact this
  refine ⟨⟨_, he, rfl⟩, h _ he (ItAt.new (Heap.get?_push_of_some _ (Heap.get?_push_size _ B.free))) fun b o x => Heap.get?_push_of_some _ (Heap.get?_push_of_some _ x)⟩
section
variable {X : Cx} {pos : Pos} {tg e e2 : Expr} {te te2 : DTE} {t : DTA}
theorem pi_enumB {ta : TA} {p tpos : Pos} {elts : List Expr} {kk : Nat} (isT : Bool) (hg : Gl X "enumerate") (hm : X.mg "enumerate" = none) (ha : PA X [e] ta) (hs : starEach [e] X.env = [(false, eval e X.env)] := by rfl) :
    PI X (.Tuple elts kk tpos) (.Call (.Name "enumerate" p) [e] [] pos) (fun σ H R => ta σ H fun vs H1 => ∃ a xs isT, vs = [.ref a] ∧ SqB isT X.K H1 a xs ∧ R (Iea isT X.K a) H1) := by
  refine ⟨fun pins s σ H R I h => ?_⟩
  refine PyProof.Rows.Call_ (ld_blt I hg hm PyProof.Rows.boot_enumerate (PyProof.Rows.callWith_type1 (thn (ha.run pos pins s σ H _ I h) fun us s1 ⟨vs, H1, I1, r1, q1⟩ => ?_) hs rfl))
  obtain ⟨a, xs, isT, ex, hq, q⟩ := q1
  subst ex
  cases r1 with
  | cons r rr =>
    cases rr
    cases r
    obtain ⟨its, rv, hc⟩ := Inv.sqb I1 hq
    refine enum1_begins hc fun h' he hit hk => wpAny_pyIter_enum he ?_
    have I2 : L2.Inv X pins σ H1 { s1 with heap := h' } := I1.kept (t' := s1.toks) hk
    refine ⟨s1.heap.objs.size + 1, [s1.heap.objs.size + 1, s1.heap.objs.size], _, _, H1, rfl, I2, turn_enumA isT a (s1.heap.objs.size + 1) s1.heap.objs.size, ⟨⟨.none, he⟩, hit, Nat.succ_ne_self _⟩, fun b hb => ?_, q⟩
    have e' : b = s1.heap.objs.size + 1 ∨ b = s1.heap.objs.size := by simpa using hb
    have hle : s1.heap.objs.size ≤ b := by
      rcases e' with z | z
      · rw [z]; exact Nat.le_add_right _ _
      · rw [z]; exact Nat.le_refl _
    exact I1.fpOk hle (I1.hok.fresh hle)
/-- numbered items -/
def numD : Nat → List D → List D
  | _, [] => []
  | n, d :: ds => .tup [.int (n : Nat), d] :: numD (n + 1) ds
theorem numD_len : ∀ (n : Nat) (ds : List D), (numD n ds).length = ds.length
  | _, [] => rfl
  | n, d :: ds => by simp [numD, numD_len (n + 1) ds]
theorem numD_get : ∀ {n i : Nat} {ds : List D} {x : D}, (numD n ds)[i]? = some x → ∃ d, ds[i]? = some d ∧ x = .tup [.int ((n + i : Nat) : Int), d]
  | _, _, [], _, h => by simp [numD] at h
  | n, 0, d :: ds, x, h => by
    simp only [numD, List.getElem?_cons_zero, Option.some.injEq] at h
    exact ⟨d, rfl, h.symm⟩
  | n, i + 1, d :: ds, x, h => by
    simp only [numD, List.getElem?_cons_succ] at h
    obtain ⟨y, h1, h2⟩ := numD_get h
    exact ⟨y, by simpa using h1, by rw [h2, Nat.add_right_comm, Nat.add_assoc]⟩
/-- the items of a list or a tuple -/
def seqD : D → Option (List D)
  | .tup ds => some ds
  | .lst ds => some ds
  | .rl ds => some ds
  | _ => none
theorem seqD_of {K : PySem.W.Frag} {mg : Str → Option Value} {F : Hp} {d : D} {v : V} {ds : List D} (r : Rep K mg F d v) (h : seqD d = some ds) : ∃ a vs isT, v = .ref a ∧ SqB isT K F a vs ∧ Reps K mg F ds vs := by
  cases d with
  | tup _ => cases h; obtain ⟨a, vs, e, q, r⟩ := r; exact ⟨a, vs, true, e, q, r⟩
  | lst _ => cases h; obtain ⟨a, vs, e, q, r⟩ := r; exact ⟨a, vs, false, e, SqL.of q, r⟩
  | rl _ => cases h; obtain ⟨a, vs, e, q, r⟩ := r; exact ⟨a, vs, false, e, q, r⟩
  | _ => cases h
def kL (o : Option (List D)) (k : List D → Prop) : Prop := match o with
  | some x => k x
  | none => False
theorem kL_of {o : Option (List D)} {k : List D → Prop} (h : kL o k) : ∃ x, o = some x ∧ k x := by
  unfold kL at h
  split at h
  · exact ⟨_, rfl, h⟩
  · exact h.elim
def iEnumD (te : DTE) : DTA := fun st k => te st fun d st1 => kL (seqD d) fun ds => k (numD 0 ds) st1
theorem i_enum {p tpos : Pos} {elts : List Expr} {kk : Nat} (hg : Gl X "enumerate") (hm : X.mg "enumerate" = none) (ha : DPE X e te) (hs : starEach [e] X.env = [(false, eval e X.env)] := by rfl) :
    DPI X (.Tuple elts kk tpos) (.Call (.Name "enumerate" p) [e] [] pos) (iEnumD te) :=
  ⟨fun G => pi_imp (pi_enumB true hg hm (pa_cons (ha.run G) pa_nil hs) hs) fun σ H R ⟨F, st, k, Rl, t, fin⟩ => ⟨F, st, _, Rl, t, fun d st1 F1 H1 v q R1 s1 r => by
    obtain ⟨ds, hd, q⟩ := kL_of q
    obtain ⟨a, vs, isT, rfl, hq, ru⟩ := seqD_of r hd
    refine ⟨a, vs, isT, rfl, R1.sub.sqB hq, fin _ st1 F1 H1 _ q R1 s1 ⟨fun i H hi s => ?_, fun H s => ?_, fun i H x H' s y d hd => ?_⟩⟩
    · rw [numD_len, ru.length] at hi
      exact ⟨vs, vs[i], s.sqB hq, List.getElem?_eq_getElem hi⟩
    · rw [numD_len, ru.length]
      exact ⟨vs, s.sqB hq, rfl⟩
    · obtain ⟨T, y, rfl, hT, rfl, hy⟩ := y
      obtain ⟨d', hd', rfl⟩ := numD_get hd
      obtain ⟨v, hv, rv⟩ := ru.get hd'
      rw [hy _ (s.sqB hq)] at hv; cases hv
      refine .inr ⟨T, _, rfl, hT, rfl, T, _, rfl, SqT.of upd_same, _, _, rfl, ?_, y, [], rfl, ?_, rfl⟩
      · show V.int _ = V.int _
        rw [Nat.zero_add]
      · exact rv.mono (Sub.new (s.none hT))⟩⟩

/-! ### zip -/
def Iza (b1 b2 : Bool) (K : PySem.W.Frag) (a b : Addr) : It :=
  ⟨fun i H => ∃ (xs ys : List V) (x y : V), SqB b1 K H a xs ∧ SqB b2 K H b ys ∧ xs[i]? = some x ∧ ys[i]? = some y,
    fun i H v H' => ∃ T x y, v = .ref T ∧ H T = none ∧ H' = upd H T (.tup [x, y]) ∧ (∀ xs, SqB b1 K H a xs → xs[i]? = some x) ∧ ∀ ys, SqB b2 K H b ys → ys[i]? = some y,
    fun i H => ∃ xs ys : List V, SqB b1 K H a xs ∧ SqB b2 K H b ys ∧ i = min xs.length ys.length⟩
theorem cnt_ne {isT : Bool} {h : Heap} {a e : Addr} {its : Array Value} {o : Obj} (c : CntAt isT h a its) (he : h.get? e = some o) (h1 : o.cls ≠ .type "list") (h2 : o.cls ≠ .type "tuple") : e ≠ a := by
  rintro rfl
  cases isT
  · obtain ⟨_, e', c', _⟩ := (show h.IsList e its from c)
    rw [he] at e'; cases e'; exact h1 c'
  · obtain ⟨_, e', c', _⟩ := (show h.IsTuple e its from c)
    rw [he] at e'; cases e'; exact h2 c'
theorem no2 {x a b : Nat} (h1 : x ≠ a) (h2 : x ≠ b) : x ∉ [a, b] := by simp only [List.mem_cons, List.not_mem_nil, or_false, not_or]; exact ⟨h1, h2⟩
theorem apart_of {pins : List (Addr × Obj)} {σ : L2.St} {H : Hp} {s : Shared} {c d : Addr} {zs : List V} (I : L2.Inv X pins σ H s) (f : FpOk X pins H d) (hq : SqA X.K H c zs) : d ≠ c := by
  rintro rfl
  obtain ⟨hd, _, _, hx, _, _⟩ := f
  have hb : X.base.get? d = none := by
    rcases hx with hx | hx
    · cases e : X.base.get? d with
      | none => rfl
      | some o => exact absurd hx (I.ok.noex d o e)
    · exact Heap.get?_none_of_le (Nat.le_trans I.ok.bsz hx)
  rcases hq with hq | hq
  · rcases hq with (q | ⟨_, q⟩) | ⟨_, _, _, q, _⟩
    · rw [hd] at q; cases q
    · rw [hd] at q; cases q
    · have := I.mod.kin d _ q; rw [hb] at this; cases this
  · rcases hq with (q | ⟨_, q⟩) | ⟨_, _, _, q, _⟩
    · rw [hd] at q; cases q
    · rw [hd] at q; cases q
    · have := I.mod.kin d _ q; rw [hb] at this; cases this
theorem turn_zipB {P : Program} {w : World} {K : PySem.W.Frag} {elts : List Expr} {kk : Nat} {tpos : Pos} (b1 b2 : Bool) {a b : Addr} {N : Nat} :
    Turn P w K (.Tuple elts kk tpos) (Iza b1 b2 K a b) [N + 4, N + 2, N + 3, N, N + 1] (N + 4) (fun i h => IsZip h (N + 4) (N + 2) (N + 3) .none ∧ IsTupOf2 h (N + 2) (.ref N) (.ref (N + 1)) ∧ (∃ x y, IsTupOf2 h (N + 3) x y) ∧ ItAt b1 h N a i ∧ ItAt b2 h (N + 1) b i) := by
  refine turn_pairs (N + 4) [N + 4, N + 2, N + 3, N, N + 1] [N + 4, N + 3, N, N + 1] _ _ (by simp) (fun c hc => ?_) (fun i h st c hc => ?_) (fun i h h' st k => ?_) (fun X hP hw hK hh i pins s σ H I hn st hg => ?_) (fun A i s Q E st h => wpAny_pyIter_zip st.1 h)
  · simp only [List.mem_cons, List.not_mem_nil, or_false] at hc ⊢
    rcases hc with z | z | z | z <;> simp [z]
  · obtain ⟨hz, hTI, ⟨x, y, hTO⟩, h1, h2⟩ := st
    have e' : c = N + 4 ∨ c = N + 2 ∨ c = N + 3 ∨ c = N ∨ c = N + 1 := by simpa using hc
    rcases e' with q | q | q | q | q
    · rw [q]; exact ⟨_, hz, fun v q => nomatch q⟩
    · rw [q]; exact ⟨_, hTI, fun v q => nomatch q⟩
    · rw [q]; exact ⟨_, hTO, fun v q => nomatch q⟩
    · rw [q]; exact h1.obj
    · rw [q]; exact h2.obj
  · obtain ⟨hz, hTI, ⟨x, y, hTO⟩, h1, h2⟩ := st
    exact ⟨k _ (by simp) _ hz, k _ (by simp) _ hTI, ⟨x, y, k _ (by simp) _ hTO⟩, h1.at fun o q => k _ (by simp) o q, h2.at fun o q => k _ (by simp) o q⟩
  · subst hP hw hK
    obtain ⟨hz, hTI, ⟨x0, y0, hTO⟩, h1, h2⟩ := st
    obtain ⟨xs, ys, hqx, hqy⟩ : ∃ xs ys, SqB b1 X.K H a xs ∧ SqB b2 X.K H b ys := by
      rcases hg with ⟨xs, ys, _, _, q1, q2, _⟩ | ⟨xs, ys, q1, q2, _⟩
      · exact ⟨xs, ys, q1, q2⟩
      · exact ⟨xs, ys, q1, q2⟩
    obtain ⟨its, rv, c1⟩ := Inv.sqb I hqx
    obtain ⟨its2, rv2, c2⟩ := Inv.sqb I hqy
    have hl := rv.length
    have hl2 := rv2.length
    have D1 := draws_of (prog := X.prog) (w := X.w) (A := X.A.in1) hh b1 N a (h1.ne c1) its.toArray
    have D2 := draws_of (prog := X.prog) (w := X.w) (A := X.A.in1) hh b2 (N + 1) b (h2.ne c2) its2.toArray
    have n1 : ∀ d ∈ [N + 4, N + 2, N + 3, N, N + 1], d ≠ a := fun d hd => apart_of I (hn d hd) hqx.any
    have n2 : ∀ d ∈ [N + 4, N + 2, N + 3, N, N + 1], d ≠ b := fun d hd => apart_of I (hn d hd) hqy.any
    have S : ZipSep2 (N + 4) (N + 2) (N + 3) N (N + 1) [N, a] [N + 1, b] :=
      { TIz := show (N + 2 : Nat) ≠ N + 4 by omega, TOz := show (N + 3 : Nat) ≠ N + 4 by omega, TITO := show (N + 2 : Nat) ≠ N + 3 by omega,
        TIi1 := show (N + 2 : Nat) ≠ N by omega, mem1 := List.mem_cons_self .., zf1 := no2 (show (N + 4 : Nat) ≠ N by omega) (n1 _ (by simp)), Tf1 := no2 (show (N + 3 : Nat) ≠ N by omega) (n1 _ (by simp)),
        TIi2 := show (N + 2 : Nat) ≠ N + 1 by omega, mem2 := List.mem_cons_self .., zf2 := no2 (show (N + 4 : Nat) ≠ N + 1 by omega) (n2 _ (by simp)), Tf2 := no2 (show (N + 3 : Nat) ≠ N + 1 by omega) (n2 _ (by simp)),
        sep1_2 := no2 (show (N : Nat) ≠ N + 1 by omega) (n2 _ (by simp)), sep2_1 := no2 (show (N + 1 : Nat) ≠ N by omega) (n1 _ (by simp)) }
    refine ⟨_, _, _, _, _, WalksT.zipD2 S D1 D2, ⟨hz, hTI, ⟨x0, y0, hTO⟩, ⟨h1, c1⟩, h2, c2⟩, fun ⟨us, ws, x, y, q1, q2, hx, hy⟩ => ?_, fun ⟨us, ws, q1, q2, hy⟩ => ?_, fun j h ⟨g1, g2, g3, g4, g5⟩ => ⟨g1, g2, g3, g4.1, g5.1⟩, fun vals ⟨x, y, hx, hy, ev⟩ => ?_⟩
    · have e1 := sqa_inj I q1.any hqx.any
      have e2 := sqa_inj I q2.any hqy.any
      subst e1 e2
      have l1 := (List.getElem?_eq_some_iff.mp hx).1
      have l2 := (List.getElem?_eq_some_iff.mp hy).1
      simp only [List.size_toArray]; omega
    · have e1 := sqa_inj I q1.any hqx.any
      have e2 := sqa_inj I q2.any hqy.any
      subst e1 e2
      simp only [List.size_toArray]; omega
    · subst ev
      have hx' : its[i]? = some x := by simpa using hx
      have hy' : its2[i]? = some y := by simpa using hy
      have l1 : i < xs.length := by rw [hl]; exact (List.getElem?_eq_some_iff.mp hx').1
      have l2 : i < ys.length := by rw [hl2]; exact (List.getElem?_eq_some_iff.mp hy').1
      obtain ⟨u, hu, ru⟩ := rv.get (List.getElem?_eq_getElem l1)
      obtain ⟨u2, hu2, ru2⟩ := rv2.get (List.getElem?_eq_getElem l2)
      rw [hx'] at hu; cases hu
      rw [hy'] at hu2; cases hu2
      refine ⟨[xs[i], ys[i]], .cons ru (.cons ru2 .nil), by show 2 ≤ sizeLine; decide, fun T hT => ⟨T, _, _, rfl, hT, rfl, fun zs hz => ?_, fun zs hz => ?_⟩⟩
      · rw [sqa_inj I hz.any hqx.any]; exact List.getElem?_eq_getElem l1
      · rw [sqa_inj I hz.any hqy.any]; exact List.getElem?_eq_getElem l2
theorem pi_zipB {ta : TA} {p tpos : Pos} {elts : List Expr} {kk : Nat} (hg : Gl X "zip") (hm : X.mg "zip" = none) (ha : PA X [e, e2] ta) (hs : starEach [e, e2] X.env = (false, eval e X.env) :: starEach [e2] X.env := by rfl) (hpl : (backTo pos (starEach [e2] X.env)).any (·.1) = false := by rfl) :
    PI X (.Tuple elts kk tpos) (.Call (.Name "zip" p) [e, e2] [] pos) (fun σ H R => ta σ H fun vs H1 => ∃ a b xs ys b1 b2, vs = [.ref a, .ref b] ∧ SqB b1 X.K H1 a xs ∧ SqB b2 X.K H1 b ys ∧ R (Iza b1 b2 X.K a b) H1) := by
  refine ⟨fun pins s σ H R I h => ?_⟩
  refine PyProof.Rows.Call_ (ld_blt I hg hm PyProof.Rows.boot_zip (PyProof.Rows.callWith_type1 (thn (ha.run pos pins s σ H _ I h) fun us s1 ⟨vs, H1, I1, r1, q1⟩ => ?_) hs hpl))
  obtain ⟨a, b, xs, ys, b1, b2, ex, hqx, hqy, q⟩ := q1
  subst ex
  cases r1 with
  | cons r rr =>
    cases rr with
    | cons r' rr =>
      cases rr
      cases r
      cases r'
      obtain ⟨its, rv, c1⟩ := Inv.sqb I1 hqx
      obtain ⟨its2, rv2, c2⟩ := Inv.sqb I1 hqy
      refine zip_begins2 (begins_of b1 a its.toArray) (begins_of b2 b its2.toArray) c1 c2 fun h' hz hTI hTO h1 h2 hsz hk => wpAny_pyIter_zip hz ?_
      have I2 : L2.Inv X pins σ H1 { s1 with heap := h' } := I1.kept (t' := s1.toks) hk
      refine ⟨s1.heap.objs.size + 4, _, _, _, H1, rfl, I2, turn_zipB b1 b2, ⟨hz, hTI, ⟨_, _, hTO⟩, ItAt.new h1, ItAt.new h2⟩, fun c hc => ?_, q⟩
      have hle : s1.heap.objs.size ≤ c := by
        have e' : c = s1.heap.objs.size + 4 ∨ c = s1.heap.objs.size + 2 ∨ c = s1.heap.objs.size + 3 ∨ c = s1.heap.objs.size ∨ c = s1.heap.objs.size + 1 := by simpa using hc
        rcases e' with z | z | z | z | z <;> rw [z] <;> first | exact Nat.le_refl _ | exact Nat.le_add_right _ _
      exact I1.fpOk hle (I1.hok.fresh hle)
/-- two by two -/
def zipD : List D → List D → List D
  | x :: xs, y :: ys => .tup [x, y] :: zipD xs ys
  | _, _ => []
theorem zipD_len : ∀ (xs ys : List D), (zipD xs ys).length = min xs.length ys.length
  | [], ys => by simp [zipD]
  | _ :: _, [] => by simp [zipD]
  | x :: xs, y :: ys => by simp only [zipD, List.length_cons, zipD_len xs ys]; omega
theorem zipD_get : ∀ {xs ys : List D} {i : Nat} {z : D}, (zipD xs ys)[i]? = some z → ∃ x y, xs[i]? = some x ∧ ys[i]? = some y ∧ z = .tup [x, y]
  | [], ys, i, z, h => by simp [zipD] at h
  | _ :: _, [], i, z, h => by simp [zipD] at h
  | x :: xs, y :: ys, 0, z, h => by
    simp only [zipD, List.getElem?_cons_zero, Option.some.injEq] at h
    exact ⟨x, y, rfl, rfl, h.symm⟩
  | x :: xs, y :: ys, i + 1, z, h => by
    simp only [zipD, List.getElem?_cons_succ] at h
    obtain ⟨u, v, h1, h2, h3⟩ := zipD_get h
    exact ⟨u, v, by simpa using h1, by simpa using h2, h3⟩
def iZipD (ta tb : DTE) : DTA := fun st k => ta st fun d st1 => tb st1 fun d2 st2 => kL (seqD d) fun xs => kL (seqD d2) fun ys => k (zipD xs ys) st2
theorem i_zip {p tpos : Pos} {elts : List Expr} {kk : Nat} (hg : Gl X "zip") (hm : X.mg "zip" = none) (ha : DPE X e te) (hb : DPE X e2 te2) (hs : starEach [e, e2] X.env = (false, eval e X.env) :: starEach [e2] X.env := by rfl) (hs2 : starEach [e2] X.env = (false, eval e2 X.env) :: starEach [] X.env := by rfl) (hpl : (backTo pos (starEach [e2] X.env)).any (·.1) = false := by rfl) :
    DPI X (.Tuple elts kk tpos) (.Call (.Name "zip" p) [e, e2] [] pos) (iZipD te te2) :=
  ⟨fun G => pi_imp (pi_zipB hg hm (pa_cons (ha.run G) (pa_cons (hb.run G) pa_nil hs2) hs) hs hpl) fun σ H R ⟨F, st, k, Rl, t, fin⟩ => ⟨F, st, _, Rl, t, fun d st1 F1 H1 v q R1 s1 r => ⟨F1, st1, _, R1, q, fun d2 st2 F2 H2 v2 q R2 s2 r2 => by
    obtain ⟨ds, hd, q⟩ := kL_of q
    obtain ⟨ds2, hd2, q⟩ := kL_of q
    obtain ⟨a, vs, b1, rfl, hq, ru⟩ := seqD_of (r.mono s2) hd
    obtain ⟨b, vs2, b2, rfl, hq2, ru2⟩ := seqD_of r2 hd2
    refine ⟨a, b, vs, vs2, b1, b2, rfl, R2.sub.sqB hq, R2.sub.sqB hq2, fin _ st2 F2 H2 _ q R2 (s1.trans s2) ⟨fun i H hi s => ?_, fun H s => ?_, fun i H x H' s y d hd => ?_⟩⟩
    · rw [zipD_len, ru.length, ru2.length] at hi
      exact ⟨vs, vs2, vs[i]'(by omega), vs2[i]'(by omega), s.sqB hq, s.sqB hq2, List.getElem?_eq_getElem _, List.getElem?_eq_getElem _⟩
    · rw [zipD_len, ru.length, ru2.length]
      exact ⟨vs, vs2, s.sqB hq, s.sqB hq2, rfl⟩
    · obtain ⟨T, y1, y2, rfl, hT, rfl, hy1, hy2⟩ := y
      obtain ⟨x1, x2, e1, e2, rfl⟩ := zipD_get hd
      obtain ⟨u1, hu1, ru1⟩ := ru.get e1
      obtain ⟨u2, hu2, ru2'⟩ := ru2.get e2
      rw [hy1 _ (s.sqB hq)] at hu1; cases hu1
      rw [hy2 _ (s.sqB hq2)] at hu2; cases hu2
      have sn : Sub F2 (upd F2 T (.tup [y1, y2])) := Sub.new (s.none hT)
      exact .inr ⟨T, _, rfl, hT, rfl, T, _, rfl, SqT.of upd_same, y1, _, rfl, ru1.mono sn, y2, [], rfl, ru2'.mono sn, rfl⟩⟩⟩⟩

/-! ### a text, sign by sign -/
def signsD (z : Str) : List D := z.cps.toList.map fun c => .str ⟨#[c]⟩
def iStrD (te : DTE) : DTA := fun st k => te st fun d st1 => match d with
  | .str z => k (signsD z) st1
  | _ => False
theorem i_str (h : DPE X e te) : DPI X tg e (iStrD te) := ⟨fun G => pi_imp (pi_str (h.run G)) fun σ H R ⟨F, st, k, Rl, t, fin⟩ => ⟨F, st, _, Rl, t, fun d st1 F1 H1 v q R1 s1 r => by
  split at q
  · rename_i z
    cases r
    have hl : (signsD z).length = z.cps.size := by simp [signsD]
    refine ⟨z, rfl, fin _ st1 F1 H1 _ q R1 s1 ⟨fun i H hi s => walk_str.goes i H (by rw [hl] at hi; exact hi) trivial, fun H s => by rw [hl]; exact walk_str.stops H trivial, fun i H x H' s y d hd => ?_⟩⟩
    have hi : i < z.cps.size := by rw [← hl]; exact (List.getElem?_eq_some_iff.mp hd).1
    obtain ⟨e, c, hc, rfl⟩ := walk_str.yields i H x H' hi trivial y
    unfold signsD at hd
    rw [List.getElem?_map] at hd
    obtain ⟨c', hc', rfl⟩ := Option.map_eq_some_iff.mp hd
    have e2 : z.cps.toList[i]? = some c := by simpa using hc
    rw [e2] at hc'; cases hc'
    exact .inl ⟨e, rfl⟩
  · exact q.elim⟩⟩
end
end DL

set_option autoImplicit false
set_option Elab.async false
set_option linter.all false
set_option maxRecDepth 100000
set_option autoImplicit false
set_option maxHeartbeats 1000000
/-! DL8: written dicts, instances with slots, len and == of instances, several targets, try. -/
namespace DL
open PySem PySem.Spec L2

section
variable {X : Cx} {x m f C : Str} {p p2 pos apos : Pos} {e o a b : Expr} {es : List Expr} {k n i j l : Nat} {sp : DSp} {t : DTA} {ta tb te to : DTE}
/-! ### d[k], d a written dict with text keys -/
structure KTab (K : PySem.W.Frag) (w : World) (mg : Str → Option Value) (x : Str) (tab : Str → Option D) : Prop where
  ex : ∃ p, mg x = some (.ref p) ∧ ∀ z d, tab z = some d → ∃ v, KDct K w p z v ∧ ∀ F, Rep K mg F d v
def rKix (tab : Str → Option D) (te : DTE) : DTE := fun st k => te st fun d st1 => match d with
  | .str z => kO (tab z) k st1
  | _ => False
theorem d_kix {tab : Str → Option D} (h : KTab X.K X.w X.mg x tab) (hg : Gl X x) (he : DPE X e te) (hs : PlainIx e := by exact fun _ _ => rfl) (hd : (x == ("__debug__" : Str)) = false := by decide) : DPE X (.Subscript (.Name x p) e pos) (rKix tab te) := by
  obtain ⟨q, hm, ht⟩ := h.ex
  refine ⟨fun G => (pe_ix ix_kdict (pe_glob (v := .ref q) hg hm rfl hd) (he.run G) hs).imp fun σ H Q ⟨F, st, k, R, t, fin⟩ => ⟨F, st, _, R, t, fun d st1 F1 H1 v1 q1 R1 s1 r => ?_⟩⟩
  split at q1
  · cases r
    obtain ⟨y, hy, q1⟩ := kO_of q1
    obtain ⟨v, hv, rv⟩ := ht _ _ hy
    exact ⟨q, _, v, rfl, rfl, hv, fin y st1 F1 H1 v q1 R1 s1 (rv F1)⟩
  · exact q1.elim

/-! ### instances with slots -/
structure SloG (K : PySem.W.Frag) (mg : Str → Option Value) (C f : Str) (i : Nat) : Prop where
  ex : ∃ c p, mg C = some (.ref c) ∧ SlX.SCls K c ∧ SlX.Slot1 K c f p i
def rSlo (C : Str) (i : Nat) (to : DTE) : DTE := fun st k => to st fun d st1 => match d with
  | .slo C' ds => C' = C ∧ kO ds[i]? k st1
  | _ => False
theorem d_slo (g : SloG X.K X.mg C f i) (ho : DPE X o to) (hb : attributeBase o f X.env (eval o X.env) = eval o X.env := by rfl) : DPE X (.Attribute o f pos) (rSlo C i to) := by
  obtain ⟨c, p, hc, sc, sl⟩ := g.ex
  refine ⟨fun G => (SlX.pe_sl (ho.run G) hb).imp fun σ H Q ⟨F, st, k, R, t, fin⟩ => ⟨F, st, _, R, t, fun d st1 F1 H1 v q R1 s1 r => ?_⟩⟩
  split at q
  · obtain ⟨rfl, q⟩ := q
    obtain ⟨x, hx, q⟩ := kO_of q
    obtain ⟨a, c', dx, vs, rfl, hc', hs, _, rr⟩ := r
    rw [hc] at hc'; cases hc'
    obtain ⟨v, hv, rv⟩ := rr.get hx
    exact ⟨a, c, dx, p, _, i, v, rfl, R1.sub.slt hs, sc, sl, by rw [List.getElem?_map, hv]; rfl, fin x st1 F1 H1 v q R1 s1 rv⟩
  · exact q.elim

/-! ### an instance of either kind -/
def InstH (H : Hp) (a c : Addr) : Prop := (∃ dx fs, H a = some (.ins c dx fs)) ∨ ∃ dx vs, SlX.Slt H a c dx vs
theorem inst_at {pins : List (Addr × Obj)} {σ : L2.St} {H : Hp} {s : Shared} {a c : Addr} (I : L2.Inv X pins σ H s) (h : InstH H a c) : ∃ ox od, PySem.W.InstAt s.heap a ox c (some od) := by
  rcases h with ⟨dx, fs, h⟩ | ⟨dx, vs, h⟩
  · obtain ⟨mA, O, _⟩ := ins_get I.hok h
    obtain ⟨od, J, _⟩ := O.look
    exact ⟨_, od, J⟩
  · obtain ⟨sl, od, _, J, _⟩ := SlX.slt_inst I h
    exact ⟨_, od, J⟩
theorem instH_there {H : Hp} {a c : Addr} (h : InstH H a c) : ∃ o, H a = some o := by
  rcases h with ⟨dx, fs, h⟩ | ⟨dx, vs, ⟨h, _⟩ | ⟨h, _⟩⟩
  · exact ⟨_, h⟩
  · exact ⟨_, h⟩
  · exact ⟨_, h⟩
def anyOk (C : Str) (d : D) (M : Mem) : Prop := match d with
  | .obj C' _ _ => C' = C
  | .slo C' _ => C' = C
  | .ref a => match M a with
    | some (.ins C' _ _) => C' = C
    | _ => False
  | _ => False
theorem any_of {G : Ent} {F H : Hp} {st : DS} {σ : L2.St} {d : D} {v : V} {c : Addr} (R : Rel X.K X.mg G F st σ H) (r : Rep X.K X.mg F d v) (hc : X.mg C = some (.ref c)) (h : anyOk C d st.mem) : ∃ a, v = .ref a ∧ InstH H a c := by
  unfold anyOk at h
  split at h
  · subst h
    obtain ⟨a, c', dx, fs, rfl, hc', ha, hn, rr⟩ := r
    rw [hc] at hc'; cases hc'
    exact ⟨a, rfl, .inl ⟨dx, fs, R.sub _ _ ha⟩⟩
  · subst h
    obtain ⟨a, c', dx, vs, rfl, hc', ha, hn, rr⟩ := r
    rw [hc] at hc'; cases hc'
    exact ⟨a, rfl, .inr ⟨dx, _, R.sub.slt ha⟩⟩
  · cases r
    split at h
    · rename_i hm
      subst h
      obtain ⟨_, o, ha, c', dx, fs, rfl, hc', hn, rr⟩ := R.mem _ _ hm
      rw [hc] at hc'; cases hc'
      exact ⟨_, rfl, .inl ⟨dx, fs, ha⟩⟩
    · exact h.elim
  · exact h.elim
/-- a special method of a class that keeps a promise over data -/
structure SpG (P : Program) (w : World) (K : PySem.W.Frag) (mg : Str → Option Value) (base : Heap) (C m : Str) (k n : Nat) (sp : DSp) : Prop where
  ex : ∃ c f fd ps, mg C = some (.ref c) ∧ PySem.W.findIn K (.ref c) m = some (some (.ref f)) ∧ PySem.W.isFn K (.ref f) = true ∧ FnOk P w K mg base CX0 k f fd ps (lift K mg n sp) ∧ Binds K fd ps []
/-- len(o) by its class's __len__ -/
def rLenC (C : Str) (sp : DSp) (to : DTE) : DTE := fun st k => to st fun d st1 => anyOk C d st1.mem ∧ sp [d] st1.mem fun r M => match r with
  | .int n => (0 ≤ n ∧ n < 2 ^ 63) ∧ k (.int n) ⟨st1.env, M⟩
  | _ => False
theorem call_lenC {c g : Addr} {fd : FuncData} {ps : List Str} {sp : Sp} (hs : PySem.W.findIn X.K (.ref c) "__len__" = some (some (.ref g))) (hf : PySem.W.isFn X.K (.ref g) = true) (F : FnOk X.prog X.w X.K X.mg X.base CX0 k g fd ps sp) (hb : Binds X.K fd ps []) (hr : Room (k + 1) X.A) :
    CallR X (.builtin "len") (fun xs H Q => ∃ a, xs = [.ref a] ∧ InstH H a c ∧ sp [.ref a] H (fun z H' => ∃ n : Int, z = .int n ∧ (0 ≤ n ∧ n < 2 ^ 63) ∧ Q z H') E0) := by
  intro pins s σ H xs us Q I r h
  obtain ⟨a, rfl, hi, q⟩ := h
  obtain ⟨u, rfl, ru⟩ := r.one
  cases (show u = Value.ref a from ru)
  obtain ⟨ox, od, J⟩ := inst_at I hi
  obtain ⟨m, hF⟩ := I.fr
  refine PySem.W.len_K hF I.ok.mod.kin J hs hf (wpAny_mono (wpAny_call (SlX.run_at (us := [.ref a]) (ws := [.ref a]) (F.raw hb .nil) hr.in1 I.env0.in1 pass0 I (.cons rfl .nil) q)) (fun w s' z => ?_) fun _ _ x => x)
  obtain ⟨z', H', I', rz, n, ez, hn, qz⟩ := z
  subst ez
  obtain ⟨t, rfl⟩ := (show ∃ t, w = Value.int n t from rz)
  exact ⟨hn, .int n, H', I'.tok _, ⟨_, rfl⟩, qz⟩
theorem d_lenC (h : SpG X.prog X.w X.K X.mg X.base C "__len__" k 1 sp) (hr : Room (k + 1) X.A) (hg : Gl X "len") (hm : X.mg "len" = none) (ho : DPE X o to) (he : starEach [o] X.env = (false, eval o X.env) :: starEach [] X.env := by rfl) : DPE X (.Call (.Name "len" p) [o] [] pos) (rLenC C sp to) := by
  obtain ⟨c, f, fd, ps, hc, hs, hf, F, hb⟩ := h.ex
  refine ⟨fun G => (pe_callB (call_lenC hs hf F hb hr) hg hm PySem.boot_len (pa_cons (ho.run G) pa_nil he) (by decide) (by decide) he rfl).imp fun σ H Q ⟨F, st, k, R, t, fin⟩ => ⟨F, st, _, R, t, fun d st1 F1 H1 v q R1 s1 r => ?_⟩⟩
  obtain ⟨a, ea, hi⟩ := any_of R1 r hc q.1
  subst ea
  refine ⟨a, rfl, hi, lift_of R1 (ds := [d]) (vs := [.ref a]) (k := fun r st => match r with | .int n => (0 ≤ n ∧ n < 2 ^ 63) ∧ k (.int n) st | _ => False) ⟨_, [], rfl, r, rfl⟩ rfl q.2 fun d st' F' H' v q' R' s' rv => ?_⟩
  cases d <;> first | exact q'.elim | skip
  cases rv
  exact ⟨_, rfl, q'.1, fin _ st' F' H' _ q'.2 R' (s1.trans s') rfl⟩

/-! ### isinstance with a class of the text -/
structure IsG (K : PySem.W.Frag) (mg : Str → Option Value) (C : Str) : Prop where
  ex : ∃ c, mg C = some (.ref c) ∧ SlX.SCls K c ∧ SlX.SIsi K c ∧ PySem.W.kitOne K (.ref c) (.ref c) = some true ∧ ∀ T ∈ ["NoneType", "bool", "int", "str", "tuple", "list", "dict"], PySem.W.kitOne K (.type T) (.ref c) = some false
def isSlo (C : Str) : D → Option Bool
  | .slo C' _ => if C' = C then some true else none
  | d => if (tyN d).isSome then some false else none
def kBo (o : Option Bool) (k : Bool → Prop) : Prop := match o with
  | some x => k x
  | none => False
theorem kBo_of {o : Option Bool} {k : Bool → Prop} (h : kBo o k) : ∃ x, o = some x ∧ k x := by
  unfold kBo at h
  split at h
  · exact ⟨_, rfl, h⟩
  · exact h.elim
def rIsC (C : Str) (te : DTE) : DTE := fun st k => te st fun d st1 => kBo (isSlo C d) fun b => k (.bl b) st1
theorem tyN_mem {d : D} {T : String} (h : tyN d = some T) : T ∈ ["NoneType", "bool", "int", "str", "tuple", "list", "dict"] := by
  cases d <;> cases h <;> simp
theorem d_isC (h : IsG X.K X.mg C) (hg : Gl X "isinstance") (hm : X.mg "isinstance" = none) (hg2 : Gl X C) (ha : DPE X a ta) (hd2 : (C == ("__debug__" : Str)) = false := by decide)
    (he : starEach [a, .Name C p2] X.env = (false, eval a X.env) :: starEach [.Name C p2] X.env := by rfl) (he2 : starEach [.Name C p2] X.env = (false, eval (.Name C p2) X.env) :: starEach [] X.env := by rfl) (hpl : (backTo pos (starEach [.Name C p2] X.env)).any (·.1) = false := by rfl) : DPE X (.Call (.Name "isinstance" p) [a, .Name C p2] [] pos) (rIsC C ta) := by
  obtain ⟨c, hc, sc, si, k1, k0⟩ := h.ex
  refine ⟨fun G => (pe_callB (call_isi.or (SlX.call_isiSl (.ref c))) hg hm (by decide +kernel) (pa_cons (ha.run G) (pa_cons (pe_glob (v := .ref c) hg2 hc rfl hd2) pa_nil he2) he) (by decide) (by decide) he hpl).imp fun σ H Q h => ?_⟩
  obtain ⟨F, st, k, R, t, fin⟩ := h
  refine ⟨F, st, _, R, t, fun d st1 F1 H1 v1 q R1 s1 r => ?_⟩
  obtain ⟨b, hb, q2⟩ := kBo_of q
  have plain : ∀ T, tyN d = some T → b = false → L2.rIsi X.K [v1, .ref c] H1 Q := fun T hT hb => by
    subst hb
    exact ⟨v1, .ref c, .type T, .ref c, false, rfl, .own c, tyX_of R1.sub r hT, k0 T (tyN_mem hT), fin _ st1 F1 H1 _ q2 R1 s1 rfl⟩
  by_cases hs : ∃ C' ds, d = .slo C' ds
  · obtain ⟨C', ds, rfl⟩ := hs
    simp only [isSlo] at hb
    split at hb
    · cases hb
      rename_i hC
      subst hC
      obtain ⟨a, c', dx, vs, rfl, hc', hsl, _, _⟩ := r
      rw [hc] at hc'; cases hc'
      exact .inr ⟨a, c, dx, _, .ref c, true, rfl, rfl, fun w z => z, R1.sub.slt hsl, sc, si, k1, fin _ st1 F1 H1 _ q2 R1 s1 rfl⟩
    · cases hb
  · have hb' : (if (tyN d).isSome then some false else none) = some b := by
      cases d <;> first | exact hb | exact absurd ⟨_, _, rfl⟩ hs
    split at hb'
    · rename_i ht
      cases hb'
      obtain ⟨T, hT⟩ := Option.isSome_iff_exists.mp ht
      exact .inl (plain T hT rfl)
    · cases hb'

/-! ### several names at once -/
def rPar3 (i j l : Nat) (t : DTA) : DTS := fun k st => t st fun ds st1 => match ds with
  | [d, e, f] => k.nx ⟨((st1.env.set i (.val d)).set j (.val e)).set l (.val f), st1.mem⟩
  | _ => False
theorem s_par3 (i j l : Nat) {x y z : Str} {a b c : Expr} {ta : DTA} {px py pz pt : Pos} {kt k2 pt2} (hc : X.calm = true) (hN : X.N.Nodup) (ha : DPA X [a, b, c] ta) (hi : X.N[i]? = some x := by rfl) (hj : X.N[j]? = some y := by rfl) (hl : X.N[l]? = some z := by rfl) (hij : i ≠ j := by decide) (hil : i ≠ l := by decide) (hjl : j ≠ l := by decide)
    (hx : X.env.scope.names.lookup x = some .local := by rfl) (hy : X.env.scope.names.lookup y = some .local := by rfl) (hz : X.env.scope.names.lookup z = some .local := by rfl)
    (hw : swappedStores [.Tuple [.Name x px, .Name y py, .Name z pz] kt pt] (.Tuple [a, b, c] k2 pt2) X.env = pure (some [x, y, z]) := by rfl)
    (hs : swapsWithSole [.Tuple [.Name x px, .Name y py, .Name z pz] kt pt] (.Tuple [a, b, c] k2 pt2) pos.line X.env = pure false := by rfl) :
    DPS X (.Assign [.Tuple [.Name x px, .Name y py, .Name z pz] kt pt] (.Tuple [a, b, c] k2 pt2) pos) (rPar3 i j l ta) :=
  ⟨fun G => (ps_par3 hc hN hi hj hl hij hil hjl hx hy hz (ha.run G) hw hs).imp fun D σ H ⟨F, st, k, R, t, fin⟩ => ⟨F, st, _, R, t, fun ds st1 F1 H1 vs q R1 s1 r => by
    split at q
    · obtain ⟨v, w, rfl, rv, u, w2, rfl, ru, u3, w3, rfl, r3, e⟩ := r
      cases e
      exact ⟨v, u, u3, rfl, fin.nx _ F1 _ H1 q (((R1.setV rv).setV ru).setV r3) s1⟩
    · exact q.elim⟩⟩
/-- x, y = e, [..]: the list is y's own -/
def rParO (i j : Nat) (te : DTE) (t : DTA) : DTS := fun k st => te st fun d st1 => t st1 fun ds st2 => ds.length ≤ sizeLine ∧ k.nx ⟨(st2.env.set i (.val d)).set j (.own ds), st2.mem⟩
theorem s_parVO (i j : Nat) {x y : Str} {a : Expr} {bs : List Expr} {pb : Pos} {ta : DTE} {tb : DTA} {px py pt : Pos} {kt k2 pt2} (hc : X.calm = true) (hN : X.N.Nodup) (ha : DPE X a ta) (hb : DPA X bs tb) (hi : X.N[i]? = some x := by rfl) (hj : X.N[j]? = some y := by rfl) (hij : i ≠ j := by decide)
    (hx : X.env.scope.names.lookup x = some .local := by rfl) (hy : X.env.scope.names.lookup y = some .local := by rfl)
    (hw : swappedStores [.Tuple [.Name x px, .Name y py] kt pt] (.Tuple [a, .List bs pb] k2 pt2) X.env = pure (some [x, y]) := by rfl)
    (hs : swapsWithSole [.Tuple [.Name x px, .Name y py] kt pt] (.Tuple [a, .List bs pb] k2 pt2) pos.line X.env = pure false := by rfl)
    (hse : starEach [a, .List bs pb] X.env = (false, eval a X.env) :: starEach [.List bs pb] X.env := by rfl) :
    DPS X (.Assign [.Tuple [.Name x px, .Name y py] kt pt] (.Tuple [a, .List bs pb] k2 pt2) pos) (rParO i j ta tb) :=
  ⟨fun G => (ps_par hc hN hi hj hij hx hy (pa_cons (ha.run G) (pa_cons (pe_lst (hb.run G)) pa_nil) hse) hw hs).imp fun Dd σ H ⟨F, st, k, R, t, fin⟩ => ⟨F, st, _, R, t, fun d st1 F1 H1 v q R1 s1 r => ⟨F1, st1, _, R1, q, fun ds st2 F2 H2 vs q2 R2 s2 r2 => ⟨by rw [← r2.length]; exact q2.1, fun p hp =>
    ⟨v, .ref p, rfl, fin.nx _ F2 _ _ q2.2 ((R2.setV (r.mono s2)).setO hp r2) (s1.trans s2)⟩⟩⟩⟩⟩
/-- name += e -/
def rAug (i : Nat) (te : DTE) : DTS := fun k st => match st.env[i]? with
  | some (.val (.int x)) => te st fun d st1 => match d with
    | .int y => k.nx ⟨st1.env.set i (.val (.int (x + y))), st1.mem⟩
    | _ => False
  | _ => False
theorem s_aug (i : Nat) {x : Str} {p : Pos} (hN : X.N.Nodup) (he : DPE X e te) (hi : X.N[i]? = some x := by rfl) (hx : Loc X.env.scope x := by first | exact Or.inl rfl | exact Or.inr rfl) (hf : X.fn x = true ∨ X.env.scope.names.lookup x = some .local := by first | exact .inl rfl | exact .inr rfl) :
    DPS X (.AugAssign (.Name x p) .Add e pos) (rAug i te) :=
  ⟨fun G => (ps_aug hN hi hx (he.run G) ip_add hf).imp fun D σ H ⟨F, st, k, R, t, fin⟩ => by
    unfold rAug at t
    split at t
    · rename_i z hz
      obtain ⟨o, e1, v, e2, rv⟩ := R.slot i _ hz
      subst e2
      cases rv
      refine ⟨_, e1, F, st, _, R, t, fun d st1 F1 H1 v q R1 s1 r => ?_⟩
      split at q
      · cases r
        exact ⟨_, _, rfl, rfl, fin.nx _ F1 _ H1 q (R1.setV (d := .int _) rfl) s1⟩
      · exact q.elim
    · exact t.elim⟩

/-! ### try, where nothing is raised -/
theorem s_try {body : List Stmt} {h0 : ExceptHandler} {hs : List ExceptHandler} {tb : DTS} (hb : DPSs X.nox body tb) : DPS X (.Try body (h0 :: hs) [] [] pos) tb := ⟨fun G => ps_try_thru0 (hb.run G)⟩

/-! ### texts joined -/
def strsD : List D → Option (List Str)
  | [] => some []
  | .str b :: ds => (strsD ds).map (b :: ·)
  | _ :: _ => none
theorem strsD_of {K : PySem.W.Frag} {mg : Str → Option Value} {F : Hp} : ∀ {ds : List D} {vs : List V} {bs : List Str}, Reps K mg F ds vs → strsD ds = some bs → vs = bs.map V.str
  | [], vs, bs, r, h => by cases r; cases h; rfl
  | d :: ds, vs, bs, ⟨v, r, e, q, t⟩, h => by
    subst e
    cases d with
    | str b =>
      cases q
      simp only [strsD, Option.map_eq_some_iff] at h
      obtain ⟨cs, h1, rfl⟩ := h
      rw [strsD_of t h1]; rfl
    | _ => cases h
theorem strsD_map (bs : List Str) : strsD (bs.map D.str) = some bs := by
  induction bs with
  | nil => rfl
  | cons b bs ih => simp [strsD, ih]
def kS (o : Option (List Str)) (k : List Str → Prop) : Prop := match o with
  | some x => k x
  | none => False
theorem kS_of {o : Option (List Str)} {k : List Str → Prop} (h : kS o k) : ∃ x, o = some x ∧ k x := by
  unfold kS at h
  split at h
  · exact ⟨_, rfl, h⟩
  · exact h.elim
def rJoin (to te : DTE) : DTE := fun st k => to st fun o st1 => match o with
  | .str a => te st1 fun d st2 => kL (seqD d) fun ds => kS (strsD ds) fun ys => (ys.map (·.length)).sum + ys.length * a.length ≤ 16777216 ∧ k (.str (Txt.join a ys)) st2
  | _ => False
theorem d_join (ho : DPE X o to) (he : DPE X e te) (hs : starEach [e] X.env = [(false, eval e X.env)] := by rfl) (hbase : attributeBase o "join" X.env (eval o X.env) = eval o X.env := by rfl) (hline : (apos.endLine == pos.line) = true := by rfl) :
    DPE X (.Call (.Attribute o "join" apos) [e] [] pos) (rJoin to te) :=
  ⟨fun G => (pe_join (ho.run G) (he.run G) hs hbase hline).imp fun σ H Q ⟨F, st, k, R, t, fin⟩ => ⟨F, st, _, R, t, fun o st1 F1 H1 v q R1 s1 r => by
    split at q
    · cases r
      refine ⟨⟨_, rfl⟩, F1, st1, _, R1, q, fun d st2 F2 H2 v2 q2 R2 s2 r2 => ?_⟩
      obtain ⟨ds, hd, q2⟩ := kL_of q2
      obtain ⟨ys, hy, q2⟩ := kS_of q2
      obtain ⟨a, vs, isT, rfl, hq, ru⟩ := seqD_of r2 hd
      have e := strsD_of ru hy
      refine ⟨_, a, ys, rfl, rfl, ?_, q2.1, fin _ st2 F2 H2 _ q2.2 R2 (s1.trans s2) rfl⟩
      rw [← e]
      cases isT
      · exact .inl (R2.sub.sqL (show SqL X.K F2 a vs from hq))
      · exact .inr (R2.sub.sqT (show SqT X.K F2 a vs from hq))
    · exact q.elim⟩⟩
end
end DL

set_option autoImplicit false
set_option Elab.async false
set_option linter.all false
set_option maxRecDepth 100000
set_option autoImplicit false
set_option maxHeartbeats 1000000
/-! DL9: == of instances without __eq__, instances with slots made, inductions over loops. -/
namespace DL
open PySem PySem.Spec L2

/-! ### loops, by induction -/
theorem for_ind {g : DTG} {tb : DTS} {k : DEnds} {items : List D} {st : DS} (I : List D → DS → Prop) (h : I items st) (hn : ∀ st, I [] st → k.nx st)
    (hc : ∀ (d : D) (ds : List D) (st : DS) (L : DS → Prop), I (d :: ds) st → (∀ st', I ds st' → L st') → g d st fun st1 => tb { nx := L, rt := k.rt, ct := L, bk := k.nx } st1) : rForL g tb k items st := by
  induction items generalizing st with
  | nil => exact hn _ h
  | cons d ds ih => exact hc d ds st (rForL g tb k ds) h fun st' h' => ih h'
theorem comp_ind {g : DTG} {tt : DTT} {te : DTE} {env : List Sl} {k : List D → Mem → Prop} {items acc : List D} {M : Mem} (I : List D → List D → Mem → Prop) (h : I items acc M) (hn : ∀ acc M, I [] acc M → k acc M)
    (hc : ∀ (d : D) (ds acc : List D) (M : Mem) (L : List D → Mem → Prop), I (d :: ds) acc M → (∀ acc' M', I ds acc' M' → L acc' M') →
      g d ⟨env, M⟩ fun st1 => tt st1 fun b st2 => if b = true then te st2 fun y st3 => acc.length < sizeLine ∧ L (acc ++ [y]) st3.mem else L acc st2.mem) : rCompL g tt te env k items acc M := by
  induction items generalizing acc M with
  | nil => exact hn _ _ h
  | cons d ds ih => exact hc d ds acc M (rCompL g tt te env k ds) h fun acc' M' h' => ih h'
/-! ### a call that is never made -/
theorem fng_never {P : Program} {w : World} {K : PySem.W.Frag} {mg : Str → Option Value} {base : Heap} {y qual : Str} {st : Stmt} {f : Addr} {fd : FuncData} {N ps : List Str} {n : Nat} (F : Fun K y qual st f fd) (hm : mg y = some (.ref f)) (S : FnScope N ps (defScope st))
    (hbi : ∀ (kV doc pm : Value) (an : Option Addr) (cdv ct : Value) (us : List Value), us.length = ps.length → bindArgs (PySem.W.fnOf y qual (defArgs st) (defBody st) (defScope st) .none kV doc pm an cdv ct) ⟨us, []⟩ = pure (ps.zip us))
    (hn : ps.length = n) : FnG P w K mg base y 1 n (fun _ _ _ => False) := by
  refine fng_mk (k := 0) F hm S hbi hn (fun cdv A outer s H E hr => ⟨fun _ _ => False, ⟨fun G => pss_never.imp fun D σ H ⟨F, st, k, R, t, fin⟩ => t.elim⟩, fun ds M q _ h => h⟩)

/-! ### == and != of two instances of one class that has none of its own -/
section
variable {prog : Program} {w : World} {A : Around} {E : Value → Shared → Prop} {s : Shared} {K : PySem.W.Frag} {x y C : Addr} {ox oy : Obj} {od od' : Option Obj}
theorem notTuple (I : PySem.W.InstAt s.heap x ox C od) : ox.cls ≠ .type "tuple" := by rw [I.cls]; intro e; cases e
theorem callEq {Q : Value → Shared → Prop} (X : K.In s.heap) (I : PySem.W.InstAt s.heap x ox C od) (J : PySem.W.InstAt s.heap y oy C od') (hm : PySem.W.mroIn K C (.type "object") = some true) (hq : Q (if x = y then .bool true else .notImplemented) s) :
    wpAny (model prog w) A (call (.builtin "object.__eq__") [.ref x, .ref y]) Q E s := by
  refine wpAny_call (codeAny_call_builtin F.cmp_object.eq.plain F.cmpEntry_eq (PySem.W.check_slot F.cmpKind_eq F.cmpSplit_eq (I.type.andThen (PySem.W.looks_mroIn X hm)) (F.cmpArgs_eq _ _) ?_))
  by_cases h : x = y
  · subst h
    rw [if_pos rfl] at hq
    exact objEq_entry_same hq
  · rw [if_neg h] at hq
    exact objEq_entry_other h I.at_ J.at_ (notTuple I) hq
theorem ifEq {Q : Option Value → Shared → Prop} (X : K.In s.heap) (I : PySem.W.InstAt s.heap x ox C od) (J : PySem.W.InstAt s.heap y oy C od') (hm : PySem.W.mroIn K C (.type "object") = some true) (hs : PySem.W.findIn K (.ref C) "__eq__" = some (some (.builtin "object.__eq__")))
    (hq : Q (some (if x = y then .bool true else .notImplemented)) s) : wpAny (model prog w) A (callSpecialIfBound? (.ref x) "__eq__" [.ref y]) Q E s :=
  HN.ifBound_objEq X I hs (callEq X I J hm hq)
theorem tryEq {Q : Option Value → Shared → Prop} (X : K.In s.heap) (I : PySem.W.InstAt s.heap x ox C od) (J : PySem.W.InstAt s.heap y oy C od') (hm : PySem.W.mroIn K C (.type "object") = some true) (hs : PySem.W.findIn K (.ref C) "__eq__" = some (some (.builtin "object.__eq__")))
    (hq : Q (if x = y then some (.bool true) else none) s) : wpAny (model prog w) A (tryCompare (.ref x) "__eq__" (.ref y)) Q E s := by
  unfold tryCompare
  refine wpAny_bind (ifEq X I J hm hs ?_)
  by_cases h : x = y
  · simp only [if_pos h] at hq ⊢
    exact wpAny_pure hq
  · simp only [if_neg h] at hq ⊢
    exact wpAny_pure hq
theorem ifNe {args : List Value} {Q : Option Value → Shared → Prop} (X : K.In s.heap) (I : PySem.W.InstAt s.heap x ox C od) (hs : PySem.W.findIn K (.ref C) "__ne__" = some (some (.builtin "object.__ne__")))
    (h : wpAny (model prog w) A (call (.builtin "object.__ne__") (.ref x :: args)) (fun v => Q (some v)) E s) : wpAny (model prog w) A (callSpecialIfBound? (.ref x) "__ne__" args) Q E s := by
  simp only [callSpecialIfBound?, bindSpecialIfBound?]
  refine wpAny_holding (wpAny_bind (wpAny_bind (wpAny_bind (I.type.here ((PySem.W.looks_findIn X hs).here ?_)))))
  refine wpAny_bind (wpAny_askSetting (wpAny_ite ?_))
  have fin : wpAny (model prog w) A (call (.builtin "object.__ne__") ([.ref x] ++ args) >>= fun v => pure (some v)) Q E s := wpAny_bind (wpAny_mono h (fun v s' h' => wpAny_pure h') fun _ _ h' => h')
  split
  · exact wpAny_bind (wpAny_of_eq (F.cmp_object.ne.bind _) (wpAny_pure (by exact fin)))
  · exact wpAny_tryCatch (wpAny_bind (wpAny_of_eq (F.cmp_object.ne.bind _) (wpAny_pure (by exact fin))))
theorem callNe {Q : Value → Shared → Prop} (hu : A.units + 1 < cLine) (X : K.In s.heap) (I : PySem.W.InstAt s.heap x ox C od) (J : PySem.W.InstAt s.heap y oy C od') (hm : PySem.W.mroIn K C (.type "object") = some true) (hs : PySem.W.findIn K (.ref C) "__eq__" = some (some (.builtin "object.__eq__")))
    (hq : Q (if x = y then .bool false else .notImplemented) s) : wpAny (model prog w) A (call (.builtin "object.__ne__") [.ref x, .ref y]) Q E s := by
  refine wpAny_call (codeAny_call_builtin F.cmp_object.ne.plain F.cmpEntry_ne (PySem.W.check_slot F.cmpKind_ne F.cmpSplit_ne (I.type.andThen (PySem.W.looks_mroIn X hm)) (F.cmpArgs_ne _ _) ?_))
  have hu' : A.in1.units < cLine := hu
  by_cases h : x = y
  · subst h
    rw [if_pos rfl] at hq
    unfold Builtin.«object.__ne__»
    repeat (first | with_reducible refine wpAny_cRoomFor hu' ?_ | (with_reducible refine ifEq X I J hm hs ?_; rw [if_pos rfl]) | wp_step)
    exact hq
  · rw [if_neg h] at hq
    unfold Builtin.«object.__ne__»
    repeat (first | with_reducible refine wpAny_cRoomFor hu' ?_ | (with_reducible refine ifEq X I J hm hs ?_; rw [if_neg h]) | wp_step)
    exact hq
theorem tryNe {Q : Option Value → Shared → Prop} (hu : A.units + 1 < cLine) (X : K.In s.heap) (I : PySem.W.InstAt s.heap x ox C od) (J : PySem.W.InstAt s.heap y oy C od') (hm : PySem.W.mroIn K C (.type "object") = some true) (hs : PySem.W.findIn K (.ref C) "__eq__" = some (some (.builtin "object.__eq__"))) (hs2 : PySem.W.findIn K (.ref C) "__ne__" = some (some (.builtin "object.__ne__")))
    (hq : Q (if x = y then some (.bool false) else none) s) : wpAny (model prog w) A (tryCompare (.ref x) "__ne__" (.ref y)) Q E s := by
  unfold tryCompare
  refine wpAny_bind (ifNe X I hs2 (callNe hu X I J hm hs ?_))
  by_cases h : x = y
  · simp only [if_pos h] at hq ⊢
    exact wpAny_pure hq
  · simp only [if_neg h] at hq ⊢
    exact wpAny_pure hq
theorem rcEq {Q : Value → Shared → Prop} (hu : A.units < cLine) (X : K.In s.heap) (I : PySem.W.InstAt s.heap x ox C od) (J : PySem.W.InstAt s.heap y oy C od') (hm : PySem.W.mroIn K C (.type "object") = some true) (hs : PySem.W.findIn K (.ref C) "__eq__" = some (some (.builtin "object.__eq__")))
    (hq : Q (.bool (decide (x = y))) s) : wpAny (model prog w) A (richCompare .Eq (.ref x) (.ref y)) Q E s := by
  simp only [richCompare, cmpInfo_Eq, oneThing_ref]
  refine wpAny_holding (wpAny_bind (wpAny_cRoomFor hu ?_))
  refine wpAny_bind (I.type.here (wpAny_bind (J.type.here ?_)))
  rw [if_neg (by simp)]
  refine wpAny_bind (wpAny_pure ?_)
  simp only [Bool.false_eq_true, if_false, Bool.not_false, if_true]
  refine wpAny_bind (tryEq X I J hm hs ?_)
  by_cases h : x = y
  · subst h
    simp only [if_true, decide_true] at hq ⊢
    exact wpAny_pure hq
  · simp only [if_neg h, decide_eq_false h] at hq ⊢
    refine wpAny_bind (tryEq X J I hm hs ?_)
    rw [if_neg (Ne.symm h)]
    exact wpAny_bind (wpAny_rule (wpAny_bind (wpAny_isSame_ref_other h I.at_ J.at_ (notTuple I) (wpAny_pure hq))))
theorem rcNe {Q : Value → Shared → Prop} (hu : A.units + 1 < cLine) (X : K.In s.heap) (I : PySem.W.InstAt s.heap x ox C od) (J : PySem.W.InstAt s.heap y oy C od') (hm : PySem.W.mroIn K C (.type "object") = some true) (hs : PySem.W.findIn K (.ref C) "__eq__" = some (some (.builtin "object.__eq__"))) (hs2 : PySem.W.findIn K (.ref C) "__ne__" = some (some (.builtin "object.__ne__")))
    (hq : Q (.bool (!decide (x = y))) s) : wpAny (model prog w) A (richCompare .NotEq (.ref x) (.ref y)) Q E s := by
  simp only [richCompare, cmpInfo_NotEq, oneThing_ref]
  refine wpAny_holding (wpAny_bind (wpAny_cRoomFor (Nat.lt_of_succ_lt hu) ?_))
  refine wpAny_bind (I.type.here (wpAny_bind (J.type.here ?_)))
  rw [if_neg (by simp)]
  refine wpAny_bind (wpAny_pure ?_)
  simp only [Bool.false_eq_true, if_false, Bool.not_false, if_true]
  refine wpAny_bind (tryNe hu X I J hm hs hs2 ?_)
  by_cases h : x = y
  · subst h
    simp only [if_true, decide_true, Bool.not_true] at hq ⊢
    exact wpAny_pure hq
  · simp only [if_neg h, decide_eq_false h, Bool.not_false] at hq ⊢
    refine wpAny_bind (tryNe hu X J I hm hs hs2 ?_)
    rw [if_neg (Ne.symm h)]
    exact wpAny_bind (wpAny_rule (wpAny_bind (wpAny_isSame_ref_other h I.at_ J.at_ (notTuple I) (wpAny_pure hq))))
end

structure EqG (K : PySem.W.Frag) (mg : Str → Option Value) (C : Str) : Prop where
  ex : ∃ c, mg C = some (.ref c) ∧ PySem.W.mroIn K c (.type "object") = some true ∧ PySem.W.findIn K (.ref c) "__eq__" = some (some (.builtin "object.__eq__")) ∧ PySem.W.findIn K (.ref c) "__ne__" = some (some (.builtin "object.__ne__"))
def isIns (C : Str) (a : Addr) (M : Mem) : Prop := match M a with
  | some (.ins C' _ _) => C' = C
  | _ => False
def oSame (C : Str) (f : Bool → Bool) : OPD := fun d e st k => match d, e with
  | .ref a, .ref b => isIns C a st.mem ∧ isIns C b st.mem ∧ k (.bl (f (decide (a = b)))) st
  | _, _ => False
section
variable {X : Cx} {C : Str} {b : Expr}
theorem isIns_any {C : Str} {a : Addr} {M : Mem} (h : isIns C a M) : anyOk C (.ref a) M := h
theorem oSame_ok {c : Addr} {f : Bool → Bool} (hc : X.mg C = some (.ref c)) : OpD X (oSame C f) (fun x y H Q => ∃ a b, x = .ref a ∧ y = .ref b ∧ InstH H a c ∧ InstH H b c ∧ Q (.bl (f (decide (a = b)))) H) := by
  intro G F H σ st d1 d2 v1 v2 k Q R r1 r2 t fin
  unfold oSame at t
  split at t
  · obtain ⟨h1, h2, t⟩ := t
    obtain ⟨a, e1, i1⟩ := any_of R r1 hc (isIns_any h1)
    obtain ⟨b, e2, i2⟩ := any_of R r2 hc (isIns_any h2)
    cases r1; cases r2; cases e1; cases e2
    exact ⟨_, _, rfl, rfl, i1, i2, fin _ st F H _ t R (.refl F) rfl⟩
  · exact t.elim
theorem c_same (h : EqG X.K X.mg C) (hu : X.A.units + 64 < cLine) : CmpD X .Eq b (oSame C id) := by
  obtain ⟨c, hc, hm, hs, hs2⟩ := h.ex
  refine ⟨⟨_, fun pins s σ H x y v u Q I rx ry h => ?_, oSame_ok hc⟩, nomark _⟩
  obtain ⟨a, b, rfl, rfl, h1, h2, q⟩ := h
  cases (show v = Value.ref a from rx)
  cases (show u = Value.ref b from ry)
  obtain ⟨_, _, I1⟩ := inst_at I h1
  obtain ⟨_, _, I2⟩ := inst_at I h2
  exact rcEq (K := X.K) (by omega) I.kIn I1 I2 hm hs ⟨.bl _, H, I, rfl, q⟩
theorem c_other (h : EqG X.K X.mg C) (hu : X.A.units + 64 < cLine) : CmpD X .NotEq b (oSame C not) := by
  obtain ⟨c, hc, hm, hs, hs2⟩ := h.ex
  refine ⟨⟨_, fun pins s σ H x y v u Q I rx ry h => ?_, oSame_ok hc⟩, nomark _⟩
  obtain ⟨a, b, rfl, rfl, h1, h2, q⟩ := h
  cases (show v = Value.ref a from rx)
  cases (show u = Value.ref b from ry)
  obtain ⟨_, _, I1⟩ := inst_at I h1
  obtain ⟨_, _, I2⟩ := inst_at I h2
  exact rcNe (K := X.K) (by omega) I.kIn I1 I2 hm hs hs2 ⟨.bl _, H, I, rfl, q⟩
end

/-! ### an instance with one slot made, by an __init__ that judges and stores -/
structure MkL (P : Program) (w : World) (K : PySem.W.Frag) (mg : Str → Option Value) (base : Heap) (C : Str) (k : Nat) (ok : D → Prop) : Prop where
  ex : ∃ c f fd ps, mg C = some (.ref c) ∧ Mk K c f ∧ FnOk P w K mg base CX0 k f fd ps (fun vs H Q _ => ∃ x dx v F M d, vs = [.ref x, v] ∧ H x = some (.ins c dx []) ∧ dx ≠ x ∧ M x = none ∧ Sub F H ∧ MemOk K mg F M H ∧ Rep K mg F d v ∧ ok d ∧
    ∀ F' H' v', Ext F M H F' M H' → Sub F' H' → MemOk K mg F' M H' → Rep K mg F' d v' → Q .non (SlX.slH H' x c dx [some v'])) ∧ Binds K fd ps []
def rMkL (C : Str) (ok : D → Prop) (t : DTA) : DTE := fun st k => t st fun ds st1 => match ds with
  | [d] => ok d ∧ k (.slo C [d]) st1
  | _ => False
section
variable {X : Cx} {C : Str} {p pos : Pos} {e : Expr} {es : List Expr} {k : Nat} {t : DTA} {ok : D → Prop}
theorem d_mkL (h : MkL X.prog X.w X.K X.mg X.base C k ok) (hr : Room (k + 1) X.A) (hg : Gl X C) (ha : DPA X (e :: es) t) (hdb : (C == ("__debug__" : Str)) = false := by decide) (he : starEach (e :: es) X.env = (false, eval e X.env) :: starEach es X.env := by rfl) (hpl : (backTo pos (starEach es X.env)).any (·.1) = false := by rfl) :
    DPE X (.Call (.Name C p) (e :: es) [] pos) (rMkL C ok t) := by
  obtain ⟨c, f, fd, ps, hc, mk, F, hb⟩ := h.ex
  refine ⟨fun G => (pe_make mk F hr hg hc hb .nil (E := E0) pass0 (ha.run G) hdb he hpl).imp fun σ H Q ⟨F, st, k, R, t, fin⟩ => ⟨F, st, _, R, t, fun ds st1 F1 H1 vs q R1 s1 r => fun x dx hx hdx ne => ?_⟩⟩
  rw [List.append_nil]
  split at q
  · rename_i d
    obtain ⟨v, _, rfl, rv, rfl⟩ := r
    obtain ⟨R2, f1, m1, g1, o1⟩ := R1.veil (o := .own x) hdx
    have hx2 : upd H1 dx (.own x) x = none := by rw [upd_ne (Ne.symm ne)]; exact hx
    obtain ⟨R3, f2, m2, g2, o2⟩ := R2.veil (o := .ins c dx []) hx2
    refine ⟨x, dx, v, F1, st1.mem, d, rfl, upd_same, ne, m2, R3.sub, R3.mem, rv, q.1, fun F' H' v' e s m rv' => ⟨rfl, ?_⟩⟩
    have R4 := R3.step s m e
    have hh : upd (upd H1 dx (.own x)) x (.ins c dx []) dx = some (.own x) := by rw [upd_ne ne]; exact upd_same
    have fd' : F' dx = none := e.nf dx (by rw [hh]; simp) f1
    have fx' : F' x = none := e.nf x (by rw [upd_same]; simp) f2
    have R5 := R4.poke (a := dx) (o := .xd []) fd' m1 g1 o1
    have R6 := R5.poke (a := x) (o := SlX.SlO x c dx [some v']) fx' m2 g2 o2
    have e5 : upd (upd H' dx (.xd [])) x (SlX.SlO x c dx [some v']) dx = some (.xd []) := by rw [upd_ne ne]; exact upd_same
    obtain ⟨R7, s7⟩ := R6.letgo (a := dx) (o := .xd []) e5 fd' m1 g1 o1
    obtain ⟨R8, s8⟩ := R7.letgo (a := x) (o := SlX.SlO x c dx [some v']) upd_same (by rw [upd_ne (Ne.symm ne)]; exact fx') m2 g2 o2
    refine fin _ st1 _ _ _ q.2 R8 ((s1.trans e.sub).trans (s7.trans s8)) ⟨x, c, dx, [v'], rfl, hc, .inr ⟨upd_same, by rw [upd_ne ne]; exact upd_same⟩, by simp, ?_⟩
    exact .one (rv'.mono (s7.trans s8))
  · exact q.elim
/-- such an __init__: two statements that judge, then the store -/
theorem mkL_of {P : Program} {w : World} {K : PySem.W.Frag} {mg : Str → Option Value} {base : Heap} {c f : Addr} {fd : FuncData} {N ps : List Str} {sl : Addr} {C fld y qual : Str} {k : Nat} {ok : D → Prop} {st b1 b2 : Stmt} {p1 p2 p3 p4 : Pos} {sN bN : Str}
    (F : Fun K y qual st f fd) (S : FnScope N ps (defScope st)) (hps : ps.length = 2) (hc : mg C = some (.ref c)) (mk : Mk K c f) (sc : SlX.SCls K c) (s1 : SlX.Slot1 K c fld sl 0)
    (hbi : ∀ (kV doc pm : Value) (an : Option Addr) (cdv ct : Value) (us : List Value), us.length = ps.length → bindArgs (PySem.W.fnOf y qual (defArgs st) (defBody st) (defScope st) .none kV doc pm an cdv ct) ⟨us, []⟩ = pure (ps.zip us))
    (hbd : defBody st = [b1, b2, .Assign [.Attribute (.Name sN p1) fld p2] (.Name bN p3) p4])
    (hb : ∀ (cdv : Value) (A : Around) (outer : List Env) (s : Shared) (H : Hp) (E : XK), Room k (A.deeper (PyProof.Rows.envOfC qual (defScope st) s.heap.objs.size f cdv)) →
      (∃ t u, DPS (bodyX P w K mg base N qual st f cdv A outer s H E) b1 t ∧ DPS (bodyX P w K mg base N qual st f cdv A outer s H E) b2 u ∧ ∀ x d M (q : DS → Prop), ok d → (∀ st', st'.env[0]? = some (.val (.ref x)) → st'.env[1]? = some (.val d) → st'.mem = M → q st') → t { nx := fun st => u { nx := q, rt := fun _ _ => False } st, rt := fun _ _ => False } ⟨startE N [.ref x, d], M⟩) ∧
      PE (bodyX P w K mg base N qual st f cdv A outer s H E) (.Name sN p1) (tVar 0) ∧ PE (bodyX P w K mg base N qual st f cdv A outer s H E) (.Name bN p3) (tVar 1) ∧ swapsWith (.Name bN p3) (some (.Attribute (.Name sN p1) fld p2)) p4.line (bodyX P w K mg base N qual st f cdv A outer s H E).env = pure false) :
    MkL P w K mg base C (k + 1) ok := by
  refine ⟨c, f, fd, ps, hc, mk, F.ok S (fun vs H Q E ⟨x, dx, v, F0, M, d, e, _⟩ => by rw [e, hps]; rfl) (fun cdv A outer s H vs Q E hr h => ?_), F.binds hbi⟩
  obtain ⟨x, dx, v, F0, M, d, rfl, hx, ne, mx, s0, m0, rv, hok, fin⟩ := h
  obtain ⟨⟨t, u, ht, hu, hq⟩, hs, hv, hsw⟩ := hb cdv A outer s H E hr
  rw [hbd]
  refine ⟨_, pss_cons (ht.run ⟨F0, M, H⟩) (pss_cons (hu.run ⟨F0, M, H⟩) (pss_one (SlX.ps_sl hs hv hsw))), ?_⟩
  refine ⟨F0, _, _, rel_start s0 m0 (ds := [.ref x, d]) (vs := [.ref x, v]) ⟨_, _, rfl, rfl, .one rv⟩, hq x d M (fun st' => st'.env[0]? = some (.val (.ref x)) ∧ st'.env[1]? = some (.val d) ∧ st'.mem = M) hok (fun st' h1 h2 h3 => ⟨h1, h2, h3⟩), ?_⟩
  refine ⟨fun st1 F1 σ1 H1 q1 R1 s1' => ⟨F1, st1, _, R1, q1, ⟨fun st2 F2 σ2 H2 q2 R2 s2 => ?_, fun _ _ _ _ _ _ q => q.elim, fun _ _ _ _ q => q.elim, fun _ _ _ _ q => q.elim⟩⟩, fun _ _ _ _ _ _ q => q.elim, fun _ _ _ _ q => q.elim, fun _ _ _ _ q => q.elim⟩
  obtain ⟨e0, e1, em⟩ := q2
  obtain ⟨o0, h0, v0, rfl, r0⟩ := R2.slot 0 _ e0
  cases r0
  obtain ⟨o1, h1, v1, rfl, r1⟩ := R2.slot 1 _ e1
  have ex := R2.ext
  have hxx : H2 x = some (.ins c dx []) := ex.keep x _ mx hx
  exact ⟨v1, h1, _, h0, x, c, dx, sl, [], 0, rfl, .inl ⟨hxx, rfl⟩, sc, s1, fin F2 H2 v1 (em ▸ ex) R2.sub (em ▸ R2.mem) r1⟩
end
end DL

set_option autoImplicit false
set_option Elab.async false
set_option linter.all false
set_option maxRecDepth 100000
set_option autoImplicit false
set_option maxHeartbeats 1000000
/-! DL10: calls where no guard is set: repr of data; keywords of methods; bool of an instance. -/
namespace DL
open PySem PySem.Spec L2

/-! ### promises of defs that are called where no guard is set -/
/-- as FnOk of the layer, kept where no guard is set -/
structure GOk (P : Program) (w : World) (K : PySem.W.Frag) (mg : Str → Option Value) (base : Heap) (k : Nat) (f : Addr) (fd : FuncData) (ps : List Str) (sp : Sp) : Prop where
  many : ∀ vs H Q E, sp vs H Q E → vs.length = ps.length
  goes : ∀ (A : Around) (out : List Env) (s : Shared) (H : Hp) (ar : Args) (us : List Value) (vs : List V) (Q : VK) (E : XK), A.guards = some [] → Room k A → Env0 P w K mg base A out s H → BindsTo s fd ar (ps.zip us) → Vals vs us → sp vs H Q E →
    codeAny (model P w) A (.call (.ref f) ar) (CR CX0 out P w H s Q E) s
theorem GOk.of {P : Program} {w : World} {K : PySem.W.Frag} {mg : Str → Option Value} {base : Heap} {k : Nat} {f : Addr} {fd : FuncData} {ps : List Str} {sp : Sp} (F : FnOk P w K mg base CX0 k f fd ps sp) : GOk P w K mg base k f fd ps sp :=
  ⟨F.len, fun A out s H ar us vs Q E _ => F.run A out s H ar us vs Q E⟩
theorem GOk.imp {P : Program} {w : World} {K : PySem.W.Frag} {mg : Str → Option Value} {base : Heap} {k : Nat} {f : Addr} {fd : FuncData} {ps : List Str} {sp sp' : Sp} (F : GOk P w K mg base k f fd ps sp) (h : ∀ vs H Q E, sp' vs H Q E → sp vs H Q E) : GOk P w K mg base k f fd ps sp' :=
  ⟨fun vs H Q E q => F.many vs H Q E (h _ _ _ _ q), fun A out s H ar us vs Q E g r e b v q => F.goes A out s H ar us vs Q E g r e b v (h _ _ _ _ q)⟩
theorem GOk.mono {P : Program} {w : World} {K : PySem.W.Frag} {mg : Str → Option Value} {base : Heap} {j k : Nat} {f : Addr} {fd : FuncData} {ps : List Str} {sp : Sp} (F : GOk P w K mg base j f fd ps sp) (h : j ≤ k) : GOk P w K mg base k f fd ps sp :=
  ⟨F.many, fun A out s H ar us vs Q E g r => F.goes A out s H ar us vs Q E g (r.mono h)⟩
section
variable {P : Program} {w : World} {K : PySem.W.Frag} {mg : Str → Option Value} {base : Heap} {y qual : Str} {st : Stmt} {f : Addr} {fd : FuncData} {N ps : List Str} {k n : Nat} {sp : DSp}
theorem gok_mk (F : Fun K y qual st f fd) (S : FnScope N ps (defScope st))
    (hb : ∀ (cdv : Value) (A : Around) (outer : List Env) (s : Shared) (H : Hp) (E : XK), A.guards = some [] → Room k (A.deeper (PyProof.Rows.envOfC qual (defScope st) s.heap.objs.size f cdv)) →
      ∃ t, DPSs (bodyX P w K mg base N qual st f cdv A outer s H E) (defBody st) t ∧ ∀ ds M q, ds.length = ps.length → sp ds M q → t (dEnds q) ⟨startE N ds, M⟩) :
    GOk P w K mg base (k + 1) f fd ps (lift K mg ps.length sp) := by
  obtain ⟨⟨oc, od, kV, doc, pm, an, cdv, ct, osl, rfl, lk, hcd⟩, _⟩ := F
  constructor
  · intro vs H Q E q
    obtain ⟨F0, M, ds, q0, _, _, r, hn, _⟩ := q
    exact r.length.symm.trans hn
  · intro A out s H ar us vs Q E hg hr e0 hbi hv hsp
    obtain ⟨F0, M, ds, q0, s0, m0, r, hn, hs, fin⟩ := hsp
    have stays : ∀ b o, base.get? b = some o → s.heap.get? b = some o := fun b o e => (e0.bs b o e).1
    have kin := e0.mod.kin.keeps stays
    have lim := e0.mod.nolimit.keeps stays
    have hl : vs.length = ps.length := r.length.symm.trans hn
    refine codeAny_call_function hr.depth (kin _ _ lk) rfl S.co S.gen rfl (PySem.W.codeRec_of kin hcd) (hbi _ _ _ _ (wpAny_newFunctionEnv_cells S.kind (fun p hp => ?_) fun env he s1 x => ?_))
    · obtain ⟨m, v⟩ := p
      cases S.par m (List.of_mem_zip hp).1 with
      | inl q => exact .inl q
      | inr q => exact .inr ⟨q, PySem.W.cellsFrom_some _ _ _ (.inl q)⟩
    · subst he
      obtain ⟨t, ht, hq⟩ := hb cdv A out s H E hg (hr.deeper _)
      have I := inv_start (CX := CX0) (P := P) (w := w) (K := K) (mg := mg) (base := base) (N := N) (qual := qual) (f := f) (cd := cdv) (E := E) S hr.hd e0 hl hv x
      refine ⟨lim.keeps x.toInCall.keep, codeAny_func ?_⟩
      have body := (ht.run ⟨F0, M, H⟩).nox.run [] s1 (L2.start N vs) H { nx := fun _ H' => Q .non H', rt := Q } I ⟨F0, _, _, rel_start s0 m0 r, hq ds M q0 hn hs, ⟨fun st1 F1 σ1 H1 q1 R1 s1 => fin .non st1.mem F1 H1 .non q1 R1.ext R1.sub R1.mem rfl, fun d st1 F1 σ1 H1 v q1 R1 s1 rv => fin d st1.mem F1 H1 v q1 R1.ext R1.sub R1.mem rv, fun _ _ _ _ q => q.elim, fun _ _ _ _ q => q.elim⟩⟩
      refine wpAny_mono body (fun fl s' z => ?_) fun e s' z => z
      cases fl with
      | ret u =>
        obtain ⟨v, σ', H', J, rv, q⟩ := z
        exact ⟨v, H', J.os, J.bare, J.base, J.hok, rv, q⟩
      | next =>
        obtain ⟨σ', H', J, q⟩ := z
        exact ⟨V.non, H', J.os, J.bare, J.base, J.hok, rfl, q⟩
      | brk => obtain ⟨_, _, _, q⟩ := z; exact q.elim
      | cont => obtain ⟨_, _, _, q⟩ := z; exact q.elim
/-- .. as a fact of the module -/
structure FnW (P : Program) (w : World) (K : PySem.W.Frag) (mg : Str → Option Value) (base : Heap) (x : Str) (k n : Nat) (sp : DSp) : Prop where
  ex : ∃ f fd ps, GOk P w K mg base k f fd ps (lift K mg n sp) ∧ mg x = some (.ref f) ∧ PySem.W.keepIn K (.ref f) = true ∧ Binds K fd ps []
theorem fnw_mk (F : Fun K y qual st f fd) (hm : mg y = some (.ref f)) (S : FnScope N ps (defScope st))
    (hbi : ∀ (kV doc pm : Value) (an : Option Addr) (cdv ct : Value) (us : List Value), us.length = ps.length → bindArgs (PySem.W.fnOf y qual (defArgs st) (defBody st) (defScope st) .none kV doc pm an cdv ct) ⟨us, []⟩ = pure (ps.zip us))
    (hn : ps.length = n) (hb : ∀ (cdv : Value) (A : Around) (outer : List Env) (s : Shared) (H : Hp) (E : XK), A.guards = some [] → Room k (A.deeper (PyProof.Rows.envOfC qual (defScope st) s.heap.objs.size f cdv)) →
      ∃ t, DPSs (bodyX P w K mg base N qual st f cdv A outer s H E) (defBody st) t ∧ ∀ ds M q, ds.length = n → sp ds M q → t (dEnds q) ⟨startE N ds, M⟩) :
    FnW P w K mg base y (k + 1) n sp := by
  subst hn
  exact ⟨f, fd, ps, gok_mk F S hb, hm, F.kp, F.binds hbi⟩
end

section
variable {X : Cx} {x m C : Str} {p pos apos : Pos} {e o : Expr} {es : List Expr} {kws : List Keyword} {k n : Nat} {sp : DSp} {t tk : DTA} {to : DTE}
theorem runG {pins : List (Addr × Obj)} {σ : L2.St} {H : Hp} {s : Shared} {Q : VK} {us : List Value} {vs : List V} {f : Addr} {fd : FuncData} {ps : List Str} {sp : Sp} (F : GOk X.prog X.w X.K X.mg X.base k f fd ps sp) (hgd : X.A.guards = some []) (hr : Room k X.A) (hb : Binds X.K fd ps []) (I : L2.Inv X pins σ H s) (r : Vals vs us) (h : sp vs H Q E0) :
    wpAny (model X.prog X.w) X.A (call (.ref f) us) (EP X pins σ Q) X.xe s := by
  have hl : us.length = ps.length := by rw [← r.length]; exact F.many _ _ _ _ h
  have bi : BindsTo s fd ⟨us, []⟩ (ps.zip us) := by
    have z := hb s us I.kIn (by rw [List.append_nil]; exact hl)
    rwa [List.append_nil] at z
  refine wpAny_call (codeAny_mono (F.goes X.A X.stack s H ⟨us, []⟩ us vs Q E0 hgd hr I.env0 bi r h) fun res s' z => ?_)
  match res, z with
  | .error e, z => exact pass0 pins σ H s e s' I z
  | .ok (.ret u), z => exact I.after z
  | .ok .next, z => exact z.elim
  | .ok .brk, z => exact z.elim
  | .ok .cont, z => exact z.elim
theorem d_callW (h : FnW X.prog X.w X.K X.mg X.base x k n sp) (hgd : X.A.guards = some []) (hr : Room k X.A) (hg : Gl X x) (ha : DPA X (e :: es) t) (hdb : (x == ("__debug__" : Str)) = false := by decide) (he : starEach (e :: es) X.env = (false, eval e X.env) :: starEach es X.env := by rfl) (hpl : (backTo pos (starEach es X.env)).any (·.1) = false := by rfl) :
    DPE X (.Call (.Name x p) (e :: es) [] pos) (rCall n sp t) := by
  obtain ⟨f, fd, ps, F, hm, hk, hb⟩ := h.ex
  refine ⟨fun G => ⟨fun pins s σ H Q I h => wpAny_Call_Name_kw (ld_glob I hg hm (PySem.W.callWith_K (h₀ := X.base) I.ok.mod.kin hk (thn ((ha.run G).run pos pins s σ H _ I (call_up h)) fun us s1 z => ?_) he hpl) hdb)⟩⟩
  obtain ⟨vs, H1, I1, r, q⟩ := z
  rw [List.append_nil] at q
  exact ⟨I1.kIn, runG F hgd hr hb I1 r q⟩

/-! ### repr of data -/
def cRepr : CD := fun ds st k => match ds with
  | [d] => (okD 40 d = true ∧ (py d).showable = true ∧ (py d).shown.length ≤ sizeLine) ∧ k (.str (py d).shown) st
  | _ => False
def isBox : D → Bool
  | .tup _ => true
  | .lst _ => true
  | .rl _ => true
  | _ => false
theorem box_ref {K : PySem.W.Frag} {mg : Str → Option Value} {F : Hp} {d : D} {v : V} (h : isBox d = true) (r : Rep K mg F d v) : ∃ a, v = .ref a := by
  cases d <;> first | cases h | skip
  · obtain ⟨a, vs, e, _⟩ := r; exact ⟨a, e⟩
  · obtain ⟨a, vs, e, _⟩ := r; exact ⟨a, e⟩
  · obtain ⟨a, vs, e, _⟩ := r; exact ⟨a, e⟩
def cReprB : CD := fun ds st k => match ds with
  | [d] => isBox d = true ∧ cRepr [d] st k
  | _ => False
theorem b_repr (hgd : X.A.guards = some []) (hr : Room k X.A) : BiD X (.builtin "repr") cReprB := by
  refine ⟨fun vs H Q => ∃ a d, vs = [.ref a] ∧ Dp X.K H (.ref a) d ∧ d.canLay0 = true ∧ d.depth ≤ 40 ∧ d.showable = true ∧ d.shown.length ≤ sizeLine ∧ Q (.str d.shown) H, fun pins s σ H xs us Q I rx h => ?_, fun G F H σ st ds vs k Q R rs t fin => ?_⟩
  · obtain ⟨a, d, rfl, hd, hl, hdp, hsh, hsz, q⟩ := h
    obtain ⟨u, rfl, ru⟩ := rx.one
    cases (show u = Value.ref a from ru)
    obtain ⟨as, rd⟩ := Dp.reads I d (.ref a) (.ref a) hd rfl
    have nd := PySem.PyData.hasDict_of_canLay d hl
    have un := hr.un
    refine PySem.repr_of_reads' rd hsh (PySem.PyData.noDict_hsm nd) hgd (by omega) (fun _ _ z => z) (fun h' u tk hk => ?_) hsz
    exact ⟨.str d.shown, H, I.kept hk, ⟨u, rfl⟩, q⟩
  · unfold cReprB cRepr at t
    split at t
    · obtain ⟨hbx, ⟨h1, h2, h3⟩, t⟩ := t
      obtain ⟨v, _, rfl, rv, rfl⟩ := rs
      obtain ⟨a, rfl⟩ := box_ref hbx rv
      exact ⟨a, _, rfl, dp_of R.sub 40 _ _ h1 rv, (lay_of 40 _ h1).1, (lay_of 40 _ h1).2, h2, h3, fin _ st F H _ t R (.refl F) rfl⟩
    · exact t.elim
end

/-! ### the end of a law's row, where no guard is set -/
section
variable {P : Program} {w : World} {K : PySem.W.Frag} {mg mb : Str → Option Value} {k : Nat} {fa a : Addr} {fd : FuncData} {x : Str} {sp : Sp} {s1 : Shared} {vs : List Value} {xs : List V}
theorem law_from {H : Hp} (kin : K.In s1.heap) (hns : s1.heap.Ns mainGlobals mg) (hb : s1.heap.Ns builtinsNs mb) (hbb : ∀ x : Str, x ≠ "__name__" → mb x = bootBuiltins x) (hlim : s1.heap.NoLimit) (hg : s1.gens = #[])
    (ha : s1.heap.get? a = some { cls := .type "list", data := .seq vs.toArray }) (hr : Room k callerA) (F : ∀ base : Heap, K.In base → base.Ns mainGlobals mg → GOk P w K mg base k fa fd [x] sp) (hbind : ∀ (s : Shared) (u : Value), BindsTo s fd ⟨[u], []⟩ [(x, u)])
    (hok : HOk P w H s1.heap) (only : ∀ b o, H b = some o → b = a ∧ K.lookup a = none ∧ ∃ ob, o = .frz ob (.lst xs)) (hsp : sp [.ref a] H (fun v _ => v = .bl true) E0) :
    codeAny (model P w) callerA (.call (.ref fa) ⟨[.ref a], []⟩) (fun r s' => r = .ok (.ret (.bool true)) ∧ OldK s1.heap s'.heap ∧ s'.os = s1.os ∧ PyProof.Rows.AllBare s'.gens) s1 := by
  have nsB : ∀ {b : Addr} {m : Str → Option Value}, s1.heap.Ns b m → (hidT s1.heap H).Ns b m := by
    rintro b m ⟨o, es, ep, e, d, rest⟩
    refine ⟨o, es, ep, hidT_get e ?_, d, rest⟩
    cases q : H b with
    | none => rfl
    | some u =>
      obtain ⟨e1, _⟩ := only b u q
      rw [e1, ha] at e
      cases e
      cases d
  have kB : K.In (hidT s1.heap H) := by
    intro b o e
    refine hidT_get (kin b o e) ?_
    cases q : H b with
    | none => rfl
    | some u =>
      obtain ⟨e1, e2, _⟩ := only b u q
      rw [e1, e2] at e
      cases e
  obtain ⟨mc, l1, l2⟩ := hlim
  have md : Mod K mg (hidT s1.heap H) := ⟨kB, nsB hns, ⟨mb, nsB hb, hbb⟩, mc, nsB l1, l2⟩
  have env : Env0 P w K mg (hidT s1.heap H) callerA [] s1 H :=
    { frames := rfl, mod := md, bs := fun b o e => of_hidT e, bsz := Nat.le_of_eq (hidT_size _ _), funs := trivial, frf := fun b z => absurd (show b ∈ ([] : List Addr) from z) (by simp), hok := hok, bare := .of_eq hg }
  have run := (F _ kB (nsB hns)).goes callerA [] s1 H ⟨[.ref a], []⟩ [.ref a] [.ref a] _ E0 rfl hr env (hbind s1 (.ref a)) (.cons rfl .nil) hsp
  refine codeAny_mono run fun r s' z => ?_
  match r, z with
  | .error e, z => exact z.elim
  | .ok .next, z => exact z.elim
  | .ok .brk, z => exact z.elim
  | .ok .cont, z => exact z.elim
  | .ok (.ret u), z =>
    obtain ⟨v, H2, os, bare, un, ok2, rv, q⟩ := z
    have q : v = .bl true := q
    subst q
    cases (show u = Value.bool true from rv)
    refine ⟨rfl, OldK.of_keep fun b o e => ?_, os, bare⟩
    cases q : H b with
    | none => exact un.keep b o e q (fun z => absurd (show b ∈ ([] : List Addr) from z) (by simp)) (by simp)
    | some u =>
      obtain ⟨_, _, ob, rfl⟩ := only b u q
      have here := (hok b _ q).1
      have there := (ok2 b _ (un.frzs b ob _ q)).1
      rw [e] at here
      cases here
      exact there
theorem law_goes {ns : List Int} (kin : K.In s1.heap) (hns : s1.heap.Ns mainGlobals mg) (hb : s1.heap.Ns builtinsNs mb) (hbb : ∀ x : Str, x ≠ "__name__" → mb x = bootBuiltins x) (hlim : s1.heap.NoLimit) (hg : s1.gens = #[])
    (ha : s1.heap.get? a = some { cls := .type "list", data := .seq vs.toArray }) (hi : PyProof.Rows.IntsAre vs ns) (hl : ns.length ≤ sizeLine) (hr : Room k callerA) (F : ∀ base : Heap, K.In base → base.Ns mainGlobals mg → GOk P w K mg base k fa fd [x] sp) (hbind : ∀ (s : Shared) (u : Value), BindsTo s fd ⟨[u], []⟩ [(x, u)])
    (hsp : ∀ H : Hp, SqL K H a (ns.map V.int) → sp [.ref a] H (fun v _ => v = .bl true) E0) :
    codeAny (model P w) callerA (.call (.ref fa) ⟨[.ref a], []⟩) (fun r s' => r = .ok (.ret (.bool true)) ∧ OldK s1.heap s'.heap ∧ s'.os = s1.os ∧ PyProof.Rows.AllBare s'.gens) s1 := by
  have rv := vals_ints hi
  cases hk : K.lookup a with
  | none =>
    have only : ∀ b o, upd (fun _ => none) a (.frz { cls := .type "list", data := .seq vs.toArray } (.lst (ns.map V.int))) b = some o → b = a ∧ K.lookup a = none ∧ ∃ ob, o = .frz ob (.lst (ns.map V.int)) := by
      intro b o e
      by_cases q : b = a
      · rw [q, upd_same] at e
        cases e
        exact ⟨q, hk, _, rfl⟩
      · rw [upd_ne q] at e
        cases e
    refine law_from kin hns hb hbb hlim hg ha hr F hbind (fun b o e => ?_) only (hsp _ (.inl (.inr ⟨_, upd_same⟩)))
    by_cases q : b = a
    · rw [q, upd_same] at e
      cases e
      subst q
      exact ⟨ha, by rw [List.length_map]; exact hl, vs, _, rv, ha⟩
    · rw [upd_ne q] at e
      cases e
  | some o =>
    have e := kin a o hk
    rw [ha] at e
    cases e
    refine law_from (xs := []) (H := fun _ => none) kin hns hb hbb hlim hg ha hr F hbind (fun b o e => nomatch e) (fun b o e => nomatch e) (hsp _ (.inr ⟨_, vs.toArray, _, hk, rfl, rfl, rfl, ?_, by simpa using rv⟩))
    rw [List.size_toArray, hi.length]
    exact hl
theorem walk_goes {l : PySem.W.OpenLaw} {n k : Nat} {q : Program} {loose : List Str} {XP : (Str → Option Value) → Heap → Prop} {YP : World → Heap → Prop} {d : DefRec} {K : Params → PySem.W.Frag} {sp : World → Sp} {x : Str} (hn : l.most = some n) (hn2 : n ≤ sizeLine) (hdf : d.params.defaults = []) (hr : Room k callerA)
    (hY : ∀ (w : World) (h : Heap), YP w h → (K w.params).In h)
    (F : ∀ (w : World) (mg : Str → Option Value) (fa : Addr) (h : Heap), (K w.params).In h → h.Ns mainGlobals mg → mg d.name = some (.ref fa) →
      ∃ fd : FuncData, (∀ (s : Shared) (u : Value), BindsTo s fd ⟨[u], []⟩ [(x, u)]) ∧ ∀ base : Heap, (K w.params).In base → base.Ns mainGlobals mg → GOk l.prog w (K w.params) mg base k fa fd [x] (sp w))
    (hsp : ∀ (w : World) (H : Hp) (a : Addr) (ns : List Int), ns.length ≤ n → (∀ z ∈ ns, Builtin.Int.intBits z ≤ 1048576) → SqL (K w.params) H a (ns.map V.int) → sp w [.ref a] H (fun v _ => v = .bl true) E0) :
    PySem.W.WalkO q loose XP YP l.row.toRowW d [] (fun f vs => PySem.call f vs) := by
  refine Att.attach_callB hn hdf fun w s0 s1 mg mb fa o pm cd doc a vs ns G Y ho hd hcd hmg ha hi hl hz hg => ?_
  have kin := hY w _ Y
  obtain ⟨fd, bi, f⟩ := F w mg fa _ kin G.T.g hmg
  exact law_goes kin G.T.g G.T.b G.T.builtins G.T.nolimit hg ha hi (Nat.le_trans hl hn2) hr f bi fun H hS => hsp w H a ns hl hz hS
end
end DL

set_option autoImplicit false
set_option Elab.async false
set_option linter.all false
set_option maxRecDepth 100000
set_option autoImplicit false
set_option maxHeartbeats 1000000
/-! DL11: methods called by keywords; bool of an instance. -/
namespace DL
open PySem PySem.Spec L2

/-! ### keywords of a method -/
/-- the parameters behind self, out of the keywords' values: which of them, by place -/
def byOrd {α : Type} (d : α) (ord : List Nat) (l : List α) : List α := ord.map fun i => l.getD i d
theorem vals_getD {zs : List V} {ws : List Value} (r : Vals zs ws) : ∀ i : Nat, RelV (zs.getD i .non) (ws.getD i .none) := by
  induction r with
  | nil => intro i; exact rfl
  | cons h _ ih =>
    intro i
    cases i with
    | zero => exact h
    | succ i => simpa using ih i
theorem vals_ord {zs : List V} {ws : List Value} (r : Vals zs ws) : ∀ ord : List Nat, Vals (byOrd .non ord zs) (byOrd .none ord ws)
  | [] => .nil
  | i :: ord => .cons (vals_getD r i) (vals_ord r ord)
structure MtK (P : Program) (w : World) (K : PySem.W.Frag) (mg : Str → Option Value) (base : Heap) (C m : Str) (k n : Nat) (ks : List Str) (ord : List Nat) (sp : DSp) : Prop where
  ex : ∃ c f fd ps, mg C = some (.ref c) ∧ Cls K c ∧ Meth K c m f ∧ FnOk P w K mg base CX0 k f fd ps (lift K mg n sp) ∧ ps.length = ord.length + 1 ∧
    ∀ (s : Shared) (u : Value) (ws : List Value), ws.length = ks.length → BindsTo s fd ⟨[u], ks.zip ws⟩ (ps.zip (u :: byOrd .none ord ws))
theorem mtk_of {P : Program} {w : World} {K : PySem.W.Frag} {mg : Str → Option Value} {base : Heap} {C m y qual : Str} {st : Stmt} {c f : Addr} {fd : FuncData} {ps ks : List Str} {ord : List Nat} {k n : Nat} {sp : DSp} (F : Fun K y qual st f fd) (hc : mg C = some (.ref c)) (cl : Cls K c) (me : Meth K c m f) (h : FnOk P w K mg base CX0 k f fd ps (lift K mg n sp)) (hl : ps.length = ord.length + 1)
    (hbi : ∀ (kV doc pm : Value) (an : Option Addr) (cdv ct : Value) (u : Value) (ws : List Value), ws.length = ks.length → bindArgs (PySem.W.fnOf y qual (defArgs st) (defBody st) (defScope st) .none kV doc pm an cdv ct) ⟨[u], ks.zip ws⟩ = pure (ps.zip (u :: byOrd .none ord ws))) : MtK P w K mg base C m k n ks ord sp := by
  refine ⟨c, f, fd, ps, hc, cl, me, h, hl, ?_⟩
  obtain ⟨⟨oc, od, kV, doc, pm, an, cdv, ct, osl, rfl, lk, hcd⟩, _⟩ := F
  exact fun s u ws hw => .of_eq (hbi kV doc pm an cdv ct u ws hw)
structure DPK (X : Cx) (kws : List Keyword) (t : DTA) : Prop where
  run : ∀ G, PK X kws (upA X.K X.mg G t)
section
variable {X : Cx} {m C : Str} {pos apos kpos : Pos} {e o : Expr} {kws : List Keyword} {ks : List Str} {ord : List Nat} {nm : Option Str} {k n : Nat} {sp : DSp} {t : DTA} {te to : DTE}
theorem kw_nil : DPK X [] rNil := ⟨fun G => ⟨fun pos pins s σ H Q I ⟨F, st, k, R, t, fin⟩ => pk_nil.run pos pins s σ H Q I (fin [] st F H [] t R (.refl F) rfl)⟩⟩
theorem kw_cons (he : DPE X e te) (hr : DPK X kws t) : DPK X (⟨nm, e, kpos⟩ :: kws) (rCons te t) := by
  refine ⟨fun G => ⟨fun pos pins s σ H Q I h => (pk_cons (he.run G) (hr.run G)).run pos pins s σ H Q I ?_⟩⟩
  obtain ⟨F, st, k, R, q, fin⟩ := h
  refine ⟨F, st, _, R, q, fun d st1 F1 H1 v q1 R1 s1 r1 => ⟨F1, st1, _, R1, q1, fun ds st2 F2 H2 vs q2 R2 s2 r2 => ?_⟩⟩
  exact fin (d :: ds) st2 F2 H2 (v :: vs) q2 R2 (s1.trans s2) ⟨v, vs, rfl, r1.mono s2, r2⟩
def rMethK (C m : Str) (n kn : Nat) (ord : List Nat) (sp : DSp) (to : DTE) (t : DTA) : DTE := fun st k => to st fun d st1 => selfOk C m d st1.mem ∧ t st1 fun ds st2 => ds.length = kn ∧ ord.length + 1 = n ∧ sp (d :: byOrd .non ord ds) st2.mem fun r M => k r ⟨st2.env, M⟩
theorem reps_getD {K : PySem.W.Frag} {mg : Str → Option Value} {F : Hp} {ds : List D} {vs : List V} (r : Reps K mg F ds vs) (i : Nat) : Rep K mg F (ds.getD i .non) (vs.getD i .non) := by
  rw [List.getD_eq_getElem?_getD, List.getD_eq_getElem?_getD]
  cases h : ds[i]? with
  | none =>
    have hl := r.length
    rw [List.getElem?_eq_none (by rw [← hl]; exact List.getElem?_eq_none_iff.mp h)]
    exact rfl
  | some d =>
    obtain ⟨v, e, rv⟩ := r.get h
    rw [e]
    exact rv
theorem reps_ord {K : PySem.W.Frag} {mg : Str → Option Value} {F : Hp} {ds : List D} {vs : List V} (r : Reps K mg F ds vs) : ∀ ord : List Nat, Reps K mg F (byOrd .non ord ds) (byOrd .non ord vs)
  | [] => rfl
  | i :: ord => ⟨_, _, rfl, reps_getD r i, reps_ord r ord⟩
theorem d_methK {pl : Sem Bool} (h : MtK X.prog X.w X.K X.mg X.base C m k n ks ord sp) (hr : Room k X.A) (ho : DPE X o to) (hk : DPK X kws t) (hall : (backToKw pos (keywordEach kws X.env)).all (·.1.isSome) = true := by rfl) (hks : (backToKw pos (keywordEach kws X.env)).filterMap (·.1) = ks := by rfl)
    (hpl : ((backTo pos (starEach [] X.env)).any (·.1) || (backToKw pos (keywordEach kws X.env)).any (·.1.isNone)) = false := by rfl)
    (hlen : kws.length = ks.length := by rfl)
    (ht : eval (.Call (.Attribute o m apos) [] kws pos) X.env = (do
      let obj ← eval o X.env
      standAt apos.atName
      let (g, fst) ← holding [obj] (getMethod obj m pl)
      callWith pos g fst (backTo pos (starEach [] X.env)) (backToKw pos (keywordEach kws X.env))) := by rfl) : DPE X (.Call (.Attribute o m apos) [] kws pos) (rMethK C m n ks.length ord sp to t) := by
  obtain ⟨c, f, fd, ps, hc, cl, me, F, hpo, hb⟩ := h.ex
  refine ⟨fun G => ⟨fun pins s σ H Q I h => ?_⟩⟩
  obtain ⟨F0, st, k0, R, q, fin⟩ := h
  refine PySem.W.methodCall_KW (pl := pl) (thn ((ho.run G).run pins s σ H (fun v H1 => ∃ a dx fs F1 st1 d, v = .ref a ∧ H1 a = some (.ins c dx fs) ∧ fs.lookup m = none ∧ Rel X.K X.mg G F1 st1 σ H1 ∧ Sub F0 F1 ∧ Rep X.K X.mg F1 d (.ref a) ∧ t st1 fun ds st2 => ds.length = ks.length ∧ ord.length + 1 = n ∧ sp (d :: byOrd .non ord ds) st2.mem fun r M => k0 r ⟨st2.env, M⟩) I ⟨F0, st, _, R, q, fun d st1 F1 H1 v q1 R1 s1 r1 => ?_⟩) fun u s1 z => ?_) ht
  · obtain ⟨a, dx, fs, ea, ha, hl⟩ := self_of R1 r1 hc q1.1
    subst ea
    exact ⟨a, dx, fs, F1, st1, d, rfl, ha, hl, R1, s1, r1, q1.2⟩
  · obtain ⟨x, H1, I1, rx, a, dx, fs, F1, st1, d, rfl, ha, hl, R1, s01, rd, q1⟩ := z
    cases (show u = Value.ref a from rx)
    refine getmeth_ok I1 ha cl me hl ?_
    refine PySem.W.callWith_KW0 (first := [.ref a]) (h₀ := X.base) I1.ok.mod.kin me.kp hall (thn ((hk.run G).run pos pins s1 σ H1 (fun zs H2 => zs.length = kws.length ∧ lift X.K X.mg n sp (.ref a :: byOrd .non ord zs) H2 Q E0) I1 ⟨F1, st1, _, R1, q1, fun ds st2 F2 H2 vs q2 R2 s2 r2 => ⟨?_, ?_⟩⟩) fun ws s2 z => ?_) hpl
    · rw [← r2.length, q2.1, hlen]
    · exact lift_of R2 (ds := d :: byOrd .non ord ds) ⟨_, _, rfl, rd.mono s2, reps_ord r2 ord⟩ (by rw [List.length_cons, byOrd, List.length_map]; exact q2.2.1) q2.2.2 fun d' st' F' H' v q' R' s' rv => fin d' st' F' H' v q' R' ((s01.trans s2).trans s') rv
    · obtain ⟨zs, H2, I2, rz, hz, q2⟩ := z
      refine ⟨I2.kIn, ?_⟩
      rw [hks]
      have hw : ws.length = ks.length := by rw [← rz.length, hz, hlen]
      refine wpAny_call (codeAny_mono (F.run X.A X.stack s2 H2 ⟨[.ref a] ++ [], ks.zip ws⟩ (.ref a :: byOrd .none ord ws) (.ref a :: byOrd .non ord zs) Q E0 hr I2.env0 (hb s2 (.ref a) ws hw) (.cons rfl (vals_ord rz ord)) q2) fun r s' z => ?_)
      match r, z with
      | .error e, z => exact pass0 pins σ H2 s2 e s' I2 z
      | .ok (.ret u), z => exact I2.after z
      | .ok .next, z => exact z.elim
      | .ok .brk, z => exact z.elim
      | .ok .cont, z => exact z.elim
end
/-! ### bool of an instance, by its class's __bool__ -/
theorem typeCallBool {prog : Program} {w : World} {A : Around} {E : Value → Shared → Prop} {s : Shared} {v : Value} {b : Bool} {Q : Value → Shared → Prop}
    (h : wpAny (model prog w) A.in1.in1 (truthy v) (fun b' s' => b' = b ∧ Q (.bool b) s') E s) : wpAny (model prog w) A (call (.type "bool") [v]) Q E s := by
  have tc := F.called_bool
  obtain ⟨c, tl, hm⟩ := tc.mro
  have made := tc.made
  have sub := tc.sub
  have nt := tc.notType
  have cc := tc.canCreate
  have chk := F.typeCall_bool_1 v
  refine wpAny_call (codeAny_of_tree ?_)
  show wpAny _ _ (callAny (.type "bool") _) _ _ _
  refine wpAny_pure ⟨Code.quiet_builtin _ (by decide +kernel), codeAny_builtin F.entry_type_call ?_⟩
  rw [Around.under_plain (weight_type_call_type "bool" [v] []) (units_type_call_type "bool" [v] [])]
  repeat (any_goals (first | assumption | wp_step))
  have step1 : wpAny (model prog w) A.in1.in1 (Builtin.«bool.__new__» ⟨[.type "bool", v], []⟩) (fun fin s' => fin = .done (.ret (.bool b)) ∧ Q (.bool b) s') E s := by
    obtain ⟨hp, g, d, tk, os⟩ := s
    unfold Builtin.«bool.__new__»
    have f1 := F.conv_sub_bool
    repeat (any_goals (first | assumption | (with_reducible refine wpAny_bind (m := truthy _) (wpAny_mono h (fun r s2 z => ?_) fun _ _ e => e)) | wp_step))
    all_goals (obtain ⟨e, q⟩ := z; subst e; exact ⟨rfl, q⟩)
  refine codeAny_mono (codeAny_call_builtin (R := fun r s' => (r = .ok (.ret (.bool b)) ∧ Q (.bool b) s') ∨ ∃ e, r = .error e ∧ E e s') tc.plain F.entry_bool_new (wpAny_of_eq (F.newCall_bool_1 v) (wpAny_mono step1 (fun fin s' z => ?_) fun e s' z => .inr ⟨e, rfl, z⟩))) fun r s' z => ?_
  · obtain ⟨rfl, q⟩ := z
    exact .inl ⟨rfl, q⟩
  · rcases z with ⟨rfl, q⟩ | ⟨e, rfl, q⟩
    · have it : s'.TypeIs (.bool b) "bool" := rfl
      have look := tc.init.lookup
      have bind := tc.init.bind (.bool b)
      repeat (any_goals (first | assumption | wp_step))
      refine codeAny_mono (codeAny_call_builtin (R := fun r s2 => r = .ok (.ret .none) ∧ Q (.bool b) s2) tc.init.plain F.entry_object_init (tc.init.check _ _ _ _ _ _ _ _ it (F.args_object_init_2 _ v) (object_init_meets (self := .bool b) (rest := [v]) tc.init.lookup tc.made F.newNe_bool prog w A.in1 (fun r s2 => r = .ok (.ret .none) ∧ Q (.bool b) s2) s' ⟨it, rfl, q⟩))) fun r2 s2 z => ?_
      obtain ⟨rfl, q2⟩ := z
      repeat (any_goals (first | assumption | wp_step))
    · exact q

section
variable {X : Cx} {C f : Str} {p pos : Pos} {o : Expr} {k n : Nat} {sp : DSp} {to : DTE}
/-- bool(o) by its class's __bool__ -/
def rBoolC (C : Str) (b : Bool) (sp : DSp) (to : DTE) : DTE := fun st k => to st fun d st1 => anyOk C d st1.mem ∧ sp [d] st1.mem fun r M => r = .bl b ∧ k (.bl b) ⟨st1.env, M⟩
theorem call_boolC {c g : Addr} {fd : FuncData} {ps : List Str} {sp : Sp} (hs : PySem.W.findIn X.K (.ref c) "__bool__" = some (some (.ref g))) (hf : PySem.W.isFn X.K (.ref g) = true) (F : FnOk X.prog X.w X.K X.mg X.base CX0 k g fd ps sp) (hb : Binds X.K fd ps []) (hr : Room (k + 1) X.A) :
    CallR X (.type "bool") (fun xs H Q => ∃ a b, xs = [.ref a] ∧ InstH H a c ∧ sp [.ref a] H (fun z H' => z = .bl b ∧ Q z H') E0) := by
  intro pins s σ H xs us Q I r h
  obtain ⟨a, b, rfl, hi, q⟩ := h
  obtain ⟨u, rfl, ru⟩ := r.one
  cases (show u = Value.ref a from ru)
  obtain ⟨ox, od, J⟩ := inst_at I hi
  obtain ⟨m, hF⟩ := I.fr
  have hr2 : Room k X.A.in1.in1 := ⟨hr.hd, by have := hr.dp; show X.A.depth + 3 * k + 5 < recursionLimit; omega, by have := hr.un; show X.A.units + 1 + 1 + 16 * k + 200 < cLine; omega⟩
  refine typeCallBool (b := b) (PySem.W.truthy_K hF I.ok.mod.kin J hs hf (wpAny_mono (wpAny_call (SlX.run_at (us := [.ref a]) (ws := [.ref a]) (F.raw hb .nil) hr2 I.env0.in1.in1 pass0 I (.cons rfl .nil) q)) (fun w s' z => ?_) fun _ _ x => x))
  obtain ⟨z', H', I', rz, ez, qz⟩ := z
  subst ez
  cases (show w = Value.bool b from rz)
  exact ⟨rfl, .bl b, H', I', rfl, qz⟩
theorem d_boolC (h : SpG X.prog X.w X.K X.mg X.base C "__bool__" k 1 sp) (hr : Room (k + 1) X.A) (hg : Gl X "bool") (hm : X.mg "bool" = none) (ho : DPE X o to) (he : starEach [o] X.env = (false, eval o X.env) :: starEach [] X.env := by rfl) :
    DPE X (.Call (.Name "bool" p) [o] [] pos) (rBoolC C true sp to) := by
  obtain ⟨c, f, fd, ps, hc, hs, hf, F, hb⟩ := h.ex
  refine ⟨fun G => (pe_callTy (call_boolC hs hf F hb hr) hg hm (by decide +kernel) (pa_cons (ho.run G) pa_nil he) (by decide) (by decide) he rfl).imp fun σ H Q ⟨F, st, k, R, t, fin⟩ => ⟨F, st, _, R, t, fun d st1 F1 H1 v q R1 s1 r => ?_⟩⟩
  obtain ⟨a, ea, hi⟩ := any_of R1 r hc q.1
  subst ea
  refine ⟨a, true, rfl, hi, lift_of R1 (ds := [d]) (vs := [.ref a]) (k := fun r st => r = .bl true ∧ k (.bl true) st) ⟨_, [], rfl, r, rfl⟩ rfl q.2 fun d st' F' H' v q' R' s' rv => ?_⟩
  obtain ⟨rfl, q2⟩ := q'
  cases rv
  exact ⟨rfl, fin _ st' F' H' _ q2 R' (s1.trans s') rfl⟩
end
/-! ### texts compared -/
def oEqS (f : Bool → Bool) : OPD := fun d e st k => match d, e with
  | .str x, .str y => k (.bl (f (decide (V.str x = V.str y)))) st
  | _, _ => False
theorem c_eqS {X : Cx} {b : Expr} : CmpD X .Eq b (oEqS id) := by
  refine ⟨⟨_, op_eq, fun G F H σ st d1 d2 v1 v2 k Q R r1 r2 t fin => ?_⟩, nomark _⟩
  unfold oEqS at t
  split at t
  · cases r1; cases r2
    exact ⟨by first | exact ⟨trivial, trivial⟩ | trivial | rfl | exact ⟨rfl, rfl⟩, fin _ st F H _ t R (.refl F) rfl⟩
  · exact t.elim
end DL

set_option autoImplicit false
set_option Elab.async false
set_option linter.all false
set_option maxRecDepth 100000
set_option autoImplicit false
set_option exponentiation.threshold 9000
/-! DM1: moves in plain Lean; methods and so on as facts. -/
namespace DL
open PySem PySem.Spec L2
theorem atI_0 {α : Type} (a : α) (l : List α) : atI (a :: l) 0 = some a := atI_nat (j := 0) rfl
theorem atI_1 {α : Type} (a b : α) (l : List α) : atI (a :: b :: l) 1 = some b := atI_nat (j := 1) rfl
theorem atI_2 {α : Type} (a b c : α) (l : List α) : atI (a :: b :: c :: l) 2 = some c := atI_nat (j := 2) rfl
theorem atI_3 {α : Type} (a b c d : α) (l : List α) : atI (a :: b :: c :: d :: l) 3 = some d := atI_nat (j := 3) rfl
theorem atI_4 {α : Type} (a b c d e : α) (l : List α) : atI (a :: b :: c :: d :: e :: l) 4 = some e := atI_nat (j := 4) rfl
theorem atI_5 {α : Type} (a b c d e f : α) (l : List α) : atI (a :: b :: c :: d :: e :: f :: l) 5 = some f := atI_nat (j := 5) rfl
theorem ixN_lit (n j : Nat) (h : j < n) : ixN n (OfNat.ofNat j) = some j := by
  show ixN n (j : Int) = some j
  unfold ixN
  rw [if_pos (by omega), if_pos (by omega)]
  rfl
section
variable {P : Program} {w : World} {K : PySem.W.Frag} {mg : Str → Option Value} {base : Heap} {y qual m C : Str} {st : Stmt} {f c p : Addr} {fd : FuncData} {N ps : List Str} {k n : Nat} {sp : DSp}
theorem mtg_mk (F : Fun K y qual st f fd) (hc : mg C = some (.ref c)) (cl : Cls K c) (me : Meth K c m f) (S : FnScope N ps (defScope st))
    (hbi : ∀ (kV doc pm : Value) (an : Option Addr) (cdv ct : Value) (us : List Value), us.length = ps.length → bindArgs (PySem.W.fnOf y qual (defArgs st) (defBody st) (defScope st) .none kV doc pm an cdv ct) ⟨us, []⟩ = pure (ps.zip us))
    (hn : ps.length = n) (hb : ∀ (cdv : Value) (A : Around) (outer : List Env) (s : Shared) (H : Hp) (E : XK), Room k (A.deeper (PyProof.Rows.envOfC qual (defScope st) s.heap.objs.size f cdv)) →
      ∃ t, DPSs (bodyX P w K mg base N qual st f cdv A outer s H E) (defBody st) t ∧ ∀ ds M q, ds.length = n → sp ds M q → t (dEnds q) ⟨startE N ds, M⟩) :
    MtG P w K mg base C m (k + 1) n sp := by
  subst hn
  exact ⟨c, f, fd, ps, hc, cl, me, fn_mk F S hb, F.binds hbi⟩
theorem prg_mk (F : Fun K y qual st f fd) (hc : mg C = some (.ref c)) (cl : Cls K c) (po : PropOf K c m p f) (S : FnScope N ps (defScope st))
    (hbi : ∀ (kV doc pm : Value) (an : Option Addr) (cdv ct : Value) (us : List Value), us.length = ps.length → bindArgs (PySem.W.fnOf y qual (defArgs st) (defBody st) (defScope st) .none kV doc pm an cdv ct) ⟨us, []⟩ = pure (ps.zip us))
    (hn : ps.length = 1) (hb : ∀ (cdv : Value) (A : Around) (outer : List Env) (s : Shared) (H : Hp) (E : XK), Room k (A.deeper (PyProof.Rows.envOfC qual (defScope st) s.heap.objs.size f cdv)) →
      ∃ t, DPSs (bodyX P w K mg base N qual st f cdv A outer s H E) (defBody st) t ∧ ∀ ds M q, ds.length = 1 → sp ds M q → t (dEnds q) ⟨startE N ds, M⟩) :
    PrG P w K mg base C m (k + 1) sp := by
  have h := fn_mk (sp := sp) F S (by rw [hn]; exact hb)
  rw [hn] at h
  exact ⟨c, p, f, fd, ps, hc, cl, po, h, F.binds hbi⟩
theorem mkg_mk (F : Fun K y qual st f fd) (hc : mg C = some (.ref c)) (mk : Mk K c f) (S : FnScope N ps (defScope st))
    (hbi : ∀ (kV doc pm : Value) (an : Option Addr) (cdv ct : Value) (us : List Value), us.length = ps.length → bindArgs (PySem.W.fnOf y qual (defArgs st) (defBody st) (defScope st) .none kV doc pm an cdv ct) ⟨us, []⟩ = pure (ps.zip us))
    (hn : ps.length = n) (hb : ∀ (cdv : Value) (A : Around) (outer : List Env) (s : Shared) (H : Hp) (E : XK), Room k (A.deeper (PyProof.Rows.envOfC qual (defScope st) s.heap.objs.size f cdv)) →
      ∃ t, DPSs (bodyX P w K mg base N qual st f cdv A outer s H E) (defBody st) t ∧ ∀ ds M q, ds.length = n → sp ds M q → t (dEnds q) ⟨startE N ds, M⟩) :
    MkG P w K mg base C (k + 1) n sp := by
  subst hn
  exact ⟨c, f, fd, ps, hc, mk, fn_mk F S hb, F.binds hbi⟩
theorem spg_mk (F : Fun K y qual st f fd) (hc : mg C = some (.ref c)) (hfi : PySem.W.findIn K (.ref c) m = some (some (.ref f))) (hfn : PySem.W.isFn K (.ref f) = true) (S : FnScope N ps (defScope st))
    (hbi : ∀ (kV doc pm : Value) (an : Option Addr) (cdv ct : Value) (us : List Value), us.length = ps.length → bindArgs (PySem.W.fnOf y qual (defArgs st) (defBody st) (defScope st) .none kV doc pm an cdv ct) ⟨us, []⟩ = pure (ps.zip us))
    (hn : ps.length = n) (hb : ∀ (cdv : Value) (A : Around) (outer : List Env) (s : Shared) (H : Hp) (E : XK), Room k (A.deeper (PyProof.Rows.envOfC qual (defScope st) s.heap.objs.size f cdv)) →
      ∃ t, DPSs (bodyX P w K mg base N qual st f cdv A outer s H E) (defBody st) t ∧ ∀ ds M q, ds.length = n → sp ds M q → t (dEnds q) ⟨startE N ds, M⟩) :
    SpG P w K mg base C m (k + 1) n sp := by
  subst hn
  exact ⟨c, f, fd, ps, hc, hfi, hfn, fn_mk F S hb, F.binds hbi⟩
/-- an __init__ that stores its three parameters -/
theorem mkp3 {f1 f2 f3 : Str} (F : Fun K y qual st f fd) (hc : mg C = some (.ref c)) (mk : Mk K c f) (cl : Cls K c) (h1 : NoAttr K c f1) (h2 : NoAttr K c f2) (h3 : NoAttr K c f3) (S : FnScope N ps (defScope st))
    (hbi : ∀ (kV doc pm : Value) (an : Option Addr) (cdv ct : Value) (us : List Value), us.length = ps.length → bindArgs (PySem.W.fnOf y qual (defArgs st) (defBody st) (defScope st) .none kV doc pm an cdv ct) ⟨us, []⟩ = pure (ps.zip us))
    (hn : ps.length = 4) (hN : N.length = 4) (d12 : f2 ≠ f1) (d13 : f3 ≠ f1) (d23 : f3 ≠ f2)
    (hb : ∀ (cdv : Value) (A : Around) (outer : List Env) (s : Shared) (H : Hp) (E : XK),
      ∃ s1 s2 s3, defBody st = [s1, s2, s3] ∧ PS (bodyX P w K mg base N qual st f cdv A outer s H E) s1 (sFld K (tVar 0) (tVar 1) f1) ∧ PS (bodyX P w K mg base N qual st f cdv A outer s H E) s2 (sFld K (tVar 0) (tVar 2) f2) ∧ PS (bodyX P w K mg base N qual st f cdv A outer s H E) s3 (sFld K (tVar 0) (tVar 3) f3)) :
    MkP P w K mg base C 1 [f1, f2, f3] := by
  refine ⟨c, f, fd, ps, hc, mk, F.ok S (fun vs H Q E h => ?_) (fun cdv A outer s H vs Q E hr h => ?_), F.binds hbi⟩
  · obtain ⟨x, dx, args, rfl, hl, _⟩ := h
    rw [hn, List.length_cons, hl]; rfl
  · obtain ⟨x, dx, args, rfl, hl, hx, q⟩ := h
    obtain ⟨s1, s2, s3, e, ps1, ps2, ps3⟩ := hb cdv A outer s H E
    match args, hl with
    | [v1, v2, v3], _ =>
      rw [e]
      refine ⟨_, pss_cons ps1 (pss_cons ps2 (pss_one ps3)), ?_⟩
      have hs : L2.start N [.ref x, v1, v2, v3] = [some (.ref x), some v1, some v2, some v3] := by simp [L2.start, hN]
      rw [hs]
      refine ⟨v1, rfl, .ref x, rfl, x, c, dx, [], rfl, hx, cl, h1, by decide, ?_⟩
      refine ⟨v2, rfl, .ref x, rfl, x, c, dx, _, rfl, upd_same, cl, h2, by simp [putF], ?_⟩
      refine ⟨v3, rfl, .ref x, rfl, x, c, dx, _, rfl, upd_same, cl, h3, by simp [putF, Ne.symm d12], ?_⟩
      rw [upd_upd, upd_upd]
      have e : putF f3 v3 (putF f2 v2 (putF f1 v1 [])) = [f1, f2, f3].zip [v1, v2, v3] := by
        simp [putF, Ne.symm d12, Ne.symm d13, Ne.symm d23]
      rw [e]
      exact q
end

/-! ### == of data, computed -/
theorem deq_int (i j : Int) : deq (.int i) (.int j) = (i == j) := by simp [deq, py, PyData.eqv]
theorem deq_str (i j : Str) : deq (.str i) (.str j) = (i == j) := by simp [deq, py, PyData.eqv]
theorem deq_bl (i j : Bool) : deq (.bl i) (.bl j) = (i == j) := by simp [deq, py, PyData.eqv]
theorem deq_tup (ds es : List D) : deq (.tup ds) (.tup es) = deqs ds es := by simp [deq, deqs, py, PyData.eqv]
theorem deq_lst (ds es : List D) : deq (.lst ds) (.lst es) = deqs ds es := by simp [deq, deqs, py, PyData.eqv]
theorem deqs_nil : deqs [] [] = true := by simp [deqs, pys, PyData.eqvAll]
theorem deqs_cons (d e : D) (ds es : List D) : deqs (d :: ds) (e :: es) = (deq d e && deqs ds es) := by simp [deqs, deq, pys, PyData.eqvAll]
theorem deqs_nc (e : D) (es : List D) : deqs [] (e :: es) = false := by simp [deqs, pys, PyData.eqvAll]
theorem deqs_cn (e : D) (es : List D) : deqs (e :: es) [] = false := by simp [deqs, pys, PyData.eqvAll]
theorem deq_self {n : Nat} {d : D} (h : okD n d = true) : deq d d = true := PySem.SeqAt.eqv_refl _ (lay_of n d h).1

theorem iteN {c : Bool} {A B : Prop} (h : c = false) (b : B) : if c = true then A else B := by subst h; exact b
theorem iteY {c : Bool} {A B : Prop} (h : c = true) (a : A) : if c = true then A else B := by subst h; exact a
theorem bls_rep (n : Nat) : bls (List.replicate n (.bl true)) = some (List.replicate n true) := by
  induction n with
  | zero => rfl
  | succ n ih => rw [List.replicate_succ, bls, ih]; rfl
theorem all_rep (n : Nat) : (List.replicate n true).all id = true := by simp
theorem rep_snoc {α : Type} (n : Nat) (x : α) : List.replicate n x ++ [x] = List.replicate (n + 1) x := by rw [List.replicate_succ']
/-! ### moves -/
abbrev Mv := Int × Int × Int
def mvD (m : Mv) : D := .tup [.int m.1, .int m.2.1, .int m.2.2]
def PL : Mv := (0, 0, 0)
def joinM (m n : Mv) : Mv := (m.1 + n.1, m.2.1 + n.2.1, m.2.2 + n.2.2 + m.1 * n.2.1)
def manyM (m : Mv) (t : Int) : Mv := (t * m.1, t * m.2.1, t * m.2.2 + (t * (t - 1)).fdiv 2 * m.1 * m.2.1)
def undoM (m : Mv) : Mv := (-m.1, -m.2.1, m.1 * m.2.1 - m.2.2)
theorem okD_mv (n : Nat) (m : Mv) : okD (n + 2) (mvD m) = true := rfl
theorem okD_mvs (n : Nat) (ms : List Mv) : okD (n + 3) (.tup (ms.map mvD)) = true := by
  show (ms.map mvD).all (okD (n + 2)) = true
  rw [List.all_map, List.all_eq_true]
  intro x _
  exact okD_mv n x
/-- small enough to reckon with -/
def big : Nat := 2 ^ 2000
def lim : Nat := 2 ^ 1000
def Ok (m : Mv) : Prop := m.1.natAbs ≤ big ∧ m.2.1.natAbs ≤ big ∧ m.2.2.natAbs ≤ big
/-- a bound that goes along with joining -/
def Bd (B : Nat) (m : Mv) : Prop := m.1.natAbs ≤ B ∧ m.2.1.natAbs ≤ B ∧ m.2.2.natAbs ≤ B * B
theorem Bd.mono {B B' : Nat} {m : Mv} (h : Bd B m) (l : B ≤ B') : Bd B' m := ⟨Nat.le_trans h.1 l, Nat.le_trans h.2.1 l, Nat.le_trans h.2.2 (Nat.mul_le_mul l l)⟩
theorem Bd.ok {B : Nat} {m : Mv} (h : Bd B m) (l : B ≤ lim) : Ok m := by
  unfold lim at l
  have e : (2 : Nat) ^ 1000 * 2 ^ 1000 = 2 ^ 2000 := by rw [← Nat.pow_add]
  have l1 : (2 : Nat) ^ 1000 ≤ 2 ^ 2000 := Nat.pow_le_pow_right (by decide) (by decide)
  refine ⟨Nat.le_trans h.1 (Nat.le_trans l l1), Nat.le_trans h.2.1 (Nat.le_trans l l1), Nat.le_trans h.2.2 ?_⟩
  rw [show big = 2 ^ 2000 from rfl, ← e]
  exact Nat.mul_le_mul l l
theorem Bd.pl (B : Nat) : Bd B PL := ⟨Nat.zero_le _, Nat.zero_le _, Nat.zero_le _⟩
theorem Bd.join {B B' : Nat} {m n : Mv} (h : Bd B m) (h' : Bd B' n) : Bd (B + B') (joinM m n) := by
  obtain ⟨h1, h2, h3⟩ := h
  obtain ⟨k1, k2, k3⟩ := h'
  refine ⟨Nat.le_trans (Int.natAbs_add_le _ _) (Nat.add_le_add h1 k1), Nat.le_trans (Int.natAbs_add_le _ _) (Nat.add_le_add h2 k2), ?_⟩
  have a : (m.2.2 + n.2.2 + m.1 * n.2.1).natAbs ≤ m.2.2.natAbs + n.2.2.natAbs + (m.1 * n.2.1).natAbs := Nat.le_trans (Int.natAbs_add_le _ _) (Nat.add_le_add_right (Int.natAbs_add_le _ _) _)
  have b : (m.1 * n.2.1).natAbs ≤ B * B' := by rw [Int.natAbs_mul]; exact Nat.mul_le_mul h1 k2
  show (m.2.2 + n.2.2 + m.1 * n.2.1).natAbs ≤ (B + B') * (B + B')
  have c : (B + B') * (B + B') = B * B + B' * B' + B * B' + B * B' := by
    rw [Nat.add_mul, Nat.mul_add, Nat.mul_add, Nat.mul_comm B' B]; omega
  omega
theorem Bd.many {B T : Nat} {m : Mv} {t : Int} (h : Bd B m) (ht : t.natAbs ≤ T) (hT : 1 ≤ T) : Bd (2 * T * B) (manyM m t) := by
  obtain ⟨h1, h2, h3⟩ := h
  have e1 : ∀ x : Int, x.natAbs ≤ B → (t * x).natAbs ≤ 2 * T * B := fun x hx => by
    rw [Int.natAbs_mul, Nat.mul_assoc]
    exact Nat.le_trans (Nat.mul_le_mul ht hx) (Nat.le_mul_of_pos_left _ (by decide))
  refine ⟨e1 _ h1, e1 _ h2, ?_⟩
  show (t * m.2.2 + (t * (t - 1)).fdiv 2 * m.1 * m.2.1).natAbs ≤ 2 * T * B * (2 * T * B)
  have a : (t * m.2.2).natAbs ≤ T * (B * B) := by rw [Int.natAbs_mul]; exact Nat.mul_le_mul ht h3
  have b0 : (t * (t - 1)).natAbs ≤ T * (T + 1) := by
    rw [Int.natAbs_mul]
    exact Nat.mul_le_mul ht (by omega)
  have b1 : ((t * (t - 1)).fdiv 2).natAbs ≤ T * (T + 1) := by
    rw [Int.fdiv_eq_ediv_of_nonneg _ (by decide : (0 : Int) ≤ 2)]
    omega
  have b : ((t * (t - 1)).fdiv 2 * m.1 * m.2.1).natAbs ≤ T * (T + 1) * (B * B) := by
    rw [Int.natAbs_mul, Int.natAbs_mul, Nat.mul_assoc]
    exact Nat.mul_le_mul b1 (Nat.mul_le_mul h1 h2)
  have c : 2 * T * B * (2 * T * B) = 4 * (T * T) * (B * B) := by
    rw [Nat.mul_mul_mul_comm, Nat.mul_mul_mul_comm 2 T 2 T]
  have d : T * (T + 1) ≤ 2 * (T * T) := by
    rw [Nat.mul_add, Nat.mul_one]
    have : T ≤ T * T := Nat.le_mul_of_pos_left _ hT
    omega
  have e : T ≤ T * T := Nat.le_mul_of_pos_left _ hT
  have f1 : T * (B * B) ≤ (T * T) * (B * B) := Nat.mul_le_mul_right _ e
  have f2 : T * (T + 1) * (B * B) ≤ 2 * (T * T) * (B * B) := Nat.mul_le_mul_right _ d
  have g4 : 4 * (T * T) * (B * B) = 4 * ((T * T) * (B * B)) := Nat.mul_assoc ..
  have g2 : 2 * (T * T) * (B * B) = 2 * ((T * T) * (B * B)) := Nat.mul_assoc ..
  rw [c, g4]
  rw [g2] at f2
  have := Int.natAbs_add_le (t * m.2.2) ((t * (t - 1)).fdiv 2 * m.1 * m.2.1)
  omega
theorem Bd.undo {B : Nat} {m : Mv} (h : Bd B m) : Bd (2 * B) (undoM m) := by
  obtain ⟨h1, h2, h3⟩ := h
  refine ⟨by show (-m.1).natAbs ≤ _; rw [Int.natAbs_neg]; omega, by show (-m.2.1).natAbs ≤ _; rw [Int.natAbs_neg]; omega, ?_⟩
  show (m.1 * m.2.1 - m.2.2).natAbs ≤ 2 * B * (2 * B)
  have a : (m.1 * m.2.1).natAbs ≤ B * B := by rw [Int.natAbs_mul]; exact Nat.mul_le_mul h1 h2
  have c : 2 * B * (2 * B) = 4 * (B * B) := by rw [Nat.mul_mul_mul_comm]
  omega
/-- factors of so many bits may be multiplied -/
theorem mul_ok {x y : Int} {m n : Nat} (hx : x.natAbs < 2 ^ m) (hy : y.natAbs < 2 ^ n) (h : m + n ≤ 134217728) : MulOk x y :=
  PyProof.Rows.mulOk_of_bits (m := m) (n := n) (bits_le hx) (bits_le hy) h
where bits_le {x : Int} {m : Nat} (h : x.natAbs < 2 ^ m) : Builtin.Int.intBits x ≤ m := PySem.intBits_le_iff.mpr h
theorem Ok.mul {x y : Int} (hx : x.natAbs ≤ big) (hy : y.natAbs ≤ big) : MulOk x y :=
  mul_ok (m := 2001) (n := 2001) (Nat.lt_of_le_of_lt hx (Nat.pow_lt_pow_right (by decide) (by decide))) (Nat.lt_of_le_of_lt hy (Nat.pow_lt_pow_right (by decide) (by decide))) (by decide)
theorem two1000 {x y : Nat} : x ≤ y → x < y + 1 := Nat.lt_succ_of_le
theorem many_ok {m : Mv} {t : Int} (h : Ok m) (ht : t.natAbs ≤ lim) : MulOk t m.1 ∧ MulOk t m.2.1 ∧ MulOk t m.2.2 ∧ MulOk t (t - 1) ∧ MulOk ((t * (t - 1)).fdiv 2) m.1 ∧ MulOk ((t * (t - 1)).fdiv 2 * m.1) m.2.1 := by
  unfold lim at ht
  have lt1 : t.natAbs < 2 ^ 1001 := Nat.lt_of_le_of_lt ht (Nat.pow_lt_pow_right (by decide) (by decide))
  have lt2 : (t - 1).natAbs < 2 ^ 1001 := by
    have e : (2 : Nat) ^ 1001 = 2 ^ 1000 * 2 := Nat.pow_succ ..
    have p : 1 < (2 : Nat) ^ 1000 := Nat.one_lt_two_pow (by decide)
    omega
  have l3 : ∀ x : Int, x.natAbs ≤ big → x.natAbs < 2 ^ 2001 := fun x hx => Nat.lt_of_le_of_lt hx (Nat.pow_lt_pow_right (by decide) (by decide))
  have l4 : (t * (t - 1)).natAbs < 2 ^ 2002 := by
    rw [Int.natAbs_mul, show (2002 : Nat) = 1001 + 1001 from rfl, Nat.pow_add]
    exact Nat.mul_lt_mul'' lt1 lt2
  have l5 : ((t * (t - 1)).fdiv 2).natAbs < 2 ^ 2002 := by
    rw [Int.fdiv_eq_ediv_of_nonneg _ (by decide : (0 : Int) ≤ 2)]
    omega
  have l6 : ((t * (t - 1)).fdiv 2 * m.1).natAbs < 2 ^ 4003 := by
    rw [Int.natAbs_mul, show (4003 : Nat) = 2002 + 2001 from rfl, Nat.pow_add]
    exact Nat.mul_lt_mul'' l5 (l3 _ h.1)
  exact ⟨mul_ok lt1 (l3 _ h.1) (by decide), mul_ok lt1 (l3 _ h.2.1) (by decide), mul_ok lt1 (l3 _ h.2.2) (by decide), mul_ok lt1 lt2 (by decide), mul_ok l5 (l3 _ h.1) (by decide), mul_ok l6 (l3 _ h.2.1) (by decide)⟩
/-- all that was gone, the last one first -/
def wholeM : List Mv → Mv
  | [] => PL
  | m :: r => joinM (wholeM r) m
theorem wholeM_rev (ms : List Mv) : ms.foldl joinM PL = wholeM ms.reverse := by
  rw [← List.reverse_reverse ms, List.foldl_reverse, List.reverse_reverse]
  induction ms.reverse with
  | nil => rfl
  | cons m r ih => simp only [List.foldr_cons, wholeM, ih]
theorem Bd.whole {B : Nat} : ∀ {r : List Mv}, (∀ m ∈ r, Bd B m) → Bd (r.length * B) (wholeM r)
  | [], _ => .pl _
  | m :: r, h => by
    have a := Bd.whole (r := r) fun x hx => h x (List.mem_cons_of_mem _ hx)
    have b := a.join (h m List.mem_cons_self)
    rw [List.length_cons, Nat.add_mul, Nat.one_mul]
    exact b
end DL

set_option autoImplicit false
set_option Elab.async false
set_option linter.all false
set_option maxRecDepth 100000
set_option autoImplicit false
set_option exponentiation.threshold 9000
/-! DM2: lots, plans, walkers in plain Lean. -/
namespace DL
open PySem PySem.Spec L2
def IsBtn (m : Mv) : Prop := m.1.natAbs ≤ 10 ^ 30 ∧ m.2.1.natAbs ≤ 10 ^ 30 ∧ m.2.2.natAbs ≤ 10 ^ 30
theorem IsBtn.bd {m : Mv} (h : IsBtn m) : Bd (10 ^ 31) m := ⟨Nat.le_trans h.1 (by decide), Nat.le_trans h.2.1 (by decide), Nat.le_trans h.2.2 (by decide)⟩
def BtnsOk (bs : List Mv) : Prop := bs ≠ [] ∧ bs.length ≤ 5 ∧ ∀ b ∈ bs, IsBtn b
def lotD (bs : List Mv) : D := .slo "Lot" [.tup (bs.map mvD)]
/-! ### plans -/
def pairD (e : D × Int) : D := .tup [e.1, .int e.2]
def PlanOk : Nat → Nat → D → Prop
  | 0, _, _ => False
  | d + 1, n, p => ∃ ps : List (D × Int), p = .tup (ps.map pairD) ∧ ps.length ≤ 3 ∧ ∀ e ∈ ps, e.2 ≠ 0 ∧ e.2.natAbs ≤ 10 ^ 20 ∧ ((∃ i : Nat, e.1 = .int i ∧ i < n) ∨ PlanOk d n e.1)
def PartOk (d n : Nat) (p : D) : Prop := (∃ i : Nat, p = .int i ∧ i < n) ∨ PlanOk d n p
def foldP (f : D → Mv) : List D → Mv → Mv
  | [], a => a
  | .tup [p, .int t] :: ds, a => foldP f ds (joinM a (manyM (f p) t))
  | _ :: ds, a => foldP f ds a
def meanP : Nat → List Mv → D → Mv
  | _, bs, .int i => bs.getD i.toNat PL
  | d + 1, bs, .tup ps => foldP (meanP d bs) ps PL
  | _, _, _ => PL
theorem meanP_int (d : Nat) (bs : List Mv) (i : Int) : meanP d bs (.int i) = bs.getD i.toNat PL := by cases d <;> rfl
theorem meanP_tup (d : Nat) (bs : List Mv) (ps : List D) : meanP (d + 1) bs (.tup ps) = foldP (meanP d bs) ps PL := rfl
def BpN : Nat → Nat
  | 0 => 10 ^ 31
  | d + 1 => 6 * 10 ^ 20 * BpN d
theorem BpN_le (d : Nat) : 10 ^ 31 ≤ BpN d := by
  induction d with
  | zero => exact Nat.le_refl _
  | succ d ih => exact Nat.le_trans ih (Nat.le_mul_of_pos_left _ (by decide))
theorem getD_bd {bs : List Mv} {i : Nat} (h : ∀ b ∈ bs, IsBtn b) : Bd (10 ^ 31) (bs.getD i PL) := by
  rw [List.getD_eq_getElem?_getD]
  cases e : bs[i]? with
  | none => exact .pl _
  | some b => exact (h b (List.mem_of_getElem? e)).bd
theorem foldP_bd {f : D → Mv} {n d B : Nat} (hf : ∀ p, PartOk d n p → Bd B (f p)) : ∀ (ps : List (D × Int)) (a : Mv) (A : Nat), (∀ e ∈ ps, e.2 ≠ 0 ∧ e.2.natAbs ≤ 10 ^ 20 ∧ PartOk d n e.1) → Bd A a → Bd (A + ps.length * (2 * 10 ^ 20 * B)) (foldP f (ps.map pairD) a)
  | [], a, A, _, h => by simpa [foldP] using h
  | (p, t) :: ps, a, A, hp, h => by
    have h1 := hp (p, t) List.mem_cons_self
    have h2 := h.join ((hf p h1.2.2).many h1.2.1 (by decide))
    have h3 := foldP_bd hf ps _ _ (fun e he => hp e (List.mem_cons_of_mem _ he)) h2
    refine h3.mono ?_
    rw [List.length_cons, Nat.add_mul, Nat.one_mul]
    omega
theorem part_bd {bs : List Mv} {n : Nat} (h : ∀ b ∈ bs, IsBtn b) : ∀ (d : Nat) (p : D), PartOk d n p → Bd (BpN d) (meanP d bs p)
  | d, p, .inl ⟨i, e, _⟩ => by subst e; rw [meanP_int]; exact (getD_bd h).mono (BpN_le d)
  | 0, p, .inr q => q.elim
  | d + 1, p, .inr ⟨ps, e, hl, hp⟩ => by
    subst e
    rw [meanP_tup]
    have := foldP_bd (n := n) (d := d) (part_bd h d) ps PL 0 hp (.pl _)
    refine this.mono ?_
    rw [Nat.zero_add]
    have e : BpN (d + 1) = 3 * (2 * 10 ^ 20 * BpN d) := by
      show 6 * 10 ^ 20 * BpN d = _
      rw [← Nat.mul_assoc, ← Nat.mul_assoc]
    rw [e]
    exact Nat.mul_le_mul_right _ hl
theorem BpN_small {d : Nat} (h : d ≤ 3) : 3 * (2 * 10 ^ 20 * BpN d) ≤ lim := by
  have h0 : ∀ d : Nat, d ≤ 3 → d = 0 ∨ d = 1 ∨ d = 2 ∨ d = 3 := by omega
  rcases h0 d h with rfl | rfl | rfl | rfl <;> decide +kernel
theorem BpN_lim {d : Nat} (h : d ≤ 4) : BpN d ≤ lim := by
  have h0 : d = 0 ∨ d = 1 ∨ d = 2 ∨ d = 3 ∨ d = 4 := by omega
  rcases h0 with rfl | rfl | rfl | rfl | rfl <;> decide +kernel
theorem ten20_small : 10 ^ 20 ≤ lim := by decide +kernel
/-! ### walkers -/
def spotD : List Mv → D
  | [] => .obj "Spot" ["whole", "road", "ahead"] [mvD PL, .tup [], .non]
  | m :: r => .obj "Spot" ["whole", "road", "ahead"] [mvD (wholeM (m :: r)), .tup ((m :: r).reverse.map mvD), spotD r]
def aheadD : List Mv → D
  | [] => .non
  | _ :: r => spotD r
theorem spotD_eq (r : List Mv) : spotD r = .obj "Spot" ["whole", "road", "ahead"] [mvD (wholeM r), .tup (r.reverse.map mvD), aheadD r] := by cases r <;> rfl
theorem spotD_cons (m : Mv) (r : List Mv) : .obj "Spot" ["whole", "road", "ahead"] [mvD (joinM (wholeM r) m), .tup (r.reverse.map mvD ++ [mvD m]), spotD r] = spotD (m :: r) := by
  show _ = D.obj _ _ [_, D.tup ((m :: r).reverse.map mvD), _]
  rw [List.reverse_cons, List.map_append]; rfl
theorem spot_cons (m : Mv) (r : List Mv) : spotD (m :: r) = .obj "Spot" ["whole", "road", "ahead"] [mvD (wholeM (m :: r)), .tup ((m :: r).reverse.map mvD), spotD r] := rfl
theorem isNon_spot (r : List Mv) : isNon (spotD r) = false := by cases r <;> rfl
def walkerM (r : List Mv) : MO := .ins "Walker" ["spot"] [spotD r]
/-! ### walks -/
def lets : List Nat := ("enws" : Str).cps.toList
def stepM (c : Nat) : Mv := if c = 101 then (1, 0, 0) else if c = 110 then (0, 1, 0) else if c = 119 then (-1, 0, 0) else (0, -1, 0)
theorem lets_eq : lets = [101, 110, 119, 115] := by decide +kernel
theorem stepM_bd (c : Nat) : Bd 1 (stepM c) := by
  unfold stepM
  split
  · exact ⟨by decide, by decide, by decide⟩
  split
  · exact ⟨by decide, by decide, by decide⟩
  split
  · exact ⟨by decide, by decide, by decide⟩
  · exact ⟨by decide, by decide, by decide⟩
def tabS (z : Str) : Option D := if z = "e" then some (mvD (1, 0, 0)) else if z = "n" then some (mvD (0, 1, 0)) else if z = "w" then some (mvD (-1, 0, 0)) else if z = "s" then some (mvD (0, -1, 0)) else none
theorem tabS_step {c : Nat} (h : c ∈ lets) : tabS ⟨#[c]⟩ = some (mvD (stepM c)) := by
  rw [lets_eq] at h
  simp only [List.mem_cons, List.not_mem_nil, or_false] at h
  rcases h with rfl | rfl | rfl | rfl <;> rfl
def walkM (z : Str) : Mv := wholeM (z.cps.toList.map stepM).reverse
end DL

set_option autoImplicit false
set_option Elab.async false
set_option linter.all false
set_option maxRecDepth 100000
set_option autoImplicit false
set_option exponentiation.threshold 9000
/-! DM3: the laws' well of drawn numbers. -/
namespace DL
open PySem PySem.Spec L2
def W (n : Nat) (mo : MO) : Prop := ∃ w0 w1 w2 : Int, mo = .lst [.int w0, .int w1, .int w2] ∧ 0 ≤ w0 ∧ 0 ≤ w1 ∧ w1 < 2147483399 ∧ 0 ≤ w2 ∧ w2 ≤ n
theorem ixN_30 : ixN 3 0 = some 0 := rfl
theorem ixN_31 : ixN 3 1 = some 1 := rfl
theorem ixN_32 : ixN 3 2 = some 2 := rfl
theorem p10 {a b : Nat} (h : a ≤ b) : (10 : Int) ^ a ≤ 10 ^ b := by
  have h1 := Nat.pow_le_pow_right (n := 10) (by decide) h
  exact_mod_cast h1
theorem btn {x y s : Int} (hx : x.natAbs ≤ 10 ^ 30) (hy : y.natAbs ≤ 10 ^ 30) (hs : s.natAbs ≤ 10 ^ 30) : IsBtn (x, y, s) := ⟨hx, hy, hs⟩
theorem z30 : (0 : Int).natAbs ≤ 10 ^ 30 := by decide
theorem W.mono {m n : Nat} {mo : MO} (h : W m mo) (l : m ≤ n) : W n mo := by
  obtain ⟨w0, w1, w2, e, a, b, c, d, f⟩ := h
  exact ⟨w0, w1, w2, e, a, b, c, d, by omega⟩
theorem mul64 {x y : Int} (hx : x.natAbs < 2 ^ 64) (hy : y.natAbs < 2 ^ 64) : MulOk x y := mul_ok hx hy (by decide)
/-- a dip: what is asked of the numbers -/
theorem dip_ok {w1 w2 : Int} (h1 : 0 ≤ w1) (h2 : w1 < 2147483399) (h3 : 0 ≤ w2) (h4 : w2 ≤ 10000000) : MulOk 2 w2 ∧ MulOk w1 (20011 + 2 * w2) ∧ MulOk 70001 w2 :=
  ⟨mul64 (by decide) (by omega), mul64 (by omega) (by omega), mul64 (by decide) (by omega)⟩
theorem fmod_rng (x : Int) {s : Int} (h : 0 < s) : 0 ≤ x.fmod s ∧ x.fmod s < s := ⟨Int.fmod_nonneg_of_pos _ h, Int.fmod_lt_of_pos _ h⟩
theorem below6 {i : Int} (h0 : 0 ≤ i) (h1 : i < 6) : i = 0 ∨ i = 1 ∨ i = 2 ∨ i = 3 ∨ i = 4 ∨ i = 5 := by omega
theorem below3 {i : Int} (h0 : 0 ≤ i) (h1 : i < 3) : i = 0 ∨ i = 1 ∨ i = 2 := by omega
theorem range_len (lo : Int) (n : Nat) : (rangeD lo n).length = n := by simp [rangeD]
theorem range_mem {lo : Int} {n : Nat} {d : D} (h : d ∈ rangeD lo n) : ∃ i : Nat, i < n ∧ d = .int (lo + i) := by
  simp only [rangeD, List.mem_map, List.mem_range] at h
  obtain ⟨i, hi, rfl⟩ := h
  exact ⟨i, hi, rfl⟩
theorem atI_in {ds : List D} {i : Int} (h0 : 0 ≤ i) (h1 : i < ds.length) : ∃ x, atI ds i = some x ∧ x ∈ ds := by
  obtain ⟨j, rfl⟩ := Int.eq_ofNat_of_zero_le h0
  have hj : j < ds.length := by omega
  exact ⟨ds[j], atI_nat (j := j) (List.getElem?_eq_getElem hj), List.getElem_mem hj⟩
def cP : Nat → Nat
  | 0 => 0
  | d + 1 => 10 + 3 * cP d
theorem cP_le {d : Nat} (h : d ≤ 5) : cP d ≤ 2000 := by
  have h0 : d = 0 ∨ d = 1 ∨ d = 2 ∨ d = 3 ∨ d = 4 ∨ d = 5 := by omega
  rcases h0 with rfl | rfl | rfl | rfl | rfl | rfl <;> decide
theorem cut_last (xs : List D) (x : D) : cutD (xs ++ [x]) none (some (-1)) = xs := by
  unfold cutD
  have e : HT.sIx (xs ++ [x]).length (xs ++ [x]).length (some (-1)) = xs.length := by
    show (if (-1 : Int) < 0 then (-1 + ((xs ++ [x]).length : Int)).toNat else min (-1 : Int).toNat (xs ++ [x]).length) = _
    rw [if_pos (by decide), List.length_append, List.length_singleton]
    omega
  have e0 : HT.sIx (xs ++ [x]).length 0 none = 0 := rfl
  rw [e, e0, List.drop_zero, Nat.sub_zero, List.take_left']
  rfl
theorem join_singles : ∀ cs : List Nat, (Txt.join ("" : Str) (cs.map fun c => (⟨#[c]⟩ : Str))).cps.toList = cs := by
  intro cs
  show (Builtin.Str.glued ("" : Str) (cs.map fun c => (⟨#[c]⟩ : Str))).cps.toList = cs
  rw [StrLaws.glued_eq_join]
  induction cs with
  | nil => rfl
  | cons c cs ih =>
    cases cs with
    | nil => rfl
    | cons c2 r =>
      show ((⟨#[c]⟩ : Str) ++ ("" : Str) ++ Str.join "" ((c2 :: r).map fun c => (⟨#[c]⟩ : Str))).cps.toList = _
      have e : ∀ a b : Str, (a ++ b).cps.toList = a.cps.toList ++ b.cps.toList := fun a b => by
        show (a.cps ++ b.cps).toList = _
        simp
      rw [e, e, ih]
      rfl
theorem strs_singles (cs : List Nat) : strsD (cs.map fun c => D.str ⟨#[c]⟩) = some (cs.map fun c => (⟨#[c]⟩ : Str)) := by
  have h := strsD_map (cs.map fun c => (⟨#[c]⟩ : Str))
  rw [List.map_map] at h
  exact h
theorem sum_singles (cs : List Nat) : ((cs.map fun c => (⟨#[c]⟩ : Str)).map (·.length)).sum = cs.length := by
  induction cs with
  | nil => rfl
  | cons c cs ih =>
    simp only [List.map_cons, List.sum_cons, List.length_cons, ih]
    show 1 + cs.length = _
    omega
theorem selfW {M : Mem} {wk : Addr} {r : List Mv} {m : Str} (h : M wk = some (walkerM r)) (hm : m ∉ (["spot"] : List Str)) : selfOk "Walker" m (.ref wk) M := by
  unfold selfOk
  simp only [h, walkerM]
  exact ⟨trivial, hm⟩
theorem deqs_snoc (xs : List D) (x : D) : deqs (xs ++ [x]) [] = false := by cases xs <;> simp [deqs, pys, PyData.eqvAll]
theorem BB_small : 1000 * BpN 3 ≤ lim := by decide +kernel
theorem BB_31 : 10 ^ 31 ≤ BpN 3 := BpN_le 3
theorem whole_ok {r : List Mv} (h : ∀ m ∈ r, Bd (BpN 3) m) (l : r.length ≤ 1000) : Ok (wholeM r) := (Bd.whole h).ok (Nat.le_trans (Nat.mul_le_mul_right _ l) BB_small)
theorem BB_ok {m : Mv} (h : Bd (BpN 3) m) : Ok m := h.ok (Nat.le_trans (by omega) BB_small)
theorem walk_bd {z : Str} (l : z.cps.toList.length ≤ 9) : Bd (BpN 3) (walkM z) := by
  have h := Bd.whole (B := 1) (r := (z.cps.toList.map stepM).reverse) fun m hm => by
    rw [List.mem_reverse, List.mem_map] at hm
    obtain ⟨c, _, rfl⟩ := hm
    exact stepM_bd c
  refine h.mono (Nat.le_trans ?_ BB_31)
  rw [List.length_reverse, List.length_map]
  omega
theorem rev_cons (m : Mv) (r : List Mv) : (m :: r).reverse.map mvD = r.reverse.map mvD ++ [mvD m] := by rw [List.reverse_cons, List.map_append]; rfl
theorem mem_cons_bd {m : Mv} {r : List Mv} (h : ∀ x ∈ r, Bd (BpN 3) x) (hm : Bd (BpN 3) m) : ∀ x ∈ m :: r, Bd (BpN 3) x := by
  intro x hx
  rcases List.mem_cons.mp hx with rfl | hx
  · exact hm
  · exact h x hx
end DL

set_option autoImplicit false
set_option Elab.async false
set_option linter.all false
set_option maxRecDepth 100000
set_option autoImplicit false
set_option exponentiation.threshold 9000
/-! DM4: three walkers side by side, in plain Lean. -/
namespace DL
open PySem PySem.Spec L2
theorem mput_none {M : Mem} {x y : Addr} {o : MO} (h : mput M x o y = none) : y ≠ x ∧ M y = none := by
  unfold mput at h
  split at h
  · cases h
  · rename_i n; exact ⟨n, h⟩
theorem ne_of_mem {M : Mem} {x y : Addr} {o : MO} (h : M x = none) (k : M y = some o) : x ≠ y := fun z => by rw [z, k] at h; cases h
theorem join_undo (m : Mv) : joinM m (undoM m) = PL := by
  obtain ⟨x, y, s⟩ := m
  show ((x + -x, y + -y, s + (x * y - s) + x * -y) : Mv) = (0, 0, 0)
  have e : x * -y = -(x * y) := Int.mul_neg ..
  rw [e]
  refine Prod.ext (by show x + -x = 0; omega) (Prod.ext (by show y + -y = 0; omega) ?_)
  show s + (x * y - s) + -(x * y) = 0
  omega
def rd (r : List Mv) : D := .lst (r.reverse.map mvD)
def Good (k : Nat) (r : List Mv) : Prop := r.length ≤ k ∧ ∀ m ∈ r, Bd (BpN 3) m
theorem Good.mono {k l : Nat} {r : List Mv} (h : Good k r) (i : k ≤ l) : Good l r := ⟨Nat.le_trans h.1 i, h.2⟩
structure Apart (a p x y z : Addr) : Prop where
  xa : x ≠ a
  ya : y ≠ a
  za : z ≠ a
  pa : p ≠ a
  xp : x ≠ p
  yp : y ≠ p
  zp : z ≠ p
  xy : x ≠ y
  xz : x ≠ z
  yz : y ≠ z
structure SS (M : Mem) (a p x y z : Addr) (n k : Nat) (r0 r1 r2 : List Mv) : Prop where
  ma : ∃ mo, M a = some mo ∧ W n mo
  mp : M p = some (.lst [rd r0, rd r1, rd r2])
  mx : M x = some (walkerM r0)
  my : M y = some (walkerM r1)
  mz : M z = some (walkerM r2)
  g0 : Good k r0
  g1 : Good k r1
  g2 : Good k r2
theorem ss_at {M : Mem} {a p x y z : Addr} {n k : Nat} {r0 r1 r2 : List Mv} (h : SS M a p x y z n k r0 r1 r2) {i : Int} (i0 : 0 ≤ i) (i3 : i < 3) :
    ∃ (xi : Addr) (ri : List Mv), atI [D.ref x, D.ref y, D.ref z] i = some (D.ref xi) ∧ atI [rd r0, rd r1, rd r2] i = some (rd ri) ∧ M xi = some (walkerM ri) ∧ Good k ri := by
  rcases below3 i0 i3 with rfl | rfl | rfl
  · exact ⟨x, r0, atI_0 .., atI_0 .., h.mx, h.g0⟩
  · exact ⟨y, r1, atI_1 .., atI_1 .., h.my, h.g1⟩
  · exact ⟨z, r2, atI_2 .., atI_2 .., h.mz, h.g2⟩
theorem ss_step {M : Mem} {a p x y z : Addr} {n k : Nat} {r0 r1 r2 : List Mv} (A : Apart a p x y z) (h : SS M a p x y z n k r0 r1 r2) {i : Int} (i0 : 0 ≤ i) (i3 : i < 3) :
    ∃ (xi : Addr) (ri : List Mv) (j : Nat), atI [D.ref x, D.ref y, D.ref z] i = some (D.ref xi) ∧ atI [rd r0, rd r1, rd r2] i = some (rd ri) ∧ ixN 3 i = some j ∧ M xi = some (walkerM ri) ∧ xi ≠ a ∧ xi ≠ p ∧ Good k ri ∧
      ∀ (r' : List Mv) (mo' : MO) (n' : Nat), Good (k + 1) r' → W n' mo' → ∃ s0 s1 s2, SS (mput (mput (mput M a mo') xi (walkerM r')) p (.lst ([rd r0, rd r1, rd r2].set j (rd r')))) a p x y z n' (k + 1) s0 s1 s2 := by
  have ap := A.pa
  rcases below3 i0 i3 with rfl | rfl | rfl
  · refine ⟨x, r0, 0, atI_0 .., atI_0 .., rfl, h.mx, A.xa, A.xp, h.g0, fun r' mo' n' hg hw => ⟨r', r1, r2, ⟨mo', ?_, hw⟩, mput_same, ?_, ?_, ?_, hg, h.g1.mono (by omega), h.g2.mono (by omega)⟩⟩
    · rw [mput_ne (Ne.symm A.pa), mput_ne (Ne.symm A.xa), mput_same]
    · rw [mput_ne A.xp, mput_same]
    · rw [mput_ne A.yp, mput_ne (Ne.symm A.xy), mput_ne A.ya]; exact h.my
    · rw [mput_ne A.zp, mput_ne (Ne.symm A.xz), mput_ne A.za]; exact h.mz
  · refine ⟨y, r1, 1, atI_1 .., atI_1 .., rfl, h.my, A.ya, A.yp, h.g1, fun r' mo' n' hg hw => ⟨r0, r', r2, ⟨mo', ?_, hw⟩, mput_same, ?_, ?_, ?_, h.g0.mono (by omega), hg, h.g2.mono (by omega)⟩⟩
    · rw [mput_ne (Ne.symm A.pa), mput_ne (Ne.symm A.ya), mput_same]
    · rw [mput_ne A.xp, mput_ne A.xy, mput_ne A.xa]; exact h.mx
    · rw [mput_ne A.yp, mput_same]
    · rw [mput_ne A.zp, mput_ne (Ne.symm A.yz), mput_ne A.za]; exact h.mz
  · refine ⟨z, r2, 2, atI_2 .., atI_2 .., rfl, h.mz, A.za, A.zp, h.g2, fun r' mo' n' hg hw => ⟨r0, r1, r', ⟨mo', ?_, hw⟩, mput_same, ?_, ?_, ?_, h.g0.mono (by omega), h.g1.mono (by omega), hg⟩⟩
    · rw [mput_ne (Ne.symm A.pa), mput_ne (Ne.symm A.za), mput_same]
    · rw [mput_ne A.xp, mput_ne A.xz, mput_ne A.xa]; exact h.mx
    · rw [mput_ne A.yp, mput_ne A.yz, mput_ne A.ya]; exact h.my
    · rw [mput_ne A.zp, mput_same]
theorem SS.well {M : Mem} {a p x y z : Addr} {n k n' : Nat} {r0 r1 r2 : List Mv} {mo : MO} (A : Apart a p x y z) (h : SS M a p x y z n k r0 r1 r2) (hw : W n' mo) : SS (mput M a mo) a p x y z n' k r0 r1 r2 :=
  ⟨⟨mo, mput_same, hw⟩, by rw [mput_ne A.pa]; exact h.mp, by rw [mput_ne A.xa]; exact h.mx, by rw [mput_ne A.ya]; exact h.my, by rw [mput_ne A.za]; exact h.mz, h.g0, h.g1, h.g2⟩
theorem isInsW {M : Mem} {x : Addr} {r : List Mv} (h : M x = some (walkerM r)) : isIns "Walker" x M := by
  unfold isIns
  rw [h]
  exact rfl
theorem insOkW {M : Mem} {x : Addr} {r : List Mv} (h : M x = some (walkerM r)) : insOk "Walker" (.ref x) M := by
  unfold insOk
  simp only [h, walkerM]
theorem Good.ok {k : Nat} {r : List Mv} (h : Good k r) (l : k ≤ 1000) : Ok (wholeM r) := whole_ok h.2 (Nat.le_trans h.1 l)
theorem Good.bd {k : Nat} {r : List Mv} (h : Good k r) (l : k ≤ 100) : Bd (100 * BpN 3) (wholeM r) := (Bd.whole h.2).mono (Nat.mul_le_mul_right _ (Nat.le_trans h.1 l))
theorem cut_mem {xs : List D} {lo hi : Option Int} {d : D} (h : d ∈ cutD xs lo hi) : d ∈ xs := List.mem_of_mem_drop (List.mem_of_mem_take h)
theorem cut_len (xs : List D) (lo hi : Option Int) : (cutD xs lo hi).length ≤ xs.length := by
  unfold cutD
  rw [List.length_take, List.length_drop]
  omega
theorem range3 : rangeD 0 (Int.toNat 3) = [.int 0, .int 1, .int 2] := rfl
end DL

set_option autoImplicit false
set_option Elab.async false
set_option linter.all false
set_option maxRecDepth 100000
set_option autoImplicit false
set_option exponentiation.threshold 9000
/-! DM5: what is shown of a walker; piles. -/
namespace DL
open PySem PySem.Spec L2
/-! ### ints that may be shown -/
def lim9 : Nat := 2 ^ 900
theorem log_small {x : Int} (h : x.natAbs < 2 ^ 1920) : x.natAbs.log2 < 1920 := by
  by_cases z : x.natAbs = 0
  · rw [z]; decide
  · exact (Nat.log2_lt z).mpr h
theorem Bd.show_ {B : Nat} {m : Mv} (h : Bd B m) (l : B ≤ lim9) : m.1.natAbs.log2 < 1920 ∧ m.2.1.natAbs.log2 < 1920 ∧ m.2.2.natAbs.log2 < 1920 := by
  unfold lim9 at l
  have e : (2 : Nat) ^ 900 * 2 ^ 900 = 2 ^ 1800 := by rw [← Nat.pow_add]
  have l1 : (2 : Nat) ^ 900 < 2 ^ 1920 := Nat.pow_lt_pow_right (by decide) (by decide)
  have l2 : (2 : Nat) ^ 1800 < 2 ^ 1920 := Nat.pow_lt_pow_right (by decide) (by decide)
  have l3 : B * B ≤ 2 ^ 1800 := by rw [← e]; exact Nat.mul_le_mul l l
  exact ⟨log_small (by have := h.1; omega), log_small (by have := h.2.1; omega), log_small (by have := h.2.2; omega)⟩
def Small (m : Mv) : Prop := m.1.natAbs.log2 < 1920 ∧ m.2.1.natAbs.log2 < 1920 ∧ m.2.2.natAbs.log2 < 1920
theorem int_short {i : Int} (h : i.natAbs.log2 < 1920) : PyData.leavesShort 1921 (.int i) = true := by
  simp only [PyData.leavesShort, decide_eq_true_eq]
  exact PyProof.Rows.int_text_len_1921 h
theorem mv_show {m : Mv} (h : Small m) : (py (mvD m)).showable = true ∧ (py (mvD m)).leavesShort 1921 = true ∧ (py (mvD m)).bulk = 3 := by
  obtain ⟨h1, h2, h3⟩ := h
  refine ⟨?_, ?_, ?_⟩
  · simp [mvD, py, pys, PyData.showable, PyData.showableAll, h1, h2, h3]
  · simp only [mvD, py, pys, PyData.leavesShort, PyData.leavesShortAll, Bool.and_eq_true, decide_eq_true_eq, and_true]
    exact ⟨PyProof.Rows.int_text_len_1921 h1, PyProof.Rows.int_text_len_1921 h2, PyProof.Rows.int_text_len_1921 h3⟩
  · simp [mvD, py, pys, PyData.bulk, PyData.bulkAll]
theorem mvs_show : ∀ {ms : List Mv}, (∀ m ∈ ms, Small m) → PyData.showableAll (pys (ms.map mvD)) = true ∧ PyData.leavesShortAll 1921 (pys (ms.map mvD)) = true ∧ PyData.bulkAll (pys (ms.map mvD)) = 4 * ms.length
  | [], _ => ⟨rfl, rfl, rfl⟩
  | m :: ms, h => by
    obtain ⟨a1, a2, a3⟩ := mv_show (h m List.mem_cons_self)
    obtain ⟨b1, b2, b3⟩ := mvs_show (ms := ms) fun x hx => h x (List.mem_cons_of_mem _ hx)
    simp only [List.map_cons, pys, PyData.showableAll, PyData.leavesShortAll, PyData.bulkAll, a1, a2, a3, b1, b2, b3, List.length_cons]
    exact ⟨rfl, rfl, by omega⟩
/-- what a law shows of a walker -/
def shownD (r : List Mv) : D := .lst [mvD (wholeM r), .tup (r.reverse.map mvD), .int (r.length : Nat), .bl true]
theorem shown_ok {r : List Mv} (hw : Small (wholeM r)) (h : ∀ m ∈ r, Small m) (hl : r.length ≤ 1000) : okD 40 (shownD r) = true ∧ (py (shownD r)).showable = true ∧ (py (shownD r)).shown.length ≤ sizeLine := by
  obtain ⟨a1, a2, a3⟩ := mv_show hw
  obtain ⟨b1, b2, b3⟩ := mvs_show (ms := r.reverse) fun m hm => h m (List.mem_reverse.mp hm)
  have n1 : ((r.length : Nat) : Int).natAbs.log2 < 1920 := log_small (Nat.lt_of_le_of_lt (show _ ≤ 1000 by omega) (by decide +kernel))
  have n2 := PyProof.Rows.int_text_len_1921 n1
  have e : py (shownD r) = .list [py (mvD (wholeM r)), .tuple (pys (r.reverse.map mvD)), .int (r.length : Nat), .bool true] := by simp [shownD, py, pys]
  refine ⟨?_, ?_, ?_⟩
  · have o1 := okD_mv 37 (wholeM r)
    have o2 := okD_mvs 36 r.reverse
    show [mvD (wholeM r), .tup (r.reverse.map mvD), .int (r.length : Nat), .bl true].all (okD 39) = true
    simp only [List.all_cons, List.all_nil, o1, o2, Bool.true_and]
    rfl
  · rw [e]
    simp only [PyData.showable, PyData.showableAll, a1, b1, Bool.true_and, Bool.and_true, decide_eq_true_eq]
    exact n1
  · rw [e]
    have s := PyData.shown_le_bulk 1921 (by decide) (.list [py (mvD (wholeM r)), .tuple (pys (r.reverse.map mvD)), .int (r.length : Nat), .bool true]) (by
      simp only [PyData.leavesShort, PyData.leavesShortAll, a2, b2, Bool.true_and, Bool.and_true, decide_eq_true_eq]
      exact n2)
    refine Nat.le_trans s ?_
    simp only [PyData.bulk, PyData.bulkAll, a3, b3, List.length_reverse, sizeLine_eq]
    omega
/-! ### piles -/
def lastD (r : List Mv) : D := .tup [mvD (wholeM r), rd r]
def frontL : List Mv → List D
  | [] => []
  | _ :: r => frontL r ++ [lastD r]
def pileL (r : List Mv) : List D := frontL r ++ [lastD r]
theorem pile_cons (m : Mv) (r : List Mv) : pileL (m :: r) = pileL r ++ [lastD (m :: r)] := rfl
theorem frontL_len : ∀ r : List Mv, (frontL r).length = r.length
  | [] => rfl
  | _ :: r => by rw [frontL, List.length_append, frontL_len r]; rfl
theorem pile_len (r : List Mv) : (pileL r).length = r.length + 1 := by rw [pileL, List.length_append, frontL_len]; rfl
theorem atI_last (xs : List D) (x : D) : atI (xs ++ [x]) (-1) = some x := by
  unfold atI
  have e : ixN (xs ++ [x]).length (-1) = some xs.length := by
    unfold ixN
    rw [if_neg (by decide), if_pos (by rw [List.length_append, List.length_singleton]; omega)]
    rw [List.length_append, List.length_singleton]
    congr 1
    omega
  rw [e]
  show (xs ++ [x])[xs.length]? = some x
  simp
theorem pile_last (r : List Mv) : atI (pileL r) (-1) = some (lastD r) := atI_last _ _
theorem ok_last (n : Nat) (r : List Mv) : okD (n + 4) (lastD r) = true := by
  show [mvD (wholeM r), rd r].all (okD (n + 3)) = true
  simp only [List.all_cons, List.all_nil, Bool.and_true, Bool.and_eq_true]
  exact ⟨okD_mv (n + 1) _, okD_mvs n _⟩
theorem ok_pile : ∀ r : List Mv, (pileL r).all (okD 59) = true
  | [] => by
    rw [pileL, frontL, List.nil_append, List.all_cons, ok_last 55]; rfl
  | m :: r => by rw [pile_cons, List.all_append, ok_pile r, List.all_cons, ok_last 55]; rfl
theorem mput_self {M : Mem} {a : Addr} {o : MO} (h : M a = some o) : mput M a o = M := by
  funext b
  unfold mput
  split
  · rename_i e; rw [e, h]
  · rfl
/-! ### bounds for plans of four storeys -/
theorem B4_lim : 1000 * BpN 4 ≤ lim := by decide +kernel
theorem B4_lim9 : 1000 * BpN 4 ≤ lim9 := by decide +kernel
theorem whole4 {r : List Mv} (h : ∀ m ∈ r, Bd (BpN 4) m) (l : r.length ≤ 1000) : Ok (wholeM r) := (Bd.whole h).ok (Nat.le_trans (Nat.mul_le_mul_right _ l) B4_lim)
theorem whole4s {r : List Mv} (h : ∀ m ∈ r, Bd (BpN 4) m) (l : r.length ≤ 1000) : Small (wholeM r) := (Bd.whole h).show_ (Nat.le_trans (Nat.mul_le_mul_right _ l) B4_lim9)
theorem bd4s {m : Mv} (h : Bd (BpN 4) m) : Small m := h.show_ (Nat.le_trans (by omega) B4_lim9)
theorem bd4ok {m : Mv} (h : Bd (BpN 4) m) : Ok m := h.ok (Nat.le_trans (by omega) B4_lim)
end DL

set_option autoImplicit true
set_option Elab.async false
set_option linter.all false
set_option maxRecDepth 100000
set_option maxHeartbeats 400000
namespace DL
open PySem PySem.Spec L2
def topS (i : Nat) : Stmt := PySem.Challenge.pw_arealots_k56_whole_walkers_led.main.body.getD i (.Pass ⟨0, 0, 0, 0⟩)
def bltNames : List Str := ["isinstance", "int", "bool", "str", "tuple", "list", "len", "abs", "all", "any", "max", "min", "divmod", "sum", "range", "enumerate", "zip", "repr", "sorted", "set"]
abbrev Blt (mg : Str → Option Value) : Prop := ∀ x : Str, x ∈ bltNames → mg x = none
section
variable {P : Program} {w : World} {K : PySem.W.Frag} {mg : Str → Option Value} {base : Heap}
abbrev s_is_integer : Stmt := topS 17
theorem sc_is_integer : FnScope ["value"] ["value"] (defScope s_is_integer) := ⟨rfl, rfl, rfl, by decide +kernel, rfl, by decide +kernel, by decide +kernel⟩
def sp_is_integer : DSp := fun ds M q => match ds with
  | [d] => (tyN d).isSome = true ∧ q (.bl (isInt d && !isBool d)) M
  | _ => False
theorem ok_is_integer {f c pp : Addr} {fd : FuncData} (F : Fun K "is_integer" "is_integer" s_is_integer f fd) (hm : mg "is_integer" = some (.ref f)) (B : Blt mg) : FnG P w K mg base "is_integer" 1 1 sp_is_integer := by
  refine fng_mk F hm sc_is_integer (fun _ _ _ _ _ _ us hl => match us, hl with | [_], _ => rfl) rfl (fun cdv A outer s H E hr => ?_)
  refine ⟨_, (ss_one (s_ret (d_and (d_isi isi_int rfl (B "isinstance" (by decide +kernel)) (by decide +kernel) rfl (B "int" (by decide +kernel)) (by decide +kernel) (dv 0)) (d_one (d_not (d_isi isi_bool rfl (B "isinstance" (by decide +kernel)) (by decide +kernel) rfl (B "bool" (by decide +kernel)) (by decide +kernel) (dv 0))))))), fun ds M q hl h => ?_⟩
  match ds, h with
  | [d], h =>
    simp only [sp_is_integer] at h
    simp only [rRet, rRetN, rSeq, rNext, rIfS, rAsg, rDrop, rOwn, rPar, rApp, rNever, rBrk, rCont, dEnds, rV, rC, r2, r1, rTup, rLst, rLstM, rCons, rNil, rStar, rA, rB, rT, rNot, rAnd, rOr, rIf, rIfT, rAndV, rOrV, rNotV, rChain, rIxO, rIsi, rSlice, rPart, rNoP, rCall, rMeth, rProp, rFld, rSetF, rNewF, rMkP, rMkM, gV, gN0, gCs, gT, gIx, gIxO, oAdd, oSub, oMulI, oDiv, oMod, oPow, oInt, oCmp, oNeg, oIx, oIsN, oNotN, isNon, cLen, cAbs, cInt1, cInt2, cIntI, cStrI, cMax, cMin, cDivmod, cTuple, cList, kO, kN, kB, kI, startE, List.map_cons, List.map_nil, List.length_cons, List.length_nil, Nat.reduceAdd, Nat.reduceSub, Nat.reduceLeDiff, Nat.reduceLT, Nat.zero_lt_succ, List.replicate_succ, List.replicate_zero, List.cons_append, List.nil_append, List.append_nil, List.getElem?_cons_zero, List.getElem?_cons_succ, List.set_cons_zero, List.set_cons_succ, atI_0, atI_1, atI_2, atI_3, atI_4, atI_5, ixN_lit, true_and, and_true, and_self, Bool.false_eq_true, if_true, if_false, reduceIte, reduceCtorEq, mput_same, mput_mput, PySem.sizeLine_eq, truD, TruOk, oEqD, oNeD, deq_int, deq_str, deq_bl, deq_tup, deq_lst, deqs_nil, deqs_cons, deqs_nc, deqs_cn, okD, rYes, iSeq, iTupD, iStrD, iEnumD, iZipD, kL, seqD, rCompE, rCompS, rComp, hideE, rFor, rTup, rKix, rSlo, rLenC, rIsC, kBo, rParO, rPar3, rAug, rJoin, kS, cAll, cAny, kB, oSame, rMkL, Bool.and_true, Bool.true_and, Bool.not_true, Bool.not_false, List.set_nil, Int.cast_ofNat_Int, Int.natCast_zero, Int.natCast_one, bls, Option.map_some, List.all_cons, List.all_nil, id_eq, beq_self_eq_true, Int.reduceBEq, Int.reduceLT, Int.reduceLE, Int.reduceAdd, Int.reduceSub, Int.reduceNeg, decide_true, decide_false, Bool.false_and, Bool.and_false, iRange1, iRange2, rBoolC, cReprB, cRepr, isBox, oEqS, rMethK, byOrd]
    exact ⟨h.1, by cases hd : isInt d <;> simp only [hd, if_true, if_false, Bool.false_eq_true, Bool.true_and, Bool.false_and] at h ⊢ <;> first | exact h | exact h.2⟩
abbrev s_is_move : Stmt := topS 21
theorem sc_is_move : FnScope ["value", "part"] ["value"] (defScope s_is_move) := ⟨rfl, rfl, rfl, by decide +kernel, rfl, by decide +kernel, by decide +kernel⟩
def sp_is_move : DSp := fun ds M q => ∃ m, ds = [mvD m] ∧ q (.bl true) M
theorem ok_is_move {f c pp : Addr} {fd : FuncData} (F : Fun K "is_move" "is_move" s_is_move f fd) (hm : mg "is_move" = some (.ref f)) (B : Blt mg) (g_is_integer : FnG P w K mg base "is_integer" 1 1 sp_is_integer) : FnG P w K mg base "is_move" 2 1 sp_is_move := by
  refine fng_mk F hm sc_is_move (fun _ _ _ _ _ _ us hl => match us, hl with | [_], _ => rfl) rfl (fun cdv A outer s H E hr => ?_)
  refine ⟨_, (ss_one (s_ret (d_and (d_isi isi_tup rfl (B "isinstance" (by decide +kernel)) (by decide +kernel) rfl (B "tuple" (by decide +kernel)) (by decide +kernel) (dv 0)) (d_and (d_cm (c_eq hr.units) (d_callB b_len rfl (B "len" (by decide +kernel)) (by decide +kernel) (a_cons (dv 0) a_nil)) d_int) (d_one (d_callB (b_all rfl) rfl (B "all" (by decide +kernel)) (by decide +kernel) (a_cons (d_lc (own := [("part", 1)]) rfl sc_is_move.nd (i_tup (dv 0)) (blkOk_by (N := ["value", "part"]) (sc := defScope s_is_move) (by decide +kernel)) (fun _ _ _ _ _ => (g_name 1 sc_is_move.nd)) (fun _ _ _ _ _ => ts_nil) (fun _ _ _ _ _ => (d_call g_is_integer (hr.mono (by first | decide | omega)) rfl (a_cons (dv 1) a_nil)))) a_nil))))))), fun ds M q hl h => ?_⟩
  obtain ⟨m, rfl, h⟩ := h
  simp only [rRet, rRetN, rSeq, rNext, rIfS, rAsg, rDrop, rOwn, rPar, rApp, rNever, rBrk, rCont, dEnds, rV, rC, r2, r1, rTup, rLst, rLstM, rCons, rNil, rStar, rA, rB, rT, rNot, rAnd, rOr, rIf, rIfT, rAndV, rOrV, rNotV, rChain, rIxO, rIsi, rSlice, rPart, rNoP, rCall, rMeth, rProp, rFld, rSetF, rNewF, rMkP, rMkM, gV, gN0, gCs, gT, gIx, gIxO, oAdd, oSub, oMulI, oDiv, oMod, oPow, oInt, oCmp, oNeg, oIx, oIsN, oNotN, isNon, cLen, cAbs, cInt1, cInt2, cIntI, cStrI, cMax, cMin, cDivmod, cTuple, cList, kO, kN, kB, kI, startE, List.map_cons, List.map_nil, List.length_cons, List.length_nil, Nat.reduceAdd, Nat.reduceSub, Nat.reduceLeDiff, Nat.reduceLT, Nat.zero_lt_succ, List.replicate_succ, List.replicate_zero, List.cons_append, List.nil_append, List.append_nil, List.getElem?_cons_zero, List.getElem?_cons_succ, List.set_cons_zero, List.set_cons_succ, atI_0, atI_1, atI_2, atI_3, atI_4, atI_5, ixN_lit, true_and, and_true, and_self, Bool.false_eq_true, if_true, if_false, reduceIte, reduceCtorEq, mput_same, mput_mput, PySem.sizeLine_eq, truD, TruOk, oEqD, oNeD, deq_int, deq_str, deq_bl, deq_tup, deq_lst, deqs_nil, deqs_cons, deqs_nc, deqs_cn, okD, rYes, iSeq, iTupD, iStrD, iEnumD, iZipD, kL, seqD, rCompE, rCompS, rComp, hideE, rFor, rTup, rKix, rSlo, rLenC, rIsC, kBo, rParO, rPar3, rAug, rJoin, kS, cAll, cAny, kB, oSame, rMkL, Bool.and_true, Bool.true_and, Bool.not_true, Bool.not_false, List.set_nil, Int.cast_ofNat_Int, Int.natCast_zero, Int.natCast_one, bls, Option.map_some, List.all_cons, List.all_nil, id_eq, beq_self_eq_true, Int.reduceBEq, Int.reduceLT, Int.reduceLE, Int.reduceAdd, Int.reduceSub, Int.reduceNeg, decide_true, decide_false, Bool.false_and, Bool.and_false, iRange1, iRange2, rBoolC, cReprB, cRepr, isBox, oEqS, rMethK, byOrd, mvD, rCompL, sp_is_integer, isTup, isInt, isBool, tyN, Option.isSome_some]
  exact h
abbrev s_check_move : Stmt := topS 22
theorem sc_check_move : FnScope ["value"] ["value"] (defScope s_check_move) := ⟨rfl, rfl, rfl, by decide +kernel, rfl, by decide +kernel, by decide +kernel⟩
def sp_check_move : DSp := fun ds M q => ∃ m, ds = [mvD m] ∧ q .non M
theorem ok_check_move {f c pp : Addr} {fd : FuncData} (F : Fun K "check_move" "check_move" s_check_move f fd) (hm : mg "check_move" = some (.ref f)) (B : Blt mg) (g_is_move : FnG P w K mg base "is_move" 2 1 sp_is_move) : FnG P w K mg base "check_move" 3 1 sp_check_move := by
  refine fng_mk F hm sc_check_move (fun _ _ _ _ _ _ us hl => match us, hl with | [_], _ => rfl) rfl (fun cdv A outer s H E hr => ?_)
  refine ⟨_, (ss_one (s_if (t_not (t_val (d_call g_is_move (hr.mono (by first | decide | omega)) rfl (a_cons (dv 0) a_nil)))) (ss_one s_never) ss_nil)), fun ds M q hl h => ?_⟩
  obtain ⟨m, rfl, h⟩ := h
  simp only [rRet, rRetN, rSeq, rNext, rIfS, rAsg, rDrop, rOwn, rPar, rApp, rNever, rBrk, rCont, dEnds, rV, rC, r2, r1, rTup, rLst, rLstM, rCons, rNil, rStar, rA, rB, rT, rNot, rAnd, rOr, rIf, rIfT, rAndV, rOrV, rNotV, rChain, rIxO, rIsi, rSlice, rPart, rNoP, rCall, rMeth, rProp, rFld, rSetF, rNewF, rMkP, rMkM, gV, gN0, gCs, gT, gIx, gIxO, oAdd, oSub, oMulI, oDiv, oMod, oPow, oInt, oCmp, oNeg, oIx, oIsN, oNotN, isNon, cLen, cAbs, cInt1, cInt2, cIntI, cStrI, cMax, cMin, cDivmod, cTuple, cList, kO, kN, kB, kI, startE, List.map_cons, List.map_nil, List.length_cons, List.length_nil, Nat.reduceAdd, Nat.reduceSub, Nat.reduceLeDiff, Nat.reduceLT, Nat.zero_lt_succ, List.replicate_succ, List.replicate_zero, List.cons_append, List.nil_append, List.append_nil, List.getElem?_cons_zero, List.getElem?_cons_succ, List.set_cons_zero, List.set_cons_succ, atI_0, atI_1, atI_2, atI_3, atI_4, atI_5, ixN_lit, true_and, and_true, and_self, Bool.false_eq_true, if_true, if_false, reduceIte, reduceCtorEq, mput_same, mput_mput, PySem.sizeLine_eq, truD, TruOk, oEqD, oNeD, deq_int, deq_str, deq_bl, deq_tup, deq_lst, deqs_nil, deqs_cons, deqs_nc, deqs_cn, okD, rYes, iSeq, iTupD, iStrD, iEnumD, iZipD, kL, seqD, rCompE, rCompS, rComp, hideE, rFor, rTup, rKix, rSlo, rLenC, rIsC, kBo, rParO, rPar3, rAug, rJoin, kS, cAll, cAny, kB, oSame, rMkL, Bool.and_true, Bool.true_and, Bool.not_true, Bool.not_false, List.set_nil, Int.cast_ofNat_Int, Int.natCast_zero, Int.natCast_one, bls, Option.map_some, List.all_cons, List.all_nil, id_eq, beq_self_eq_true, Int.reduceBEq, Int.reduceLT, Int.reduceLE, Int.reduceAdd, Int.reduceSub, Int.reduceNeg, decide_true, decide_false, Bool.false_and, Bool.and_false, iRange1, iRange2, rBoolC, cReprB, cRepr, isBox, oEqS, rMethK, byOrd]
  exact ⟨m, rfl, trivial, h⟩
abbrev s_then_move : Stmt := topS 23
theorem sc_then_move : FnScope ["one", "other"] ["one", "other"] (defScope s_then_move) := ⟨rfl, rfl, rfl, by decide +kernel, rfl, by decide +kernel, by decide +kernel⟩
def sp_then_move : DSp := fun ds M q => ∃ m n, ds = [mvD m, mvD n] ∧ Ok m ∧ Ok n ∧ q (mvD (joinM m n)) M
theorem ok_then_move {f c pp : Addr} {fd : FuncData} (F : Fun K "then_move" "then_move" s_then_move f fd) (hm : mg "then_move" = some (.ref f)) (B : Blt mg) : FnG P w K mg base "then_move" 1 2 sp_then_move := by
  refine fng_mk F hm sc_then_move (fun _ _ _ _ _ _ us hl => match us, hl with | [_, _], _ => rfl) rfl (fun cdv A outer s H E hr => ?_)
  refine ⟨_, (ss_one (s_ret (d_tup (a_cons (d_add (d_ix (dv 0) d_int) (d_ix (dv 1) d_int)) (a_cons (d_add (d_ix (dv 0) d_int) (d_ix (dv 1) d_int)) (a_cons (d_add (d_add (d_ix (dv 0) d_int) (d_ix (dv 1) d_int)) (d_mul (d_ix (dv 0) d_int) (d_ix (dv 1) d_int))) a_nil)))))), fun ds M q hl h => ?_⟩
  obtain ⟨m, n, rfl, h1, h2, h⟩ := h
  simp only [rRet, rRetN, rSeq, rNext, rIfS, rAsg, rDrop, rOwn, rPar, rApp, rNever, rBrk, rCont, dEnds, rV, rC, r2, r1, rTup, rLst, rLstM, rCons, rNil, rStar, rA, rB, rT, rNot, rAnd, rOr, rIf, rIfT, rAndV, rOrV, rNotV, rChain, rIxO, rIsi, rSlice, rPart, rNoP, rCall, rMeth, rProp, rFld, rSetF, rNewF, rMkP, rMkM, gV, gN0, gCs, gT, gIx, gIxO, oAdd, oSub, oMulI, oDiv, oMod, oPow, oInt, oCmp, oNeg, oIx, oIsN, oNotN, isNon, cLen, cAbs, cInt1, cInt2, cIntI, cStrI, cMax, cMin, cDivmod, cTuple, cList, kO, kN, kB, kI, startE, List.map_cons, List.map_nil, List.length_cons, List.length_nil, Nat.reduceAdd, Nat.reduceSub, Nat.reduceLeDiff, Nat.reduceLT, Nat.zero_lt_succ, List.replicate_succ, List.replicate_zero, List.cons_append, List.nil_append, List.append_nil, List.getElem?_cons_zero, List.getElem?_cons_succ, List.set_cons_zero, List.set_cons_succ, atI_0, atI_1, atI_2, atI_3, atI_4, atI_5, ixN_lit, true_and, and_true, and_self, Bool.false_eq_true, if_true, if_false, reduceIte, reduceCtorEq, mput_same, mput_mput, PySem.sizeLine_eq, truD, TruOk, oEqD, oNeD, deq_int, deq_str, deq_bl, deq_tup, deq_lst, deqs_nil, deqs_cons, deqs_nc, deqs_cn, okD, rYes, iSeq, iTupD, iStrD, iEnumD, iZipD, kL, seqD, rCompE, rCompS, rComp, hideE, rFor, rTup, rKix, rSlo, rLenC, rIsC, kBo, rParO, rPar3, rAug, rJoin, kS, cAll, cAny, kB, oSame, rMkL, Bool.and_true, Bool.true_and, Bool.not_true, Bool.not_false, List.set_nil, Int.cast_ofNat_Int, Int.natCast_zero, Int.natCast_one, bls, Option.map_some, List.all_cons, List.all_nil, id_eq, beq_self_eq_true, Int.reduceBEq, Int.reduceLT, Int.reduceLE, Int.reduceAdd, Int.reduceSub, Int.reduceNeg, decide_true, decide_false, Bool.false_and, Bool.and_false, iRange1, iRange2, rBoolC, cReprB, cRepr, isBox, oEqS, rMethK, byOrd, mvD]
  exact ⟨Ok.mul h1.1 h2.2.1, h⟩
abbrev s_often_move : Stmt := topS 24
theorem sc_often_move : FnScope ["move", "many", "x", "y", "s"] ["move", "many"] (defScope s_often_move) := ⟨rfl, rfl, rfl, by decide +kernel, rfl, by decide +kernel, by decide +kernel⟩
def sp_often_move : DSp := fun ds M q => ∃ m t, ds = [mvD m, .int t] ∧ Ok m ∧ t.natAbs ≤ lim ∧ q (mvD (manyM m t)) M
theorem ok_often_move {f c pp : Addr} {fd : FuncData} (F : Fun K "often_move" "often_move" s_often_move f fd) (hm : mg "often_move" = some (.ref f)) (B : Blt mg) : FnG P w K mg base "often_move" 1 2 sp_often_move := by
  refine fng_mk F hm sc_often_move (fun _ _ _ _ _ _ us hl => match us, hl with | [_, _], _ => rfl) rfl (fun cdv A outer s H E hr => ?_)
  refine ⟨_, (ss_cons (s_asg (dv 0) (g_tup rfl (gs_cons (g_name (vs := [2, 3, 4]) 2 sc_often_move.nd) (gs_cons (g_name (vs := [2, 3, 4]) 3 sc_often_move.nd) (gs_cons (g_name (vs := [2, 3, 4]) 4 sc_often_move.nd) gs_nil)))))
    (ss_one (s_ret (d_tup (a_cons (d_mul (dv 1) (dv 2)) (a_cons (d_mul (dv 1) (dv 3)) (a_cons (d_add (d_mul (dv 1) (dv 4)) (d_mul (d_mul (d_div (d_mul (dv 1) (d_sub (dv 1) d_int)) d_int) (dv 2)) (dv 3))) a_nil))))))), fun ds M q hl h => ?_⟩
  obtain ⟨m, t, rfl, h1, h2, h⟩ := h
  have hw := many_ok h1 h2
  simp only [rRet, rRetN, rSeq, rNext, rIfS, rAsg, rDrop, rOwn, rPar, rApp, rNever, rBrk, rCont, dEnds, rV, rC, r2, r1, rTup, rLst, rLstM, rCons, rNil, rStar, rA, rB, rT, rNot, rAnd, rOr, rIf, rIfT, rAndV, rOrV, rNotV, rChain, rIxO, rIsi, rSlice, rPart, rNoP, rCall, rMeth, rProp, rFld, rSetF, rNewF, rMkP, rMkM, gV, gN0, gCs, gT, gIx, gIxO, oAdd, oSub, oMulI, oDiv, oMod, oPow, oInt, oCmp, oNeg, oIx, oIsN, oNotN, isNon, cLen, cAbs, cInt1, cInt2, cIntI, cStrI, cMax, cMin, cDivmod, cTuple, cList, kO, kN, kB, kI, startE, List.map_cons, List.map_nil, List.length_cons, List.length_nil, Nat.reduceAdd, Nat.reduceSub, Nat.reduceLeDiff, Nat.reduceLT, Nat.zero_lt_succ, List.replicate_succ, List.replicate_zero, List.cons_append, List.nil_append, List.append_nil, List.getElem?_cons_zero, List.getElem?_cons_succ, List.set_cons_zero, List.set_cons_succ, atI_0, atI_1, atI_2, atI_3, atI_4, atI_5, ixN_lit, true_and, and_true, and_self, Bool.false_eq_true, if_true, if_false, reduceIte, reduceCtorEq, mput_same, mput_mput, PySem.sizeLine_eq, truD, TruOk, oEqD, oNeD, deq_int, deq_str, deq_bl, deq_tup, deq_lst, deqs_nil, deqs_cons, deqs_nc, deqs_cn, okD, rYes, iSeq, iTupD, iStrD, iEnumD, iZipD, kL, seqD, rCompE, rCompS, rComp, hideE, rFor, rTup, rKix, rSlo, rLenC, rIsC, kBo, rParO, rPar3, rAug, rJoin, kS, cAll, cAny, kB, oSame, rMkL, Bool.and_true, Bool.true_and, Bool.not_true, Bool.not_false, List.set_nil, Int.cast_ofNat_Int, Int.natCast_zero, Int.natCast_one, bls, Option.map_some, List.all_cons, List.all_nil, id_eq, beq_self_eq_true, Int.reduceBEq, Int.reduceLT, Int.reduceLE, Int.reduceAdd, Int.reduceSub, Int.reduceNeg, decide_true, decide_false, Bool.false_and, Bool.and_false, iRange1, iRange2, rBoolC, cReprB, cRepr, isBox, oEqS, rMethK, byOrd, mvD]
  exact ⟨rfl, hw.1, hw.2.1, hw.2.2.1, hw.2.2.2.1, ⟨by decide, by decide +kernel⟩, hw.2.2.2.2.1, hw.2.2.2.2.2, h⟩
abbrev s_after : Stmt := topS 27
theorem sc_after : FnScope ["moves", "found", "index", "move"] ["moves"] (defScope s_after) := ⟨rfl, rfl, rfl, by decide +kernel, rfl, by decide +kernel, by decide +kernel⟩
def sp_after : DSp := fun ds M q => ∃ (ms : List Mv) (B : Nat), ds = [.tup (ms.map mvD)] ∧ (∀ m ∈ ms, Bd B m) ∧ ms.length * B ≤ lim ∧ B ≤ lim ∧ q (mvD (wholeM ms.reverse)) M
theorem ok_after {f c pp : Addr} {fd : FuncData} (F : Fun K "after" "after" s_after f fd) (hm : mg "after" = some (.ref f)) (B : Blt mg) (g_then_move : FnG P w K mg base "then_move" 1 2 sp_then_move) (g_is_move : FnG P w K mg base "is_move" 2 1 sp_is_move) (c_PLAIN : GlobV K mg "PLAIN" (mvD PL)) : FnG P w K mg base "after" 3 1 sp_after := by
  refine fng_mk F hm sc_after (fun _ _ _ _ _ _ us hl => match us, hl with | [_], _ => rfl) rfl (fun cdv A outer s H E hr => ?_)
  refine ⟨_, (ss_cons (s_if (t_not (t_val (d_isi isi_tup rfl (B "isinstance" (by decide +kernel)) (by decide +kernel) rfl (B "tuple" (by decide +kernel)) (by decide +kernel) (dv 0)))) (ss_one s_never) ss_nil)
    (ss_cons (s_set 1 sc_after.nd (d_glob rfl c_PLAIN))
    (ss_cons (s_for PassesOwn.never rfl (i_enum rfl (B "enumerate" (by decide +kernel)) (dv 0)) (g_tup rfl (gs_cons (g_name (vs := [2, 3]) 2 sc_after.nd) (gs_cons (g_name (vs := [2, 3]) 3 sc_after.nd) gs_nil))) (ss_cons (s_if (t_not (t_val (d_call g_is_move (hr.mono (by first | decide | omega)) rfl (a_cons (dv 3) a_nil)))) (ss_one s_never) ss_nil)
    (ss_one (s_set 1 sc_after.nd (d_call g_then_move (hr.mono (by first | decide | omega)) rfl (a_cons (dv 1) (a_cons (dv 3) a_nil)))))))
    (ss_one (s_ret (dv 1)))))), fun ds M q hl h => ?_⟩
  obtain ⟨ms, B, rfl, hb, hl1, hl2, h⟩ := h
  simp only [rRet, rRetN, rSeq, rNext, rIfS, rAsg, rDrop, rOwn, rPar, rApp, rNever, rBrk, rCont, dEnds, rV, rC, r2, r1, rTup, rLst, rLstM, rCons, rNil, rStar, rA, rB, rT, rNot, rAnd, rOr, rIf, rIfT, rAndV, rOrV, rNotV, rChain, rIxO, rIsi, rSlice, rPart, rNoP, rCall, rMeth, rProp, rFld, rSetF, rNewF, rMkP, rMkM, gV, gN0, gCs, gT, gIx, gIxO, oAdd, oSub, oMulI, oDiv, oMod, oPow, oInt, oCmp, oNeg, oIx, oIsN, oNotN, isNon, cLen, cAbs, cInt1, cInt2, cIntI, cStrI, cMax, cMin, cDivmod, cTuple, cList, kO, kN, kB, kI, startE, List.map_cons, List.map_nil, List.length_cons, List.length_nil, Nat.reduceAdd, Nat.reduceSub, Nat.reduceLeDiff, Nat.reduceLT, Nat.zero_lt_succ, List.replicate_succ, List.replicate_zero, List.cons_append, List.nil_append, List.append_nil, List.getElem?_cons_zero, List.getElem?_cons_succ, List.set_cons_zero, List.set_cons_succ, atI_0, atI_1, atI_2, atI_3, atI_4, atI_5, ixN_lit, true_and, and_true, and_self, Bool.false_eq_true, if_true, if_false, reduceIte, reduceCtorEq, mput_same, mput_mput, PySem.sizeLine_eq, truD, TruOk, oEqD, oNeD, deq_int, deq_str, deq_bl, deq_tup, deq_lst, deqs_nil, deqs_cons, deqs_nc, deqs_cn, okD, rYes, iSeq, iTupD, iStrD, iEnumD, iZipD, kL, seqD, rCompE, rCompS, rComp, hideE, rFor, rTup, rKix, rSlo, rLenC, rIsC, kBo, rParO, rPar3, rAug, rJoin, kS, cAll, cAny, kB, oSame, rMkL, Bool.and_true, Bool.true_and, Bool.not_true, Bool.not_false, List.set_nil, Int.cast_ofNat_Int, Int.natCast_zero, Int.natCast_one, bls, Option.map_some, List.all_cons, List.all_nil, id_eq, beq_self_eq_true, Int.reduceBEq, Int.reduceLT, Int.reduceLE, Int.reduceAdd, Int.reduceSub, Int.reduceNeg, decide_true, decide_false, Bool.false_and, Bool.and_false, iRange1, iRange2, rBoolC, cReprB, cRepr, isBox, oEqS, rMethK, byOrd, isTup, tyN, Option.isSome_some]
  refine for_ind (fun items st => ∃ (i : Nat) (don rest : List Mv) (x y : Sl), items = numD i (rest.map mvD) ∧ ms = don ++ rest ∧ st = ⟨[.val (.tup (ms.map mvD)), .val (mvD (wholeM don.reverse)), x, y], M⟩) ⟨0, [], ms, .no, .no, rfl, rfl, rfl⟩ ?_ ?_
  · rintro st ⟨i, don, rest, x, y, h1, h2, rfl⟩
    cases rest with
    | nil => rw [List.append_nil] at h2; subst h2; exact h
    | cons a r => cases h1
  · rintro d ds st L ⟨i, don, rest, x, y, h1, h2, rfl⟩ hL
    cases rest with
    | nil => cases h1
    | cons a r =>
      simp only [List.map_cons, numD, List.cons.injEq] at h1
      obtain ⟨rfl, rfl⟩ := h1
      have ha : Bd B a := hb a (by rw [h2]; simp)
      have hd : Bd (don.length * B) (wholeM don.reverse) := by
        have := Bd.whole (B := B) (r := don.reverse) fun m hm => hb m (by rw [h2]; simp at hm; simp [hm])
        simpa using this
      have hdl : don.length * B ≤ lim := Nat.le_trans (Nat.mul_le_mul_right _ (by rw [h2]; simp)) hl1
      simp only [rRet, rRetN, rSeq, rNext, rIfS, rAsg, rDrop, rOwn, rPar, rApp, rNever, rBrk, rCont, dEnds, rV, rC, r2, r1, rTup, rLst, rLstM, rCons, rNil, rStar, rA, rB, rT, rNot, rAnd, rOr, rIf, rIfT, rAndV, rOrV, rNotV, rChain, rIxO, rIsi, rSlice, rPart, rNoP, rCall, rMeth, rProp, rFld, rSetF, rNewF, rMkP, rMkM, gV, gN0, gCs, gT, gIx, gIxO, oAdd, oSub, oMulI, oDiv, oMod, oPow, oInt, oCmp, oNeg, oIx, oIsN, oNotN, isNon, cLen, cAbs, cInt1, cInt2, cIntI, cStrI, cMax, cMin, cDivmod, cTuple, cList, kO, kN, kB, kI, startE, List.map_cons, List.map_nil, List.length_cons, List.length_nil, Nat.reduceAdd, Nat.reduceSub, Nat.reduceLeDiff, Nat.reduceLT, Nat.zero_lt_succ, List.replicate_succ, List.replicate_zero, List.cons_append, List.nil_append, List.append_nil, List.getElem?_cons_zero, List.getElem?_cons_succ, List.set_cons_zero, List.set_cons_succ, atI_0, atI_1, atI_2, atI_3, atI_4, atI_5, ixN_lit, true_and, and_true, and_self, Bool.false_eq_true, if_true, if_false, reduceIte, reduceCtorEq, mput_same, mput_mput, PySem.sizeLine_eq, truD, TruOk, oEqD, oNeD, deq_int, deq_str, deq_bl, deq_tup, deq_lst, deqs_nil, deqs_cons, deqs_nc, deqs_cn, okD, rYes, iSeq, iTupD, iStrD, iEnumD, iZipD, kL, seqD, rCompE, rCompS, rComp, hideE, rFor, rTup, rKix, rSlo, rLenC, rIsC, kBo, rParO, rPar3, rAug, rJoin, kS, cAll, cAny, kB, oSame, rMkL, Bool.and_true, Bool.true_and, Bool.not_true, Bool.not_false, List.set_nil, Int.cast_ofNat_Int, Int.natCast_zero, Int.natCast_one, bls, Option.map_some, List.all_cons, List.all_nil, id_eq, beq_self_eq_true, Int.reduceBEq, Int.reduceLT, Int.reduceLE, Int.reduceAdd, Int.reduceSub, Int.reduceNeg, decide_true, decide_false, Bool.false_and, Bool.and_false, iRange1, iRange2, rBoolC, cReprB, cRepr, isBox, oEqS, rMethK, byOrd]
      refine ⟨rfl, a, rfl, ?_⟩
      simp only [rRet, rRetN, rSeq, rNext, rIfS, rAsg, rDrop, rOwn, rPar, rApp, rNever, rBrk, rCont, dEnds, rV, rC, r2, r1, rTup, rLst, rLstM, rCons, rNil, rStar, rA, rB, rT, rNot, rAnd, rOr, rIf, rIfT, rAndV, rOrV, rNotV, rChain, rIxO, rIsi, rSlice, rPart, rNoP, rCall, rMeth, rProp, rFld, rSetF, rNewF, rMkP, rMkM, gV, gN0, gCs, gT, gIx, gIxO, oAdd, oSub, oMulI, oDiv, oMod, oPow, oInt, oCmp, oNeg, oIx, oIsN, oNotN, isNon, cLen, cAbs, cInt1, cInt2, cIntI, cStrI, cMax, cMin, cDivmod, cTuple, cList, kO, kN, kB, kI, startE, List.map_cons, List.map_nil, List.length_cons, List.length_nil, Nat.reduceAdd, Nat.reduceSub, Nat.reduceLeDiff, Nat.reduceLT, Nat.zero_lt_succ, List.replicate_succ, List.replicate_zero, List.cons_append, List.nil_append, List.append_nil, List.getElem?_cons_zero, List.getElem?_cons_succ, List.set_cons_zero, List.set_cons_succ, atI_0, atI_1, atI_2, atI_3, atI_4, atI_5, ixN_lit, true_and, and_true, and_self, Bool.false_eq_true, if_true, if_false, reduceIte, reduceCtorEq, mput_same, mput_mput, PySem.sizeLine_eq, truD, TruOk, oEqD, oNeD, deq_int, deq_str, deq_bl, deq_tup, deq_lst, deqs_nil, deqs_cons, deqs_nc, deqs_cn, okD, rYes, iSeq, iTupD, iStrD, iEnumD, iZipD, kL, seqD, rCompE, rCompS, rComp, hideE, rFor, rTup, rKix, rSlo, rLenC, rIsC, kBo, rParO, rPar3, rAug, rJoin, kS, cAll, cAny, kB, oSame, rMkL, Bool.and_true, Bool.true_and, Bool.not_true, Bool.not_false, List.set_nil, Int.cast_ofNat_Int, Int.natCast_zero, Int.natCast_one, bls, Option.map_some, List.all_cons, List.all_nil, id_eq, beq_self_eq_true, Int.reduceBEq, Int.reduceLT, Int.reduceLE, Int.reduceAdd, Int.reduceSub, Int.reduceNeg, decide_true, decide_false, Bool.false_and, Bool.and_false, iRange1, iRange2, rBoolC, cReprB, cRepr, isBox, oEqS, rMethK, byOrd]
      refine ⟨_, a, rfl, hd.ok hdl, ha.ok hl2, ?_⟩
      have e : joinM (wholeM don.reverse) a = wholeM (don ++ [a]).reverse := by rw [List.reverse_append]; rfl
      rw [e]
      exact hL _ ⟨i + 1, don ++ [a], r, .val (.int i), .val (mvD a), rfl, by simp [h2], rfl⟩
abbrev s_is_button : Stmt := topS 30
theorem sc_is_button : FnScope ["value", "part"] ["value"] (defScope s_is_button) := ⟨rfl, rfl, rfl, by decide +kernel, rfl, by decide +kernel, by decide +kernel⟩
def sp_is_button : DSp := fun ds M q => ∃ m, ds = [mvD m] ∧ IsBtn m ∧ q (.bl true) M
theorem ok_is_button {f c pp : Addr} {fd : FuncData} (F : Fun K "is_button" "is_button" s_is_button f fd) (hm : mg "is_button" = some (.ref f)) (B : Blt mg) (c_MOST_NUMBER : GlobV K mg "MOST_NUMBER" (.int (10 ^ 30))) (g_is_move : FnG P w K mg base "is_move" 2 1 sp_is_move) : FnG P w K mg base "is_button" 3 1 sp_is_button := by
  refine fng_mk F hm sc_is_button (fun _ _ _ _ _ _ us hl => match us, hl with | [_], _ => rfl) rfl (fun cdv A outer s H E hr => ?_)
  refine ⟨_, (ss_one (s_ret (d_and (d_call g_is_move (hr.mono (by first | decide | omega)) rfl (a_cons (dv 0) a_nil)) (d_one (d_callB (b_all rfl) rfl (B "all" (by decide +kernel)) (by decide +kernel) (a_cons (d_lc (own := [("part", 1)]) rfl sc_is_button.nd (i_tup (dv 0)) (blkOk_by (N := ["value", "part"]) (sc := defScope s_is_button) (by decide +kernel)) (fun _ _ _ _ _ => (g_name 1 sc_is_button.nd)) (fun _ _ _ _ _ => ts_nil) (fun _ _ _ _ _ => (d_cm c_le (d_callB b_abs rfl (B "abs" (by decide +kernel)) (by decide +kernel) (a_cons (dv 1) a_nil)) (d_glob rfl c_MOST_NUMBER)))) a_nil)))))), fun ds M q hl h => ?_⟩
  obtain ⟨m, rfl, ⟨h1, h2, h3⟩, h⟩ := h
  have ab : ∀ x : Int, x.natAbs ≤ 10 ^ 30 → decide ((if x < 0 then -x else x) ≤ 10 ^ 30) = true := fun x hx => by
    have hx : x.natAbs ≤ 1000000000000000000000000000000 := hx
    rw [decide_eq_true_eq]
    show _ ≤ (1000000000000000000000000000000 : Int)
    split <;> omega
  simp only [rRet, rRetN, rSeq, rNext, rIfS, rAsg, rDrop, rOwn, rPar, rApp, rNever, rBrk, rCont, dEnds, rV, rC, r2, r1, rTup, rLst, rLstM, rCons, rNil, rStar, rA, rB, rT, rNot, rAnd, rOr, rIf, rIfT, rAndV, rOrV, rNotV, rChain, rIxO, rIsi, rSlice, rPart, rNoP, rCall, rMeth, rProp, rFld, rSetF, rNewF, rMkP, rMkM, gV, gN0, gCs, gT, gIx, gIxO, oAdd, oSub, oMulI, oDiv, oMod, oPow, oInt, oCmp, oNeg, oIx, oIsN, oNotN, isNon, cLen, cAbs, cInt1, cInt2, cIntI, cStrI, cMax, cMin, cDivmod, cTuple, cList, kO, kN, kB, kI, startE, List.map_cons, List.map_nil, List.length_cons, List.length_nil, Nat.reduceAdd, Nat.reduceSub, Nat.reduceLeDiff, Nat.reduceLT, Nat.zero_lt_succ, List.replicate_succ, List.replicate_zero, List.cons_append, List.nil_append, List.append_nil, List.getElem?_cons_zero, List.getElem?_cons_succ, List.set_cons_zero, List.set_cons_succ, atI_0, atI_1, atI_2, atI_3, atI_4, atI_5, ixN_lit, true_and, and_true, and_self, Bool.false_eq_true, if_true, if_false, reduceIte, reduceCtorEq, mput_same, mput_mput, PySem.sizeLine_eq, truD, TruOk, oEqD, oNeD, deq_int, deq_str, deq_bl, deq_tup, deq_lst, deqs_nil, deqs_cons, deqs_nc, deqs_cn, okD, rYes, iSeq, iTupD, iStrD, iEnumD, iZipD, kL, seqD, rCompE, rCompS, rComp, hideE, rFor, rTup, rKix, rSlo, rLenC, rIsC, kBo, rParO, rPar3, rAug, rJoin, kS, cAll, cAny, kB, oSame, rMkL, Bool.and_true, Bool.true_and, Bool.not_true, Bool.not_false, List.set_nil, Int.cast_ofNat_Int, Int.natCast_zero, Int.natCast_one, bls, Option.map_some, List.all_cons, List.all_nil, id_eq, beq_self_eq_true, Int.reduceBEq, Int.reduceLT, Int.reduceLE, Int.reduceAdd, Int.reduceSub, Int.reduceNeg, decide_true, decide_false, Bool.false_and, Bool.and_false, iRange1, iRange2, rBoolC, cReprB, cRepr, isBox, oEqS, rMethK, byOrd]
  refine ⟨m, rfl, ?_⟩
  simp only [rRet, rRetN, rSeq, rNext, rIfS, rAsg, rDrop, rOwn, rPar, rApp, rNever, rBrk, rCont, dEnds, rV, rC, r2, r1, rTup, rLst, rLstM, rCons, rNil, rStar, rA, rB, rT, rNot, rAnd, rOr, rIf, rIfT, rAndV, rOrV, rNotV, rChain, rIxO, rIsi, rSlice, rPart, rNoP, rCall, rMeth, rProp, rFld, rSetF, rNewF, rMkP, rMkM, gV, gN0, gCs, gT, gIx, gIxO, oAdd, oSub, oMulI, oDiv, oMod, oPow, oInt, oCmp, oNeg, oIx, oIsN, oNotN, isNon, cLen, cAbs, cInt1, cInt2, cIntI, cStrI, cMax, cMin, cDivmod, cTuple, cList, kO, kN, kB, kI, startE, List.map_cons, List.map_nil, List.length_cons, List.length_nil, Nat.reduceAdd, Nat.reduceSub, Nat.reduceLeDiff, Nat.reduceLT, Nat.zero_lt_succ, List.replicate_succ, List.replicate_zero, List.cons_append, List.nil_append, List.append_nil, List.getElem?_cons_zero, List.getElem?_cons_succ, List.set_cons_zero, List.set_cons_succ, atI_0, atI_1, atI_2, atI_3, atI_4, atI_5, ixN_lit, true_and, and_true, and_self, Bool.false_eq_true, if_true, if_false, reduceIte, reduceCtorEq, mput_same, mput_mput, PySem.sizeLine_eq, truD, TruOk, oEqD, oNeD, deq_int, deq_str, deq_bl, deq_tup, deq_lst, deqs_nil, deqs_cons, deqs_nc, deqs_cn, okD, rYes, iSeq, iTupD, iStrD, iEnumD, iZipD, kL, seqD, rCompE, rCompS, rComp, hideE, rFor, rTup, rKix, rSlo, rLenC, rIsC, kBo, rParO, rPar3, rAug, rJoin, kS, cAll, cAny, kB, oSame, rMkL, Bool.and_true, Bool.true_and, Bool.not_true, Bool.not_false, List.set_nil, Int.cast_ofNat_Int, Int.natCast_zero, Int.natCast_one, bls, Option.map_some, List.all_cons, List.all_nil, id_eq, beq_self_eq_true, Int.reduceBEq, Int.reduceLT, Int.reduceLE, Int.reduceAdd, Int.reduceSub, Int.reduceNeg, decide_true, decide_false, Bool.false_and, Bool.and_false, iRange1, iRange2, rBoolC, cReprB, cRepr, isBox, oEqS, rMethK, byOrd, mvD, rCompL, ab _ h1, ab _ h2, ab _ h3]
  exact h
abbrev s_wrong_button : Stmt := topS 31
theorem sc_wrong_button : FnScope ["value", "at", "move"] ["value"] (defScope s_wrong_button) := ⟨rfl, rfl, rfl, by decide +kernel, rfl, by decide +kernel, by decide +kernel⟩
def sp_wrong_button : DSp := fun ds M q => ∃ bs : List Mv, ds = [.tup (bs.map mvD)] ∧ BtnsOk bs ∧ q .non M
theorem ok_wrong_button {f c pp : Addr} {fd : FuncData} (F : Fun K "wrong_button" "wrong_button" s_wrong_button f fd) (hm : mg "wrong_button" = some (.ref f)) (B : Blt mg) (g_is_button : FnG P w K mg base "is_button" 3 1 sp_is_button) (c_MOST_BUTTONS : GlobV K mg "MOST_BUTTONS" (.int 5)) : FnG P w K mg base "wrong_button" 4 1 sp_wrong_button := by
  refine fng_mk F hm sc_wrong_button (fun _ _ _ _ _ _ us hl => match us, hl with | [_], _ => rfl) rfl (fun cdv A outer s H E hr => ?_)
  refine ⟨_, (ss_cons (s_if (t_w (w_or (t_not (t_val (d_isi isi_tup rfl (B "isinstance" (by decide +kernel)) (by decide +kernel) rfl (B "tuple" (by decide +kernel)) (by decide +kernel) (dv 0)))) (w_or1 (t_cm (c_eq hr.units) (d_callB b_len rfl (B "len" (by decide +kernel)) (by decide +kernel) (a_cons (dv 0) a_nil)) d_int)))) (ss_one (s_ret (d_neg d_int))) ss_nil)
    (ss_cons (s_for PassesOwn.never rfl (i_enum rfl (B "enumerate" (by decide +kernel)) (dv 0)) (g_tup rfl (gs_cons (g_name (vs := [1, 2]) 1 sc_wrong_button.nd) (gs_cons (g_name (vs := [1, 2]) 2 sc_wrong_button.nd) gs_nil))) (ss_one (s_if (t_w (w_or (t_cm (c_eq hr.units) (dv 1) (d_glob rfl c_MOST_BUTTONS)) (w_or1 (t_not (t_val (d_call g_is_button (hr.mono (by first | decide | omega)) rfl (a_cons (dv 2) a_nil))))))) (ss_one (s_ret (dv 1))) ss_nil)))
    (ss_one (s_ret d_non)))), fun ds M q hl h => ?_⟩
  obtain ⟨bs, rfl, ⟨h1, h2, h3⟩, h⟩ := h
  have hl : ((((bs.map mvD).length : Nat) : Int) == 0) = false := by
    rw [List.length_map]
    cases bs with
    | nil => exact absurd rfl h1
    | cons a r => rw [beq_eq_false_iff_ne, List.length_cons]; omega
  simp only [rRet, rRetN, rSeq, rNext, rIfS, rAsg, rDrop, rOwn, rPar, rApp, rNever, rBrk, rCont, dEnds, rV, rC, r2, r1, rTup, rLst, rLstM, rCons, rNil, rStar, rA, rB, rT, rNot, rAnd, rOr, rIf, rIfT, rAndV, rOrV, rNotV, rChain, rIxO, rIsi, rSlice, rPart, rNoP, rCall, rMeth, rProp, rFld, rSetF, rNewF, rMkP, rMkM, gV, gN0, gCs, gT, gIx, gIxO, oAdd, oSub, oMulI, oDiv, oMod, oPow, oInt, oCmp, oNeg, oIx, oIsN, oNotN, isNon, cLen, cAbs, cInt1, cInt2, cIntI, cStrI, cMax, cMin, cDivmod, cTuple, cList, kO, kN, kB, kI, startE, List.map_cons, List.map_nil, List.length_cons, List.length_nil, Nat.reduceAdd, Nat.reduceSub, Nat.reduceLeDiff, Nat.reduceLT, Nat.zero_lt_succ, List.replicate_succ, List.replicate_zero, List.cons_append, List.nil_append, List.append_nil, List.getElem?_cons_zero, List.getElem?_cons_succ, List.set_cons_zero, List.set_cons_succ, atI_0, atI_1, atI_2, atI_3, atI_4, atI_5, ixN_lit, true_and, and_true, and_self, Bool.false_eq_true, if_true, if_false, reduceIte, reduceCtorEq, mput_same, mput_mput, PySem.sizeLine_eq, truD, TruOk, oEqD, oNeD, deq_int, deq_str, deq_bl, deq_tup, deq_lst, deqs_nil, deqs_cons, deqs_nc, deqs_cn, okD, rYes, iSeq, iTupD, iStrD, iEnumD, iZipD, kL, seqD, rCompE, rCompS, rComp, hideE, rFor, rTup, rKix, rSlo, rLenC, rIsC, kBo, rParO, rPar3, rAug, rJoin, kS, cAll, cAny, kB, oSame, rMkL, Bool.and_true, Bool.true_and, Bool.not_true, Bool.not_false, List.set_nil, Int.cast_ofNat_Int, Int.natCast_zero, Int.natCast_one, bls, Option.map_some, List.all_cons, List.all_nil, id_eq, beq_self_eq_true, Int.reduceBEq, Int.reduceLT, Int.reduceLE, Int.reduceAdd, Int.reduceSub, Int.reduceNeg, decide_true, decide_false, Bool.false_and, Bool.and_false, iRange1, iRange2, rBoolC, cReprB, cRepr, isBox, oEqS, rMethK, byOrd, isTup, tyN, Option.isSome_some, hl]
  refine for_ind (fun items st => ∃ (i : Nat) (rest : List Mv) (x y : Sl), items = numD i (rest.map mvD) ∧ i + rest.length ≤ 5 ∧ (∀ b ∈ rest, IsBtn b) ∧ st = ⟨[.val (.tup (bs.map mvD)), x, y], M⟩) ⟨0, bs, .no, .no, rfl, by omega, h3, rfl⟩ ?_ ?_
  · rintro st ⟨i, rest, x, y, k1, _, _, rfl⟩
    exact h
  · rintro d ds st L ⟨i, rest, x, y, k1, k2, k3, rfl⟩ hL
    cases rest with
    | nil => cases k1
    | cons a r =>
      simp only [List.map_cons, numD, List.cons.injEq] at k1
      obtain ⟨rfl, rfl⟩ := k1
      have hi : (((i : Nat) : Int) == 5) = false := by
        rw [beq_eq_false_iff_ne]; rw [List.length_cons] at k2; omega
      simp only [rRet, rRetN, rSeq, rNext, rIfS, rAsg, rDrop, rOwn, rPar, rApp, rNever, rBrk, rCont, dEnds, rV, rC, r2, r1, rTup, rLst, rLstM, rCons, rNil, rStar, rA, rB, rT, rNot, rAnd, rOr, rIf, rIfT, rAndV, rOrV, rNotV, rChain, rIxO, rIsi, rSlice, rPart, rNoP, rCall, rMeth, rProp, rFld, rSetF, rNewF, rMkP, rMkM, gV, gN0, gCs, gT, gIx, gIxO, oAdd, oSub, oMulI, oDiv, oMod, oPow, oInt, oCmp, oNeg, oIx, oIsN, oNotN, isNon, cLen, cAbs, cInt1, cInt2, cIntI, cStrI, cMax, cMin, cDivmod, cTuple, cList, kO, kN, kB, kI, startE, List.map_cons, List.map_nil, List.length_cons, List.length_nil, Nat.reduceAdd, Nat.reduceSub, Nat.reduceLeDiff, Nat.reduceLT, Nat.zero_lt_succ, List.replicate_succ, List.replicate_zero, List.cons_append, List.nil_append, List.append_nil, List.getElem?_cons_zero, List.getElem?_cons_succ, List.set_cons_zero, List.set_cons_succ, atI_0, atI_1, atI_2, atI_3, atI_4, atI_5, ixN_lit, true_and, and_true, and_self, Bool.false_eq_true, if_true, if_false, reduceIte, reduceCtorEq, mput_same, mput_mput, PySem.sizeLine_eq, truD, TruOk, oEqD, oNeD, deq_int, deq_str, deq_bl, deq_tup, deq_lst, deqs_nil, deqs_cons, deqs_nc, deqs_cn, okD, rYes, iSeq, iTupD, iStrD, iEnumD, iZipD, kL, seqD, rCompE, rCompS, rComp, hideE, rFor, rTup, rKix, rSlo, rLenC, rIsC, kBo, rParO, rPar3, rAug, rJoin, kS, cAll, cAny, kB, oSame, rMkL, Bool.and_true, Bool.true_and, Bool.not_true, Bool.not_false, List.set_nil, Int.cast_ofNat_Int, Int.natCast_zero, Int.natCast_one, bls, Option.map_some, List.all_cons, List.all_nil, id_eq, beq_self_eq_true, Int.reduceBEq, Int.reduceLT, Int.reduceLE, Int.reduceAdd, Int.reduceSub, Int.reduceNeg, decide_true, decide_false, Bool.false_and, Bool.and_false, iRange1, iRange2, rBoolC, cReprB, cRepr, isBox, oEqS, rMethK, byOrd, hi]
      refine ⟨rfl, a, rfl, k3 a List.mem_cons_self, ?_⟩
      simp only [rRet, rRetN, rSeq, rNext, rIfS, rAsg, rDrop, rOwn, rPar, rApp, rNever, rBrk, rCont, dEnds, rV, rC, r2, r1, rTup, rLst, rLstM, rCons, rNil, rStar, rA, rB, rT, rNot, rAnd, rOr, rIf, rIfT, rAndV, rOrV, rNotV, rChain, rIxO, rIsi, rSlice, rPart, rNoP, rCall, rMeth, rProp, rFld, rSetF, rNewF, rMkP, rMkM, gV, gN0, gCs, gT, gIx, gIxO, oAdd, oSub, oMulI, oDiv, oMod, oPow, oInt, oCmp, oNeg, oIx, oIsN, oNotN, isNon, cLen, cAbs, cInt1, cInt2, cIntI, cStrI, cMax, cMin, cDivmod, cTuple, cList, kO, kN, kB, kI, startE, List.map_cons, List.map_nil, List.length_cons, List.length_nil, Nat.reduceAdd, Nat.reduceSub, Nat.reduceLeDiff, Nat.reduceLT, Nat.zero_lt_succ, List.replicate_succ, List.replicate_zero, List.cons_append, List.nil_append, List.append_nil, List.getElem?_cons_zero, List.getElem?_cons_succ, List.set_cons_zero, List.set_cons_succ, atI_0, atI_1, atI_2, atI_3, atI_4, atI_5, ixN_lit, true_and, and_true, and_self, Bool.false_eq_true, if_true, if_false, reduceIte, reduceCtorEq, mput_same, mput_mput, PySem.sizeLine_eq, truD, TruOk, oEqD, oNeD, deq_int, deq_str, deq_bl, deq_tup, deq_lst, deqs_nil, deqs_cons, deqs_nc, deqs_cn, okD, rYes, iSeq, iTupD, iStrD, iEnumD, iZipD, kL, seqD, rCompE, rCompS, rComp, hideE, rFor, rTup, rKix, rSlo, rLenC, rIsC, kBo, rParO, rPar3, rAug, rJoin, kS, cAll, cAny, kB, oSame, rMkL, Bool.and_true, Bool.true_and, Bool.not_true, Bool.not_false, List.set_nil, Int.cast_ofNat_Int, Int.natCast_zero, Int.natCast_one, bls, Option.map_some, List.all_cons, List.all_nil, id_eq, beq_self_eq_true, Int.reduceBEq, Int.reduceLT, Int.reduceLE, Int.reduceAdd, Int.reduceSub, Int.reduceNeg, decide_true, decide_false, Bool.false_and, Bool.and_false, iRange1, iRange2, rBoolC, cReprB, cRepr, isBox, oEqS, rMethK, byOrd]
      exact hL _ ⟨i + 1, r, _, _, rfl, by rw [List.length_cons] at k2; omega, fun b hb => k3 b (List.mem_cons_of_mem _ hb), rfl⟩
abbrev s_Lot___init__ : Stmt := inClass (topS 32) 1
theorem sc_Lot___init__ : FnScope ["self", "buttons", "at"] ["self", "buttons"] (defScope s_Lot___init__) := ⟨rfl, rfl, rfl, by decide +kernel, rfl, by decide +kernel, by decide +kernel⟩
def okLot (d : D) : Prop := ∃ bs : List Mv, d = .tup (bs.map mvD) ∧ BtnsOk bs
theorem ok_Lot_init {f c sl : Addr} {fd : FuncData} (F : Fun K "__init__" "Lot.__init__" s_Lot___init__ f fd) (hc : mg "Lot" = some (.ref c)) (mk : Mk K c f) (sc : SlX.SCls K c) (s1 : SlX.Slot1 K c "own_buttons" sl 0) (g_wrong_button : FnG P w K mg base "wrong_button" 4 1 sp_wrong_button) : MkL P w K mg base "Lot" 5 okLot := by
  refine mkL_of F sc_Lot___init__ rfl hc mk sc s1 (fun _ _ _ _ _ _ us hl => match us, hl with | [_, _], _ => rfl) rfl (fun cdv A outer s H E hr => ⟨⟨_, _, (s_set 2 sc_Lot___init__.nd (d_call g_wrong_button (hr.mono (by first | decide | omega)) rfl (a_cons (dv 1) a_nil))), (s_if (t_cm c_isnot (dv 2) d_non) (ss_one s_never) ss_nil), fun x d M q hd hq => ?_⟩, pv 0, pv 1, rfl⟩)
  obtain ⟨bs, rfl, h⟩ := hd
  simp only [rRet, rRetN, rSeq, rNext, rIfS, rAsg, rDrop, rOwn, rPar, rApp, rNever, rBrk, rCont, dEnds, rV, rC, r2, r1, rTup, rLst, rLstM, rCons, rNil, rStar, rA, rB, rT, rNot, rAnd, rOr, rIf, rIfT, rAndV, rOrV, rNotV, rChain, rIxO, rIsi, rSlice, rPart, rNoP, rCall, rMeth, rProp, rFld, rSetF, rNewF, rMkP, rMkM, gV, gN0, gCs, gT, gIx, gIxO, oAdd, oSub, oMulI, oDiv, oMod, oPow, oInt, oCmp, oNeg, oIx, oIsN, oNotN, isNon, cLen, cAbs, cInt1, cInt2, cIntI, cStrI, cMax, cMin, cDivmod, cTuple, cList, kO, kN, kB, kI, startE, List.map_cons, List.map_nil, List.length_cons, List.length_nil, Nat.reduceAdd, Nat.reduceSub, Nat.reduceLeDiff, Nat.reduceLT, Nat.zero_lt_succ, List.replicate_succ, List.replicate_zero, List.cons_append, List.nil_append, List.append_nil, List.getElem?_cons_zero, List.getElem?_cons_succ, List.set_cons_zero, List.set_cons_succ, atI_0, atI_1, atI_2, atI_3, atI_4, atI_5, ixN_lit, true_and, and_true, and_self, Bool.false_eq_true, if_true, if_false, reduceIte, reduceCtorEq, mput_same, mput_mput, PySem.sizeLine_eq, truD, TruOk, oEqD, oNeD, deq_int, deq_str, deq_bl, deq_tup, deq_lst, deqs_nil, deqs_cons, deqs_nc, deqs_cn, okD, rYes, iSeq, iTupD, iStrD, iEnumD, iZipD, kL, seqD, rCompE, rCompS, rComp, hideE, rFor, rTup, rKix, rSlo, rLenC, rIsC, kBo, rParO, rPar3, rAug, rJoin, kS, cAll, cAny, kB, oSame, rMkL, Bool.and_true, Bool.true_and, Bool.not_true, Bool.not_false, List.set_nil, Int.cast_ofNat_Int, Int.natCast_zero, Int.natCast_one, bls, Option.map_some, List.all_cons, List.all_nil, id_eq, beq_self_eq_true, Int.reduceBEq, Int.reduceLT, Int.reduceLE, Int.reduceAdd, Int.reduceSub, Int.reduceNeg, decide_true, decide_false, Bool.false_and, Bool.and_false, iRange1, iRange2, rBoolC, cReprB, cRepr, isBox, oEqS, rMethK, byOrd]
  refine ⟨bs, rfl, h, ?_⟩
  simp only [rRet, rRetN, rSeq, rNext, rIfS, rAsg, rDrop, rOwn, rPar, rApp, rNever, rBrk, rCont, dEnds, rV, rC, r2, r1, rTup, rLst, rLstM, rCons, rNil, rStar, rA, rB, rT, rNot, rAnd, rOr, rIf, rIfT, rAndV, rOrV, rNotV, rChain, rIxO, rIsi, rSlice, rPart, rNoP, rCall, rMeth, rProp, rFld, rSetF, rNewF, rMkP, rMkM, gV, gN0, gCs, gT, gIx, gIxO, oAdd, oSub, oMulI, oDiv, oMod, oPow, oInt, oCmp, oNeg, oIx, oIsN, oNotN, isNon, cLen, cAbs, cInt1, cInt2, cIntI, cStrI, cMax, cMin, cDivmod, cTuple, cList, kO, kN, kB, kI, startE, List.map_cons, List.map_nil, List.length_cons, List.length_nil, Nat.reduceAdd, Nat.reduceSub, Nat.reduceLeDiff, Nat.reduceLT, Nat.zero_lt_succ, List.replicate_succ, List.replicate_zero, List.cons_append, List.nil_append, List.append_nil, List.getElem?_cons_zero, List.getElem?_cons_succ, List.set_cons_zero, List.set_cons_succ, atI_0, atI_1, atI_2, atI_3, atI_4, atI_5, ixN_lit, true_and, and_true, and_self, Bool.false_eq_true, if_true, if_false, reduceIte, reduceCtorEq, mput_same, mput_mput, PySem.sizeLine_eq, truD, TruOk, oEqD, oNeD, deq_int, deq_str, deq_bl, deq_tup, deq_lst, deqs_nil, deqs_cons, deqs_nc, deqs_cn, okD, rYes, iSeq, iTupD, iStrD, iEnumD, iZipD, kL, seqD, rCompE, rCompS, rComp, hideE, rFor, rTup, rKix, rSlo, rLenC, rIsC, kBo, rParO, rPar3, rAug, rJoin, kS, cAll, cAny, kB, oSame, rMkL, Bool.and_true, Bool.true_and, Bool.not_true, Bool.not_false, List.set_nil, Int.cast_ofNat_Int, Int.natCast_zero, Int.natCast_one, bls, Option.map_some, List.all_cons, List.all_nil, id_eq, beq_self_eq_true, Int.reduceBEq, Int.reduceLT, Int.reduceLE, Int.reduceAdd, Int.reduceSub, Int.reduceNeg, decide_true, decide_false, Bool.false_and, Bool.and_false, iRange1, iRange2, rBoolC, cReprB, cRepr, isBox, oEqS, rMethK, byOrd]
  exact hq _ rfl rfl rfl
abbrev s_Lot___len__ : Stmt := inClass (topS 32) 6
theorem sc_Lot___len__ : FnScope ["self"] ["self"] (defScope s_Lot___len__) := ⟨rfl, rfl, rfl, by decide +kernel, rfl, by decide +kernel, by decide +kernel⟩
def sp_Lot_len : DSp := fun ds M q => ∃ bs : List Mv, ds = [lotD bs] ∧ q (.int bs.length) M
theorem ok_Lot_len {f c : Addr} {fd : FuncData} (F : Fun K "__len__" "Lot.__len__" s_Lot___len__ f fd) (hc : mg "Lot" = some (.ref c)) (hfi : PySem.W.findIn K (.ref c) "__len__" = some (some (.ref f))) (hfn : PySem.W.isFn K (.ref f) = true) (B : Blt mg) (sl_Lot : SloG K mg "Lot" "own_buttons" 0) : SpG P w K mg base "Lot" "__len__" 1 1 sp_Lot_len := by
  refine spg_mk F hc hfi hfn sc_Lot___len__ (fun _ _ _ _ _ _ us hl => match us, hl with | [_], _ => rfl) rfl (fun cdv A outer s H E hr => ?_)
  refine ⟨_, (ss_one (s_ret (d_callB b_len rfl (B "len" (by decide +kernel)) (by decide +kernel) (a_cons (d_slo sl_Lot (dv 0)) a_nil)))), fun ds M q hl h => ?_⟩
  obtain ⟨bs, rfl, h⟩ := h
  simp only [rRet, rRetN, rSeq, rNext, rIfS, rAsg, rDrop, rOwn, rPar, rApp, rNever, rBrk, rCont, dEnds, rV, rC, r2, r1, rTup, rLst, rLstM, rCons, rNil, rStar, rA, rB, rT, rNot, rAnd, rOr, rIf, rIfT, rAndV, rOrV, rNotV, rChain, rIxO, rIsi, rSlice, rPart, rNoP, rCall, rMeth, rProp, rFld, rSetF, rNewF, rMkP, rMkM, gV, gN0, gCs, gT, gIx, gIxO, oAdd, oSub, oMulI, oDiv, oMod, oPow, oInt, oCmp, oNeg, oIx, oIsN, oNotN, isNon, cLen, cAbs, cInt1, cInt2, cIntI, cStrI, cMax, cMin, cDivmod, cTuple, cList, kO, kN, kB, kI, startE, List.map_cons, List.map_nil, List.length_cons, List.length_nil, Nat.reduceAdd, Nat.reduceSub, Nat.reduceLeDiff, Nat.reduceLT, Nat.zero_lt_succ, List.replicate_succ, List.replicate_zero, List.cons_append, List.nil_append, List.append_nil, List.getElem?_cons_zero, List.getElem?_cons_succ, List.set_cons_zero, List.set_cons_succ, atI_0, atI_1, atI_2, atI_3, atI_4, atI_5, ixN_lit, true_and, and_true, and_self, Bool.false_eq_true, if_true, if_false, reduceIte, reduceCtorEq, mput_same, mput_mput, PySem.sizeLine_eq, truD, TruOk, oEqD, oNeD, deq_int, deq_str, deq_bl, deq_tup, deq_lst, deqs_nil, deqs_cons, deqs_nc, deqs_cn, okD, rYes, iSeq, iTupD, iStrD, iEnumD, iZipD, kL, seqD, rCompE, rCompS, rComp, hideE, rFor, rTup, rKix, rSlo, rLenC, rIsC, kBo, rParO, rPar3, rAug, rJoin, kS, cAll, cAny, kB, oSame, rMkL, Bool.and_true, Bool.true_and, Bool.not_true, Bool.not_false, List.set_nil, Int.cast_ofNat_Int, Int.natCast_zero, Int.natCast_one, bls, Option.map_some, List.all_cons, List.all_nil, id_eq, beq_self_eq_true, Int.reduceBEq, Int.reduceLT, Int.reduceLE, Int.reduceAdd, Int.reduceSub, Int.reduceNeg, decide_true, decide_false, Bool.false_and, Bool.and_false, iRange1, iRange2, rBoolC, cReprB, cRepr, isBox, oEqS, rMethK, byOrd, lotD, List.length_map]
  exact h
abbrev s_check_lot : Stmt := topS 35
theorem sc_check_lot : FnScope ["value"] ["value"] (defScope s_check_lot) := ⟨rfl, rfl, rfl, by decide +kernel, rfl, by decide +kernel, by decide +kernel⟩
def sp_check_lot : DSp := fun ds M q => ∃ bs : List Mv, ds = [lotD bs] ∧ q .non M
theorem ok_check_lot {f c pp : Addr} {fd : FuncData} (F : Fun K "check_lot" "check_lot" s_check_lot f fd) (hm : mg "check_lot" = some (.ref f)) (B : Blt mg) (is_Lot : IsG K mg "Lot") : FnG P w K mg base "check_lot" 1 1 sp_check_lot := by
  refine fng_mk F hm sc_check_lot (fun _ _ _ _ _ _ us hl => match us, hl with | [_], _ => rfl) rfl (fun cdv A outer s H E hr => ?_)
  refine ⟨_, (ss_one (s_if (t_not (t_val (d_isC is_Lot rfl (B "isinstance" (by decide +kernel)) rfl (dv 0)))) (ss_one s_never) ss_nil)), fun ds M q hl h => ?_⟩
  obtain ⟨bs, rfl, h⟩ := h
  simp only [rRet, rRetN, rSeq, rNext, rIfS, rAsg, rDrop, rOwn, rPar, rApp, rNever, rBrk, rCont, dEnds, rV, rC, r2, r1, rTup, rLst, rLstM, rCons, rNil, rStar, rA, rB, rT, rNot, rAnd, rOr, rIf, rIfT, rAndV, rOrV, rNotV, rChain, rIxO, rIsi, rSlice, rPart, rNoP, rCall, rMeth, rProp, rFld, rSetF, rNewF, rMkP, rMkM, gV, gN0, gCs, gT, gIx, gIxO, oAdd, oSub, oMulI, oDiv, oMod, oPow, oInt, oCmp, oNeg, oIx, oIsN, oNotN, isNon, cLen, cAbs, cInt1, cInt2, cIntI, cStrI, cMax, cMin, cDivmod, cTuple, cList, kO, kN, kB, kI, startE, List.map_cons, List.map_nil, List.length_cons, List.length_nil, Nat.reduceAdd, Nat.reduceSub, Nat.reduceLeDiff, Nat.reduceLT, Nat.zero_lt_succ, List.replicate_succ, List.replicate_zero, List.cons_append, List.nil_append, List.append_nil, List.getElem?_cons_zero, List.getElem?_cons_succ, List.set_cons_zero, List.set_cons_succ, atI_0, atI_1, atI_2, atI_3, atI_4, atI_5, ixN_lit, true_and, and_true, and_self, Bool.false_eq_true, if_true, if_false, reduceIte, reduceCtorEq, mput_same, mput_mput, PySem.sizeLine_eq, truD, TruOk, oEqD, oNeD, deq_int, deq_str, deq_bl, deq_tup, deq_lst, deqs_nil, deqs_cons, deqs_nc, deqs_cn, okD, rYes, iSeq, iTupD, iStrD, iEnumD, iZipD, kL, seqD, rCompE, rCompS, rComp, hideE, rFor, rTup, rKix, rSlo, rLenC, rIsC, kBo, rParO, rPar3, rAug, rJoin, kS, cAll, cAny, kB, oSame, rMkL, Bool.and_true, Bool.true_and, Bool.not_true, Bool.not_false, List.set_nil, Int.cast_ofNat_Int, Int.natCast_zero, Int.natCast_one, bls, Option.map_some, List.all_cons, List.all_nil, id_eq, beq_self_eq_true, Int.reduceBEq, Int.reduceLT, Int.reduceLE, Int.reduceAdd, Int.reduceSub, Int.reduceNeg, decide_true, decide_false, Bool.false_and, Bool.and_false, iRange1, iRange2, rBoolC, cReprB, cRepr, isBox, oEqS, rMethK, byOrd, lotD, isSlo]
  exact h
def sp_plan_move (d : Nat) : DSp := fun ds M q => ∃ (bs : List Mv) (plan : D) (e : Nat), ds = [lotD bs, plan, .int e] ∧ BtnsOk bs ∧ d ≤ e ∧ d ≤ 4 ∧ PlanOk d bs.length plan ∧ q (mvD (meanP d bs plan)) M
def sp_part_move (d : Nat) : DSp := fun ds M q => ∃ (bs : List Mv) (part : D) (e : Nat), ds = [lotD bs, part, .int e] ∧ BtnsOk bs ∧ d + 1 ≤ e ∧ d ≤ 4 ∧ PartOk d bs.length part ∧ q (mvD (meanP d bs part)) M
abbrev s_part_move : Stmt := topS 37
theorem sc_part_move : FnScope ["lot", "part", "depth"] ["lot", "part", "depth"] (defScope s_part_move) := ⟨rfl, rfl, rfl, by decide +kernel, rfl, by decide +kernel, by decide +kernel⟩
theorem ok_part_move {f c pp : Addr} {fd : FuncData} {k0 dd : Nat} (hk : 6 ≤ k0) (F : Fun K "part_move" "part_move" s_part_move f fd) (hm : mg "part_move" = some (.ref f)) (B : Blt mg) (sl_Lot : SloG K mg "Lot" "own_buttons" 0) (len_Lot : SpG P w K mg base "Lot" "__len__" 1 1 sp_Lot_len) (g_is_integer : FnG P w K mg base "is_integer" 1 1 sp_is_integer) (g_plan_move : FnG P w K mg base "plan_move" k0 3 (sp_plan_move dd)) : FnG P w K mg base "part_move" (k0 + 1) 3 (sp_part_move dd) := by
  refine fng_mk F hm sc_part_move (fun _ _ _ _ _ _ us hl => match us, hl with | [_, _, _], _ => rfl) rfl (fun cdv A outer s H E hr => ?_)
  refine ⟨_, (ss_cons (s_if (t_val (d_isi isi_tup rfl (B "isinstance" (by decide +kernel)) (by decide +kernel) rfl (B "tuple" (by decide +kernel)) (by decide +kernel) (dv 1))) (ss_one (s_ret (d_call g_plan_move (hr.mono (by first | decide | omega)) rfl (a_cons (dv 0) (a_cons (dv 1) (a_cons (d_sub (dv 2) d_int) a_nil)))))) ss_nil)
    (ss_cons (s_if (t_w (w_or (t_not (t_val (d_call g_is_integer (hr.mono (by first | decide | omega)) rfl (a_cons (dv 1) a_nil)))) (w_or1 (t_not (t_chain c_le c_lt d_int (dv 1) (d_lenC len_Lot (hr.mono (by first | decide | omega)) rfl (B "len" (by decide +kernel)) (dv 0))))))) (ss_one (s_ret d_non)) ss_nil)
    (ss_one (s_ret (d_ix (d_slo sl_Lot (dv 0)) (dv 1)))))), fun ds M q hl h => ?_⟩
  obtain ⟨bs, part, e, rfl, hB, he, hd, hp, h⟩ := h
  rcases hp with ⟨i, rfl, hi⟩ | hp
  · have h1 : decide ((0 : Int) ≤ ((i : Nat) : Int)) = true := decide_eq_true (by omega)
    have h2 : decide (((i : Nat) : Int) < ((bs.length : Nat) : Int)) = true := decide_eq_true (by omega)
    have h3 : atI (bs.map mvD) ((i : Nat) : Int) = some (mvD (bs.getD i PL)) := by
      rw [List.getD_eq_getElem?_getD, List.getElem?_eq_getElem hi]; exact atI_nat (j := i) (by rw [List.getElem?_map, List.getElem?_eq_getElem hi]; rfl)
    have h4 : bs.length < 2 ^ 63 := by have := hB.2.1; omega
    rw [meanP_int] at h
    simp only [rRet, rRetN, rSeq, rNext, rIfS, rAsg, rDrop, rOwn, rPar, rApp, rNever, rBrk, rCont, dEnds, rV, rC, r2, r1, rTup, rLst, rLstM, rCons, rNil, rStar, rA, rB, rT, rNot, rAnd, rOr, rIf, rIfT, rAndV, rOrV, rNotV, rChain, rIxO, rIsi, rSlice, rPart, rNoP, rCall, rMeth, rProp, rFld, rSetF, rNewF, rMkP, rMkM, gV, gN0, gCs, gT, gIx, gIxO, oAdd, oSub, oMulI, oDiv, oMod, oPow, oInt, oCmp, oNeg, oIx, oIsN, oNotN, isNon, cLen, cAbs, cInt1, cInt2, cIntI, cStrI, cMax, cMin, cDivmod, cTuple, cList, kO, kN, kB, kI, startE, List.map_cons, List.map_nil, List.length_cons, List.length_nil, Nat.reduceAdd, Nat.reduceSub, Nat.reduceLeDiff, Nat.reduceLT, Nat.zero_lt_succ, List.replicate_succ, List.replicate_zero, List.cons_append, List.nil_append, List.append_nil, List.getElem?_cons_zero, List.getElem?_cons_succ, List.set_cons_zero, List.set_cons_succ, atI_0, atI_1, atI_2, atI_3, atI_4, atI_5, ixN_lit, true_and, and_true, and_self, Bool.false_eq_true, if_true, if_false, reduceIte, reduceCtorEq, mput_same, mput_mput, PySem.sizeLine_eq, truD, TruOk, oEqD, oNeD, deq_int, deq_str, deq_bl, deq_tup, deq_lst, deqs_nil, deqs_cons, deqs_nc, deqs_cn, okD, rYes, iSeq, iTupD, iStrD, iEnumD, iZipD, kL, seqD, rCompE, rCompS, rComp, hideE, rFor, rTup, rKix, rSlo, rLenC, rIsC, kBo, rParO, rPar3, rAug, rJoin, kS, cAll, cAny, kB, oSame, rMkL, Bool.and_true, Bool.true_and, Bool.not_true, Bool.not_false, List.set_nil, Int.cast_ofNat_Int, Int.natCast_zero, Int.natCast_one, bls, Option.map_some, List.all_cons, List.all_nil, id_eq, beq_self_eq_true, Int.reduceBEq, Int.reduceLT, Int.reduceLE, Int.reduceAdd, Int.reduceSub, Int.reduceNeg, decide_true, decide_false, Bool.false_and, Bool.and_false, iRange1, iRange2, rBoolC, cReprB, cRepr, isBox, oEqS, rMethK, byOrd, isTup, isInt, isBool, tyN, Option.isSome_some, sp_is_integer, lotD, h1, anyOk]
    refine ⟨bs, rfl, ?_⟩
    simp only [rRet, rRetN, rSeq, rNext, rIfS, rAsg, rDrop, rOwn, rPar, rApp, rNever, rBrk, rCont, dEnds, rV, rC, r2, r1, rTup, rLst, rLstM, rCons, rNil, rStar, rA, rB, rT, rNot, rAnd, rOr, rIf, rIfT, rAndV, rOrV, rNotV, rChain, rIxO, rIsi, rSlice, rPart, rNoP, rCall, rMeth, rProp, rFld, rSetF, rNewF, rMkP, rMkM, gV, gN0, gCs, gT, gIx, gIxO, oAdd, oSub, oMulI, oDiv, oMod, oPow, oInt, oCmp, oNeg, oIx, oIsN, oNotN, isNon, cLen, cAbs, cInt1, cInt2, cIntI, cStrI, cMax, cMin, cDivmod, cTuple, cList, kO, kN, kB, kI, startE, List.map_cons, List.map_nil, List.length_cons, List.length_nil, Nat.reduceAdd, Nat.reduceSub, Nat.reduceLeDiff, Nat.reduceLT, Nat.zero_lt_succ, List.replicate_succ, List.replicate_zero, List.cons_append, List.nil_append, List.append_nil, List.getElem?_cons_zero, List.getElem?_cons_succ, List.set_cons_zero, List.set_cons_succ, atI_0, atI_1, atI_2, atI_3, atI_4, atI_5, ixN_lit, true_and, and_true, and_self, Bool.false_eq_true, if_true, if_false, reduceIte, reduceCtorEq, mput_same, mput_mput, PySem.sizeLine_eq, truD, TruOk, oEqD, oNeD, deq_int, deq_str, deq_bl, deq_tup, deq_lst, deqs_nil, deqs_cons, deqs_nc, deqs_cn, okD, rYes, iSeq, iTupD, iStrD, iEnumD, iZipD, kL, seqD, rCompE, rCompS, rComp, hideE, rFor, rTup, rKix, rSlo, rLenC, rIsC, kBo, rParO, rPar3, rAug, rJoin, kS, cAll, cAny, kB, oSame, rMkL, Bool.and_true, Bool.true_and, Bool.not_true, Bool.not_false, List.set_nil, Int.cast_ofNat_Int, Int.natCast_zero, Int.natCast_one, bls, Option.map_some, List.all_cons, List.all_nil, id_eq, beq_self_eq_true, Int.reduceBEq, Int.reduceLT, Int.reduceLE, Int.reduceAdd, Int.reduceSub, Int.reduceNeg, decide_true, decide_false, Bool.false_and, Bool.and_false, iRange1, iRange2, rBoolC, cReprB, cRepr, isBox, oEqS, rMethK, byOrd, h2, h3]
    exact ⟨⟨by omega, by exact_mod_cast h4⟩, h⟩
  · have ht : ∃ ps, part = .tup ps := by
      cases dd with
      | zero => exact hp.elim
      | succ d => obtain ⟨ps, e, _⟩ := hp; exact ⟨_, e⟩
    obtain ⟨ps, rfl⟩ := ht
    have e1 : ((e : Nat) : Int) - 1 = ((e - 1 : Nat) : Int) := by omega
    simp only [rRet, rRetN, rSeq, rNext, rIfS, rAsg, rDrop, rOwn, rPar, rApp, rNever, rBrk, rCont, dEnds, rV, rC, r2, r1, rTup, rLst, rLstM, rCons, rNil, rStar, rA, rB, rT, rNot, rAnd, rOr, rIf, rIfT, rAndV, rOrV, rNotV, rChain, rIxO, rIsi, rSlice, rPart, rNoP, rCall, rMeth, rProp, rFld, rSetF, rNewF, rMkP, rMkM, gV, gN0, gCs, gT, gIx, gIxO, oAdd, oSub, oMulI, oDiv, oMod, oPow, oInt, oCmp, oNeg, oIx, oIsN, oNotN, isNon, cLen, cAbs, cInt1, cInt2, cIntI, cStrI, cMax, cMin, cDivmod, cTuple, cList, kO, kN, kB, kI, startE, List.map_cons, List.map_nil, List.length_cons, List.length_nil, Nat.reduceAdd, Nat.reduceSub, Nat.reduceLeDiff, Nat.reduceLT, Nat.zero_lt_succ, List.replicate_succ, List.replicate_zero, List.cons_append, List.nil_append, List.append_nil, List.getElem?_cons_zero, List.getElem?_cons_succ, List.set_cons_zero, List.set_cons_succ, atI_0, atI_1, atI_2, atI_3, atI_4, atI_5, ixN_lit, true_and, and_true, and_self, Bool.false_eq_true, if_true, if_false, reduceIte, reduceCtorEq, mput_same, mput_mput, PySem.sizeLine_eq, truD, TruOk, oEqD, oNeD, deq_int, deq_str, deq_bl, deq_tup, deq_lst, deqs_nil, deqs_cons, deqs_nc, deqs_cn, okD, rYes, iSeq, iTupD, iStrD, iEnumD, iZipD, kL, seqD, rCompE, rCompS, rComp, hideE, rFor, rTup, rKix, rSlo, rLenC, rIsC, kBo, rParO, rPar3, rAug, rJoin, kS, cAll, cAny, kB, oSame, rMkL, Bool.and_true, Bool.true_and, Bool.not_true, Bool.not_false, List.set_nil, Int.cast_ofNat_Int, Int.natCast_zero, Int.natCast_one, bls, Option.map_some, List.all_cons, List.all_nil, id_eq, beq_self_eq_true, Int.reduceBEq, Int.reduceLT, Int.reduceLE, Int.reduceAdd, Int.reduceSub, Int.reduceNeg, decide_true, decide_false, Bool.false_and, Bool.and_false, iRange1, iRange2, rBoolC, cReprB, cRepr, isBox, oEqS, rMethK, byOrd, isTup, tyN, Option.isSome_some, e1]
    exact ⟨bs, _, e - 1, rfl, hB, by omega, hd, hp, h⟩
abbrev s_plan_move : Stmt := topS 38
theorem sc_plan_move : FnScope ["lot", "plan", "depth", "found", "pair", "move"] ["lot", "plan", "depth"] (defScope s_plan_move) := ⟨rfl, rfl, rfl, by decide +kernel, rfl, by decide +kernel, by decide +kernel⟩
theorem ok_plan_move {f c pp : Addr} {fd : FuncData} {k0 dd : Nat} (hk : 6 ≤ k0) (F : Fun K "plan_move" "plan_move" s_plan_move f fd) (hm : mg "plan_move" = some (.ref f)) (B : Blt mg) (g_then_move : FnG P w K mg base "then_move" 1 2 sp_then_move) (g_often_move : FnG P w K mg base "often_move" 1 2 sp_often_move) (g_part_move : FnG P w K mg base "part_move" k0 3 (sp_part_move dd)) (g_is_integer : FnG P w K mg base "is_integer" 1 1 sp_is_integer) (c_PLAIN : GlobV K mg "PLAIN" (mvD PL)) : FnG P w K mg base "plan_move" (k0 + 1) 3 (sp_plan_move (dd + 1)) := by
  refine fng_mk F hm sc_plan_move (fun _ _ _ _ _ _ us hl => match us, hl with | [_, _, _], _ => rfl) rfl (fun cdv A outer s H E hr => ?_)
  refine ⟨_, (ss_cons (s_if (t_w (w_or (t_not (t_val (d_isi isi_tup rfl (B "isinstance" (by decide +kernel)) (by decide +kernel) rfl (B "tuple" (by decide +kernel)) (by decide +kernel) (dv 1)))) (w_or1 (t_cm (c_eq hr.units) (dv 2) d_int)))) (ss_one (s_ret d_non)) ss_nil)
    (ss_cons (s_set 3 sc_plan_move.nd (d_glob rfl c_PLAIN))
    (ss_cons (s_for PassesOwn.never rfl (i_tup (dv 1)) (g_name (vs := [4]) 4 sc_plan_move.nd) (ss_cons (s_if (t_w (w_or (t_not (t_val (d_isi isi_tup rfl (B "isinstance" (by decide +kernel)) (by decide +kernel) rfl (B "tuple" (by decide +kernel)) (by decide +kernel) (dv 4)))) (w_or (t_cm (c_ne hr.units) (d_callB b_len rfl (B "len" (by decide +kernel)) (by decide +kernel) (a_cons (dv 4) a_nil)) d_int) (w_or (t_not (t_val (d_call g_is_integer (hr.mono (by first | decide | omega)) rfl (a_cons (d_ix (dv 4) d_int) a_nil)))) (w_or1 (t_cm (c_eq hr.units) (d_ix (dv 4) d_int) d_int)))))) (ss_one (s_ret d_non)) ss_nil)
    (ss_cons (s_set 5 sc_plan_move.nd (d_call g_part_move (hr.mono (by first | decide | omega)) rfl (a_cons (dv 0) (a_cons (d_ix (dv 4) d_int) (a_cons (dv 2) a_nil)))))
    (ss_cons (s_if (t_cm c_is (dv 5) d_non) (ss_one (s_ret d_non)) ss_nil)
    (ss_one (s_set 3 sc_plan_move.nd (d_call g_then_move (hr.mono (by first | decide | omega)) rfl (a_cons (dv 3) (a_cons (d_call g_often_move (hr.mono (by first | decide | omega)) rfl (a_cons (dv 5) (a_cons (d_ix (dv 4) d_int) a_nil))) a_nil)))))))))
    (ss_one (s_ret (dv 3)))))), fun ds M q hl h => ?_⟩
  obtain ⟨bs, plan, e, rfl, hB, he, hd, ⟨ps, rfl, hl, hp⟩, h⟩ := h
  rw [meanP_tup] at h
  have he0 : (((e : Nat) : Int) == 0) = false := by rw [beq_eq_false_iff_ne]; omega
  have hbd := part_bd (bs := bs) (n := bs.length) hB.2.2 dd
  have hBp : 3 * (2 * 10 ^ 20 * BpN dd) ≤ lim := BpN_small (by omega)
  simp only [rRet, rRetN, rSeq, rNext, rIfS, rAsg, rDrop, rOwn, rPar, rApp, rNever, rBrk, rCont, dEnds, rV, rC, r2, r1, rTup, rLst, rLstM, rCons, rNil, rStar, rA, rB, rT, rNot, rAnd, rOr, rIf, rIfT, rAndV, rOrV, rNotV, rChain, rIxO, rIsi, rSlice, rPart, rNoP, rCall, rMeth, rProp, rFld, rSetF, rNewF, rMkP, rMkM, gV, gN0, gCs, gT, gIx, gIxO, oAdd, oSub, oMulI, oDiv, oMod, oPow, oInt, oCmp, oNeg, oIx, oIsN, oNotN, isNon, cLen, cAbs, cInt1, cInt2, cIntI, cStrI, cMax, cMin, cDivmod, cTuple, cList, kO, kN, kB, kI, startE, List.map_cons, List.map_nil, List.length_cons, List.length_nil, Nat.reduceAdd, Nat.reduceSub, Nat.reduceLeDiff, Nat.reduceLT, Nat.zero_lt_succ, List.replicate_succ, List.replicate_zero, List.cons_append, List.nil_append, List.append_nil, List.getElem?_cons_zero, List.getElem?_cons_succ, List.set_cons_zero, List.set_cons_succ, atI_0, atI_1, atI_2, atI_3, atI_4, atI_5, ixN_lit, true_and, and_true, and_self, Bool.false_eq_true, if_true, if_false, reduceIte, reduceCtorEq, mput_same, mput_mput, PySem.sizeLine_eq, truD, TruOk, oEqD, oNeD, deq_int, deq_str, deq_bl, deq_tup, deq_lst, deqs_nil, deqs_cons, deqs_nc, deqs_cn, okD, rYes, iSeq, iTupD, iStrD, iEnumD, iZipD, kL, seqD, rCompE, rCompS, rComp, hideE, rFor, rTup, rKix, rSlo, rLenC, rIsC, kBo, rParO, rPar3, rAug, rJoin, kS, cAll, cAny, kB, oSame, rMkL, Bool.and_true, Bool.true_and, Bool.not_true, Bool.not_false, List.set_nil, Int.cast_ofNat_Int, Int.natCast_zero, Int.natCast_one, bls, Option.map_some, List.all_cons, List.all_nil, id_eq, beq_self_eq_true, Int.reduceBEq, Int.reduceLT, Int.reduceLE, Int.reduceAdd, Int.reduceSub, Int.reduceNeg, decide_true, decide_false, Bool.false_and, Bool.and_false, iRange1, iRange2, rBoolC, cReprB, cRepr, isBox, oEqS, rMethK, byOrd, isTup, tyN, Option.isSome_some, he0]
  refine for_ind (fun items st => ∃ (rest : List (D × Int)) (a : Mv) (n : Nat) (x y : Sl), items = rest.map pairD ∧ n + rest.length ≤ 3 ∧ Bd (n * (2 * 10 ^ 20 * BpN dd)) a ∧ (∀ p ∈ rest, p ∈ ps) ∧ foldP (meanP dd bs) (rest.map pairD) a = foldP (meanP dd bs) (ps.map pairD) PL ∧ st = ⟨[.val (lotD bs), .val (.tup (ps.map pairD)), .val (.int e), .val (mvD a), x, y], M⟩) ⟨ps, PL, 0, .no, .no, rfl, by omega, .pl _, fun p h => h, rfl, rfl⟩ ?_ ?_
  · rintro st ⟨rest, a, n, x, y, k1, k2, k3, k4, k5, rfl⟩
    cases rest with
    | nil => rw [← k5] at h; exact h
    | cons a r => cases k1
  · rintro d ds st L ⟨rest, a, n, x, y, k1, k2, k3, k4, k5, rfl⟩ hL
    cases rest with
    | nil => cases k1
    | cons pt r =>
      obtain ⟨p, t⟩ := pt
      simp only [List.map_cons, List.cons.injEq] at k1
      obtain ⟨rfl, rfl⟩ := k1
      obtain ⟨q1, q2, q3⟩ := hp (p, t) (k4 _ List.mem_cons_self)
      have ht0 : (t == 0) = false := by rw [beq_eq_false_iff_ne]; exact q1
      have hm : Bd (BpN dd) (meanP dd bs p) := hbd p q3
      rw [List.length_cons] at k2
      have hmany : Bd (2 * 10 ^ 20 * BpN dd) (manyM (meanP dd bs p) t) := hm.many q2 (by decide)
      have l1 : BpN dd ≤ lim := Nat.le_trans (by omega) hBp
      have l2 : 2 * 10 ^ 20 * BpN dd ≤ lim := Nat.le_trans (by omega) hBp
      have l3 : n * (2 * 10 ^ 20 * BpN dd) ≤ lim := Nat.le_trans (Nat.mul_le_mul_right _ (by omega)) hBp
      simp only [rRet, rRetN, rSeq, rNext, rIfS, rAsg, rDrop, rOwn, rPar, rApp, rNever, rBrk, rCont, dEnds, rV, rC, r2, r1, rTup, rLst, rLstM, rCons, rNil, rStar, rA, rB, rT, rNot, rAnd, rOr, rIf, rIfT, rAndV, rOrV, rNotV, rChain, rIxO, rIsi, rSlice, rPart, rNoP, rCall, rMeth, rProp, rFld, rSetF, rNewF, rMkP, rMkM, gV, gN0, gCs, gT, gIx, gIxO, oAdd, oSub, oMulI, oDiv, oMod, oPow, oInt, oCmp, oNeg, oIx, oIsN, oNotN, isNon, cLen, cAbs, cInt1, cInt2, cIntI, cStrI, cMax, cMin, cDivmod, cTuple, cList, kO, kN, kB, kI, startE, List.map_cons, List.map_nil, List.length_cons, List.length_nil, Nat.reduceAdd, Nat.reduceSub, Nat.reduceLeDiff, Nat.reduceLT, Nat.zero_lt_succ, List.replicate_succ, List.replicate_zero, List.cons_append, List.nil_append, List.append_nil, List.getElem?_cons_zero, List.getElem?_cons_succ, List.set_cons_zero, List.set_cons_succ, atI_0, atI_1, atI_2, atI_3, atI_4, atI_5, ixN_lit, true_and, and_true, and_self, Bool.false_eq_true, if_true, if_false, reduceIte, reduceCtorEq, mput_same, mput_mput, PySem.sizeLine_eq, truD, TruOk, oEqD, oNeD, deq_int, deq_str, deq_bl, deq_tup, deq_lst, deqs_nil, deqs_cons, deqs_nc, deqs_cn, okD, rYes, iSeq, iTupD, iStrD, iEnumD, iZipD, kL, seqD, rCompE, rCompS, rComp, hideE, rFor, rTup, rKix, rSlo, rLenC, rIsC, kBo, rParO, rPar3, rAug, rJoin, kS, cAll, cAny, kB, oSame, rMkL, Bool.and_true, Bool.true_and, Bool.not_true, Bool.not_false, List.set_nil, Int.cast_ofNat_Int, Int.natCast_zero, Int.natCast_one, bls, Option.map_some, List.all_cons, List.all_nil, id_eq, beq_self_eq_true, Int.reduceBEq, Int.reduceLT, Int.reduceLE, Int.reduceAdd, Int.reduceSub, Int.reduceNeg, decide_true, decide_false, Bool.false_and, Bool.and_false, iRange1, iRange2, rBoolC, cReprB, cRepr, isBox, oEqS, rMethK, byOrd, pairD, isTup, isInt, isBool, tyN, Option.isSome_some, sp_is_integer, ht0]
      refine ⟨bs, p, e, rfl, hB, by omega, by omega, q3, ?_⟩
      simp only [rRet, rRetN, rSeq, rNext, rIfS, rAsg, rDrop, rOwn, rPar, rApp, rNever, rBrk, rCont, dEnds, rV, rC, r2, r1, rTup, rLst, rLstM, rCons, rNil, rStar, rA, rB, rT, rNot, rAnd, rOr, rIf, rIfT, rAndV, rOrV, rNotV, rChain, rIxO, rIsi, rSlice, rPart, rNoP, rCall, rMeth, rProp, rFld, rSetF, rNewF, rMkP, rMkM, gV, gN0, gCs, gT, gIx, gIxO, oAdd, oSub, oMulI, oDiv, oMod, oPow, oInt, oCmp, oNeg, oIx, oIsN, oNotN, isNon, cLen, cAbs, cInt1, cInt2, cIntI, cStrI, cMax, cMin, cDivmod, cTuple, cList, kO, kN, kB, kI, startE, List.map_cons, List.map_nil, List.length_cons, List.length_nil, Nat.reduceAdd, Nat.reduceSub, Nat.reduceLeDiff, Nat.reduceLT, Nat.zero_lt_succ, List.replicate_succ, List.replicate_zero, List.cons_append, List.nil_append, List.append_nil, List.getElem?_cons_zero, List.getElem?_cons_succ, List.set_cons_zero, List.set_cons_succ, atI_0, atI_1, atI_2, atI_3, atI_4, atI_5, ixN_lit, true_and, and_true, and_self, Bool.false_eq_true, if_true, if_false, reduceIte, reduceCtorEq, mput_same, mput_mput, PySem.sizeLine_eq, truD, TruOk, oEqD, oNeD, deq_int, deq_str, deq_bl, deq_tup, deq_lst, deqs_nil, deqs_cons, deqs_nc, deqs_cn, okD, rYes, iSeq, iTupD, iStrD, iEnumD, iZipD, kL, seqD, rCompE, rCompS, rComp, hideE, rFor, rTup, rKix, rSlo, rLenC, rIsC, kBo, rParO, rPar3, rAug, rJoin, kS, cAll, cAny, kB, oSame, rMkL, Bool.and_true, Bool.true_and, Bool.not_true, Bool.not_false, List.set_nil, Int.cast_ofNat_Int, Int.natCast_zero, Int.natCast_one, bls, Option.map_some, List.all_cons, List.all_nil, id_eq, beq_self_eq_true, Int.reduceBEq, Int.reduceLT, Int.reduceLE, Int.reduceAdd, Int.reduceSub, Int.reduceNeg, decide_true, decide_false, Bool.false_and, Bool.and_false, iRange1, iRange2, rBoolC, cReprB, cRepr, isBox, oEqS, rMethK, byOrd]
      refine iteN rfl ?_
      refine ⟨_, t, rfl, hm.ok l1, Nat.le_trans q2 ten20_small, a, _, rfl, k3.ok l3, hmany.ok l2, ?_⟩
      exact hL _ ⟨r, joinM a (manyM (meanP dd bs p) t), n + 1, .val (.tup [p, .int t]), .val (mvD (meanP dd bs p)), rfl, by omega, by have h9 := k3.join hmany; rwa [← Nat.succ_mul] at h9, fun x hx => k4 x (List.mem_cons_of_mem _ hx), k5, rfl⟩
def sp_doing (d : Nat) : DSp := fun ds M q => ∃ (bs : List Mv) (plan : D), ds = [lotD bs, plan] ∧ BtnsOk bs ∧ PlanOk d bs.length plan ∧ q (mvD (meanP d bs plan)) M
abbrev s_doing : Stmt := topS 39
theorem sc_doing : FnScope ["lot", "plan", "found"] ["lot", "plan"] (defScope s_doing) := ⟨rfl, rfl, rfl, by decide +kernel, rfl, by decide +kernel, by decide +kernel⟩
theorem ok_doing {f c pp : Addr} {fd : FuncData} {dd : Nat} (hd4 : dd ≤ 4) (F : Fun K "doing" "doing" s_doing f fd) (hm : mg "doing" = some (.ref f)) (B : Blt mg) (g_plan_move : FnG P w K mg base "plan_move" 20 3 (sp_plan_move dd)) (c_MOST_DEPTH : GlobV K mg "MOST_DEPTH" (.int 5)) (g_check_lot : FnG P w K mg base "check_lot" 1 1 sp_check_lot) : FnG P w K mg base "doing" 21 2 (sp_doing dd) := by
  refine fng_mk F hm sc_doing (fun _ _ _ _ _ _ us hl => match us, hl with | [_, _], _ => rfl) rfl (fun cdv A outer s H E hr => ?_)
  refine ⟨_, (ss_cons (s_expr (d_call g_check_lot (hr.mono (by first | decide | omega)) rfl (a_cons (dv 0) a_nil)))
    (ss_cons (s_set 2 sc_doing.nd (d_call g_plan_move (hr.mono (by first | decide | omega)) rfl (a_cons (dv 0) (a_cons (dv 1) (a_cons (d_glob rfl c_MOST_DEPTH) a_nil)))))
    (ss_cons (s_if (t_cm c_is (dv 2) d_non) (ss_one s_never) ss_nil)
    (ss_one (s_ret (dv 2)))))), fun ds M q hl h => ?_⟩
  obtain ⟨bs, plan, rfl, hB, hp, h⟩ := h
  simp only [rRet, rRetN, rSeq, rNext, rIfS, rAsg, rDrop, rOwn, rPar, rApp, rNever, rBrk, rCont, dEnds, rV, rC, r2, r1, rTup, rLst, rLstM, rCons, rNil, rStar, rA, rB, rT, rNot, rAnd, rOr, rIf, rIfT, rAndV, rOrV, rNotV, rChain, rIxO, rIsi, rSlice, rPart, rNoP, rCall, rMeth, rProp, rFld, rSetF, rNewF, rMkP, rMkM, gV, gN0, gCs, gT, gIx, gIxO, oAdd, oSub, oMulI, oDiv, oMod, oPow, oInt, oCmp, oNeg, oIx, oIsN, oNotN, isNon, cLen, cAbs, cInt1, cInt2, cIntI, cStrI, cMax, cMin, cDivmod, cTuple, cList, kO, kN, kB, kI, startE, List.map_cons, List.map_nil, List.length_cons, List.length_nil, Nat.reduceAdd, Nat.reduceSub, Nat.reduceLeDiff, Nat.reduceLT, Nat.zero_lt_succ, List.replicate_succ, List.replicate_zero, List.cons_append, List.nil_append, List.append_nil, List.getElem?_cons_zero, List.getElem?_cons_succ, List.set_cons_zero, List.set_cons_succ, atI_0, atI_1, atI_2, atI_3, atI_4, atI_5, ixN_lit, true_and, and_true, and_self, Bool.false_eq_true, if_true, if_false, reduceIte, reduceCtorEq, mput_same, mput_mput, PySem.sizeLine_eq, truD, TruOk, oEqD, oNeD, deq_int, deq_str, deq_bl, deq_tup, deq_lst, deqs_nil, deqs_cons, deqs_nc, deqs_cn, okD, rYes, iSeq, iTupD, iStrD, iEnumD, iZipD, kL, seqD, rCompE, rCompS, rComp, hideE, rFor, rTup, rKix, rSlo, rLenC, rIsC, kBo, rParO, rPar3, rAug, rJoin, kS, cAll, cAny, kB, oSame, rMkL, Bool.and_true, Bool.true_and, Bool.not_true, Bool.not_false, List.set_nil, Int.cast_ofNat_Int, Int.natCast_zero, Int.natCast_one, bls, Option.map_some, List.all_cons, List.all_nil, id_eq, beq_self_eq_true, Int.reduceBEq, Int.reduceLT, Int.reduceLE, Int.reduceAdd, Int.reduceSub, Int.reduceNeg, decide_true, decide_false, Bool.false_and, Bool.and_false, iRange1, iRange2, rBoolC, cReprB, cRepr, isBox, oEqS, rMethK, byOrd]
  refine ⟨bs, rfl, ?_⟩
  simp only [rRet, rRetN, rSeq, rNext, rIfS, rAsg, rDrop, rOwn, rPar, rApp, rNever, rBrk, rCont, dEnds, rV, rC, r2, r1, rTup, rLst, rLstM, rCons, rNil, rStar, rA, rB, rT, rNot, rAnd, rOr, rIf, rIfT, rAndV, rOrV, rNotV, rChain, rIxO, rIsi, rSlice, rPart, rNoP, rCall, rMeth, rProp, rFld, rSetF, rNewF, rMkP, rMkM, gV, gN0, gCs, gT, gIx, gIxO, oAdd, oSub, oMulI, oDiv, oMod, oPow, oInt, oCmp, oNeg, oIx, oIsN, oNotN, isNon, cLen, cAbs, cInt1, cInt2, cIntI, cStrI, cMax, cMin, cDivmod, cTuple, cList, kO, kN, kB, kI, startE, List.map_cons, List.map_nil, List.length_cons, List.length_nil, Nat.reduceAdd, Nat.reduceSub, Nat.reduceLeDiff, Nat.reduceLT, Nat.zero_lt_succ, List.replicate_succ, List.replicate_zero, List.cons_append, List.nil_append, List.append_nil, List.getElem?_cons_zero, List.getElem?_cons_succ, List.set_cons_zero, List.set_cons_succ, atI_0, atI_1, atI_2, atI_3, atI_4, atI_5, ixN_lit, true_and, and_true, and_self, Bool.false_eq_true, if_true, if_false, reduceIte, reduceCtorEq, mput_same, mput_mput, PySem.sizeLine_eq, truD, TruOk, oEqD, oNeD, deq_int, deq_str, deq_bl, deq_tup, deq_lst, deqs_nil, deqs_cons, deqs_nc, deqs_cn, okD, rYes, iSeq, iTupD, iStrD, iEnumD, iZipD, kL, seqD, rCompE, rCompS, rComp, hideE, rFor, rTup, rKix, rSlo, rLenC, rIsC, kBo, rParO, rPar3, rAug, rJoin, kS, cAll, cAny, kB, oSame, rMkL, Bool.and_true, Bool.true_and, Bool.not_true, Bool.not_false, List.set_nil, Int.cast_ofNat_Int, Int.natCast_zero, Int.natCast_one, bls, Option.map_some, List.all_cons, List.all_nil, id_eq, beq_self_eq_true, Int.reduceBEq, Int.reduceLT, Int.reduceLE, Int.reduceAdd, Int.reduceSub, Int.reduceNeg, decide_true, decide_false, Bool.false_and, Bool.and_false, iRange1, iRange2, rBoolC, cReprB, cRepr, isBox, oEqS, rMethK, byOrd]
  refine ⟨bs, plan, 5, rfl, hB, by omega, hd4, hp, ?_⟩
  exact iteN rfl h
abbrev s_Walker___init__ : Stmt := inClass (topS 42) 0
theorem sc_Walker___init__ : FnScope ["self"] ["self"] (defScope s_Walker___init__) := ⟨rfl, rfl, rfl, by decide +kernel, rfl, by decide +kernel, by decide +kernel⟩
def sp_Walker___init__ : DSp := fun ds M q => ∃ a, ds = [.ref a] ∧ M a = some (.ins "Walker" [] []) ∧ q .non (mput M a (walkerM []))
theorem ok_Walker___init__ {f c pp : Addr} {fd : FuncData} (F : Fun K "__init__" "Walker.__init__" s_Walker___init__ f fd) (hc : mg "Walker" = some (.ref c)) (mk : Mk K c f) (B : Blt mg) (f_spot : FldG K mg "Walker" "spot") (k_Spot : MkP P w K mg base "Spot" 1 ["whole", "road", "ahead"]) (c_PLAIN : GlobV K mg "PLAIN" (mvD PL)) : MkG P w K mg base "Walker" 3 1 sp_Walker___init__ := by
  refine mkg_mk F hc mk sc_Walker___init__ (fun _ _ _ _ _ _ us hl => match us, hl with | [_], _ => rfl) rfl (fun cdv A outer s H E hr => ?_)
  refine ⟨_, (ss_one (s_fldN [] f_spot (dv 0) (d_mkP k_Spot (hr.mono (by decide)) rfl (a_cons (d_glob rfl c_PLAIN) (a_cons (d_tup a_nil) (a_cons d_non a_nil)))))), fun ds M q hl h => ?_⟩
  obtain ⟨a, rfl, hM, h⟩ := h
  simp only [rRet, rRetN, rSeq, rNext, rIfS, rAsg, rDrop, rOwn, rPar, rApp, rNever, rBrk, rCont, dEnds, rV, rC, r2, r1, rTup, rLst, rLstM, rCons, rNil, rStar, rA, rB, rT, rNot, rAnd, rOr, rIf, rIfT, rAndV, rOrV, rNotV, rChain, rIxO, rIsi, rSlice, rPart, rNoP, rCall, rMeth, rProp, rFld, rSetF, rNewF, rMkP, rMkM, gV, gN0, gCs, gT, gIx, gIxO, oAdd, oSub, oMulI, oDiv, oMod, oPow, oInt, oCmp, oNeg, oIx, oIsN, oNotN, isNon, cLen, cAbs, cInt1, cInt2, cIntI, cStrI, cMax, cMin, cDivmod, cTuple, cList, kO, kN, kB, kI, startE, List.map_cons, List.map_nil, List.length_cons, List.length_nil, Nat.reduceAdd, Nat.reduceSub, Nat.reduceLeDiff, Nat.reduceLT, Nat.zero_lt_succ, List.replicate_succ, List.replicate_zero, List.cons_append, List.nil_append, List.append_nil, List.getElem?_cons_zero, List.getElem?_cons_succ, List.set_cons_zero, List.set_cons_succ, atI_0, atI_1, atI_2, atI_3, atI_4, atI_5, ixN_lit, true_and, and_true, and_self, Bool.false_eq_true, if_true, if_false, reduceIte, reduceCtorEq, mput_same, mput_mput, PySem.sizeLine_eq, truD, TruOk, oEqD, oNeD, deq_int, deq_str, deq_bl, deq_tup, deq_lst, deqs_nil, deqs_cons, deqs_nc, deqs_cn, okD, rYes, iSeq, iTupD, iStrD, iEnumD, iZipD, kL, seqD, rCompE, rCompS, rComp, hideE, rFor, rTup, rKix, rSlo, rLenC, rIsC, kBo, rParO, rPar3, rAug, rJoin, kS, cAll, cAny, kB, oSame, rMkL, Bool.and_true, Bool.true_and, Bool.not_true, Bool.not_false, List.set_nil, Int.cast_ofNat_Int, Int.natCast_zero, Int.natCast_one, bls, Option.map_some, List.all_cons, List.all_nil, id_eq, beq_self_eq_true, Int.reduceBEq, Int.reduceLT, Int.reduceLE, Int.reduceAdd, Int.reduceSub, Int.reduceNeg, decide_true, decide_false, Bool.false_and, Bool.and_false, iRange1, iRange2, rBoolC, cReprB, cRepr, isBox, oEqS, rMethK, byOrd, hM]
  exact h
abbrev s_Walker_at : Stmt := inClass (topS 42) 1
theorem sc_Walker_at : FnScope ["self"] ["self"] (defScope s_Walker_at) := ⟨rfl, rfl, rfl, by decide +kernel, rfl, by decide +kernel, by decide +kernel⟩
def sp_Walker_at : DSp := fun ds M q => ∃ a r, ds = [.ref a] ∧ M a = some (walkerM r) ∧ q (mvD (wholeM r)) M
theorem ok_Walker_at {f c pp : Addr} {fd : FuncData} (F : Fun K "at" "Walker.at" s_Walker_at f fd) (hc : mg "Walker" = some (.ref c)) (cl : Cls K c) (po : PropOf K c "at" pp f) (B : Blt mg) (f_whole : FldG K mg "Spot" "whole") (f_spot : FldG K mg "Walker" "spot") : PrG P w K mg base "Walker" "at" 1 sp_Walker_at := by
  refine prg_mk F hc cl po sc_Walker_at (fun _ _ _ _ _ _ us hl => match us, hl with | [_], _ => rfl) rfl (fun cdv A outer s H E hr => ?_)
  refine ⟨_, (ss_one (s_ret (d_fld ["whole", "road", "ahead"] 0 f_whole (d_fld ["spot"] 0 f_spot (dv 0))))), fun ds M q hl h => ?_⟩
  obtain ⟨a, r, rfl, hM, h⟩ := h
  simp only [rRet, rRetN, rSeq, rNext, rIfS, rAsg, rDrop, rOwn, rPar, rApp, rNever, rBrk, rCont, dEnds, rV, rC, r2, r1, rTup, rLst, rLstM, rCons, rNil, rStar, rA, rB, rT, rNot, rAnd, rOr, rIf, rIfT, rAndV, rOrV, rNotV, rChain, rIxO, rIsi, rSlice, rPart, rNoP, rCall, rMeth, rProp, rFld, rSetF, rNewF, rMkP, rMkM, gV, gN0, gCs, gT, gIx, gIxO, oAdd, oSub, oMulI, oDiv, oMod, oPow, oInt, oCmp, oNeg, oIx, oIsN, oNotN, isNon, cLen, cAbs, cInt1, cInt2, cIntI, cStrI, cMax, cMin, cDivmod, cTuple, cList, kO, kN, kB, kI, startE, List.map_cons, List.map_nil, List.length_cons, List.length_nil, Nat.reduceAdd, Nat.reduceSub, Nat.reduceLeDiff, Nat.reduceLT, Nat.zero_lt_succ, List.replicate_succ, List.replicate_zero, List.cons_append, List.nil_append, List.append_nil, List.getElem?_cons_zero, List.getElem?_cons_succ, List.set_cons_zero, List.set_cons_succ, atI_0, atI_1, atI_2, atI_3, atI_4, atI_5, ixN_lit, true_and, and_true, and_self, Bool.false_eq_true, if_true, if_false, reduceIte, reduceCtorEq, mput_same, mput_mput, PySem.sizeLine_eq, truD, TruOk, oEqD, oNeD, deq_int, deq_str, deq_bl, deq_tup, deq_lst, deqs_nil, deqs_cons, deqs_nc, deqs_cn, okD, rYes, iSeq, iTupD, iStrD, iEnumD, iZipD, kL, seqD, rCompE, rCompS, rComp, hideE, rFor, rTup, rKix, rSlo, rLenC, rIsC, kBo, rParO, rPar3, rAug, rJoin, kS, cAll, cAny, kB, oSame, rMkL, Bool.and_true, Bool.true_and, Bool.not_true, Bool.not_false, List.set_nil, Int.cast_ofNat_Int, Int.natCast_zero, Int.natCast_one, bls, Option.map_some, List.all_cons, List.all_nil, id_eq, beq_self_eq_true, Int.reduceBEq, Int.reduceLT, Int.reduceLE, Int.reduceAdd, Int.reduceSub, Int.reduceNeg, decide_true, decide_false, Bool.false_and, Bool.and_false, iRange1, iRange2, rBoolC, cReprB, cRepr, isBox, oEqS, rMethK, byOrd, hM, walkerM, spotD_eq]
  exact h
abbrev s_Walker_gone : Stmt := inClass (topS 42) 2
theorem sc_Walker_gone : FnScope ["self"] ["self"] (defScope s_Walker_gone) := ⟨rfl, rfl, rfl, by decide +kernel, rfl, by decide +kernel, by decide +kernel⟩
def sp_Walker_gone : DSp := fun ds M q => ∃ a r, ds = [.ref a] ∧ M a = some (walkerM r) ∧ q (.tup (r.reverse.map mvD)) M
theorem ok_Walker_gone {f c pp : Addr} {fd : FuncData} (F : Fun K "gone" "Walker.gone" s_Walker_gone f fd) (hc : mg "Walker" = some (.ref c)) (cl : Cls K c) (po : PropOf K c "gone" pp f) (B : Blt mg) (f_road : FldG K mg "Spot" "road") (f_spot : FldG K mg "Walker" "spot") : PrG P w K mg base "Walker" "gone" 1 sp_Walker_gone := by
  refine prg_mk F hc cl po sc_Walker_gone (fun _ _ _ _ _ _ us hl => match us, hl with | [_], _ => rfl) rfl (fun cdv A outer s H E hr => ?_)
  refine ⟨_, (ss_one (s_ret (d_fld ["whole", "road", "ahead"] 1 f_road (d_fld ["spot"] 0 f_spot (dv 0))))), fun ds M q hl h => ?_⟩
  obtain ⟨a, r, rfl, hM, h⟩ := h
  simp only [rRet, rRetN, rSeq, rNext, rIfS, rAsg, rDrop, rOwn, rPar, rApp, rNever, rBrk, rCont, dEnds, rV, rC, r2, r1, rTup, rLst, rLstM, rCons, rNil, rStar, rA, rB, rT, rNot, rAnd, rOr, rIf, rIfT, rAndV, rOrV, rNotV, rChain, rIxO, rIsi, rSlice, rPart, rNoP, rCall, rMeth, rProp, rFld, rSetF, rNewF, rMkP, rMkM, gV, gN0, gCs, gT, gIx, gIxO, oAdd, oSub, oMulI, oDiv, oMod, oPow, oInt, oCmp, oNeg, oIx, oIsN, oNotN, isNon, cLen, cAbs, cInt1, cInt2, cIntI, cStrI, cMax, cMin, cDivmod, cTuple, cList, kO, kN, kB, kI, startE, List.map_cons, List.map_nil, List.length_cons, List.length_nil, Nat.reduceAdd, Nat.reduceSub, Nat.reduceLeDiff, Nat.reduceLT, Nat.zero_lt_succ, List.replicate_succ, List.replicate_zero, List.cons_append, List.nil_append, List.append_nil, List.getElem?_cons_zero, List.getElem?_cons_succ, List.set_cons_zero, List.set_cons_succ, atI_0, atI_1, atI_2, atI_3, atI_4, atI_5, ixN_lit, true_and, and_true, and_self, Bool.false_eq_true, if_true, if_false, reduceIte, reduceCtorEq, mput_same, mput_mput, PySem.sizeLine_eq, truD, TruOk, oEqD, oNeD, deq_int, deq_str, deq_bl, deq_tup, deq_lst, deqs_nil, deqs_cons, deqs_nc, deqs_cn, okD, rYes, iSeq, iTupD, iStrD, iEnumD, iZipD, kL, seqD, rCompE, rCompS, rComp, hideE, rFor, rTup, rKix, rSlo, rLenC, rIsC, kBo, rParO, rPar3, rAug, rJoin, kS, cAll, cAny, kB, oSame, rMkL, Bool.and_true, Bool.true_and, Bool.not_true, Bool.not_false, List.set_nil, Int.cast_ofNat_Int, Int.natCast_zero, Int.natCast_one, bls, Option.map_some, List.all_cons, List.all_nil, id_eq, beq_self_eq_true, Int.reduceBEq, Int.reduceLT, Int.reduceLE, Int.reduceAdd, Int.reduceSub, Int.reduceNeg, decide_true, decide_false, Bool.false_and, Bool.and_false, iRange1, iRange2, rBoolC, cReprB, cRepr, isBox, oEqS, rMethK, byOrd, hM, walkerM, spotD_eq]
  exact h
abbrev s_Walker_go : Stmt := inClass (topS 42) 3
theorem sc_Walker_go : FnScope ["self", "move"] ["self", "move"] (defScope s_Walker_go) := ⟨rfl, rfl, rfl, by decide +kernel, rfl, by decide +kernel, by decide +kernel⟩
def sp_Walker_go : DSp := fun ds M q => ∃ a r m, ds = [.ref a, mvD m] ∧ M a = some (walkerM r) ∧ Ok (wholeM r) ∧ Ok m ∧ r.length ≤ 1000 ∧ q (mvD (wholeM (m :: r))) (mput M a (walkerM (m :: r)))
theorem okf_Walker_go {f : Addr} {fd : FuncData} (F : Fun K "go" "Walker.go" s_Walker_go f fd) (B : Blt mg) (f_whole : FldG K mg "Spot" "whole") (f_spot : FldG K mg "Walker" "spot") (k_Spot : MkP P w K mg base "Spot" 1 ["whole", "road", "ahead"]) (f_road : FldG K mg "Spot" "road") (g_then_move : FnG P w K mg base "then_move" 1 2 sp_then_move) (g_check_move : FnG P w K mg base "check_move" 3 1 sp_check_move) : FnOk P w K mg base CX0 4 f fd ["self", "move"] (lift K mg 2 sp_Walker_go) := by
  refine fn_mk F sc_Walker_go (fun cdv A outer s H E hr => ?_)
  refine ⟨_, (ss_cons (s_expr (d_call g_check_move (hr.mono (by first | decide | omega)) rfl (a_cons (dv 1) a_nil)))
    (ss_cons (s_fld ["spot"] 0 f_spot (dv 0) (d_mkP k_Spot (hr.mono (by decide)) rfl (a_cons (d_call g_then_move (hr.mono (by first | decide | omega)) rfl (a_cons (d_fld ["whole", "road", "ahead"] 0 f_whole (d_fld ["spot"] 0 f_spot (dv 0))) (a_cons (dv 1) a_nil))) (a_cons (d_tup (a_star (d_fld ["whole", "road", "ahead"] 1 f_road (d_fld ["spot"] 0 f_spot (dv 0))) (a_cons (dv 1) a_nil))) (a_cons (d_fld ["spot"] 0 f_spot (dv 0)) a_nil)))))
    (ss_one (s_ret (d_fld ["whole", "road", "ahead"] 0 f_whole (d_fld ["spot"] 0 f_spot (dv 0))))))), fun ds M q hl h => ?_⟩
  obtain ⟨a, r, m, rfl, hM, ho, hm, hl, h⟩ := h
  simp only [rRet, rRetN, rSeq, rNext, rIfS, rAsg, rDrop, rOwn, rPar, rApp, rNever, rBrk, rCont, dEnds, rV, rC, r2, r1, rTup, rLst, rLstM, rCons, rNil, rStar, rA, rB, rT, rNot, rAnd, rOr, rIf, rIfT, rAndV, rOrV, rNotV, rChain, rIxO, rIsi, rSlice, rPart, rNoP, rCall, rMeth, rProp, rFld, rSetF, rNewF, rMkP, rMkM, gV, gN0, gCs, gT, gIx, gIxO, oAdd, oSub, oMulI, oDiv, oMod, oPow, oInt, oCmp, oNeg, oIx, oIsN, oNotN, isNon, cLen, cAbs, cInt1, cInt2, cIntI, cStrI, cMax, cMin, cDivmod, cTuple, cList, kO, kN, kB, kI, startE, List.map_cons, List.map_nil, List.length_cons, List.length_nil, Nat.reduceAdd, Nat.reduceSub, Nat.reduceLeDiff, Nat.reduceLT, Nat.zero_lt_succ, List.replicate_succ, List.replicate_zero, List.cons_append, List.nil_append, List.append_nil, List.getElem?_cons_zero, List.getElem?_cons_succ, List.set_cons_zero, List.set_cons_succ, atI_0, atI_1, atI_2, atI_3, atI_4, atI_5, ixN_lit, true_and, and_true, and_self, Bool.false_eq_true, if_true, if_false, reduceIte, reduceCtorEq, mput_same, mput_mput, PySem.sizeLine_eq, truD, TruOk, oEqD, oNeD, deq_int, deq_str, deq_bl, deq_tup, deq_lst, deqs_nil, deqs_cons, deqs_nc, deqs_cn, okD, rYes, iSeq, iTupD, iStrD, iEnumD, iZipD, kL, seqD, rCompE, rCompS, rComp, hideE, rFor, rTup, rKix, rSlo, rLenC, rIsC, kBo, rParO, rPar3, rAug, rJoin, kS, cAll, cAny, kB, oSame, rMkL, Bool.and_true, Bool.true_and, Bool.not_true, Bool.not_false, List.set_nil, Int.cast_ofNat_Int, Int.natCast_zero, Int.natCast_one, bls, Option.map_some, List.all_cons, List.all_nil, id_eq, beq_self_eq_true, Int.reduceBEq, Int.reduceLT, Int.reduceLE, Int.reduceAdd, Int.reduceSub, Int.reduceNeg, decide_true, decide_false, Bool.false_and, Bool.and_false, iRange1, iRange2, rBoolC, cReprB, cRepr, isBox, oEqS, rMethK, byOrd]
  refine ⟨m, rfl, ?_⟩
  simp only [rRet, rRetN, rSeq, rNext, rIfS, rAsg, rDrop, rOwn, rPar, rApp, rNever, rBrk, rCont, dEnds, rV, rC, r2, r1, rTup, rLst, rLstM, rCons, rNil, rStar, rA, rB, rT, rNot, rAnd, rOr, rIf, rIfT, rAndV, rOrV, rNotV, rChain, rIxO, rIsi, rSlice, rPart, rNoP, rCall, rMeth, rProp, rFld, rSetF, rNewF, rMkP, rMkM, gV, gN0, gCs, gT, gIx, gIxO, oAdd, oSub, oMulI, oDiv, oMod, oPow, oInt, oCmp, oNeg, oIx, oIsN, oNotN, isNon, cLen, cAbs, cInt1, cInt2, cIntI, cStrI, cMax, cMin, cDivmod, cTuple, cList, kO, kN, kB, kI, startE, List.map_cons, List.map_nil, List.length_cons, List.length_nil, Nat.reduceAdd, Nat.reduceSub, Nat.reduceLeDiff, Nat.reduceLT, Nat.zero_lt_succ, List.replicate_succ, List.replicate_zero, List.cons_append, List.nil_append, List.append_nil, List.getElem?_cons_zero, List.getElem?_cons_succ, List.set_cons_zero, List.set_cons_succ, atI_0, atI_1, atI_2, atI_3, atI_4, atI_5, ixN_lit, true_and, and_true, and_self, Bool.false_eq_true, if_true, if_false, reduceIte, reduceCtorEq, mput_same, mput_mput, PySem.sizeLine_eq, truD, TruOk, oEqD, oNeD, deq_int, deq_str, deq_bl, deq_tup, deq_lst, deqs_nil, deqs_cons, deqs_nc, deqs_cn, okD, rYes, iSeq, iTupD, iStrD, iEnumD, iZipD, kL, seqD, rCompE, rCompS, rComp, hideE, rFor, rTup, rKix, rSlo, rLenC, rIsC, kBo, rParO, rPar3, rAug, rJoin, kS, cAll, cAny, kB, oSame, rMkL, Bool.and_true, Bool.true_and, Bool.not_true, Bool.not_false, List.set_nil, Int.cast_ofNat_Int, Int.natCast_zero, Int.natCast_one, bls, Option.map_some, List.all_cons, List.all_nil, id_eq, beq_self_eq_true, Int.reduceBEq, Int.reduceLT, Int.reduceLE, Int.reduceAdd, Int.reduceSub, Int.reduceNeg, decide_true, decide_false, Bool.false_and, Bool.and_false, iRange1, iRange2, rBoolC, cReprB, cRepr, isBox, oEqS, rMethK, byOrd, hM, walkerM, spotD_eq]
  refine ⟨_, m, rfl, ho, hm, ?_⟩
  simp only [rRet, rRetN, rSeq, rNext, rIfS, rAsg, rDrop, rOwn, rPar, rApp, rNever, rBrk, rCont, dEnds, rV, rC, r2, r1, rTup, rLst, rLstM, rCons, rNil, rStar, rA, rB, rT, rNot, rAnd, rOr, rIf, rIfT, rAndV, rOrV, rNotV, rChain, rIxO, rIsi, rSlice, rPart, rNoP, rCall, rMeth, rProp, rFld, rSetF, rNewF, rMkP, rMkM, gV, gN0, gCs, gT, gIx, gIxO, oAdd, oSub, oMulI, oDiv, oMod, oPow, oInt, oCmp, oNeg, oIx, oIsN, oNotN, isNon, cLen, cAbs, cInt1, cInt2, cIntI, cStrI, cMax, cMin, cDivmod, cTuple, cList, kO, kN, kB, kI, startE, List.map_cons, List.map_nil, List.length_cons, List.length_nil, Nat.reduceAdd, Nat.reduceSub, Nat.reduceLeDiff, Nat.reduceLT, Nat.zero_lt_succ, List.replicate_succ, List.replicate_zero, List.cons_append, List.nil_append, List.append_nil, List.getElem?_cons_zero, List.getElem?_cons_succ, List.set_cons_zero, List.set_cons_succ, atI_0, atI_1, atI_2, atI_3, atI_4, atI_5, ixN_lit, true_and, and_true, and_self, Bool.false_eq_true, if_true, if_false, reduceIte, reduceCtorEq, mput_same, mput_mput, PySem.sizeLine_eq, truD, TruOk, oEqD, oNeD, deq_int, deq_str, deq_bl, deq_tup, deq_lst, deqs_nil, deqs_cons, deqs_nc, deqs_cn, okD, rYes, iSeq, iTupD, iStrD, iEnumD, iZipD, kL, seqD, rCompE, rCompS, rComp, hideE, rFor, rTup, rKix, rSlo, rLenC, rIsC, kBo, rParO, rPar3, rAug, rJoin, kS, cAll, cAny, kB, oSame, rMkL, Bool.and_true, Bool.true_and, Bool.not_true, Bool.not_false, List.set_nil, Int.cast_ofNat_Int, Int.natCast_zero, Int.natCast_one, bls, Option.map_some, List.all_cons, List.all_nil, id_eq, beq_self_eq_true, Int.reduceBEq, Int.reduceLT, Int.reduceLE, Int.reduceAdd, Int.reduceSub, Int.reduceNeg, decide_true, decide_false, Bool.false_and, Bool.and_false, iRange1, iRange2, rBoolC, cReprB, cRepr, isBox, oEqS, rMethK, byOrd, hM, walkerM, spotD_eq]
  rw [← spotD_eq, spotD_cons]
  exact ⟨by rw [List.length_append, List.length_map, List.length_reverse]; show r.length + 1 ≤ 16777216; omega, h⟩
theorem ok_Walker_go {f c pp : Addr} {fd : FuncData} (F : Fun K "go" "Walker.go" s_Walker_go f fd) (hc : mg "Walker" = some (.ref c)) (cl : Cls K c) (me : Meth K c "go" f) (B : Blt mg) (f_whole : FldG K mg "Spot" "whole") (f_spot : FldG K mg "Walker" "spot") (k_Spot : MkP P w K mg base "Spot" 1 ["whole", "road", "ahead"]) (f_road : FldG K mg "Spot" "road") (g_then_move : FnG P w K mg base "then_move" 1 2 sp_then_move) (g_check_move : FnG P w K mg base "check_move" 3 1 sp_check_move) : MtG P w K mg base "Walker" "go" 4 2 sp_Walker_go :=
  ⟨c, f, fd, _, hc, cl, me, okf_Walker_go F B f_whole f_spot k_Spot f_road g_then_move g_check_move, F.binds (fun _ _ _ _ _ _ us hl => match us, hl with | [_, _], _ => rfl)⟩
abbrev s_Walker_press : Stmt := inClass (topS 42) 4
theorem sc_Walker_press : FnScope ["self", "lot", "plan"] ["self", "lot", "plan"] (defScope s_Walker_press) := ⟨rfl, rfl, rfl, by decide +kernel, rfl, by decide +kernel, by decide +kernel⟩
def sp_Walker_press : DSp := fun ds M q => ∃ a r bs plan, ds = [.ref a, lotD bs, plan] ∧ M a = some (walkerM r) ∧ Ok (wholeM r) ∧ r.length ≤ 1000 ∧ BtnsOk bs ∧ PlanOk 4 bs.length plan ∧ q (mvD (wholeM (meanP 4 bs plan :: r))) (mput M a (walkerM (meanP 4 bs plan :: r)))
theorem okf_Walker_press {f : Addr} {fd : FuncData} (F : Fun K "press" "Walker.press" s_Walker_press f fd) (B : Blt mg) (m_go : MtG P w K mg base "Walker" "go" 4 2 sp_Walker_go) (g_doing : FnG P w K mg base "doing" 21 2 (sp_doing 4)) : FnOk P w K mg base CX0 22 f fd ["self", "lot", "plan"] (lift K mg 3 sp_Walker_press) := by
  refine fn_mk F sc_Walker_press (fun cdv A outer s H E hr => ?_)
  refine ⟨_, (ss_one (s_ret (d_meth m_go (hr.mono (by decide)) (dv 0) (a_cons (d_call g_doing (hr.mono (by first | decide | omega)) rfl (a_cons (dv 1) (a_cons (dv 2) a_nil))) a_nil)))), fun ds M q hl h => ?_⟩
  obtain ⟨a, r, bs, plan, rfl, hM, ho, hl, hB, hp, h⟩ := h
  simp only [rRet, rRetN, rSeq, rNext, rIfS, rAsg, rDrop, rOwn, rPar, rApp, rNever, rBrk, rCont, dEnds, rV, rC, r2, r1, rTup, rLst, rLstM, rCons, rNil, rStar, rA, rB, rT, rNot, rAnd, rOr, rIf, rIfT, rAndV, rOrV, rNotV, rChain, rIxO, rIsi, rSlice, rPart, rNoP, rCall, rMeth, rProp, rFld, rSetF, rNewF, rMkP, rMkM, gV, gN0, gCs, gT, gIx, gIxO, oAdd, oSub, oMulI, oDiv, oMod, oPow, oInt, oCmp, oNeg, oIx, oIsN, oNotN, isNon, cLen, cAbs, cInt1, cInt2, cIntI, cStrI, cMax, cMin, cDivmod, cTuple, cList, kO, kN, kB, kI, startE, List.map_cons, List.map_nil, List.length_cons, List.length_nil, Nat.reduceAdd, Nat.reduceSub, Nat.reduceLeDiff, Nat.reduceLT, Nat.zero_lt_succ, List.replicate_succ, List.replicate_zero, List.cons_append, List.nil_append, List.append_nil, List.getElem?_cons_zero, List.getElem?_cons_succ, List.set_cons_zero, List.set_cons_succ, atI_0, atI_1, atI_2, atI_3, atI_4, atI_5, ixN_lit, true_and, and_true, and_self, Bool.false_eq_true, if_true, if_false, reduceIte, reduceCtorEq, mput_same, mput_mput, PySem.sizeLine_eq, truD, TruOk, oEqD, oNeD, deq_int, deq_str, deq_bl, deq_tup, deq_lst, deqs_nil, deqs_cons, deqs_nc, deqs_cn, okD, rYes, iSeq, iTupD, iStrD, iEnumD, iZipD, kL, seqD, rCompE, rCompS, rComp, hideE, rFor, rTup, rKix, rSlo, rLenC, rIsC, kBo, rParO, rPar3, rAug, rJoin, kS, cAll, cAny, kB, oSame, rMkL, Bool.and_true, Bool.true_and, Bool.not_true, Bool.not_false, List.set_nil, Int.cast_ofNat_Int, Int.natCast_zero, Int.natCast_one, bls, Option.map_some, List.all_cons, List.all_nil, id_eq, beq_self_eq_true, Int.reduceBEq, Int.reduceLT, Int.reduceLE, Int.reduceAdd, Int.reduceSub, Int.reduceNeg, decide_true, decide_false, Bool.false_and, Bool.and_false, iRange1, iRange2, rBoolC, cReprB, cRepr, isBox, oEqS, rMethK, byOrd, hM, walkerM, selfOk]
  refine ⟨by decide +kernel, bs, plan, rfl, hB, hp, ?_⟩
  simp only [rRet, rRetN, rSeq, rNext, rIfS, rAsg, rDrop, rOwn, rPar, rApp, rNever, rBrk, rCont, dEnds, rV, rC, r2, r1, rTup, rLst, rLstM, rCons, rNil, rStar, rA, rB, rT, rNot, rAnd, rOr, rIf, rIfT, rAndV, rOrV, rNotV, rChain, rIxO, rIsi, rSlice, rPart, rNoP, rCall, rMeth, rProp, rFld, rSetF, rNewF, rMkP, rMkM, gV, gN0, gCs, gT, gIx, gIxO, oAdd, oSub, oMulI, oDiv, oMod, oPow, oInt, oCmp, oNeg, oIx, oIsN, oNotN, isNon, cLen, cAbs, cInt1, cInt2, cIntI, cStrI, cMax, cMin, cDivmod, cTuple, cList, kO, kN, kB, kI, startE, List.map_cons, List.map_nil, List.length_cons, List.length_nil, Nat.reduceAdd, Nat.reduceSub, Nat.reduceLeDiff, Nat.reduceLT, Nat.zero_lt_succ, List.replicate_succ, List.replicate_zero, List.cons_append, List.nil_append, List.append_nil, List.getElem?_cons_zero, List.getElem?_cons_succ, List.set_cons_zero, List.set_cons_succ, atI_0, atI_1, atI_2, atI_3, atI_4, atI_5, ixN_lit, true_and, and_true, and_self, Bool.false_eq_true, if_true, if_false, reduceIte, reduceCtorEq, mput_same, mput_mput, PySem.sizeLine_eq, truD, TruOk, oEqD, oNeD, deq_int, deq_str, deq_bl, deq_tup, deq_lst, deqs_nil, deqs_cons, deqs_nc, deqs_cn, okD, rYes, iSeq, iTupD, iStrD, iEnumD, iZipD, kL, seqD, rCompE, rCompS, rComp, hideE, rFor, rTup, rKix, rSlo, rLenC, rIsC, kBo, rParO, rPar3, rAug, rJoin, kS, cAll, cAny, kB, oSame, rMkL, Bool.and_true, Bool.true_and, Bool.not_true, Bool.not_false, List.set_nil, Int.cast_ofNat_Int, Int.natCast_zero, Int.natCast_one, bls, Option.map_some, List.all_cons, List.all_nil, id_eq, beq_self_eq_true, Int.reduceBEq, Int.reduceLT, Int.reduceLE, Int.reduceAdd, Int.reduceSub, Int.reduceNeg, decide_true, decide_false, Bool.false_and, Bool.and_false, iRange1, iRange2, rBoolC, cReprB, cRepr, isBox, oEqS, rMethK, byOrd]
  exact ⟨a, r, _, rfl, hM, ho, (part_bd hB.2.2 4 plan (.inr hp)).ok (BpN_lim (d := 4) (by omega)), hl, h⟩
theorem ok_Walker_press {f c pp : Addr} {fd : FuncData} (F : Fun K "press" "Walker.press" s_Walker_press f fd) (hc : mg "Walker" = some (.ref c)) (cl : Cls K c) (me : Meth K c "press" f) (B : Blt mg) (m_go : MtG P w K mg base "Walker" "go" 4 2 sp_Walker_go) (g_doing : FnG P w K mg base "doing" 21 2 (sp_doing 4)) : MtG P w K mg base "Walker" "press" 22 3 sp_Walker_press :=
  ⟨c, f, fd, _, hc, cl, me, okf_Walker_press F B m_go g_doing, F.binds (fun _ _ _ _ _ _ us hl => match us, hl with | [_, _, _], _ => rfl)⟩
abbrev s_Walker_undo : Stmt := inClass (topS 42) 5
theorem sc_Walker_undo : FnScope ["self"] ["self"] (defScope s_Walker_undo) := ⟨rfl, rfl, rfl, by decide +kernel, rfl, by decide +kernel, by decide +kernel⟩
def sp_Walker_undo : DSp := fun ds M q => ∃ a m r, ds = [.ref a] ∧ M a = some (walkerM (m :: r)) ∧ q .non (mput M a (walkerM r))
theorem okf_Walker_undo {f : Addr} {fd : FuncData} (F : Fun K "undo" "Walker.undo" s_Walker_undo f fd) (B : Blt mg) (f_spot : FldG K mg "Walker" "spot") (f_ahead : FldG K mg "Spot" "ahead") : FnOk P w K mg base CX0 1 f fd ["self"] (lift K mg 1 sp_Walker_undo) := by
  refine fn_mk F sc_Walker_undo (fun cdv A outer s H E hr => ?_)
  refine ⟨_, (ss_cons (s_if (t_cm c_is (d_fld ["whole", "road", "ahead"] 2 f_ahead (d_fld ["spot"] 0 f_spot (dv 0))) d_non) (ss_one s_never) ss_nil)
    (ss_one (s_fld ["spot"] 0 f_spot (dv 0) (d_fld ["whole", "road", "ahead"] 2 f_ahead (d_fld ["spot"] 0 f_spot (dv 0)))))), fun ds M q hl h => ?_⟩
  obtain ⟨a, m, r, rfl, hM, h⟩ := h
  simp only [rRet, rRetN, rSeq, rNext, rIfS, rAsg, rDrop, rOwn, rPar, rApp, rNever, rBrk, rCont, dEnds, rV, rC, r2, r1, rTup, rLst, rLstM, rCons, rNil, rStar, rA, rB, rT, rNot, rAnd, rOr, rIf, rIfT, rAndV, rOrV, rNotV, rChain, rIxO, rIsi, rSlice, rPart, rNoP, rCall, rMeth, rProp, rFld, rSetF, rNewF, rMkP, rMkM, gV, gN0, gCs, gT, gIx, gIxO, oAdd, oSub, oMulI, oDiv, oMod, oPow, oInt, oCmp, oNeg, oIx, oIsN, oNotN, isNon, cLen, cAbs, cInt1, cInt2, cIntI, cStrI, cMax, cMin, cDivmod, cTuple, cList, kO, kN, kB, kI, startE, List.map_cons, List.map_nil, List.length_cons, List.length_nil, Nat.reduceAdd, Nat.reduceSub, Nat.reduceLeDiff, Nat.reduceLT, Nat.zero_lt_succ, List.replicate_succ, List.replicate_zero, List.cons_append, List.nil_append, List.append_nil, List.getElem?_cons_zero, List.getElem?_cons_succ, List.set_cons_zero, List.set_cons_succ, atI_0, atI_1, atI_2, atI_3, atI_4, atI_5, ixN_lit, true_and, and_true, and_self, Bool.false_eq_true, if_true, if_false, reduceIte, reduceCtorEq, mput_same, mput_mput, PySem.sizeLine_eq, truD, TruOk, oEqD, oNeD, deq_int, deq_str, deq_bl, deq_tup, deq_lst, deqs_nil, deqs_cons, deqs_nc, deqs_cn, okD, rYes, iSeq, iTupD, iStrD, iEnumD, iZipD, kL, seqD, rCompE, rCompS, rComp, hideE, rFor, rTup, rKix, rSlo, rLenC, rIsC, kBo, rParO, rPar3, rAug, rJoin, kS, cAll, cAny, kB, oSame, rMkL, Bool.and_true, Bool.true_and, Bool.not_true, Bool.not_false, List.set_nil, Int.cast_ofNat_Int, Int.natCast_zero, Int.natCast_one, bls, Option.map_some, List.all_cons, List.all_nil, id_eq, beq_self_eq_true, Int.reduceBEq, Int.reduceLT, Int.reduceLE, Int.reduceAdd, Int.reduceSub, Int.reduceNeg, decide_true, decide_false, Bool.false_and, Bool.and_false, iRange1, iRange2, rBoolC, cReprB, cRepr, isBox, oEqS, rMethK, byOrd, hM, walkerM, spot_cons]
  exact iteN (isNon_spot r) h
theorem ok_Walker_undo {f c pp : Addr} {fd : FuncData} (F : Fun K "undo" "Walker.undo" s_Walker_undo f fd) (hc : mg "Walker" = some (.ref c)) (cl : Cls K c) (me : Meth K c "undo" f) (B : Blt mg) (f_spot : FldG K mg "Walker" "spot") (f_ahead : FldG K mg "Spot" "ahead") : MtG P w K mg base "Walker" "undo" 1 1 sp_Walker_undo :=
  ⟨c, f, fd, _, hc, cl, me, okf_Walker_undo F B f_spot f_ahead, F.binds (fun _ _ _ _ _ _ us hl => match us, hl with | [_], _ => rfl)⟩
end
end DL

set_option autoImplicit true
set_option Elab.async false
set_option linter.all false
set_option maxRecDepth 100000
set_option maxHeartbeats 400000
namespace DL
open PySem PySem.Spec L2
section
variable {P : Program} {w : World} {K : PySem.W.Frag} {mg : Str → Option Value} {base : Heap}
abbrev s__law_dip : Stmt := topS 45
theorem sc__law_dip : FnScope ["well", "sides", "by", "digit"] ["well", "sides"] (defScope s__law_dip) := ⟨rfl, rfl, rfl, by decide +kernel, rfl, by decide +kernel, by decide +kernel⟩
def sp__law_dip : DSp := fun ds M q => ∃ (a : Addr) (mo : MO) (n : Nat) (s : Int), ds = [.ref a, .int s] ∧ M a = some mo ∧ W n mo ∧ n ≤ 1000000 ∧ 0 < s ∧ s ≤ 1000000 ∧ ∀ (i : Int) (mo' : MO), 0 ≤ i → i < s → W (n + 1) mo' → q (.int i) (mput M a mo')
theorem ok__law_dip {f c pp : Addr} {fd : FuncData} (F : Fun K "_law_dip" "_law_dip" s__law_dip f fd) (hm : mg "_law_dip" = some (.ref f)) (B : Blt mg) : FnG P w K mg base "_law_dip" 1 2 sp__law_dip := by
  refine fng_mk F hm sc__law_dip (fun _ _ _ _ _ _ us hl => match us, hl with | [_, _], _ => rfl) rfl (fun cdv A outer s H E hr => ?_)
  refine ⟨_, (ss_cons (s_asg (d_add (d_ix (dv 0) d_int) d_int) (g_ix (vs := [])  (dv 0) d_int))
    (ss_cons (s_if (t_cm c_gt (d_ix (dv 0) d_int) d_int) (ss_cons (s_asg (d_callB b_divmod rfl (B "divmod" (by decide +kernel)) (by decide +kernel) (a_cons (d_ix (dv 0) d_int) (a_cons (dv 1) a_nil))) (g_tup rfl (gs_cons (g_ix (vs := [3])  (dv 0) d_int) (gs_cons (g_name (vs := [3]) 3 sc__law_dip.nd) gs_nil))))
    (ss_one (s_ret (dv 3)))) ss_nil)
    (ss_cons (s_set 2 sc__law_dip.nd (d_add d_int (d_mul d_int (d_ix (dv 0) d_int))))
    (ss_cons (s_asg (d_mod (d_callT b_int rfl (B "int" (by decide +kernel)) (by decide +kernel) (a_cons (d_add (d_add (d_mul (d_ix (dv 0) d_int) (dv 2)) (d_mul d_int (d_ix (dv 0) d_int))) d_int) a_nil)) d_int) (g_ix (vs := [])  (dv 0) d_int))
    (ss_one (s_ret (d_mod (d_callT b_int rfl (B "int" (by decide +kernel)) (by decide +kernel) (a_cons (d_div (d_ix (dv 0) d_int) d_int) a_nil)) (dv 1)))))))), fun ds M q hl h => ?_⟩
  obtain ⟨a, mo, n, s, rfl, hM, ⟨w0, w1, w2, rfl, h0, h1, h1', h2, h2'⟩, hn, hs, hs', h⟩ := h
  simp only [rRet, rRetN, rSeq, rNext, rIfS, rAsg, rDrop, rOwn, rPar, rApp, rNever, rBrk, rCont, dEnds, rV, rC, r2, r1, rTup, rLst, rLstM, rCons, rNil, rStar, rA, rB, rT, rNot, rAnd, rOr, rIf, rIfT, rAndV, rOrV, rNotV, rChain, rIxO, rIsi, rSlice, rPart, rNoP, rCall, rMeth, rProp, rFld, rSetF, rNewF, rMkP, rMkM, gV, gN0, gCs, gT, gIx, gIxO, oAdd, oSub, oMulI, oDiv, oMod, oPow, oInt, oCmp, oNeg, oIx, oIsN, oNotN, isNon, cLen, cAbs, cInt1, cInt2, cIntI, cStrI, cMax, cMin, cDivmod, cTuple, cList, kO, kN, kB, kI, startE, List.map_cons, List.map_nil, List.length_cons, List.length_nil, Nat.reduceAdd, Nat.reduceSub, Nat.reduceLeDiff, Nat.reduceLT, Nat.zero_lt_succ, List.replicate_succ, List.replicate_zero, List.cons_append, List.nil_append, List.append_nil, List.getElem?_cons_zero, List.getElem?_cons_succ, List.set_cons_zero, List.set_cons_succ, atI_0, atI_1, atI_2, atI_3, atI_4, atI_5, ixN_lit, true_and, and_true, and_self, Bool.false_eq_true, if_true, if_false, reduceIte, reduceCtorEq, mput_same, mput_mput, PySem.sizeLine_eq, truD, TruOk, oEqD, oNeD, deq_int, deq_str, deq_bl, deq_tup, deq_lst, deqs_nil, deqs_cons, deqs_nc, deqs_cn, okD, rYes, iSeq, iTupD, iStrD, iEnumD, iZipD, kL, seqD, rCompE, rCompS, rComp, hideE, rFor, rTup, rKix, rSlo, rLenC, rIsC, kBo, rParO, rPar3, rAug, rJoin, kS, cAll, cAny, kB, oSame, rMkL, Bool.and_true, Bool.true_and, Bool.not_true, Bool.not_false, List.set_nil, Int.cast_ofNat_Int, Int.natCast_zero, Int.natCast_one, bls, Option.map_some, List.all_cons, List.all_nil, id_eq, beq_self_eq_true, Int.reduceBEq, Int.reduceLT, Int.reduceLE, Int.reduceAdd, Int.reduceSub, Int.reduceNeg, decide_true, decide_false, Bool.false_and, Bool.and_false, iRange1, iRange2, rBoolC, cReprB, cRepr, isBox, oEqS, rMethK, byOrd, hM, kN, ixN_30, ixN_31, ixN_32]
  have r1 := fun x => fmod_rng x hs
  by_cases hp : 0 < w0
  · simp only [rRet, rRetN, rSeq, rNext, rIfS, rAsg, rDrop, rOwn, rPar, rApp, rNever, rBrk, rCont, dEnds, rV, rC, r2, r1, rTup, rLst, rLstM, rCons, rNil, rStar, rA, rB, rT, rNot, rAnd, rOr, rIf, rIfT, rAndV, rOrV, rNotV, rChain, rIxO, rIsi, rSlice, rPart, rNoP, rCall, rMeth, rProp, rFld, rSetF, rNewF, rMkP, rMkM, gV, gN0, gCs, gT, gIx, gIxO, oAdd, oSub, oMulI, oDiv, oMod, oPow, oInt, oCmp, oNeg, oIx, oIsN, oNotN, isNon, cLen, cAbs, cInt1, cInt2, cIntI, cStrI, cMax, cMin, cDivmod, cTuple, cList, kO, kN, kB, kI, startE, List.map_cons, List.map_nil, List.length_cons, List.length_nil, Nat.reduceAdd, Nat.reduceSub, Nat.reduceLeDiff, Nat.reduceLT, Nat.zero_lt_succ, List.replicate_succ, List.replicate_zero, List.cons_append, List.nil_append, List.append_nil, List.getElem?_cons_zero, List.getElem?_cons_succ, List.set_cons_zero, List.set_cons_succ, atI_0, atI_1, atI_2, atI_3, atI_4, atI_5, ixN_lit, true_and, and_true, and_self, Bool.false_eq_true, if_true, if_false, reduceIte, reduceCtorEq, mput_same, mput_mput, PySem.sizeLine_eq, truD, TruOk, oEqD, oNeD, deq_int, deq_str, deq_bl, deq_tup, deq_lst, deqs_nil, deqs_cons, deqs_nc, deqs_cn, okD, rYes, iSeq, iTupD, iStrD, iEnumD, iZipD, kL, seqD, rCompE, rCompS, rComp, hideE, rFor, rTup, rKix, rSlo, rLenC, rIsC, kBo, rParO, rPar3, rAug, rJoin, kS, cAll, cAny, kB, oSame, rMkL, Bool.and_true, Bool.true_and, Bool.not_true, Bool.not_false, List.set_nil, Int.cast_ofNat_Int, Int.natCast_zero, Int.natCast_one, bls, Option.map_some, List.all_cons, List.all_nil, id_eq, beq_self_eq_true, Int.reduceBEq, Int.reduceLT, Int.reduceLE, Int.reduceAdd, Int.reduceSub, Int.reduceNeg, decide_true, decide_false, Bool.false_and, Bool.and_false, iRange1, iRange2, rBoolC, cReprB, cRepr, isBox, oEqS, rMethK, byOrd, hp]
    refine ⟨⟨hs, by omega⟩, rfl, ?_⟩
    exact h _ _ (Int.emod_nonneg _ (by omega)) (Int.emod_lt_of_pos _ hs) ⟨_, _, _, rfl, Int.ediv_nonneg h0 (by omega), h1, h1', by omega, by omega⟩
  · simp only [rRet, rRetN, rSeq, rNext, rIfS, rAsg, rDrop, rOwn, rPar, rApp, rNever, rBrk, rCont, dEnds, rV, rC, r2, r1, rTup, rLst, rLstM, rCons, rNil, rStar, rA, rB, rT, rNot, rAnd, rOr, rIf, rIfT, rAndV, rOrV, rNotV, rChain, rIxO, rIsi, rSlice, rPart, rNoP, rCall, rMeth, rProp, rFld, rSetF, rNewF, rMkP, rMkM, gV, gN0, gCs, gT, gIx, gIxO, oAdd, oSub, oMulI, oDiv, oMod, oPow, oInt, oCmp, oNeg, oIx, oIsN, oNotN, isNon, cLen, cAbs, cInt1, cInt2, cIntI, cStrI, cMax, cMin, cDivmod, cTuple, cList, kO, kN, kB, kI, startE, List.map_cons, List.map_nil, List.length_cons, List.length_nil, Nat.reduceAdd, Nat.reduceSub, Nat.reduceLeDiff, Nat.reduceLT, Nat.zero_lt_succ, List.replicate_succ, List.replicate_zero, List.cons_append, List.nil_append, List.append_nil, List.getElem?_cons_zero, List.getElem?_cons_succ, List.set_cons_zero, List.set_cons_succ, atI_0, atI_1, atI_2, atI_3, atI_4, atI_5, ixN_lit, true_and, and_true, and_self, Bool.false_eq_true, if_true, if_false, reduceIte, reduceCtorEq, mput_same, mput_mput, PySem.sizeLine_eq, truD, TruOk, oEqD, oNeD, deq_int, deq_str, deq_bl, deq_tup, deq_lst, deqs_nil, deqs_cons, deqs_nc, deqs_cn, okD, rYes, iSeq, iTupD, iStrD, iEnumD, iZipD, kL, seqD, rCompE, rCompS, rComp, hideE, rFor, rTup, rKix, rSlo, rLenC, rIsC, kBo, rParO, rPar3, rAug, rJoin, kS, cAll, cAny, kB, oSame, rMkL, Bool.and_true, Bool.true_and, Bool.not_true, Bool.not_false, List.set_nil, Int.cast_ofNat_Int, Int.natCast_zero, Int.natCast_one, bls, Option.map_some, List.all_cons, List.all_nil, id_eq, beq_self_eq_true, Int.reduceBEq, Int.reduceLT, Int.reduceLE, Int.reduceAdd, Int.reduceSub, Int.reduceNeg, decide_true, decide_false, Bool.false_and, Bool.and_false, iRange1, iRange2, rBoolC, cReprB, cRepr, isBox, oEqS, rMethK, byOrd, hp]
    have r2 := fun x => fmod_rng x (show (0 : Int) < 2147483399 by decide)
    have m := dip_ok h1 h1' (show 0 ≤ w2 + 1 by omega) (by omega)
    exact ⟨m.1, m.2.1, m.2.2, by decide, ⟨by decide, by decide +kernel⟩, by omega, h _ _ (r1 _).1 (r1 _).2 ⟨_, _, _, rfl, h0, (r2 _).1, (r2 _).2, by omega, by omega⟩⟩
def itemsD : D → Option (List D)
  | .lst xs => some xs
  | .str z => some (signsD z)
  | _ => none
abbrev s__law_one_of : Stmt := topS 46
theorem sc__law_one_of : FnScope ["well", "some"] ["well", "some"] (defScope s__law_one_of) := ⟨rfl, rfl, rfl, by decide +kernel, rfl, by decide +kernel, by decide +kernel⟩
def sp__law_one_of : DSp := fun ds M q => ∃ (a : Addr) (mo : MO) (n : Nat) (d : D) (xs : List D), ds = [.ref a, d] ∧ M a = some mo ∧ W n mo ∧ n ≤ 1000000 ∧ itemsD d = some xs ∧ xs ≠ [] ∧ xs.length ≤ 1000 ∧ ∀ (x : D) (mo' : MO), x ∈ xs → W (n + 1) mo' → q x (mput M a mo')
theorem ok__law_one_of {f c pp : Addr} {fd : FuncData} (F : Fun K "_law_one_of" "_law_one_of" s__law_one_of f fd) (hm : mg "_law_one_of" = some (.ref f)) (B : Blt mg) (g__law_dip : FnG P w K mg base "_law_dip" 1 2 sp__law_dip) : FnG P w K mg base "_law_one_of" 2 2 sp__law_one_of := by
  refine fng_mk F hm sc__law_one_of (fun _ _ _ _ _ _ us hl => match us, hl with | [_, _], _ => rfl) rfl (fun cdv A outer s H E hr => ?_)
  refine ⟨_, (ss_one (s_ret (d_ix (dv 1) (d_call g__law_dip (hr.mono (by first | decide | omega)) rfl (a_cons (dv 0) (a_cons (d_callB b_len rfl (B "len" (by decide +kernel)) (by decide +kernel) (a_cons (dv 1) a_nil)) a_nil)))))), fun ds M q hl h => ?_⟩
  obtain ⟨a, mo, n, d, xs, rfl, hM, hW, hn, hi, hx, hl, h⟩ := h
  have hpos : 0 < xs.length := List.length_pos_iff.mpr hx
  match d, hi with
  | .lst ys, hi =>
    cases hi
    simp only [rRet, rRetN, rSeq, rNext, rIfS, rAsg, rDrop, rOwn, rPar, rApp, rNever, rBrk, rCont, dEnds, rV, rC, r2, r1, rTup, rLst, rLstM, rCons, rNil, rStar, rA, rB, rT, rNot, rAnd, rOr, rIf, rIfT, rAndV, rOrV, rNotV, rChain, rIxO, rIsi, rSlice, rPart, rNoP, rCall, rMeth, rProp, rFld, rSetF, rNewF, rMkP, rMkM, gV, gN0, gCs, gT, gIx, gIxO, oAdd, oSub, oMulI, oDiv, oMod, oPow, oInt, oCmp, oNeg, oIx, oIsN, oNotN, isNon, cLen, cAbs, cInt1, cInt2, cIntI, cStrI, cMax, cMin, cDivmod, cTuple, cList, kO, kN, kB, kI, startE, List.map_cons, List.map_nil, List.length_cons, List.length_nil, Nat.reduceAdd, Nat.reduceSub, Nat.reduceLeDiff, Nat.reduceLT, Nat.zero_lt_succ, List.replicate_succ, List.replicate_zero, List.cons_append, List.nil_append, List.append_nil, List.getElem?_cons_zero, List.getElem?_cons_succ, List.set_cons_zero, List.set_cons_succ, atI_0, atI_1, atI_2, atI_3, atI_4, atI_5, ixN_lit, true_and, and_true, and_self, Bool.false_eq_true, if_true, if_false, reduceIte, reduceCtorEq, mput_same, mput_mput, PySem.sizeLine_eq, truD, TruOk, oEqD, oNeD, deq_int, deq_str, deq_bl, deq_tup, deq_lst, deqs_nil, deqs_cons, deqs_nc, deqs_cn, okD, rYes, iSeq, iTupD, iStrD, iEnumD, iZipD, kL, seqD, rCompE, rCompS, rComp, hideE, rFor, rTup, rKix, rSlo, rLenC, rIsC, kBo, rParO, rPar3, rAug, rJoin, kS, cAll, cAny, kB, oSame, rMkL, Bool.and_true, Bool.true_and, Bool.not_true, Bool.not_false, List.set_nil, Int.cast_ofNat_Int, Int.natCast_zero, Int.natCast_one, bls, Option.map_some, List.all_cons, List.all_nil, id_eq, beq_self_eq_true, Int.reduceBEq, Int.reduceLT, Int.reduceLE, Int.reduceAdd, Int.reduceSub, Int.reduceNeg, decide_true, decide_false, Bool.false_and, Bool.and_false, iRange1, iRange2, rBoolC, cReprB, cRepr, isBox, oEqS, rMethK, byOrd]
    refine ⟨a, mo, n, _, rfl, hM, hW, hn, by omega, by omega, fun i mo' h0 h1 hW' => ?_⟩
    obtain ⟨x, e, hm⟩ := atI_in h0 h1
    simp only [rRet, rRetN, rSeq, rNext, rIfS, rAsg, rDrop, rOwn, rPar, rApp, rNever, rBrk, rCont, dEnds, rV, rC, r2, r1, rTup, rLst, rLstM, rCons, rNil, rStar, rA, rB, rT, rNot, rAnd, rOr, rIf, rIfT, rAndV, rOrV, rNotV, rChain, rIxO, rIsi, rSlice, rPart, rNoP, rCall, rMeth, rProp, rFld, rSetF, rNewF, rMkP, rMkM, gV, gN0, gCs, gT, gIx, gIxO, oAdd, oSub, oMulI, oDiv, oMod, oPow, oInt, oCmp, oNeg, oIx, oIsN, oNotN, isNon, cLen, cAbs, cInt1, cInt2, cIntI, cStrI, cMax, cMin, cDivmod, cTuple, cList, kO, kN, kB, kI, startE, List.map_cons, List.map_nil, List.length_cons, List.length_nil, Nat.reduceAdd, Nat.reduceSub, Nat.reduceLeDiff, Nat.reduceLT, Nat.zero_lt_succ, List.replicate_succ, List.replicate_zero, List.cons_append, List.nil_append, List.append_nil, List.getElem?_cons_zero, List.getElem?_cons_succ, List.set_cons_zero, List.set_cons_succ, atI_0, atI_1, atI_2, atI_3, atI_4, atI_5, ixN_lit, true_and, and_true, and_self, Bool.false_eq_true, if_true, if_false, reduceIte, reduceCtorEq, mput_same, mput_mput, PySem.sizeLine_eq, truD, TruOk, oEqD, oNeD, deq_int, deq_str, deq_bl, deq_tup, deq_lst, deqs_nil, deqs_cons, deqs_nc, deqs_cn, okD, rYes, iSeq, iTupD, iStrD, iEnumD, iZipD, kL, seqD, rCompE, rCompS, rComp, hideE, rFor, rTup, rKix, rSlo, rLenC, rIsC, kBo, rParO, rPar3, rAug, rJoin, kS, cAll, cAny, kB, oSame, rMkL, Bool.and_true, Bool.true_and, Bool.not_true, Bool.not_false, List.set_nil, Int.cast_ofNat_Int, Int.natCast_zero, Int.natCast_one, bls, Option.map_some, List.all_cons, List.all_nil, id_eq, beq_self_eq_true, Int.reduceBEq, Int.reduceLT, Int.reduceLE, Int.reduceAdd, Int.reduceSub, Int.reduceNeg, decide_true, decide_false, Bool.false_and, Bool.and_false, iRange1, iRange2, rBoolC, cReprB, cRepr, isBox, oEqS, rMethK, byOrd, e]
    exact h x mo' hm hW'
  | .str z, hi =>
    cases hi
    have hz : z.length = (signsD z).length := by simp [signsD, Str.length]
    simp only [rRet, rRetN, rSeq, rNext, rIfS, rAsg, rDrop, rOwn, rPar, rApp, rNever, rBrk, rCont, dEnds, rV, rC, r2, r1, rTup, rLst, rLstM, rCons, rNil, rStar, rA, rB, rT, rNot, rAnd, rOr, rIf, rIfT, rAndV, rOrV, rNotV, rChain, rIxO, rIsi, rSlice, rPart, rNoP, rCall, rMeth, rProp, rFld, rSetF, rNewF, rMkP, rMkM, gV, gN0, gCs, gT, gIx, gIxO, oAdd, oSub, oMulI, oDiv, oMod, oPow, oInt, oCmp, oNeg, oIx, oIsN, oNotN, isNon, cLen, cAbs, cInt1, cInt2, cIntI, cStrI, cMax, cMin, cDivmod, cTuple, cList, kO, kN, kB, kI, startE, List.map_cons, List.map_nil, List.length_cons, List.length_nil, Nat.reduceAdd, Nat.reduceSub, Nat.reduceLeDiff, Nat.reduceLT, Nat.zero_lt_succ, List.replicate_succ, List.replicate_zero, List.cons_append, List.nil_append, List.append_nil, List.getElem?_cons_zero, List.getElem?_cons_succ, List.set_cons_zero, List.set_cons_succ, atI_0, atI_1, atI_2, atI_3, atI_4, atI_5, ixN_lit, true_and, and_true, and_self, Bool.false_eq_true, if_true, if_false, reduceIte, reduceCtorEq, mput_same, mput_mput, PySem.sizeLine_eq, truD, TruOk, oEqD, oNeD, deq_int, deq_str, deq_bl, deq_tup, deq_lst, deqs_nil, deqs_cons, deqs_nc, deqs_cn, okD, rYes, iSeq, iTupD, iStrD, iEnumD, iZipD, kL, seqD, rCompE, rCompS, rComp, hideE, rFor, rTup, rKix, rSlo, rLenC, rIsC, kBo, rParO, rPar3, rAug, rJoin, kS, cAll, cAny, kB, oSame, rMkL, Bool.and_true, Bool.true_and, Bool.not_true, Bool.not_false, List.set_nil, Int.cast_ofNat_Int, Int.natCast_zero, Int.natCast_one, bls, Option.map_some, List.all_cons, List.all_nil, id_eq, beq_self_eq_true, Int.reduceBEq, Int.reduceLT, Int.reduceLE, Int.reduceAdd, Int.reduceSub, Int.reduceNeg, decide_true, decide_false, Bool.false_and, Bool.and_false, iRange1, iRange2, rBoolC, cReprB, cRepr, isBox, oEqS, rMethK, byOrd]
    refine ⟨by omega, a, mo, n, _, rfl, hM, hW, hn, by omega, by omega, fun i mo' h0 h1 hW' => ?_⟩
    obtain ⟨j, rfl⟩ := Int.eq_ofNat_of_zero_le h0
    have hj : j < z.cps.toList.length := by simp [signsD] at hz; simp; omega
    simp only [rRet, rRetN, rSeq, rNext, rIfS, rAsg, rDrop, rOwn, rPar, rApp, rNever, rBrk, rCont, dEnds, rV, rC, r2, r1, rTup, rLst, rLstM, rCons, rNil, rStar, rA, rB, rT, rNot, rAnd, rOr, rIf, rIfT, rAndV, rOrV, rNotV, rChain, rIxO, rIsi, rSlice, rPart, rNoP, rCall, rMeth, rProp, rFld, rSetF, rNewF, rMkP, rMkM, gV, gN0, gCs, gT, gIx, gIxO, oAdd, oSub, oMulI, oDiv, oMod, oPow, oInt, oCmp, oNeg, oIx, oIsN, oNotN, isNon, cLen, cAbs, cInt1, cInt2, cIntI, cStrI, cMax, cMin, cDivmod, cTuple, cList, kO, kN, kB, kI, startE, List.map_cons, List.map_nil, List.length_cons, List.length_nil, Nat.reduceAdd, Nat.reduceSub, Nat.reduceLeDiff, Nat.reduceLT, Nat.zero_lt_succ, List.replicate_succ, List.replicate_zero, List.cons_append, List.nil_append, List.append_nil, List.getElem?_cons_zero, List.getElem?_cons_succ, List.set_cons_zero, List.set_cons_succ, atI_0, atI_1, atI_2, atI_3, atI_4, atI_5, ixN_lit, true_and, and_true, and_self, Bool.false_eq_true, if_true, if_false, reduceIte, reduceCtorEq, mput_same, mput_mput, PySem.sizeLine_eq, truD, TruOk, oEqD, oNeD, deq_int, deq_str, deq_bl, deq_tup, deq_lst, deqs_nil, deqs_cons, deqs_nc, deqs_cn, okD, rYes, iSeq, iTupD, iStrD, iEnumD, iZipD, kL, seqD, rCompE, rCompS, rComp, hideE, rFor, rTup, rKix, rSlo, rLenC, rIsC, kBo, rParO, rPar3, rAug, rJoin, kS, cAll, cAny, kB, oSame, rMkL, Bool.and_true, Bool.true_and, Bool.not_true, Bool.not_false, List.set_nil, Int.cast_ofNat_Int, Int.natCast_zero, Int.natCast_one, bls, Option.map_some, List.all_cons, List.all_nil, id_eq, beq_self_eq_true, Int.reduceBEq, Int.reduceLT, Int.reduceLE, Int.reduceAdd, Int.reduceSub, Int.reduceNeg, decide_true, decide_false, Bool.false_and, Bool.and_false, iRange1, iRange2, rBoolC, cReprB, cRepr, isBox, oEqS, rMethK, byOrd, atI_nat (j := j) (List.getElem?_eq_getElem hj)]
    exact ⟨by omega, h _ mo' (by simp only [signsD, List.mem_map]; exact ⟨_, List.getElem_mem hj, rfl⟩) hW'⟩
abbrev s__law_number : Stmt := topS 47
theorem sc__law_number : FnScope ["well", "way", "found", "turn"] ["well"] (defScope s__law_number) := ⟨rfl, rfl, rfl, by decide +kernel, rfl, by decide +kernel, by decide +kernel⟩
def sp__law_number : DSp := fun ds M q => ∃ (a : Addr) (mo : MO) (n : Nat), ds = [.ref a] ∧ M a = some mo ∧ W n mo ∧ n ≤ 900000 ∧ ∀ (x : Int) (mo' : MO), x.natAbs ≤ 10 ^ 30 → W (n + 7) mo' → q (.int x) (mput M a mo')
theorem ok__law_number {f c pp : Addr} {fd : FuncData} (F : Fun K "_law_number" "_law_number" s__law_number f fd) (hm : mg "_law_number" = some (.ref f)) (B : Blt mg) (g__law_dip : FnG P w K mg base "_law_dip" 1 2 sp__law_dip) : FnG P w K mg base "_law_number" 2 1 sp__law_number := by
  refine fng_mk F hm sc__law_number (fun _ _ _ _ _ _ us hl => match us, hl with | [_], _ => rfl) rfl (fun cdv A outer s H E hr => ?_)
  refine ⟨_, (ss_cons (s_set 1 sc__law_number.nd (d_call g__law_dip (hr.mono (by first | decide | omega)) rfl (a_cons (dv 0) (a_cons d_int a_nil))))
    (ss_cons (s_set 2 sc__law_number.nd (d_call g__law_dip (hr.mono (by first | decide | omega)) rfl (a_cons (dv 0) (a_cons (d_ix (d_lst (a_cons d_int (a_cons d_int (a_cons d_int (a_cons (d_pow d_int d_int) (a_cons (d_pow d_int d_int) (a_cons (d_pow d_int d_int) a_nil))))))) (dv 1)) a_nil))))
    (ss_cons (s_for PassesOwn.never rfl (i_range1 rfl (B "range" (by decide +kernel)) (a_cons (d_ix (d_lst (a_cons d_int (a_cons d_int (a_cons d_int (a_cons d_int (a_cons d_int (a_cons d_int a_nil))))))) (dv 1)) a_nil)) (g_name (vs := [3]) 3 sc__law_number.nd) (ss_one (s_set 2 sc__law_number.nd (d_add (d_mul (dv 2) (d_pow d_int d_int)) (d_call g__law_dip (hr.mono (by first | decide | omega)) rfl (a_cons (dv 0) (a_cons (d_pow d_int d_int) a_nil)))))))
    (ss_one (s_ret (d_if (t_cm (c_eq hr.units) (d_call g__law_dip (hr.mono (by first | decide | omega)) rfl (a_cons (dv 0) (a_cons d_int a_nil))) d_int) (dv 2) (d_sub d_int (dv 2)))))))), fun ds M q hl h => ?_⟩
  obtain ⟨a, mo, n, rfl, hM, hW, hn, h⟩ := h
  simp only [rRet, rRetN, rSeq, rNext, rIfS, rAsg, rDrop, rOwn, rPar, rApp, rNever, rBrk, rCont, dEnds, rV, rC, r2, r1, rTup, rLst, rLstM, rCons, rNil, rStar, rA, rB, rT, rNot, rAnd, rOr, rIf, rIfT, rAndV, rOrV, rNotV, rChain, rIxO, rIsi, rSlice, rPart, rNoP, rCall, rMeth, rProp, rFld, rSetF, rNewF, rMkP, rMkM, gV, gN0, gCs, gT, gIx, gIxO, oAdd, oSub, oMulI, oDiv, oMod, oPow, oInt, oCmp, oNeg, oIx, oIsN, oNotN, isNon, cLen, cAbs, cInt1, cInt2, cIntI, cStrI, cMax, cMin, cDivmod, cTuple, cList, kO, kN, kB, kI, startE, List.map_cons, List.map_nil, List.length_cons, List.length_nil, Nat.reduceAdd, Nat.reduceSub, Nat.reduceLeDiff, Nat.reduceLT, Nat.zero_lt_succ, List.replicate_succ, List.replicate_zero, List.cons_append, List.nil_append, List.append_nil, List.getElem?_cons_zero, List.getElem?_cons_succ, List.set_cons_zero, List.set_cons_succ, atI_0, atI_1, atI_2, atI_3, atI_4, atI_5, ixN_lit, true_and, and_true, and_self, Bool.false_eq_true, if_true, if_false, reduceIte, reduceCtorEq, mput_same, mput_mput, PySem.sizeLine_eq, truD, TruOk, oEqD, oNeD, deq_int, deq_str, deq_bl, deq_tup, deq_lst, deqs_nil, deqs_cons, deqs_nc, deqs_cn, okD, rYes, iSeq, iTupD, iStrD, iEnumD, iZipD, kL, seqD, rCompE, rCompS, rComp, hideE, rFor, rTup, rKix, rSlo, rLenC, rIsC, kBo, rParO, rPar3, rAug, rJoin, kS, cAll, cAny, kB, oSame, rMkL, Bool.and_true, Bool.true_and, Bool.not_true, Bool.not_false, List.set_nil, Int.cast_ofNat_Int, Int.natCast_zero, Int.natCast_one, bls, Option.map_some, List.all_cons, List.all_nil, id_eq, beq_self_eq_true, Int.reduceBEq, Int.reduceLT, Int.reduceLE, Int.reduceAdd, Int.reduceSub, Int.reduceNeg, decide_true, decide_false, Bool.false_and, Bool.and_false, iRange1, iRange2, rBoolC, cReprB, cRepr, isBox, oEqS, rMethK, byOrd]
  refine ⟨a, mo, n, 6, rfl, hM, hW, by omega, by decide, by decide, fun way mo1 h0 h1 hW1 => ?_⟩
  have key : ∃ s c : Int, atI [D.int 4, D.int 12, D.int 1000, D.int (10 ^ Int.toNat 6), D.int (10 ^ Int.toNat 6), D.int (10 ^ Int.toNat 6)] way = some (.int s) ∧ atI [D.int 0, D.int 0, D.int 0, D.int 0, D.int 2, D.int 4] way = some (.int c) ∧ 0 < s ∧ s ≤ 1000000 ∧ 0 ≤ c ∧ c ≤ 4 := by
    rcases below6 h0 h1 with rfl | rfl | rfl | rfl | rfl | rfl
    · exact ⟨_, _, atI_0 .., atI_0 .., by decide, by decide, by decide, by decide⟩
    · exact ⟨_, _, atI_1 .., atI_1 .., by decide, by decide, by decide, by decide⟩
    · exact ⟨_, _, atI_2 .., atI_2 .., by decide, by decide, by decide, by decide⟩
    · exact ⟨_, _, atI_3 .., atI_3 .., by decide, by decide, by decide, by decide⟩
    · exact ⟨_, _, atI_4 .., atI_4 .., by decide, by decide, by decide, by decide⟩
    · exact ⟨_, _, atI_5 .., atI_5 .., by decide, by decide, by decide, by decide⟩
  obtain ⟨s1, c1, e1, e2, hs, hs', hc, hc'⟩ := key
  have hc1 : CPow 10 6 := ⟨by decide, by decide, by decide⟩
  have hp6 : (10 : Int) ^ Int.toNat 6 = 1000000 := by decide
  simp only [rRet, rRetN, rSeq, rNext, rIfS, rAsg, rDrop, rOwn, rPar, rApp, rNever, rBrk, rCont, dEnds, rV, rC, r2, r1, rTup, rLst, rLstM, rCons, rNil, rStar, rA, rB, rT, rNot, rAnd, rOr, rIf, rIfT, rAndV, rOrV, rNotV, rChain, rIxO, rIsi, rSlice, rPart, rNoP, rCall, rMeth, rProp, rFld, rSetF, rNewF, rMkP, rMkM, gV, gN0, gCs, gT, gIx, gIxO, oAdd, oSub, oMulI, oDiv, oMod, oPow, oInt, oCmp, oNeg, oIx, oIsN, oNotN, isNon, cLen, cAbs, cInt1, cInt2, cIntI, cStrI, cMax, cMin, cDivmod, cTuple, cList, kO, kN, kB, kI, startE, List.map_cons, List.map_nil, List.length_cons, List.length_nil, Nat.reduceAdd, Nat.reduceSub, Nat.reduceLeDiff, Nat.reduceLT, Nat.zero_lt_succ, List.replicate_succ, List.replicate_zero, List.cons_append, List.nil_append, List.append_nil, List.getElem?_cons_zero, List.getElem?_cons_succ, List.set_cons_zero, List.set_cons_succ, atI_0, atI_1, atI_2, atI_3, atI_4, atI_5, ixN_lit, true_and, and_true, and_self, Bool.false_eq_true, if_true, if_false, reduceIte, reduceCtorEq, mput_same, mput_mput, PySem.sizeLine_eq, truD, TruOk, oEqD, oNeD, deq_int, deq_str, deq_bl, deq_tup, deq_lst, deqs_nil, deqs_cons, deqs_nc, deqs_cn, okD, rYes, iSeq, iTupD, iStrD, iEnumD, iZipD, kL, seqD, rCompE, rCompS, rComp, hideE, rFor, rTup, rKix, rSlo, rLenC, rIsC, kBo, rParO, rPar3, rAug, rJoin, kS, cAll, cAny, kB, oSame, rMkL, Bool.and_true, Bool.true_and, Bool.not_true, Bool.not_false, List.set_nil, Int.cast_ofNat_Int, Int.natCast_zero, Int.natCast_one, bls, Option.map_some, List.all_cons, List.all_nil, id_eq, beq_self_eq_true, Int.reduceBEq, Int.reduceLT, Int.reduceLE, Int.reduceAdd, Int.reduceSub, Int.reduceNeg, decide_true, decide_false, Bool.false_and, Bool.and_false, iRange1, iRange2, rBoolC, cReprB, cRepr, isBox, oEqS, rMethK, byOrd, e1]
  refine ⟨hc1, hc1, hc1, a, mo1, n + 1, s1, rfl, mput_same, hW1, by omega, hs, hs', fun f0 mo2 g0 g1 hW2 => ?_⟩
  simp only [rRet, rRetN, rSeq, rNext, rIfS, rAsg, rDrop, rOwn, rPar, rApp, rNever, rBrk, rCont, dEnds, rV, rC, r2, r1, rTup, rLst, rLstM, rCons, rNil, rStar, rA, rB, rT, rNot, rAnd, rOr, rIf, rIfT, rAndV, rOrV, rNotV, rChain, rIxO, rIsi, rSlice, rPart, rNoP, rCall, rMeth, rProp, rFld, rSetF, rNewF, rMkP, rMkM, gV, gN0, gCs, gT, gIx, gIxO, oAdd, oSub, oMulI, oDiv, oMod, oPow, oInt, oCmp, oNeg, oIx, oIsN, oNotN, isNon, cLen, cAbs, cInt1, cInt2, cIntI, cStrI, cMax, cMin, cDivmod, cTuple, cList, kO, kN, kB, kI, startE, List.map_cons, List.map_nil, List.length_cons, List.length_nil, Nat.reduceAdd, Nat.reduceSub, Nat.reduceLeDiff, Nat.reduceLT, Nat.zero_lt_succ, List.replicate_succ, List.replicate_zero, List.cons_append, List.nil_append, List.append_nil, List.getElem?_cons_zero, List.getElem?_cons_succ, List.set_cons_zero, List.set_cons_succ, atI_0, atI_1, atI_2, atI_3, atI_4, atI_5, ixN_lit, true_and, and_true, and_self, Bool.false_eq_true, if_true, if_false, reduceIte, reduceCtorEq, mput_same, mput_mput, PySem.sizeLine_eq, truD, TruOk, oEqD, oNeD, deq_int, deq_str, deq_bl, deq_tup, deq_lst, deqs_nil, deqs_cons, deqs_nc, deqs_cn, okD, rYes, iSeq, iTupD, iStrD, iEnumD, iZipD, kL, seqD, rCompE, rCompS, rComp, hideE, rFor, rTup, rKix, rSlo, rLenC, rIsC, kBo, rParO, rPar3, rAug, rJoin, kS, cAll, cAny, kB, oSame, rMkL, Bool.and_true, Bool.true_and, Bool.not_true, Bool.not_false, List.set_nil, Int.cast_ofNat_Int, Int.natCast_zero, Int.natCast_one, bls, Option.map_some, List.all_cons, List.all_nil, id_eq, beq_self_eq_true, Int.reduceBEq, Int.reduceLT, Int.reduceLE, Int.reduceAdd, Int.reduceSub, Int.reduceNeg, decide_true, decide_false, Bool.false_and, Bool.and_false, iRange1, iRange2, rBoolC, cReprB, cRepr, isBox, oEqS, rMethK, byOrd, e2]
  refine ⟨⟨by omega, by omega⟩, ?_⟩
  refine for_ind (fun items st => ∃ (k : Nat) (x : Int) (mo3 : MO) (y : Sl), items.length + k ≤ 4 ∧ 0 ≤ x ∧ x < 10 ^ (6 * (k + 1)) ∧ W (n + 2 + k) mo3 ∧ st = ⟨[.val (.ref a), .val (.int way), .val (.int x), y], mput M a mo3⟩) ⟨0, f0, mo2, .no, by rw [range_len]; omega, g0, by omega, hW2, rfl⟩ ?_ ?_
  · rintro st ⟨k, x, mo3, y, k1, k2, k3, hW3, rfl⟩
    have hk : (10 : Int) ^ (6 * (k + 1)) ≤ 10 ^ 30 := p10 (by simp at k1; omega)
    simp only [rRet, rRetN, rSeq, rNext, rIfS, rAsg, rDrop, rOwn, rPar, rApp, rNever, rBrk, rCont, dEnds, rV, rC, r2, r1, rTup, rLst, rLstM, rCons, rNil, rStar, rA, rB, rT, rNot, rAnd, rOr, rIf, rIfT, rAndV, rOrV, rNotV, rChain, rIxO, rIsi, rSlice, rPart, rNoP, rCall, rMeth, rProp, rFld, rSetF, rNewF, rMkP, rMkM, gV, gN0, gCs, gT, gIx, gIxO, oAdd, oSub, oMulI, oDiv, oMod, oPow, oInt, oCmp, oNeg, oIx, oIsN, oNotN, isNon, cLen, cAbs, cInt1, cInt2, cIntI, cStrI, cMax, cMin, cDivmod, cTuple, cList, kO, kN, kB, kI, startE, List.map_cons, List.map_nil, List.length_cons, List.length_nil, Nat.reduceAdd, Nat.reduceSub, Nat.reduceLeDiff, Nat.reduceLT, Nat.zero_lt_succ, List.replicate_succ, List.replicate_zero, List.cons_append, List.nil_append, List.append_nil, List.getElem?_cons_zero, List.getElem?_cons_succ, List.set_cons_zero, List.set_cons_succ, atI_0, atI_1, atI_2, atI_3, atI_4, atI_5, ixN_lit, true_and, and_true, and_self, Bool.false_eq_true, if_true, if_false, reduceIte, reduceCtorEq, mput_same, mput_mput, PySem.sizeLine_eq, truD, TruOk, oEqD, oNeD, deq_int, deq_str, deq_bl, deq_tup, deq_lst, deqs_nil, deqs_cons, deqs_nc, deqs_cn, okD, rYes, iSeq, iTupD, iStrD, iEnumD, iZipD, kL, seqD, rCompE, rCompS, rComp, hideE, rFor, rTup, rKix, rSlo, rLenC, rIsC, kBo, rParO, rPar3, rAug, rJoin, kS, cAll, cAny, kB, oSame, rMkL, Bool.and_true, Bool.true_and, Bool.not_true, Bool.not_false, List.set_nil, Int.cast_ofNat_Int, Int.natCast_zero, Int.natCast_one, bls, Option.map_some, List.all_cons, List.all_nil, id_eq, beq_self_eq_true, Int.reduceBEq, Int.reduceLT, Int.reduceLE, Int.reduceAdd, Int.reduceSub, Int.reduceNeg, decide_true, decide_false, Bool.false_and, Bool.and_false, iRange1, iRange2, rBoolC, cReprB, cRepr, isBox, oEqS, rMethK, byOrd]
    refine ⟨a, mo3, n + 2 + k, 2, rfl, mput_same, hW3, by simp at k1; omega, by decide, by decide, fun i mo4 i0 i1 hW4 => ?_⟩
    have hx : x.natAbs ≤ 10 ^ 30 := by
      have e30 : (10 : Int) ^ 30 = ((10 ^ 30 : Nat) : Int) := by decide
      omega
    have hW5 : W (n + 7) mo4 := hW4.mono (by simp at k1; omega)
    simp only [rRet, rRetN, rSeq, rNext, rIfS, rAsg, rDrop, rOwn, rPar, rApp, rNever, rBrk, rCont, dEnds, rV, rC, r2, r1, rTup, rLst, rLstM, rCons, rNil, rStar, rA, rB, rT, rNot, rAnd, rOr, rIf, rIfT, rAndV, rOrV, rNotV, rChain, rIxO, rIsi, rSlice, rPart, rNoP, rCall, rMeth, rProp, rFld, rSetF, rNewF, rMkP, rMkM, gV, gN0, gCs, gT, gIx, gIxO, oAdd, oSub, oMulI, oDiv, oMod, oPow, oInt, oCmp, oNeg, oIx, oIsN, oNotN, isNon, cLen, cAbs, cInt1, cInt2, cIntI, cStrI, cMax, cMin, cDivmod, cTuple, cList, kO, kN, kB, kI, startE, List.map_cons, List.map_nil, List.length_cons, List.length_nil, Nat.reduceAdd, Nat.reduceSub, Nat.reduceLeDiff, Nat.reduceLT, Nat.zero_lt_succ, List.replicate_succ, List.replicate_zero, List.cons_append, List.nil_append, List.append_nil, List.getElem?_cons_zero, List.getElem?_cons_succ, List.set_cons_zero, List.set_cons_succ, atI_0, atI_1, atI_2, atI_3, atI_4, atI_5, ixN_lit, true_and, and_true, and_self, Bool.false_eq_true, if_true, if_false, reduceIte, reduceCtorEq, mput_same, mput_mput, PySem.sizeLine_eq, truD, TruOk, oEqD, oNeD, deq_int, deq_str, deq_bl, deq_tup, deq_lst, deqs_nil, deqs_cons, deqs_nc, deqs_cn, okD, rYes, iSeq, iTupD, iStrD, iEnumD, iZipD, kL, seqD, rCompE, rCompS, rComp, hideE, rFor, rTup, rKix, rSlo, rLenC, rIsC, kBo, rParO, rPar3, rAug, rJoin, kS, cAll, cAny, kB, oSame, rMkL, Bool.and_true, Bool.true_and, Bool.not_true, Bool.not_false, List.set_nil, Int.cast_ofNat_Int, Int.natCast_zero, Int.natCast_one, bls, Option.map_some, List.all_cons, List.all_nil, id_eq, beq_self_eq_true, Int.reduceBEq, Int.reduceLT, Int.reduceLE, Int.reduceAdd, Int.reduceSub, Int.reduceNeg, decide_true, decide_false, Bool.false_and, Bool.and_false, iRange1, iRange2, rBoolC, cReprB, cRepr, isBox, oEqS, rMethK, byOrd]
    by_cases hi : i = 0
    · simp only [rRet, rRetN, rSeq, rNext, rIfS, rAsg, rDrop, rOwn, rPar, rApp, rNever, rBrk, rCont, dEnds, rV, rC, r2, r1, rTup, rLst, rLstM, rCons, rNil, rStar, rA, rB, rT, rNot, rAnd, rOr, rIf, rIfT, rAndV, rOrV, rNotV, rChain, rIxO, rIsi, rSlice, rPart, rNoP, rCall, rMeth, rProp, rFld, rSetF, rNewF, rMkP, rMkM, gV, gN0, gCs, gT, gIx, gIxO, oAdd, oSub, oMulI, oDiv, oMod, oPow, oInt, oCmp, oNeg, oIx, oIsN, oNotN, isNon, cLen, cAbs, cInt1, cInt2, cIntI, cStrI, cMax, cMin, cDivmod, cTuple, cList, kO, kN, kB, kI, startE, List.map_cons, List.map_nil, List.length_cons, List.length_nil, Nat.reduceAdd, Nat.reduceSub, Nat.reduceLeDiff, Nat.reduceLT, Nat.zero_lt_succ, List.replicate_succ, List.replicate_zero, List.cons_append, List.nil_append, List.append_nil, List.getElem?_cons_zero, List.getElem?_cons_succ, List.set_cons_zero, List.set_cons_succ, atI_0, atI_1, atI_2, atI_3, atI_4, atI_5, ixN_lit, true_and, and_true, and_self, Bool.false_eq_true, if_true, if_false, reduceIte, reduceCtorEq, mput_same, mput_mput, PySem.sizeLine_eq, truD, TruOk, oEqD, oNeD, deq_int, deq_str, deq_bl, deq_tup, deq_lst, deqs_nil, deqs_cons, deqs_nc, deqs_cn, okD, rYes, iSeq, iTupD, iStrD, iEnumD, iZipD, kL, seqD, rCompE, rCompS, rComp, hideE, rFor, rTup, rKix, rSlo, rLenC, rIsC, kBo, rParO, rPar3, rAug, rJoin, kS, cAll, cAny, kB, oSame, rMkL, Bool.and_true, Bool.true_and, Bool.not_true, Bool.not_false, List.set_nil, Int.cast_ofNat_Int, Int.natCast_zero, Int.natCast_one, bls, Option.map_some, List.all_cons, List.all_nil, id_eq, beq_self_eq_true, Int.reduceBEq, Int.reduceLT, Int.reduceLE, Int.reduceAdd, Int.reduceSub, Int.reduceNeg, decide_true, decide_false, Bool.false_and, Bool.and_false, iRange1, iRange2, rBoolC, cReprB, cRepr, isBox, oEqS, rMethK, byOrd, hi]
      exact h x mo4 hx hW5
    · have hi' : (i == 0) = false := by rw [beq_eq_false_iff_ne]; exact hi
      simp only [rRet, rRetN, rSeq, rNext, rIfS, rAsg, rDrop, rOwn, rPar, rApp, rNever, rBrk, rCont, dEnds, rV, rC, r2, r1, rTup, rLst, rLstM, rCons, rNil, rStar, rA, rB, rT, rNot, rAnd, rOr, rIf, rIfT, rAndV, rOrV, rNotV, rChain, rIxO, rIsi, rSlice, rPart, rNoP, rCall, rMeth, rProp, rFld, rSetF, rNewF, rMkP, rMkM, gV, gN0, gCs, gT, gIx, gIxO, oAdd, oSub, oMulI, oDiv, oMod, oPow, oInt, oCmp, oNeg, oIx, oIsN, oNotN, isNon, cLen, cAbs, cInt1, cInt2, cIntI, cStrI, cMax, cMin, cDivmod, cTuple, cList, kO, kN, kB, kI, startE, List.map_cons, List.map_nil, List.length_cons, List.length_nil, Nat.reduceAdd, Nat.reduceSub, Nat.reduceLeDiff, Nat.reduceLT, Nat.zero_lt_succ, List.replicate_succ, List.replicate_zero, List.cons_append, List.nil_append, List.append_nil, List.getElem?_cons_zero, List.getElem?_cons_succ, List.set_cons_zero, List.set_cons_succ, atI_0, atI_1, atI_2, atI_3, atI_4, atI_5, ixN_lit, true_and, and_true, and_self, Bool.false_eq_true, if_true, if_false, reduceIte, reduceCtorEq, mput_same, mput_mput, PySem.sizeLine_eq, truD, TruOk, oEqD, oNeD, deq_int, deq_str, deq_bl, deq_tup, deq_lst, deqs_nil, deqs_cons, deqs_nc, deqs_cn, okD, rYes, iSeq, iTupD, iStrD, iEnumD, iZipD, kL, seqD, rCompE, rCompS, rComp, hideE, rFor, rTup, rKix, rSlo, rLenC, rIsC, kBo, rParO, rPar3, rAug, rJoin, kS, cAll, cAny, kB, oSame, rMkL, Bool.and_true, Bool.true_and, Bool.not_true, Bool.not_false, List.set_nil, Int.cast_ofNat_Int, Int.natCast_zero, Int.natCast_one, bls, Option.map_some, List.all_cons, List.all_nil, id_eq, beq_self_eq_true, Int.reduceBEq, Int.reduceLT, Int.reduceLE, Int.reduceAdd, Int.reduceSub, Int.reduceNeg, decide_true, decide_false, Bool.false_and, Bool.and_false, iRange1, iRange2, rBoolC, cReprB, cRepr, isBox, oEqS, rMethK, byOrd, hi']
      exact h _ mo4 (by omega) hW5
  · rintro d ds st L ⟨k, x, mo3, y, k1, k2, k3, hW3, rfl⟩ hL
    rw [List.length_cons] at k1
    have hk : (10 : Int) ^ (6 * (k + 1)) ≤ 10 ^ 24 := p10 (by omega)
    have e24 : (10 : Int) ^ 24 = 1000000000000000000000000 := by decide
    simp only [rRet, rRetN, rSeq, rNext, rIfS, rAsg, rDrop, rOwn, rPar, rApp, rNever, rBrk, rCont, dEnds, rV, rC, r2, r1, rTup, rLst, rLstM, rCons, rNil, rStar, rA, rB, rT, rNot, rAnd, rOr, rIf, rIfT, rAndV, rOrV, rNotV, rChain, rIxO, rIsi, rSlice, rPart, rNoP, rCall, rMeth, rProp, rFld, rSetF, rNewF, rMkP, rMkM, gV, gN0, gCs, gT, gIx, gIxO, oAdd, oSub, oMulI, oDiv, oMod, oPow, oInt, oCmp, oNeg, oIx, oIsN, oNotN, isNon, cLen, cAbs, cInt1, cInt2, cIntI, cStrI, cMax, cMin, cDivmod, cTuple, cList, kO, kN, kB, kI, startE, List.map_cons, List.map_nil, List.length_cons, List.length_nil, Nat.reduceAdd, Nat.reduceSub, Nat.reduceLeDiff, Nat.reduceLT, Nat.zero_lt_succ, List.replicate_succ, List.replicate_zero, List.cons_append, List.nil_append, List.append_nil, List.getElem?_cons_zero, List.getElem?_cons_succ, List.set_cons_zero, List.set_cons_succ, atI_0, atI_1, atI_2, atI_3, atI_4, atI_5, ixN_lit, true_and, and_true, and_self, Bool.false_eq_true, if_true, if_false, reduceIte, reduceCtorEq, mput_same, mput_mput, PySem.sizeLine_eq, truD, TruOk, oEqD, oNeD, deq_int, deq_str, deq_bl, deq_tup, deq_lst, deqs_nil, deqs_cons, deqs_nc, deqs_cn, okD, rYes, iSeq, iTupD, iStrD, iEnumD, iZipD, kL, seqD, rCompE, rCompS, rComp, hideE, rFor, rTup, rKix, rSlo, rLenC, rIsC, kBo, rParO, rPar3, rAug, rJoin, kS, cAll, cAny, kB, oSame, rMkL, Bool.and_true, Bool.true_and, Bool.not_true, Bool.not_false, List.set_nil, Int.cast_ofNat_Int, Int.natCast_zero, Int.natCast_one, bls, Option.map_some, List.all_cons, List.all_nil, id_eq, beq_self_eq_true, Int.reduceBEq, Int.reduceLT, Int.reduceLE, Int.reduceAdd, Int.reduceSub, Int.reduceNeg, decide_true, decide_false, Bool.false_and, Bool.and_false, iRange1, iRange2, rBoolC, cReprB, cRepr, isBox, oEqS, rMethK, byOrd, hp6]
    refine ⟨hc1, mul_ok (m := 100) (n := 20) (by omega) (by decide) (by decide), hc1, a, mo3, n + 2 + k, 1000000, rfl, mput_same, hW3, by omega, by decide, by decide, fun i mo4 i0 i1 hW4 => ?_⟩
    simp only [rRet, rRetN, rSeq, rNext, rIfS, rAsg, rDrop, rOwn, rPar, rApp, rNever, rBrk, rCont, dEnds, rV, rC, r2, r1, rTup, rLst, rLstM, rCons, rNil, rStar, rA, rB, rT, rNot, rAnd, rOr, rIf, rIfT, rAndV, rOrV, rNotV, rChain, rIxO, rIsi, rSlice, rPart, rNoP, rCall, rMeth, rProp, rFld, rSetF, rNewF, rMkP, rMkM, gV, gN0, gCs, gT, gIx, gIxO, oAdd, oSub, oMulI, oDiv, oMod, oPow, oInt, oCmp, oNeg, oIx, oIsN, oNotN, isNon, cLen, cAbs, cInt1, cInt2, cIntI, cStrI, cMax, cMin, cDivmod, cTuple, cList, kO, kN, kB, kI, startE, List.map_cons, List.map_nil, List.length_cons, List.length_nil, Nat.reduceAdd, Nat.reduceSub, Nat.reduceLeDiff, Nat.reduceLT, Nat.zero_lt_succ, List.replicate_succ, List.replicate_zero, List.cons_append, List.nil_append, List.append_nil, List.getElem?_cons_zero, List.getElem?_cons_succ, List.set_cons_zero, List.set_cons_succ, atI_0, atI_1, atI_2, atI_3, atI_4, atI_5, ixN_lit, true_and, and_true, and_self, Bool.false_eq_true, if_true, if_false, reduceIte, reduceCtorEq, mput_same, mput_mput, PySem.sizeLine_eq, truD, TruOk, oEqD, oNeD, deq_int, deq_str, deq_bl, deq_tup, deq_lst, deqs_nil, deqs_cons, deqs_nc, deqs_cn, okD, rYes, iSeq, iTupD, iStrD, iEnumD, iZipD, kL, seqD, rCompE, rCompS, rComp, hideE, rFor, rTup, rKix, rSlo, rLenC, rIsC, kBo, rParO, rPar3, rAug, rJoin, kS, cAll, cAny, kB, oSame, rMkL, Bool.and_true, Bool.true_and, Bool.not_true, Bool.not_false, List.set_nil, Int.cast_ofNat_Int, Int.natCast_zero, Int.natCast_one, bls, Option.map_some, List.all_cons, List.all_nil, id_eq, beq_self_eq_true, Int.reduceBEq, Int.reduceLT, Int.reduceLE, Int.reduceAdd, Int.reduceSub, Int.reduceNeg, decide_true, decide_false, Bool.false_and, Bool.and_false, iRange1, iRange2, rBoolC, cReprB, cRepr, isBox, oEqS, rMethK, byOrd]
    refine hL _ ⟨k + 1, _, mo4, .val d, by omega, by omega, ?_, by rw [← Nat.add_assoc]; exact hW4, rfl⟩
    have e : (10 : Int) ^ (6 * (k + 1 + 1)) = 10 ^ (6 * (k + 1)) * 1000000 := by rw [show 6 * (k + 1 + 1) = 6 * (k + 1) + 6 from rfl, Int.pow_add]; rfl
    rw [e]
    omega
abbrev s__law_drawn : Stmt := topS 48
theorem sc__law_drawn : FnScope ["well", "way", "found"] ["well"] (defScope s__law_drawn) := ⟨rfl, rfl, rfl, by decide +kernel, rfl, by decide +kernel, by decide +kernel⟩
def sp__law_drawn : DSp := fun ds M q => ∃ (a : Addr) (mo : MO) (n : Nat), ds = [.ref a] ∧ M a = some mo ∧ W n mo ∧ n ≤ 800000 ∧ ∀ (m : Mv) (mo' : MO), IsBtn m → W (n + 30) mo' → q (mvD m) (mput M a mo')
theorem ok__law_drawn {f c pp : Addr} {fd : FuncData} (F : Fun K "_law_drawn" "_law_drawn" s__law_drawn f fd) (hm : mg "_law_drawn" = some (.ref f)) (B : Blt mg) (g__law_dip : FnG P w K mg base "_law_dip" 1 2 sp__law_dip) (g__law_number : FnG P w K mg base "_law_number" 2 1 sp__law_number) : FnG P w K mg base "_law_drawn" 3 1 sp__law_drawn := by
  refine fng_mk F hm sc__law_drawn (fun _ _ _ _ _ _ us hl => match us, hl with | [_], _ => rfl) rfl (fun cdv A outer s H E hr => ?_)
  refine ⟨_, (ss_cons (s_set 1 sc__law_drawn.nd (d_call g__law_dip (hr.mono (by first | decide | omega)) rfl (a_cons (dv 0) (a_cons d_int a_nil))))
    (ss_cons (s_if (t_cm (c_eq hr.units) (dv 1) d_int) (ss_one (s_ret (d_tup (a_cons (d_sub (d_call g__law_dip (hr.mono (by first | decide | omega)) rfl (a_cons (dv 0) (a_cons d_int a_nil))) d_int) (a_cons (d_sub (d_call g__law_dip (hr.mono (by first | decide | omega)) rfl (a_cons (dv 0) (a_cons d_int a_nil))) d_int) (a_cons (d_sub (d_call g__law_dip (hr.mono (by first | decide | omega)) rfl (a_cons (dv 0) (a_cons d_int a_nil))) d_int) a_nil)))))) ss_nil)
    (ss_cons (s_own 2 sc__law_drawn.nd (a_cons (d_call g__law_number (hr.mono (by first | decide | omega)) rfl (a_cons (dv 0) a_nil)) (a_cons (d_call g__law_number (hr.mono (by first | decide | omega)) rfl (a_cons (dv 0) a_nil)) (a_cons (d_call g__law_number (hr.mono (by first | decide | omega)) rfl (a_cons (dv 0) a_nil)) a_nil))))
    (ss_cons (s_if (t_cm (c_eq hr.units) (dv 1) d_int) (ss_one (s_asg d_int (g_ixO (vs := []) 2 (d_call g__law_dip (hr.mono (by first | decide | omega)) rfl (a_cons (dv 0) (a_cons d_int a_nil)))))) ss_nil)
    (ss_one (s_ret (d_tup (a_cons (d_ixO 2 d_int) (a_cons (d_ixO 2 d_int) (a_cons (d_ixO 2 d_int) a_nil)))))))))), fun ds M q hl h => ?_⟩
  obtain ⟨a, mo, n, rfl, hM, hW, hn, h⟩ := h
  simp only [rRet, rRetN, rSeq, rNext, rIfS, rAsg, rDrop, rOwn, rPar, rApp, rNever, rBrk, rCont, dEnds, rV, rC, r2, r1, rTup, rLst, rLstM, rCons, rNil, rStar, rA, rB, rT, rNot, rAnd, rOr, rIf, rIfT, rAndV, rOrV, rNotV, rChain, rIxO, rIsi, rSlice, rPart, rNoP, rCall, rMeth, rProp, rFld, rSetF, rNewF, rMkP, rMkM, gV, gN0, gCs, gT, gIx, gIxO, oAdd, oSub, oMulI, oDiv, oMod, oPow, oInt, oCmp, oNeg, oIx, oIsN, oNotN, isNon, cLen, cAbs, cInt1, cInt2, cIntI, cStrI, cMax, cMin, cDivmod, cTuple, cList, kO, kN, kB, kI, startE, List.map_cons, List.map_nil, List.length_cons, List.length_nil, Nat.reduceAdd, Nat.reduceSub, Nat.reduceLeDiff, Nat.reduceLT, Nat.zero_lt_succ, List.replicate_succ, List.replicate_zero, List.cons_append, List.nil_append, List.append_nil, List.getElem?_cons_zero, List.getElem?_cons_succ, List.set_cons_zero, List.set_cons_succ, atI_0, atI_1, atI_2, atI_3, atI_4, atI_5, ixN_lit, true_and, and_true, and_self, Bool.false_eq_true, if_true, if_false, reduceIte, reduceCtorEq, mput_same, mput_mput, PySem.sizeLine_eq, truD, TruOk, oEqD, oNeD, deq_int, deq_str, deq_bl, deq_tup, deq_lst, deqs_nil, deqs_cons, deqs_nc, deqs_cn, okD, rYes, iSeq, iTupD, iStrD, iEnumD, iZipD, kL, seqD, rCompE, rCompS, rComp, hideE, rFor, rTup, rKix, rSlo, rLenC, rIsC, kBo, rParO, rPar3, rAug, rJoin, kS, cAll, cAny, kB, oSame, rMkL, Bool.and_true, Bool.true_and, Bool.not_true, Bool.not_false, List.set_nil, Int.cast_ofNat_Int, Int.natCast_zero, Int.natCast_one, bls, Option.map_some, List.all_cons, List.all_nil, id_eq, beq_self_eq_true, Int.reduceBEq, Int.reduceLT, Int.reduceLE, Int.reduceAdd, Int.reduceSub, Int.reduceNeg, decide_true, decide_false, Bool.false_and, Bool.and_false, iRange1, iRange2, rBoolC, cReprB, cRepr, isBox, oEqS, rMethK, byOrd]
  refine ⟨a, mo, n, 4, rfl, hM, hW, by omega, by decide, by decide, fun way mo1 h0 h1 hW1 => ?_⟩
  have b30 : ∀ x : Int, -10 ≤ x → x ≤ 10 → x.natAbs ≤ 10 ^ 30 := fun x p q => by omega
  simp only [rRet, rRetN, rSeq, rNext, rIfS, rAsg, rDrop, rOwn, rPar, rApp, rNever, rBrk, rCont, dEnds, rV, rC, r2, r1, rTup, rLst, rLstM, rCons, rNil, rStar, rA, rB, rT, rNot, rAnd, rOr, rIf, rIfT, rAndV, rOrV, rNotV, rChain, rIxO, rIsi, rSlice, rPart, rNoP, rCall, rMeth, rProp, rFld, rSetF, rNewF, rMkP, rMkM, gV, gN0, gCs, gT, gIx, gIxO, oAdd, oSub, oMulI, oDiv, oMod, oPow, oInt, oCmp, oNeg, oIx, oIsN, oNotN, isNon, cLen, cAbs, cInt1, cInt2, cIntI, cStrI, cMax, cMin, cDivmod, cTuple, cList, kO, kN, kB, kI, startE, List.map_cons, List.map_nil, List.length_cons, List.length_nil, Nat.reduceAdd, Nat.reduceSub, Nat.reduceLeDiff, Nat.reduceLT, Nat.zero_lt_succ, List.replicate_succ, List.replicate_zero, List.cons_append, List.nil_append, List.append_nil, List.getElem?_cons_zero, List.getElem?_cons_succ, List.set_cons_zero, List.set_cons_succ, atI_0, atI_1, atI_2, atI_3, atI_4, atI_5, ixN_lit, true_and, and_true, and_self, Bool.false_eq_true, if_true, if_false, reduceIte, reduceCtorEq, mput_same, mput_mput, PySem.sizeLine_eq, truD, TruOk, oEqD, oNeD, deq_int, deq_str, deq_bl, deq_tup, deq_lst, deqs_nil, deqs_cons, deqs_nc, deqs_cn, okD, rYes, iSeq, iTupD, iStrD, iEnumD, iZipD, kL, seqD, rCompE, rCompS, rComp, hideE, rFor, rTup, rKix, rSlo, rLenC, rIsC, kBo, rParO, rPar3, rAug, rJoin, kS, cAll, cAny, kB, oSame, rMkL, Bool.and_true, Bool.true_and, Bool.not_true, Bool.not_false, List.set_nil, Int.cast_ofNat_Int, Int.natCast_zero, Int.natCast_one, bls, Option.map_some, List.all_cons, List.all_nil, id_eq, beq_self_eq_true, Int.reduceBEq, Int.reduceLT, Int.reduceLE, Int.reduceAdd, Int.reduceSub, Int.reduceNeg, decide_true, decide_false, Bool.false_and, Bool.and_false, iRange1, iRange2, rBoolC, cReprB, cRepr, isBox, oEqS, rMethK, byOrd]
  by_cases hw : way = 0
  · simp only [rRet, rRetN, rSeq, rNext, rIfS, rAsg, rDrop, rOwn, rPar, rApp, rNever, rBrk, rCont, dEnds, rV, rC, r2, r1, rTup, rLst, rLstM, rCons, rNil, rStar, rA, rB, rT, rNot, rAnd, rOr, rIf, rIfT, rAndV, rOrV, rNotV, rChain, rIxO, rIsi, rSlice, rPart, rNoP, rCall, rMeth, rProp, rFld, rSetF, rNewF, rMkP, rMkM, gV, gN0, gCs, gT, gIx, gIxO, oAdd, oSub, oMulI, oDiv, oMod, oPow, oInt, oCmp, oNeg, oIx, oIsN, oNotN, isNon, cLen, cAbs, cInt1, cInt2, cIntI, cStrI, cMax, cMin, cDivmod, cTuple, cList, kO, kN, kB, kI, startE, List.map_cons, List.map_nil, List.length_cons, List.length_nil, Nat.reduceAdd, Nat.reduceSub, Nat.reduceLeDiff, Nat.reduceLT, Nat.zero_lt_succ, List.replicate_succ, List.replicate_zero, List.cons_append, List.nil_append, List.append_nil, List.getElem?_cons_zero, List.getElem?_cons_succ, List.set_cons_zero, List.set_cons_succ, atI_0, atI_1, atI_2, atI_3, atI_4, atI_5, ixN_lit, true_and, and_true, and_self, Bool.false_eq_true, if_true, if_false, reduceIte, reduceCtorEq, mput_same, mput_mput, PySem.sizeLine_eq, truD, TruOk, oEqD, oNeD, deq_int, deq_str, deq_bl, deq_tup, deq_lst, deqs_nil, deqs_cons, deqs_nc, deqs_cn, okD, rYes, iSeq, iTupD, iStrD, iEnumD, iZipD, kL, seqD, rCompE, rCompS, rComp, hideE, rFor, rTup, rKix, rSlo, rLenC, rIsC, kBo, rParO, rPar3, rAug, rJoin, kS, cAll, cAny, kB, oSame, rMkL, Bool.and_true, Bool.true_and, Bool.not_true, Bool.not_false, List.set_nil, Int.cast_ofNat_Int, Int.natCast_zero, Int.natCast_one, bls, Option.map_some, List.all_cons, List.all_nil, id_eq, beq_self_eq_true, Int.reduceBEq, Int.reduceLT, Int.reduceLE, Int.reduceAdd, Int.reduceSub, Int.reduceNeg, decide_true, decide_false, Bool.false_and, Bool.and_false, iRange1, iRange2, rBoolC, cReprB, cRepr, isBox, oEqS, rMethK, byOrd, hw]
    refine ⟨a, mo1, n + 1, 7, rfl, mput_same, hW1, by omega, by decide, by decide, fun x mo2 x0 x1 hW2 => ?_⟩
    simp only [rRet, rRetN, rSeq, rNext, rIfS, rAsg, rDrop, rOwn, rPar, rApp, rNever, rBrk, rCont, dEnds, rV, rC, r2, r1, rTup, rLst, rLstM, rCons, rNil, rStar, rA, rB, rT, rNot, rAnd, rOr, rIf, rIfT, rAndV, rOrV, rNotV, rChain, rIxO, rIsi, rSlice, rPart, rNoP, rCall, rMeth, rProp, rFld, rSetF, rNewF, rMkP, rMkM, gV, gN0, gCs, gT, gIx, gIxO, oAdd, oSub, oMulI, oDiv, oMod, oPow, oInt, oCmp, oNeg, oIx, oIsN, oNotN, isNon, cLen, cAbs, cInt1, cInt2, cIntI, cStrI, cMax, cMin, cDivmod, cTuple, cList, kO, kN, kB, kI, startE, List.map_cons, List.map_nil, List.length_cons, List.length_nil, Nat.reduceAdd, Nat.reduceSub, Nat.reduceLeDiff, Nat.reduceLT, Nat.zero_lt_succ, List.replicate_succ, List.replicate_zero, List.cons_append, List.nil_append, List.append_nil, List.getElem?_cons_zero, List.getElem?_cons_succ, List.set_cons_zero, List.set_cons_succ, atI_0, atI_1, atI_2, atI_3, atI_4, atI_5, ixN_lit, true_and, and_true, and_self, Bool.false_eq_true, if_true, if_false, reduceIte, reduceCtorEq, mput_same, mput_mput, PySem.sizeLine_eq, truD, TruOk, oEqD, oNeD, deq_int, deq_str, deq_bl, deq_tup, deq_lst, deqs_nil, deqs_cons, deqs_nc, deqs_cn, okD, rYes, iSeq, iTupD, iStrD, iEnumD, iZipD, kL, seqD, rCompE, rCompS, rComp, hideE, rFor, rTup, rKix, rSlo, rLenC, rIsC, kBo, rParO, rPar3, rAug, rJoin, kS, cAll, cAny, kB, oSame, rMkL, Bool.and_true, Bool.true_and, Bool.not_true, Bool.not_false, List.set_nil, Int.cast_ofNat_Int, Int.natCast_zero, Int.natCast_one, bls, Option.map_some, List.all_cons, List.all_nil, id_eq, beq_self_eq_true, Int.reduceBEq, Int.reduceLT, Int.reduceLE, Int.reduceAdd, Int.reduceSub, Int.reduceNeg, decide_true, decide_false, Bool.false_and, Bool.and_false, iRange1, iRange2, rBoolC, cReprB, cRepr, isBox, oEqS, rMethK, byOrd]
    refine ⟨a, mo2, n + 2, 7, rfl, mput_same, hW2, by omega, by decide, by decide, fun y mo3 y0 y1 hW3 => ?_⟩
    simp only [rRet, rRetN, rSeq, rNext, rIfS, rAsg, rDrop, rOwn, rPar, rApp, rNever, rBrk, rCont, dEnds, rV, rC, r2, r1, rTup, rLst, rLstM, rCons, rNil, rStar, rA, rB, rT, rNot, rAnd, rOr, rIf, rIfT, rAndV, rOrV, rNotV, rChain, rIxO, rIsi, rSlice, rPart, rNoP, rCall, rMeth, rProp, rFld, rSetF, rNewF, rMkP, rMkM, gV, gN0, gCs, gT, gIx, gIxO, oAdd, oSub, oMulI, oDiv, oMod, oPow, oInt, oCmp, oNeg, oIx, oIsN, oNotN, isNon, cLen, cAbs, cInt1, cInt2, cIntI, cStrI, cMax, cMin, cDivmod, cTuple, cList, kO, kN, kB, kI, startE, List.map_cons, List.map_nil, List.length_cons, List.length_nil, Nat.reduceAdd, Nat.reduceSub, Nat.reduceLeDiff, Nat.reduceLT, Nat.zero_lt_succ, List.replicate_succ, List.replicate_zero, List.cons_append, List.nil_append, List.append_nil, List.getElem?_cons_zero, List.getElem?_cons_succ, List.set_cons_zero, List.set_cons_succ, atI_0, atI_1, atI_2, atI_3, atI_4, atI_5, ixN_lit, true_and, and_true, and_self, Bool.false_eq_true, if_true, if_false, reduceIte, reduceCtorEq, mput_same, mput_mput, PySem.sizeLine_eq, truD, TruOk, oEqD, oNeD, deq_int, deq_str, deq_bl, deq_tup, deq_lst, deqs_nil, deqs_cons, deqs_nc, deqs_cn, okD, rYes, iSeq, iTupD, iStrD, iEnumD, iZipD, kL, seqD, rCompE, rCompS, rComp, hideE, rFor, rTup, rKix, rSlo, rLenC, rIsC, kBo, rParO, rPar3, rAug, rJoin, kS, cAll, cAny, kB, oSame, rMkL, Bool.and_true, Bool.true_and, Bool.not_true, Bool.not_false, List.set_nil, Int.cast_ofNat_Int, Int.natCast_zero, Int.natCast_one, bls, Option.map_some, List.all_cons, List.all_nil, id_eq, beq_self_eq_true, Int.reduceBEq, Int.reduceLT, Int.reduceLE, Int.reduceAdd, Int.reduceSub, Int.reduceNeg, decide_true, decide_false, Bool.false_and, Bool.and_false, iRange1, iRange2, rBoolC, cReprB, cRepr, isBox, oEqS, rMethK, byOrd]
    refine ⟨a, mo3, n + 3, 9, rfl, mput_same, hW3, by omega, by decide, by decide, fun z mo4 z0 z1 hW4 => ?_⟩
    simp only [rRet, rRetN, rSeq, rNext, rIfS, rAsg, rDrop, rOwn, rPar, rApp, rNever, rBrk, rCont, dEnds, rV, rC, r2, r1, rTup, rLst, rLstM, rCons, rNil, rStar, rA, rB, rT, rNot, rAnd, rOr, rIf, rIfT, rAndV, rOrV, rNotV, rChain, rIxO, rIsi, rSlice, rPart, rNoP, rCall, rMeth, rProp, rFld, rSetF, rNewF, rMkP, rMkM, gV, gN0, gCs, gT, gIx, gIxO, oAdd, oSub, oMulI, oDiv, oMod, oPow, oInt, oCmp, oNeg, oIx, oIsN, oNotN, isNon, cLen, cAbs, cInt1, cInt2, cIntI, cStrI, cMax, cMin, cDivmod, cTuple, cList, kO, kN, kB, kI, startE, List.map_cons, List.map_nil, List.length_cons, List.length_nil, Nat.reduceAdd, Nat.reduceSub, Nat.reduceLeDiff, Nat.reduceLT, Nat.zero_lt_succ, List.replicate_succ, List.replicate_zero, List.cons_append, List.nil_append, List.append_nil, List.getElem?_cons_zero, List.getElem?_cons_succ, List.set_cons_zero, List.set_cons_succ, atI_0, atI_1, atI_2, atI_3, atI_4, atI_5, ixN_lit, true_and, and_true, and_self, Bool.false_eq_true, if_true, if_false, reduceIte, reduceCtorEq, mput_same, mput_mput, PySem.sizeLine_eq, truD, TruOk, oEqD, oNeD, deq_int, deq_str, deq_bl, deq_tup, deq_lst, deqs_nil, deqs_cons, deqs_nc, deqs_cn, okD, rYes, iSeq, iTupD, iStrD, iEnumD, iZipD, kL, seqD, rCompE, rCompS, rComp, hideE, rFor, rTup, rKix, rSlo, rLenC, rIsC, kBo, rParO, rPar3, rAug, rJoin, kS, cAll, cAny, kB, oSame, rMkL, Bool.and_true, Bool.true_and, Bool.not_true, Bool.not_false, List.set_nil, Int.cast_ofNat_Int, Int.natCast_zero, Int.natCast_one, bls, Option.map_some, List.all_cons, List.all_nil, id_eq, beq_self_eq_true, Int.reduceBEq, Int.reduceLT, Int.reduceLE, Int.reduceAdd, Int.reduceSub, Int.reduceNeg, decide_true, decide_false, Bool.false_and, Bool.and_false, iRange1, iRange2, rBoolC, cReprB, cRepr, isBox, oEqS, rMethK, byOrd]
    exact h (x - 3, y - 3, z - 4) mo4 (btn (b30 (x - 3) (by omega) (by omega)) (b30 (y - 3) (by omega) (by omega)) (b30 (z - 4) (by omega) (by omega))) (hW4.mono (by omega))
  · have hw0 : (way == 0) = false := by rw [beq_eq_false_iff_ne]; exact hw
    simp only [rRet, rRetN, rSeq, rNext, rIfS, rAsg, rDrop, rOwn, rPar, rApp, rNever, rBrk, rCont, dEnds, rV, rC, r2, r1, rTup, rLst, rLstM, rCons, rNil, rStar, rA, rB, rT, rNot, rAnd, rOr, rIf, rIfT, rAndV, rOrV, rNotV, rChain, rIxO, rIsi, rSlice, rPart, rNoP, rCall, rMeth, rProp, rFld, rSetF, rNewF, rMkP, rMkM, gV, gN0, gCs, gT, gIx, gIxO, oAdd, oSub, oMulI, oDiv, oMod, oPow, oInt, oCmp, oNeg, oIx, oIsN, oNotN, isNon, cLen, cAbs, cInt1, cInt2, cIntI, cStrI, cMax, cMin, cDivmod, cTuple, cList, kO, kN, kB, kI, startE, List.map_cons, List.map_nil, List.length_cons, List.length_nil, Nat.reduceAdd, Nat.reduceSub, Nat.reduceLeDiff, Nat.reduceLT, Nat.zero_lt_succ, List.replicate_succ, List.replicate_zero, List.cons_append, List.nil_append, List.append_nil, List.getElem?_cons_zero, List.getElem?_cons_succ, List.set_cons_zero, List.set_cons_succ, atI_0, atI_1, atI_2, atI_3, atI_4, atI_5, ixN_lit, true_and, and_true, and_self, Bool.false_eq_true, if_true, if_false, reduceIte, reduceCtorEq, mput_same, mput_mput, PySem.sizeLine_eq, truD, TruOk, oEqD, oNeD, deq_int, deq_str, deq_bl, deq_tup, deq_lst, deqs_nil, deqs_cons, deqs_nc, deqs_cn, okD, rYes, iSeq, iTupD, iStrD, iEnumD, iZipD, kL, seqD, rCompE, rCompS, rComp, hideE, rFor, rTup, rKix, rSlo, rLenC, rIsC, kBo, rParO, rPar3, rAug, rJoin, kS, cAll, cAny, kB, oSame, rMkL, Bool.and_true, Bool.true_and, Bool.not_true, Bool.not_false, List.set_nil, Int.cast_ofNat_Int, Int.natCast_zero, Int.natCast_one, bls, Option.map_some, List.all_cons, List.all_nil, id_eq, beq_self_eq_true, Int.reduceBEq, Int.reduceLT, Int.reduceLE, Int.reduceAdd, Int.reduceSub, Int.reduceNeg, decide_true, decide_false, Bool.false_and, Bool.and_false, iRange1, iRange2, rBoolC, cReprB, cRepr, isBox, oEqS, rMethK, byOrd, hw0]
    refine ⟨a, mo1, n + 1, rfl, mput_same, hW1, by omega, fun x mo2 x0 hW2 => ?_⟩
    simp only [rRet, rRetN, rSeq, rNext, rIfS, rAsg, rDrop, rOwn, rPar, rApp, rNever, rBrk, rCont, dEnds, rV, rC, r2, r1, rTup, rLst, rLstM, rCons, rNil, rStar, rA, rB, rT, rNot, rAnd, rOr, rIf, rIfT, rAndV, rOrV, rNotV, rChain, rIxO, rIsi, rSlice, rPart, rNoP, rCall, rMeth, rProp, rFld, rSetF, rNewF, rMkP, rMkM, gV, gN0, gCs, gT, gIx, gIxO, oAdd, oSub, oMulI, oDiv, oMod, oPow, oInt, oCmp, oNeg, oIx, oIsN, oNotN, isNon, cLen, cAbs, cInt1, cInt2, cIntI, cStrI, cMax, cMin, cDivmod, cTuple, cList, kO, kN, kB, kI, startE, List.map_cons, List.map_nil, List.length_cons, List.length_nil, Nat.reduceAdd, Nat.reduceSub, Nat.reduceLeDiff, Nat.reduceLT, Nat.zero_lt_succ, List.replicate_succ, List.replicate_zero, List.cons_append, List.nil_append, List.append_nil, List.getElem?_cons_zero, List.getElem?_cons_succ, List.set_cons_zero, List.set_cons_succ, atI_0, atI_1, atI_2, atI_3, atI_4, atI_5, ixN_lit, true_and, and_true, and_self, Bool.false_eq_true, if_true, if_false, reduceIte, reduceCtorEq, mput_same, mput_mput, PySem.sizeLine_eq, truD, TruOk, oEqD, oNeD, deq_int, deq_str, deq_bl, deq_tup, deq_lst, deqs_nil, deqs_cons, deqs_nc, deqs_cn, okD, rYes, iSeq, iTupD, iStrD, iEnumD, iZipD, kL, seqD, rCompE, rCompS, rComp, hideE, rFor, rTup, rKix, rSlo, rLenC, rIsC, kBo, rParO, rPar3, rAug, rJoin, kS, cAll, cAny, kB, oSame, rMkL, Bool.and_true, Bool.true_and, Bool.not_true, Bool.not_false, List.set_nil, Int.cast_ofNat_Int, Int.natCast_zero, Int.natCast_one, bls, Option.map_some, List.all_cons, List.all_nil, id_eq, beq_self_eq_true, Int.reduceBEq, Int.reduceLT, Int.reduceLE, Int.reduceAdd, Int.reduceSub, Int.reduceNeg, decide_true, decide_false, Bool.false_and, Bool.and_false, iRange1, iRange2, rBoolC, cReprB, cRepr, isBox, oEqS, rMethK, byOrd]
    refine ⟨a, mo2, n + 8, rfl, mput_same, hW2, by omega, fun y mo3 y0 hW3 => ?_⟩
    simp only [rRet, rRetN, rSeq, rNext, rIfS, rAsg, rDrop, rOwn, rPar, rApp, rNever, rBrk, rCont, dEnds, rV, rC, r2, r1, rTup, rLst, rLstM, rCons, rNil, rStar, rA, rB, rT, rNot, rAnd, rOr, rIf, rIfT, rAndV, rOrV, rNotV, rChain, rIxO, rIsi, rSlice, rPart, rNoP, rCall, rMeth, rProp, rFld, rSetF, rNewF, rMkP, rMkM, gV, gN0, gCs, gT, gIx, gIxO, oAdd, oSub, oMulI, oDiv, oMod, oPow, oInt, oCmp, oNeg, oIx, oIsN, oNotN, isNon, cLen, cAbs, cInt1, cInt2, cIntI, cStrI, cMax, cMin, cDivmod, cTuple, cList, kO, kN, kB, kI, startE, List.map_cons, List.map_nil, List.length_cons, List.length_nil, Nat.reduceAdd, Nat.reduceSub, Nat.reduceLeDiff, Nat.reduceLT, Nat.zero_lt_succ, List.replicate_succ, List.replicate_zero, List.cons_append, List.nil_append, List.append_nil, List.getElem?_cons_zero, List.getElem?_cons_succ, List.set_cons_zero, List.set_cons_succ, atI_0, atI_1, atI_2, atI_3, atI_4, atI_5, ixN_lit, true_and, and_true, and_self, Bool.false_eq_true, if_true, if_false, reduceIte, reduceCtorEq, mput_same, mput_mput, PySem.sizeLine_eq, truD, TruOk, oEqD, oNeD, deq_int, deq_str, deq_bl, deq_tup, deq_lst, deqs_nil, deqs_cons, deqs_nc, deqs_cn, okD, rYes, iSeq, iTupD, iStrD, iEnumD, iZipD, kL, seqD, rCompE, rCompS, rComp, hideE, rFor, rTup, rKix, rSlo, rLenC, rIsC, kBo, rParO, rPar3, rAug, rJoin, kS, cAll, cAny, kB, oSame, rMkL, Bool.and_true, Bool.true_and, Bool.not_true, Bool.not_false, List.set_nil, Int.cast_ofNat_Int, Int.natCast_zero, Int.natCast_one, bls, Option.map_some, List.all_cons, List.all_nil, id_eq, beq_self_eq_true, Int.reduceBEq, Int.reduceLT, Int.reduceLE, Int.reduceAdd, Int.reduceSub, Int.reduceNeg, decide_true, decide_false, Bool.false_and, Bool.and_false, iRange1, iRange2, rBoolC, cReprB, cRepr, isBox, oEqS, rMethK, byOrd]
    refine ⟨a, mo3, n + 15, rfl, mput_same, hW3, by omega, fun z mo4 z0 hW4 => ?_⟩
    simp only [rRet, rRetN, rSeq, rNext, rIfS, rAsg, rDrop, rOwn, rPar, rApp, rNever, rBrk, rCont, dEnds, rV, rC, r2, r1, rTup, rLst, rLstM, rCons, rNil, rStar, rA, rB, rT, rNot, rAnd, rOr, rIf, rIfT, rAndV, rOrV, rNotV, rChain, rIxO, rIsi, rSlice, rPart, rNoP, rCall, rMeth, rProp, rFld, rSetF, rNewF, rMkP, rMkM, gV, gN0, gCs, gT, gIx, gIxO, oAdd, oSub, oMulI, oDiv, oMod, oPow, oInt, oCmp, oNeg, oIx, oIsN, oNotN, isNon, cLen, cAbs, cInt1, cInt2, cIntI, cStrI, cMax, cMin, cDivmod, cTuple, cList, kO, kN, kB, kI, startE, List.map_cons, List.map_nil, List.length_cons, List.length_nil, Nat.reduceAdd, Nat.reduceSub, Nat.reduceLeDiff, Nat.reduceLT, Nat.zero_lt_succ, List.replicate_succ, List.replicate_zero, List.cons_append, List.nil_append, List.append_nil, List.getElem?_cons_zero, List.getElem?_cons_succ, List.set_cons_zero, List.set_cons_succ, atI_0, atI_1, atI_2, atI_3, atI_4, atI_5, ixN_lit, true_and, and_true, and_self, Bool.false_eq_true, if_true, if_false, reduceIte, reduceCtorEq, mput_same, mput_mput, PySem.sizeLine_eq, truD, TruOk, oEqD, oNeD, deq_int, deq_str, deq_bl, deq_tup, deq_lst, deqs_nil, deqs_cons, deqs_nc, deqs_cn, okD, rYes, iSeq, iTupD, iStrD, iEnumD, iZipD, kL, seqD, rCompE, rCompS, rComp, hideE, rFor, rTup, rKix, rSlo, rLenC, rIsC, kBo, rParO, rPar3, rAug, rJoin, kS, cAll, cAny, kB, oSame, rMkL, Bool.and_true, Bool.true_and, Bool.not_true, Bool.not_false, List.set_nil, Int.cast_ofNat_Int, Int.natCast_zero, Int.natCast_one, bls, Option.map_some, List.all_cons, List.all_nil, id_eq, beq_self_eq_true, Int.reduceBEq, Int.reduceLT, Int.reduceLE, Int.reduceAdd, Int.reduceSub, Int.reduceNeg, decide_true, decide_false, Bool.false_and, Bool.and_false, iRange1, iRange2, rBoolC, cReprB, cRepr, isBox, oEqS, rMethK, byOrd]
    by_cases hw1 : way = 1
    · simp only [rRet, rRetN, rSeq, rNext, rIfS, rAsg, rDrop, rOwn, rPar, rApp, rNever, rBrk, rCont, dEnds, rV, rC, r2, r1, rTup, rLst, rLstM, rCons, rNil, rStar, rA, rB, rT, rNot, rAnd, rOr, rIf, rIfT, rAndV, rOrV, rNotV, rChain, rIxO, rIsi, rSlice, rPart, rNoP, rCall, rMeth, rProp, rFld, rSetF, rNewF, rMkP, rMkM, gV, gN0, gCs, gT, gIx, gIxO, oAdd, oSub, oMulI, oDiv, oMod, oPow, oInt, oCmp, oNeg, oIx, oIsN, oNotN, isNon, cLen, cAbs, cInt1, cInt2, cIntI, cStrI, cMax, cMin, cDivmod, cTuple, cList, kO, kN, kB, kI, startE, List.map_cons, List.map_nil, List.length_cons, List.length_nil, Nat.reduceAdd, Nat.reduceSub, Nat.reduceLeDiff, Nat.reduceLT, Nat.zero_lt_succ, List.replicate_succ, List.replicate_zero, List.cons_append, List.nil_append, List.append_nil, List.getElem?_cons_zero, List.getElem?_cons_succ, List.set_cons_zero, List.set_cons_succ, atI_0, atI_1, atI_2, atI_3, atI_4, atI_5, ixN_lit, true_and, and_true, and_self, Bool.false_eq_true, if_true, if_false, reduceIte, reduceCtorEq, mput_same, mput_mput, PySem.sizeLine_eq, truD, TruOk, oEqD, oNeD, deq_int, deq_str, deq_bl, deq_tup, deq_lst, deqs_nil, deqs_cons, deqs_nc, deqs_cn, okD, rYes, iSeq, iTupD, iStrD, iEnumD, iZipD, kL, seqD, rCompE, rCompS, rComp, hideE, rFor, rTup, rKix, rSlo, rLenC, rIsC, kBo, rParO, rPar3, rAug, rJoin, kS, cAll, cAny, kB, oSame, rMkL, Bool.and_true, Bool.true_and, Bool.not_true, Bool.not_false, List.set_nil, Int.cast_ofNat_Int, Int.natCast_zero, Int.natCast_one, bls, Option.map_some, List.all_cons, List.all_nil, id_eq, beq_self_eq_true, Int.reduceBEq, Int.reduceLT, Int.reduceLE, Int.reduceAdd, Int.reduceSub, Int.reduceNeg, decide_true, decide_false, Bool.false_and, Bool.and_false, iRange1, iRange2, rBoolC, cReprB, cRepr, isBox, oEqS, rMethK, byOrd, hw1]
      refine ⟨⟨_, rfl⟩, a, mo4, n + 22, 3, rfl, mput_same, hW4, by omega, by decide, by decide, fun j mo5 j0 j1 hW5 => ?_⟩
      rcases below3 j0 j1 with rfl | rfl | rfl
      · simp only [rRet, rRetN, rSeq, rNext, rIfS, rAsg, rDrop, rOwn, rPar, rApp, rNever, rBrk, rCont, dEnds, rV, rC, r2, r1, rTup, rLst, rLstM, rCons, rNil, rStar, rA, rB, rT, rNot, rAnd, rOr, rIf, rIfT, rAndV, rOrV, rNotV, rChain, rIxO, rIsi, rSlice, rPart, rNoP, rCall, rMeth, rProp, rFld, rSetF, rNewF, rMkP, rMkM, gV, gN0, gCs, gT, gIx, gIxO, oAdd, oSub, oMulI, oDiv, oMod, oPow, oInt, oCmp, oNeg, oIx, oIsN, oNotN, isNon, cLen, cAbs, cInt1, cInt2, cIntI, cStrI, cMax, cMin, cDivmod, cTuple, cList, kO, kN, kB, kI, startE, List.map_cons, List.map_nil, List.length_cons, List.length_nil, Nat.reduceAdd, Nat.reduceSub, Nat.reduceLeDiff, Nat.reduceLT, Nat.zero_lt_succ, List.replicate_succ, List.replicate_zero, List.cons_append, List.nil_append, List.append_nil, List.getElem?_cons_zero, List.getElem?_cons_succ, List.set_cons_zero, List.set_cons_succ, atI_0, atI_1, atI_2, atI_3, atI_4, atI_5, ixN_lit, true_and, and_true, and_self, Bool.false_eq_true, if_true, if_false, reduceIte, reduceCtorEq, mput_same, mput_mput, PySem.sizeLine_eq, truD, TruOk, oEqD, oNeD, deq_int, deq_str, deq_bl, deq_tup, deq_lst, deqs_nil, deqs_cons, deqs_nc, deqs_cn, okD, rYes, iSeq, iTupD, iStrD, iEnumD, iZipD, kL, seqD, rCompE, rCompS, rComp, hideE, rFor, rTup, rKix, rSlo, rLenC, rIsC, kBo, rParO, rPar3, rAug, rJoin, kS, cAll, cAny, kB, oSame, rMkL, Bool.and_true, Bool.true_and, Bool.not_true, Bool.not_false, List.set_nil, Int.cast_ofNat_Int, Int.natCast_zero, Int.natCast_one, bls, Option.map_some, List.all_cons, List.all_nil, id_eq, beq_self_eq_true, Int.reduceBEq, Int.reduceLT, Int.reduceLE, Int.reduceAdd, Int.reduceSub, Int.reduceNeg, decide_true, decide_false, Bool.false_and, Bool.and_false, iRange1, iRange2, rBoolC, cReprB, cRepr, isBox, oEqS, rMethK, byOrd, kN, ixN_30]
        exact ⟨⟨_, rfl⟩, ⟨_, rfl⟩, ⟨_, rfl⟩, h (0, y, z) mo5 (btn z30 y0 z0) (hW5.mono (by omega))⟩
      · simp only [rRet, rRetN, rSeq, rNext, rIfS, rAsg, rDrop, rOwn, rPar, rApp, rNever, rBrk, rCont, dEnds, rV, rC, r2, r1, rTup, rLst, rLstM, rCons, rNil, rStar, rA, rB, rT, rNot, rAnd, rOr, rIf, rIfT, rAndV, rOrV, rNotV, rChain, rIxO, rIsi, rSlice, rPart, rNoP, rCall, rMeth, rProp, rFld, rSetF, rNewF, rMkP, rMkM, gV, gN0, gCs, gT, gIx, gIxO, oAdd, oSub, oMulI, oDiv, oMod, oPow, oInt, oCmp, oNeg, oIx, oIsN, oNotN, isNon, cLen, cAbs, cInt1, cInt2, cIntI, cStrI, cMax, cMin, cDivmod, cTuple, cList, kO, kN, kB, kI, startE, List.map_cons, List.map_nil, List.length_cons, List.length_nil, Nat.reduceAdd, Nat.reduceSub, Nat.reduceLeDiff, Nat.reduceLT, Nat.zero_lt_succ, List.replicate_succ, List.replicate_zero, List.cons_append, List.nil_append, List.append_nil, List.getElem?_cons_zero, List.getElem?_cons_succ, List.set_cons_zero, List.set_cons_succ, atI_0, atI_1, atI_2, atI_3, atI_4, atI_5, ixN_lit, true_and, and_true, and_self, Bool.false_eq_true, if_true, if_false, reduceIte, reduceCtorEq, mput_same, mput_mput, PySem.sizeLine_eq, truD, TruOk, oEqD, oNeD, deq_int, deq_str, deq_bl, deq_tup, deq_lst, deqs_nil, deqs_cons, deqs_nc, deqs_cn, okD, rYes, iSeq, iTupD, iStrD, iEnumD, iZipD, kL, seqD, rCompE, rCompS, rComp, hideE, rFor, rTup, rKix, rSlo, rLenC, rIsC, kBo, rParO, rPar3, rAug, rJoin, kS, cAll, cAny, kB, oSame, rMkL, Bool.and_true, Bool.true_and, Bool.not_true, Bool.not_false, List.set_nil, Int.cast_ofNat_Int, Int.natCast_zero, Int.natCast_one, bls, Option.map_some, List.all_cons, List.all_nil, id_eq, beq_self_eq_true, Int.reduceBEq, Int.reduceLT, Int.reduceLE, Int.reduceAdd, Int.reduceSub, Int.reduceNeg, decide_true, decide_false, Bool.false_and, Bool.and_false, iRange1, iRange2, rBoolC, cReprB, cRepr, isBox, oEqS, rMethK, byOrd, kN, ixN_31]
        exact ⟨⟨_, rfl⟩, ⟨_, rfl⟩, ⟨_, rfl⟩, h (x, 0, z) mo5 (btn x0 z30 z0) (hW5.mono (by omega))⟩
      · simp only [rRet, rRetN, rSeq, rNext, rIfS, rAsg, rDrop, rOwn, rPar, rApp, rNever, rBrk, rCont, dEnds, rV, rC, r2, r1, rTup, rLst, rLstM, rCons, rNil, rStar, rA, rB, rT, rNot, rAnd, rOr, rIf, rIfT, rAndV, rOrV, rNotV, rChain, rIxO, rIsi, rSlice, rPart, rNoP, rCall, rMeth, rProp, rFld, rSetF, rNewF, rMkP, rMkM, gV, gN0, gCs, gT, gIx, gIxO, oAdd, oSub, oMulI, oDiv, oMod, oPow, oInt, oCmp, oNeg, oIx, oIsN, oNotN, isNon, cLen, cAbs, cInt1, cInt2, cIntI, cStrI, cMax, cMin, cDivmod, cTuple, cList, kO, kN, kB, kI, startE, List.map_cons, List.map_nil, List.length_cons, List.length_nil, Nat.reduceAdd, Nat.reduceSub, Nat.reduceLeDiff, Nat.reduceLT, Nat.zero_lt_succ, List.replicate_succ, List.replicate_zero, List.cons_append, List.nil_append, List.append_nil, List.getElem?_cons_zero, List.getElem?_cons_succ, List.set_cons_zero, List.set_cons_succ, atI_0, atI_1, atI_2, atI_3, atI_4, atI_5, ixN_lit, true_and, and_true, and_self, Bool.false_eq_true, if_true, if_false, reduceIte, reduceCtorEq, mput_same, mput_mput, PySem.sizeLine_eq, truD, TruOk, oEqD, oNeD, deq_int, deq_str, deq_bl, deq_tup, deq_lst, deqs_nil, deqs_cons, deqs_nc, deqs_cn, okD, rYes, iSeq, iTupD, iStrD, iEnumD, iZipD, kL, seqD, rCompE, rCompS, rComp, hideE, rFor, rTup, rKix, rSlo, rLenC, rIsC, kBo, rParO, rPar3, rAug, rJoin, kS, cAll, cAny, kB, oSame, rMkL, Bool.and_true, Bool.true_and, Bool.not_true, Bool.not_false, List.set_nil, Int.cast_ofNat_Int, Int.natCast_zero, Int.natCast_one, bls, Option.map_some, List.all_cons, List.all_nil, id_eq, beq_self_eq_true, Int.reduceBEq, Int.reduceLT, Int.reduceLE, Int.reduceAdd, Int.reduceSub, Int.reduceNeg, decide_true, decide_false, Bool.false_and, Bool.and_false, iRange1, iRange2, rBoolC, cReprB, cRepr, isBox, oEqS, rMethK, byOrd, kN, ixN_32]
        exact ⟨⟨_, rfl⟩, ⟨_, rfl⟩, ⟨_, rfl⟩, h (x, y, 0) mo5 (btn x0 y0 z30) (hW5.mono (by omega))⟩
    · have hw2 : (way == 1) = false := by rw [beq_eq_false_iff_ne]; exact hw1
      simp only [rRet, rRetN, rSeq, rNext, rIfS, rAsg, rDrop, rOwn, rPar, rApp, rNever, rBrk, rCont, dEnds, rV, rC, r2, r1, rTup, rLst, rLstM, rCons, rNil, rStar, rA, rB, rT, rNot, rAnd, rOr, rIf, rIfT, rAndV, rOrV, rNotV, rChain, rIxO, rIsi, rSlice, rPart, rNoP, rCall, rMeth, rProp, rFld, rSetF, rNewF, rMkP, rMkM, gV, gN0, gCs, gT, gIx, gIxO, oAdd, oSub, oMulI, oDiv, oMod, oPow, oInt, oCmp, oNeg, oIx, oIsN, oNotN, isNon, cLen, cAbs, cInt1, cInt2, cIntI, cStrI, cMax, cMin, cDivmod, cTuple, cList, kO, kN, kB, kI, startE, List.map_cons, List.map_nil, List.length_cons, List.length_nil, Nat.reduceAdd, Nat.reduceSub, Nat.reduceLeDiff, Nat.reduceLT, Nat.zero_lt_succ, List.replicate_succ, List.replicate_zero, List.cons_append, List.nil_append, List.append_nil, List.getElem?_cons_zero, List.getElem?_cons_succ, List.set_cons_zero, List.set_cons_succ, atI_0, atI_1, atI_2, atI_3, atI_4, atI_5, ixN_lit, true_and, and_true, and_self, Bool.false_eq_true, if_true, if_false, reduceIte, reduceCtorEq, mput_same, mput_mput, PySem.sizeLine_eq, truD, TruOk, oEqD, oNeD, deq_int, deq_str, deq_bl, deq_tup, deq_lst, deqs_nil, deqs_cons, deqs_nc, deqs_cn, okD, rYes, iSeq, iTupD, iStrD, iEnumD, iZipD, kL, seqD, rCompE, rCompS, rComp, hideE, rFor, rTup, rKix, rSlo, rLenC, rIsC, kBo, rParO, rPar3, rAug, rJoin, kS, cAll, cAny, kB, oSame, rMkL, Bool.and_true, Bool.true_and, Bool.not_true, Bool.not_false, List.set_nil, Int.cast_ofNat_Int, Int.natCast_zero, Int.natCast_one, bls, Option.map_some, List.all_cons, List.all_nil, id_eq, beq_self_eq_true, Int.reduceBEq, Int.reduceLT, Int.reduceLE, Int.reduceAdd, Int.reduceSub, Int.reduceNeg, decide_true, decide_false, Bool.false_and, Bool.and_false, iRange1, iRange2, rBoolC, cReprB, cRepr, isBox, oEqS, rMethK, byOrd, hw2]
      exact ⟨⟨_, rfl⟩, ⟨_, rfl⟩, ⟨_, rfl⟩, h (x, y, z) mo4 ⟨x0, y0, z0⟩ (hW4.mono (by omega))⟩
abbrev s__law_join : Stmt := topS 49
theorem sc__law_join : FnScope ["one", "two"] ["one", "two"] (defScope s__law_join) := ⟨rfl, rfl, rfl, by decide +kernel, rfl, by decide +kernel, by decide +kernel⟩
def sp__law_join : DSp := fun ds M q => ∃ m n, ds = [mvD m, mvD n] ∧ Ok m ∧ Ok n ∧ q (mvD (joinM m n)) M
theorem ok__law_join {f c pp : Addr} {fd : FuncData} (F : Fun K "_law_join" "_law_join" s__law_join f fd) (hm : mg "_law_join" = some (.ref f)) (B : Blt mg) : FnG P w K mg base "_law_join" 1 2 sp__law_join := by
  refine fng_mk F hm sc__law_join (fun _ _ _ _ _ _ us hl => match us, hl with | [_, _], _ => rfl) rfl (fun cdv A outer s H E hr => ?_)
  refine ⟨_, (ss_one (s_ret (d_tup (a_cons (d_add (d_ix (dv 0) d_int) (d_ix (dv 1) d_int)) (a_cons (d_add (d_ix (dv 0) d_int) (d_ix (dv 1) d_int)) (a_cons (d_add (d_add (d_ix (dv 0) d_int) (d_ix (dv 1) d_int)) (d_mul (d_ix (dv 0) d_int) (d_ix (dv 1) d_int))) a_nil)))))), fun ds M q hl h => ?_⟩
  obtain ⟨m, n, rfl, h1, h2, h⟩ := h
  simp only [rRet, rRetN, rSeq, rNext, rIfS, rAsg, rDrop, rOwn, rPar, rApp, rNever, rBrk, rCont, dEnds, rV, rC, r2, r1, rTup, rLst, rLstM, rCons, rNil, rStar, rA, rB, rT, rNot, rAnd, rOr, rIf, rIfT, rAndV, rOrV, rNotV, rChain, rIxO, rIsi, rSlice, rPart, rNoP, rCall, rMeth, rProp, rFld, rSetF, rNewF, rMkP, rMkM, gV, gN0, gCs, gT, gIx, gIxO, oAdd, oSub, oMulI, oDiv, oMod, oPow, oInt, oCmp, oNeg, oIx, oIsN, oNotN, isNon, cLen, cAbs, cInt1, cInt2, cIntI, cStrI, cMax, cMin, cDivmod, cTuple, cList, kO, kN, kB, kI, startE, List.map_cons, List.map_nil, List.length_cons, List.length_nil, Nat.reduceAdd, Nat.reduceSub, Nat.reduceLeDiff, Nat.reduceLT, Nat.zero_lt_succ, List.replicate_succ, List.replicate_zero, List.cons_append, List.nil_append, List.append_nil, List.getElem?_cons_zero, List.getElem?_cons_succ, List.set_cons_zero, List.set_cons_succ, atI_0, atI_1, atI_2, atI_3, atI_4, atI_5, ixN_lit, true_and, and_true, and_self, Bool.false_eq_true, if_true, if_false, reduceIte, reduceCtorEq, mput_same, mput_mput, PySem.sizeLine_eq, truD, TruOk, oEqD, oNeD, deq_int, deq_str, deq_bl, deq_tup, deq_lst, deqs_nil, deqs_cons, deqs_nc, deqs_cn, okD, rYes, iSeq, iTupD, iStrD, iEnumD, iZipD, kL, seqD, rCompE, rCompS, rComp, hideE, rFor, rTup, rKix, rSlo, rLenC, rIsC, kBo, rParO, rPar3, rAug, rJoin, kS, cAll, cAny, kB, oSame, rMkL, Bool.and_true, Bool.true_and, Bool.not_true, Bool.not_false, List.set_nil, Int.cast_ofNat_Int, Int.natCast_zero, Int.natCast_one, bls, Option.map_some, List.all_cons, List.all_nil, id_eq, beq_self_eq_true, Int.reduceBEq, Int.reduceLT, Int.reduceLE, Int.reduceAdd, Int.reduceSub, Int.reduceNeg, decide_true, decide_false, Bool.false_and, Bool.and_false, iRange1, iRange2, rBoolC, cReprB, cRepr, isBox, oEqS, rMethK, byOrd, mvD]
  exact ⟨Ok.mul h1.1 h2.2.1, h⟩
abbrev s__law_many : Stmt := topS 50
theorem sc__law_many : FnScope ["one", "count_here", "x", "y", "s"] ["one", "count_here"] (defScope s__law_many) := ⟨rfl, rfl, rfl, by decide +kernel, rfl, by decide +kernel, by decide +kernel⟩
def sp__law_many : DSp := fun ds M q => ∃ m t, ds = [mvD m, .int t] ∧ Ok m ∧ t.natAbs ≤ lim ∧ q (mvD (manyM m t)) M
theorem ok__law_many {f c pp : Addr} {fd : FuncData} (F : Fun K "_law_many" "_law_many" s__law_many f fd) (hm : mg "_law_many" = some (.ref f)) (B : Blt mg) : FnG P w K mg base "_law_many" 1 2 sp__law_many := by
  refine fng_mk F hm sc__law_many (fun _ _ _ _ _ _ us hl => match us, hl with | [_, _], _ => rfl) rfl (fun cdv A outer s H E hr => ?_)
  refine ⟨_, (ss_cons (s_asg (dv 0) (g_tup rfl (gs_cons (g_name (vs := [2, 3, 4]) 2 sc__law_many.nd) (gs_cons (g_name (vs := [2, 3, 4]) 3 sc__law_many.nd) (gs_cons (g_name (vs := [2, 3, 4]) 4 sc__law_many.nd) gs_nil)))))
    (ss_one (s_ret (d_tup (a_cons (d_mul (dv 1) (dv 2)) (a_cons (d_mul (dv 1) (dv 3)) (a_cons (d_add (d_mul (dv 1) (dv 4)) (d_mul (d_mul (d_div (d_mul (dv 1) (d_sub (dv 1) d_int)) d_int) (dv 2)) (dv 3))) a_nil))))))), fun ds M q hl h => ?_⟩
  obtain ⟨m, t, rfl, h1, h2, h⟩ := h
  have hw := many_ok h1 h2
  simp only [rRet, rRetN, rSeq, rNext, rIfS, rAsg, rDrop, rOwn, rPar, rApp, rNever, rBrk, rCont, dEnds, rV, rC, r2, r1, rTup, rLst, rLstM, rCons, rNil, rStar, rA, rB, rT, rNot, rAnd, rOr, rIf, rIfT, rAndV, rOrV, rNotV, rChain, rIxO, rIsi, rSlice, rPart, rNoP, rCall, rMeth, rProp, rFld, rSetF, rNewF, rMkP, rMkM, gV, gN0, gCs, gT, gIx, gIxO, oAdd, oSub, oMulI, oDiv, oMod, oPow, oInt, oCmp, oNeg, oIx, oIsN, oNotN, isNon, cLen, cAbs, cInt1, cInt2, cIntI, cStrI, cMax, cMin, cDivmod, cTuple, cList, kO, kN, kB, kI, startE, List.map_cons, List.map_nil, List.length_cons, List.length_nil, Nat.reduceAdd, Nat.reduceSub, Nat.reduceLeDiff, Nat.reduceLT, Nat.zero_lt_succ, List.replicate_succ, List.replicate_zero, List.cons_append, List.nil_append, List.append_nil, List.getElem?_cons_zero, List.getElem?_cons_succ, List.set_cons_zero, List.set_cons_succ, atI_0, atI_1, atI_2, atI_3, atI_4, atI_5, ixN_lit, true_and, and_true, and_self, Bool.false_eq_true, if_true, if_false, reduceIte, reduceCtorEq, mput_same, mput_mput, PySem.sizeLine_eq, truD, TruOk, oEqD, oNeD, deq_int, deq_str, deq_bl, deq_tup, deq_lst, deqs_nil, deqs_cons, deqs_nc, deqs_cn, okD, rYes, iSeq, iTupD, iStrD, iEnumD, iZipD, kL, seqD, rCompE, rCompS, rComp, hideE, rFor, rTup, rKix, rSlo, rLenC, rIsC, kBo, rParO, rPar3, rAug, rJoin, kS, cAll, cAny, kB, oSame, rMkL, Bool.and_true, Bool.true_and, Bool.not_true, Bool.not_false, List.set_nil, Int.cast_ofNat_Int, Int.natCast_zero, Int.natCast_one, bls, Option.map_some, List.all_cons, List.all_nil, id_eq, beq_self_eq_true, Int.reduceBEq, Int.reduceLT, Int.reduceLE, Int.reduceAdd, Int.reduceSub, Int.reduceNeg, decide_true, decide_false, Bool.false_and, Bool.and_false, iRange1, iRange2, rBoolC, cReprB, cRepr, isBox, oEqS, rMethK, byOrd, mvD]
  exact ⟨rfl, hw.1, hw.2.1, hw.2.2.1, hw.2.2.2.1, ⟨by decide, by decide +kernel⟩, hw.2.2.2.2.1, hw.2.2.2.2.2, h⟩
abbrev s__law_buttons : Stmt := topS 51
theorem sc__law_buttons : FnScope ["well", "turn", "way", "found", "x", "y", "high", "many", "s"] ["well"] (defScope s__law_buttons) := ⟨rfl, rfl, rfl, by decide +kernel, rfl, by decide +kernel, by decide +kernel⟩
def sp__law_buttons : DSp := fun ds M q => ∃ (a : Addr) (mo : MO) (n : Nat), ds = [.ref a] ∧ M a = some mo ∧ W n mo ∧ n ≤ 700000 ∧ ∀ (bs : List Mv) (mo' : MO), BtnsOk bs → W (n + 200) mo' → q (.tup (bs.map mvD)) (mput M a mo')
theorem ok__law_buttons {f c pp : Addr} {fd : FuncData} (F : Fun K "_law_buttons" "_law_buttons" s__law_buttons f fd) (hm : mg "_law_buttons" = some (.ref f)) (B : Blt mg) (g__law_dip : FnG P w K mg base "_law_dip" 1 2 sp__law_dip) (g__law_drawn : FnG P w K mg base "_law_drawn" 3 1 sp__law_drawn) : FnG P w K mg base "_law_buttons" 4 1 sp__law_buttons := by
  refine fng_mk F hm sc__law_buttons (fun _ _ _ _ _ _ us hl => match us, hl with | [_], _ => rfl) rfl (fun cdv A outer s H E hr => ?_)
  refine ⟨_, (ss_cons (s_parVO 2 3 rfl sc__law_buttons.nd (d_call g__law_dip (hr.mono (by first | decide | omega)) rfl (a_cons (dv 0) (a_cons d_int a_nil))) a_nil)
    (ss_cons (s_par3 4 5 6 rfl sc__law_buttons.nd (a_cons (d_sub (d_call g__law_dip (hr.mono (by first | decide | omega)) rfl (a_cons (dv 0) (a_cons d_int a_nil))) d_int) (a_cons (d_sub (d_call g__law_dip (hr.mono (by first | decide | omega)) rfl (a_cons (dv 0) (a_cons d_int a_nil))) d_int) (a_cons (d_ix (d_lst (a_cons d_int (a_cons d_int (a_cons d_int (a_cons d_int (a_cons d_int (a_cons d_int a_nil))))))) (dv 2)) a_nil))))
    (ss_cons (s_for PassesOwn.never rfl (i_range1 rfl (B "range" (by decide +kernel)) (a_cons (d_add d_int (d_call g__law_dip (hr.mono (by first | decide | omega)) rfl (a_cons (dv 0) (a_cons d_int a_nil)))) a_nil)) (g_name (vs := [1]) 1 sc__law_buttons.nd) (ss_cons (s_par 7 8 rfl sc__law_buttons.nd (a_cons (d_sub (d_call g__law_dip (hr.mono (by first | decide | omega)) rfl (a_cons (dv 0) (a_cons d_int a_nil))) d_int) (a_cons (d_sub (d_call g__law_dip (hr.mono (by first | decide | omega)) rfl (a_cons (dv 0) (a_cons (d_mul d_int (dv 6)) a_nil))) (dv 6)) a_nil)))
    (ss_one (s_if (t_cm (c_eq hr.units) (dv 2) d_int) (ss_one (s_app 3 (d_tup (a_cons (d_mul (dv 7) (dv 4)) (a_cons (d_mul (dv 7) (dv 5)) (a_cons (dv 8) a_nil)))))) (ss_one (s_if (t_cm (c_eq hr.units) (dv 2) d_int) (ss_one (s_app 3 (d_tup (a_cons d_int (a_cons d_int (a_cons (dv 8) a_nil)))))) (ss_one (s_if (t_cm (c_eq hr.units) (dv 2) d_int) (ss_one (s_app 3 (d_call g__law_drawn (hr.mono (by first | decide | omega)) rfl (a_cons (dv 0) a_nil)))) (ss_one (s_app 3 (d_tup (a_cons (d_sub (d_call g__law_dip (hr.mono (by first | decide | omega)) rfl (a_cons (dv 0) (a_cons (d_mul d_int (dv 6)) a_nil))) (dv 6)) (a_cons (d_sub (d_call g__law_dip (hr.mono (by first | decide | omega)) rfl (a_cons (dv 0) (a_cons (d_mul d_int (dv 6)) a_nil))) (dv 6)) (a_cons (dv 8) a_nil))))))))))))))
    (ss_one (s_ret (d_callT b_tuple rfl (B "tuple" (by decide +kernel)) (by decide +kernel) (a_cons (dv 3) a_nil))))))), fun ds M q hl h => ?_⟩
  obtain ⟨a, mo, n, rfl, hM, hW, hn, h⟩ := h
  simp only [rRet, rRetN, rSeq, rNext, rIfS, rAsg, rDrop, rOwn, rPar, rApp, rNever, rBrk, rCont, dEnds, rV, rC, r2, r1, rTup, rLst, rLstM, rCons, rNil, rStar, rA, rB, rT, rNot, rAnd, rOr, rIf, rIfT, rAndV, rOrV, rNotV, rChain, rIxO, rIsi, rSlice, rPart, rNoP, rCall, rMeth, rProp, rFld, rSetF, rNewF, rMkP, rMkM, gV, gN0, gCs, gT, gIx, gIxO, oAdd, oSub, oMulI, oDiv, oMod, oPow, oInt, oCmp, oNeg, oIx, oIsN, oNotN, isNon, cLen, cAbs, cInt1, cInt2, cIntI, cStrI, cMax, cMin, cDivmod, cTuple, cList, kO, kN, kB, kI, startE, List.map_cons, List.map_nil, List.length_cons, List.length_nil, Nat.reduceAdd, Nat.reduceSub, Nat.reduceLeDiff, Nat.reduceLT, Nat.zero_lt_succ, List.replicate_succ, List.replicate_zero, List.cons_append, List.nil_append, List.append_nil, List.getElem?_cons_zero, List.getElem?_cons_succ, List.set_cons_zero, List.set_cons_succ, atI_0, atI_1, atI_2, atI_3, atI_4, atI_5, ixN_lit, true_and, and_true, and_self, Bool.false_eq_true, if_true, if_false, reduceIte, reduceCtorEq, mput_same, mput_mput, PySem.sizeLine_eq, truD, TruOk, oEqD, oNeD, deq_int, deq_str, deq_bl, deq_tup, deq_lst, deqs_nil, deqs_cons, deqs_nc, deqs_cn, okD, rYes, iSeq, iTupD, iStrD, iEnumD, iZipD, kL, seqD, rCompE, rCompS, rComp, hideE, rFor, rTup, rKix, rSlo, rLenC, rIsC, kBo, rParO, rPar3, rAug, rJoin, kS, cAll, cAny, kB, oSame, rMkL, Bool.and_true, Bool.true_and, Bool.not_true, Bool.not_false, List.set_nil, Int.cast_ofNat_Int, Int.natCast_zero, Int.natCast_one, bls, Option.map_some, List.all_cons, List.all_nil, id_eq, beq_self_eq_true, Int.reduceBEq, Int.reduceLT, Int.reduceLE, Int.reduceAdd, Int.reduceSub, Int.reduceNeg, decide_true, decide_false, Bool.false_and, Bool.and_false, iRange1, iRange2, rBoolC, cReprB, cRepr, isBox, oEqS, rMethK, byOrd]
  refine ⟨a, mo, n, 6, rfl, hM, hW, by omega, by decide, by decide, fun way mo1 h0 h1 hW1 => ?_⟩
  simp only [rRet, rRetN, rSeq, rNext, rIfS, rAsg, rDrop, rOwn, rPar, rApp, rNever, rBrk, rCont, dEnds, rV, rC, r2, r1, rTup, rLst, rLstM, rCons, rNil, rStar, rA, rB, rT, rNot, rAnd, rOr, rIf, rIfT, rAndV, rOrV, rNotV, rChain, rIxO, rIsi, rSlice, rPart, rNoP, rCall, rMeth, rProp, rFld, rSetF, rNewF, rMkP, rMkM, gV, gN0, gCs, gT, gIx, gIxO, oAdd, oSub, oMulI, oDiv, oMod, oPow, oInt, oCmp, oNeg, oIx, oIsN, oNotN, isNon, cLen, cAbs, cInt1, cInt2, cIntI, cStrI, cMax, cMin, cDivmod, cTuple, cList, kO, kN, kB, kI, startE, List.map_cons, List.map_nil, List.length_cons, List.length_nil, Nat.reduceAdd, Nat.reduceSub, Nat.reduceLeDiff, Nat.reduceLT, Nat.zero_lt_succ, List.replicate_succ, List.replicate_zero, List.cons_append, List.nil_append, List.append_nil, List.getElem?_cons_zero, List.getElem?_cons_succ, List.set_cons_zero, List.set_cons_succ, atI_0, atI_1, atI_2, atI_3, atI_4, atI_5, ixN_lit, true_and, and_true, and_self, Bool.false_eq_true, if_true, if_false, reduceIte, reduceCtorEq, mput_same, mput_mput, PySem.sizeLine_eq, truD, TruOk, oEqD, oNeD, deq_int, deq_str, deq_bl, deq_tup, deq_lst, deqs_nil, deqs_cons, deqs_nc, deqs_cn, okD, rYes, iSeq, iTupD, iStrD, iEnumD, iZipD, kL, seqD, rCompE, rCompS, rComp, hideE, rFor, rTup, rKix, rSlo, rLenC, rIsC, kBo, rParO, rPar3, rAug, rJoin, kS, cAll, cAny, kB, oSame, rMkL, Bool.and_true, Bool.true_and, Bool.not_true, Bool.not_false, List.set_nil, Int.cast_ofNat_Int, Int.natCast_zero, Int.natCast_one, bls, Option.map_some, List.all_cons, List.all_nil, id_eq, beq_self_eq_true, Int.reduceBEq, Int.reduceLT, Int.reduceLE, Int.reduceAdd, Int.reduceSub, Int.reduceNeg, decide_true, decide_false, Bool.false_and, Bool.and_false, iRange1, iRange2, rBoolC, cReprB, cRepr, isBox, oEqS, rMethK, byOrd]
  refine ⟨a, mo1, n + 1, 9, rfl, mput_same, hW1, by omega, by decide, by decide, fun x mo2 x0 x1 hW2 => ?_⟩
  simp only [rRet, rRetN, rSeq, rNext, rIfS, rAsg, rDrop, rOwn, rPar, rApp, rNever, rBrk, rCont, dEnds, rV, rC, r2, r1, rTup, rLst, rLstM, rCons, rNil, rStar, rA, rB, rT, rNot, rAnd, rOr, rIf, rIfT, rAndV, rOrV, rNotV, rChain, rIxO, rIsi, rSlice, rPart, rNoP, rCall, rMeth, rProp, rFld, rSetF, rNewF, rMkP, rMkM, gV, gN0, gCs, gT, gIx, gIxO, oAdd, oSub, oMulI, oDiv, oMod, oPow, oInt, oCmp, oNeg, oIx, oIsN, oNotN, isNon, cLen, cAbs, cInt1, cInt2, cIntI, cStrI, cMax, cMin, cDivmod, cTuple, cList, kO, kN, kB, kI, startE, List.map_cons, List.map_nil, List.length_cons, List.length_nil, Nat.reduceAdd, Nat.reduceSub, Nat.reduceLeDiff, Nat.reduceLT, Nat.zero_lt_succ, List.replicate_succ, List.replicate_zero, List.cons_append, List.nil_append, List.append_nil, List.getElem?_cons_zero, List.getElem?_cons_succ, List.set_cons_zero, List.set_cons_succ, atI_0, atI_1, atI_2, atI_3, atI_4, atI_5, ixN_lit, true_and, and_true, and_self, Bool.false_eq_true, if_true, if_false, reduceIte, reduceCtorEq, mput_same, mput_mput, PySem.sizeLine_eq, truD, TruOk, oEqD, oNeD, deq_int, deq_str, deq_bl, deq_tup, deq_lst, deqs_nil, deqs_cons, deqs_nc, deqs_cn, okD, rYes, iSeq, iTupD, iStrD, iEnumD, iZipD, kL, seqD, rCompE, rCompS, rComp, hideE, rFor, rTup, rKix, rSlo, rLenC, rIsC, kBo, rParO, rPar3, rAug, rJoin, kS, cAll, cAny, kB, oSame, rMkL, Bool.and_true, Bool.true_and, Bool.not_true, Bool.not_false, List.set_nil, Int.cast_ofNat_Int, Int.natCast_zero, Int.natCast_one, bls, Option.map_some, List.all_cons, List.all_nil, id_eq, beq_self_eq_true, Int.reduceBEq, Int.reduceLT, Int.reduceLE, Int.reduceAdd, Int.reduceSub, Int.reduceNeg, decide_true, decide_false, Bool.false_and, Bool.and_false, iRange1, iRange2, rBoolC, cReprB, cRepr, isBox, oEqS, rMethK, byOrd]
  refine ⟨a, mo2, n + 2, 9, rfl, mput_same, hW2, by omega, by decide, by decide, fun y mo3 y0 y1 hW3 => ?_⟩
  have key : ∃ hi : Int, atI [D.int 3, D.int 7, D.int 20, D.int 7, D.int 7, D.int 7] way = some (.int hi) ∧ 0 < hi ∧ hi ≤ 20 := by
    rcases below6 h0 h1 with rfl | rfl | rfl | rfl | rfl | rfl
    · exact ⟨_, atI_0 .., by decide, by decide⟩
    · exact ⟨_, atI_1 .., by decide, by decide⟩
    · exact ⟨_, atI_2 .., by decide, by decide⟩
    · exact ⟨_, atI_3 .., by decide, by decide⟩
    · exact ⟨_, atI_4 .., by decide, by decide⟩
    · exact ⟨_, atI_5 .., by decide, by decide⟩
  obtain ⟨hi, e1, hh0, hh1⟩ := key
  simp only [rRet, rRetN, rSeq, rNext, rIfS, rAsg, rDrop, rOwn, rPar, rApp, rNever, rBrk, rCont, dEnds, rV, rC, r2, r1, rTup, rLst, rLstM, rCons, rNil, rStar, rA, rB, rT, rNot, rAnd, rOr, rIf, rIfT, rAndV, rOrV, rNotV, rChain, rIxO, rIsi, rSlice, rPart, rNoP, rCall, rMeth, rProp, rFld, rSetF, rNewF, rMkP, rMkM, gV, gN0, gCs, gT, gIx, gIxO, oAdd, oSub, oMulI, oDiv, oMod, oPow, oInt, oCmp, oNeg, oIx, oIsN, oNotN, isNon, cLen, cAbs, cInt1, cInt2, cIntI, cStrI, cMax, cMin, cDivmod, cTuple, cList, kO, kN, kB, kI, startE, List.map_cons, List.map_nil, List.length_cons, List.length_nil, Nat.reduceAdd, Nat.reduceSub, Nat.reduceLeDiff, Nat.reduceLT, Nat.zero_lt_succ, List.replicate_succ, List.replicate_zero, List.cons_append, List.nil_append, List.append_nil, List.getElem?_cons_zero, List.getElem?_cons_succ, List.set_cons_zero, List.set_cons_succ, atI_0, atI_1, atI_2, atI_3, atI_4, atI_5, ixN_lit, true_and, and_true, and_self, Bool.false_eq_true, if_true, if_false, reduceIte, reduceCtorEq, mput_same, mput_mput, PySem.sizeLine_eq, truD, TruOk, oEqD, oNeD, deq_int, deq_str, deq_bl, deq_tup, deq_lst, deqs_nil, deqs_cons, deqs_nc, deqs_cn, okD, rYes, iSeq, iTupD, iStrD, iEnumD, iZipD, kL, seqD, rCompE, rCompS, rComp, hideE, rFor, rTup, rKix, rSlo, rLenC, rIsC, kBo, rParO, rPar3, rAug, rJoin, kS, cAll, cAny, kB, oSame, rMkL, Bool.and_true, Bool.true_and, Bool.not_true, Bool.not_false, List.set_nil, Int.cast_ofNat_Int, Int.natCast_zero, Int.natCast_one, bls, Option.map_some, List.all_cons, List.all_nil, id_eq, beq_self_eq_true, Int.reduceBEq, Int.reduceLT, Int.reduceLE, Int.reduceAdd, Int.reduceSub, Int.reduceNeg, decide_true, decide_false, Bool.false_and, Bool.and_false, iRange1, iRange2, rBoolC, cReprB, cRepr, isBox, oEqS, rMethK, byOrd, e1]
  refine ⟨a, mo3, n + 3, 5, rfl, mput_same, hW3, by omega, by decide, by decide, fun c mo4 c0 c1 hW4 => ?_⟩
  simp only [rRet, rRetN, rSeq, rNext, rIfS, rAsg, rDrop, rOwn, rPar, rApp, rNever, rBrk, rCont, dEnds, rV, rC, r2, r1, rTup, rLst, rLstM, rCons, rNil, rStar, rA, rB, rT, rNot, rAnd, rOr, rIf, rIfT, rAndV, rOrV, rNotV, rChain, rIxO, rIsi, rSlice, rPart, rNoP, rCall, rMeth, rProp, rFld, rSetF, rNewF, rMkP, rMkM, gV, gN0, gCs, gT, gIx, gIxO, oAdd, oSub, oMulI, oDiv, oMod, oPow, oInt, oCmp, oNeg, oIx, oIsN, oNotN, isNon, cLen, cAbs, cInt1, cInt2, cIntI, cStrI, cMax, cMin, cDivmod, cTuple, cList, kO, kN, kB, kI, startE, List.map_cons, List.map_nil, List.length_cons, List.length_nil, Nat.reduceAdd, Nat.reduceSub, Nat.reduceLeDiff, Nat.reduceLT, Nat.zero_lt_succ, List.replicate_succ, List.replicate_zero, List.cons_append, List.nil_append, List.append_nil, List.getElem?_cons_zero, List.getElem?_cons_succ, List.set_cons_zero, List.set_cons_succ, atI_0, atI_1, atI_2, atI_3, atI_4, atI_5, ixN_lit, true_and, and_true, and_self, Bool.false_eq_true, if_true, if_false, reduceIte, reduceCtorEq, mput_same, mput_mput, PySem.sizeLine_eq, truD, TruOk, oEqD, oNeD, deq_int, deq_str, deq_bl, deq_tup, deq_lst, deqs_nil, deqs_cons, deqs_nc, deqs_cn, okD, rYes, iSeq, iTupD, iStrD, iEnumD, iZipD, kL, seqD, rCompE, rCompS, rComp, hideE, rFor, rTup, rKix, rSlo, rLenC, rIsC, kBo, rParO, rPar3, rAug, rJoin, kS, cAll, cAny, kB, oSame, rMkL, Bool.and_true, Bool.true_and, Bool.not_true, Bool.not_false, List.set_nil, Int.cast_ofNat_Int, Int.natCast_zero, Int.natCast_one, bls, Option.map_some, List.all_cons, List.all_nil, id_eq, beq_self_eq_true, Int.reduceBEq, Int.reduceLT, Int.reduceLE, Int.reduceAdd, Int.reduceSub, Int.reduceNeg, decide_true, decide_false, Bool.false_and, Bool.and_false, iRange1, iRange2, rBoolC, cReprB, cRepr, isBox, oEqS, rMethK, byOrd]
  refine ⟨⟨by omega, by omega⟩, ?_⟩
  obtain ⟨tot, htot⟩ : ∃ t : Nat, t = (1 + c).toNat := ⟨_, rfl⟩
  refine for_ind (fun items st => ∃ (bs : List Mv) (mo5 : MO) (y1 y7 y8 : Sl), items.length + bs.length = tot ∧ (∀ b ∈ bs, IsBtn b) ∧ W (n + 4 + 32 * bs.length) mo5 ∧ st = ⟨[.val (.ref a), y1, .val (.int way), .own (bs.map mvD), .val (.int (x - 4)), .val (.int (y - 4)), .val (.int hi), y7, y8], mput M a mo5⟩) ⟨[], mo4, .no, .no, .no, by rw [range_len, htot]; rfl, by simp, hW4, rfl⟩ ?_ ?_
  · rintro st ⟨bs, mo5, y1, y7, y8, k1, k2, hW5, rfl⟩
    rw [List.length_nil, Nat.zero_add] at k1
    simp only [rRet, rRetN, rSeq, rNext, rIfS, rAsg, rDrop, rOwn, rPar, rApp, rNever, rBrk, rCont, dEnds, rV, rC, r2, r1, rTup, rLst, rLstM, rCons, rNil, rStar, rA, rB, rT, rNot, rAnd, rOr, rIf, rIfT, rAndV, rOrV, rNotV, rChain, rIxO, rIsi, rSlice, rPart, rNoP, rCall, rMeth, rProp, rFld, rSetF, rNewF, rMkP, rMkM, gV, gN0, gCs, gT, gIx, gIxO, oAdd, oSub, oMulI, oDiv, oMod, oPow, oInt, oCmp, oNeg, oIx, oIsN, oNotN, isNon, cLen, cAbs, cInt1, cInt2, cIntI, cStrI, cMax, cMin, cDivmod, cTuple, cList, kO, kN, kB, kI, startE, List.map_cons, List.map_nil, List.length_cons, List.length_nil, Nat.reduceAdd, Nat.reduceSub, Nat.reduceLeDiff, Nat.reduceLT, Nat.zero_lt_succ, List.replicate_succ, List.replicate_zero, List.cons_append, List.nil_append, List.append_nil, List.getElem?_cons_zero, List.getElem?_cons_succ, List.set_cons_zero, List.set_cons_succ, atI_0, atI_1, atI_2, atI_3, atI_4, atI_5, ixN_lit, true_and, and_true, and_self, Bool.false_eq_true, if_true, if_false, reduceIte, reduceCtorEq, mput_same, mput_mput, PySem.sizeLine_eq, truD, TruOk, oEqD, oNeD, deq_int, deq_str, deq_bl, deq_tup, deq_lst, deqs_nil, deqs_cons, deqs_nc, deqs_cn, okD, rYes, iSeq, iTupD, iStrD, iEnumD, iZipD, kL, seqD, rCompE, rCompS, rComp, hideE, rFor, rTup, rKix, rSlo, rLenC, rIsC, kBo, rParO, rPar3, rAug, rJoin, kS, cAll, cAny, kB, oSame, rMkL, Bool.and_true, Bool.true_and, Bool.not_true, Bool.not_false, List.set_nil, Int.cast_ofNat_Int, Int.natCast_zero, Int.natCast_one, bls, Option.map_some, List.all_cons, List.all_nil, id_eq, beq_self_eq_true, Int.reduceBEq, Int.reduceLT, Int.reduceLE, Int.reduceAdd, Int.reduceSub, Int.reduceNeg, decide_true, decide_false, Bool.false_and, Bool.and_false, iRange1, iRange2, rBoolC, cReprB, cRepr, isBox, oEqS, rMethK, byOrd]
    exact h bs mo5 ⟨fun z => by rw [z] at k1; simp at k1; omega, by omega, k2⟩ (hW5.mono (by omega))
  · rintro d ds st L ⟨bs, mo5, y1, y7, y8, k1, k2, hW5, rfl⟩ hL
    rw [List.length_cons] at k1
    have b5 : bs.length ≤ 5 := by omega
    have bl : (bs.map mvD).length < 16777216 := by rw [List.length_map]; omega
    have step : ∀ (m : Mv) (mo6 : MO) (y1 y7 y8 : Sl), IsBtn m → W (n + 4 + 32 * bs.length + 32) mo6 → L ⟨[.val (.ref a), y1, .val (.int way), .own (bs.map mvD ++ [mvD m]), .val (.int (x - 4)), .val (.int (y - 4)), .val (.int hi), y7, y8], mput M a mo6⟩ := fun m mo6 y1 y7 y8 hm hW6 => by
      refine hL _ ⟨bs ++ [m], mo6, y1, y7, y8, by rw [List.length_append, List.length_singleton]; omega, fun b hb => ?_, hW6.mono (by rw [List.length_append, List.length_singleton]; omega), by rw [List.map_append]; rfl⟩
      rcases List.mem_append.mp hb with hb | hb
      · exact k2 b hb
      · rw [List.mem_singleton.mp hb]; exact hm
    have bb : ∀ x : Int, -1000 ≤ x → x ≤ 1000 → x.natAbs ≤ 10 ^ 30 := fun x p q => by omega
    simp only [rRet, rRetN, rSeq, rNext, rIfS, rAsg, rDrop, rOwn, rPar, rApp, rNever, rBrk, rCont, dEnds, rV, rC, r2, r1, rTup, rLst, rLstM, rCons, rNil, rStar, rA, rB, rT, rNot, rAnd, rOr, rIf, rIfT, rAndV, rOrV, rNotV, rChain, rIxO, rIsi, rSlice, rPart, rNoP, rCall, rMeth, rProp, rFld, rSetF, rNewF, rMkP, rMkM, gV, gN0, gCs, gT, gIx, gIxO, oAdd, oSub, oMulI, oDiv, oMod, oPow, oInt, oCmp, oNeg, oIx, oIsN, oNotN, isNon, cLen, cAbs, cInt1, cInt2, cIntI, cStrI, cMax, cMin, cDivmod, cTuple, cList, kO, kN, kB, kI, startE, List.map_cons, List.map_nil, List.length_cons, List.length_nil, Nat.reduceAdd, Nat.reduceSub, Nat.reduceLeDiff, Nat.reduceLT, Nat.zero_lt_succ, List.replicate_succ, List.replicate_zero, List.cons_append, List.nil_append, List.append_nil, List.getElem?_cons_zero, List.getElem?_cons_succ, List.set_cons_zero, List.set_cons_succ, atI_0, atI_1, atI_2, atI_3, atI_4, atI_5, ixN_lit, true_and, and_true, and_self, Bool.false_eq_true, if_true, if_false, reduceIte, reduceCtorEq, mput_same, mput_mput, PySem.sizeLine_eq, truD, TruOk, oEqD, oNeD, deq_int, deq_str, deq_bl, deq_tup, deq_lst, deqs_nil, deqs_cons, deqs_nc, deqs_cn, okD, rYes, iSeq, iTupD, iStrD, iEnumD, iZipD, kL, seqD, rCompE, rCompS, rComp, hideE, rFor, rTup, rKix, rSlo, rLenC, rIsC, kBo, rParO, rPar3, rAug, rJoin, kS, cAll, cAny, kB, oSame, rMkL, Bool.and_true, Bool.true_and, Bool.not_true, Bool.not_false, List.set_nil, Int.cast_ofNat_Int, Int.natCast_zero, Int.natCast_one, bls, Option.map_some, List.all_cons, List.all_nil, id_eq, beq_self_eq_true, Int.reduceBEq, Int.reduceLT, Int.reduceLE, Int.reduceAdd, Int.reduceSub, Int.reduceNeg, decide_true, decide_false, Bool.false_and, Bool.and_false, iRange1, iRange2, rBoolC, cReprB, cRepr, isBox, oEqS, rMethK, byOrd]
    refine ⟨a, mo5, _, 9, rfl, mput_same, hW5, by omega, by decide, by decide, fun many mo6 m0 m1 hW6 => ?_⟩
    simp only [rRet, rRetN, rSeq, rNext, rIfS, rAsg, rDrop, rOwn, rPar, rApp, rNever, rBrk, rCont, dEnds, rV, rC, r2, r1, rTup, rLst, rLstM, rCons, rNil, rStar, rA, rB, rT, rNot, rAnd, rOr, rIf, rIfT, rAndV, rOrV, rNotV, rChain, rIxO, rIsi, rSlice, rPart, rNoP, rCall, rMeth, rProp, rFld, rSetF, rNewF, rMkP, rMkM, gV, gN0, gCs, gT, gIx, gIxO, oAdd, oSub, oMulI, oDiv, oMod, oPow, oInt, oCmp, oNeg, oIx, oIsN, oNotN, isNon, cLen, cAbs, cInt1, cInt2, cIntI, cStrI, cMax, cMin, cDivmod, cTuple, cList, kO, kN, kB, kI, startE, List.map_cons, List.map_nil, List.length_cons, List.length_nil, Nat.reduceAdd, Nat.reduceSub, Nat.reduceLeDiff, Nat.reduceLT, Nat.zero_lt_succ, List.replicate_succ, List.replicate_zero, List.cons_append, List.nil_append, List.append_nil, List.getElem?_cons_zero, List.getElem?_cons_succ, List.set_cons_zero, List.set_cons_succ, atI_0, atI_1, atI_2, atI_3, atI_4, atI_5, ixN_lit, true_and, and_true, and_self, Bool.false_eq_true, if_true, if_false, reduceIte, reduceCtorEq, mput_same, mput_mput, PySem.sizeLine_eq, truD, TruOk, oEqD, oNeD, deq_int, deq_str, deq_bl, deq_tup, deq_lst, deqs_nil, deqs_cons, deqs_nc, deqs_cn, okD, rYes, iSeq, iTupD, iStrD, iEnumD, iZipD, kL, seqD, rCompE, rCompS, rComp, hideE, rFor, rTup, rKix, rSlo, rLenC, rIsC, kBo, rParO, rPar3, rAug, rJoin, kS, cAll, cAny, kB, oSame, rMkL, Bool.and_true, Bool.true_and, Bool.not_true, Bool.not_false, List.set_nil, Int.cast_ofNat_Int, Int.natCast_zero, Int.natCast_one, bls, Option.map_some, List.all_cons, List.all_nil, id_eq, beq_self_eq_true, Int.reduceBEq, Int.reduceLT, Int.reduceLE, Int.reduceAdd, Int.reduceSub, Int.reduceNeg, decide_true, decide_false, Bool.false_and, Bool.and_false, iRange1, iRange2, rBoolC, cReprB, cRepr, isBox, oEqS, rMethK, byOrd]
    refine ⟨mul64 (by decide) (by omega), a, mo6, _, 3 * hi, rfl, mput_same, hW6, by omega, by omega, by omega, fun sv mo7 s0 s1 hW7 => ?_⟩
    simp only [rRet, rRetN, rSeq, rNext, rIfS, rAsg, rDrop, rOwn, rPar, rApp, rNever, rBrk, rCont, dEnds, rV, rC, r2, r1, rTup, rLst, rLstM, rCons, rNil, rStar, rA, rB, rT, rNot, rAnd, rOr, rIf, rIfT, rAndV, rOrV, rNotV, rChain, rIxO, rIsi, rSlice, rPart, rNoP, rCall, rMeth, rProp, rFld, rSetF, rNewF, rMkP, rMkM, gV, gN0, gCs, gT, gIx, gIxO, oAdd, oSub, oMulI, oDiv, oMod, oPow, oInt, oCmp, oNeg, oIx, oIsN, oNotN, isNon, cLen, cAbs, cInt1, cInt2, cIntI, cStrI, cMax, cMin, cDivmod, cTuple, cList, kO, kN, kB, kI, startE, List.map_cons, List.map_nil, List.length_cons, List.length_nil, Nat.reduceAdd, Nat.reduceSub, Nat.reduceLeDiff, Nat.reduceLT, Nat.zero_lt_succ, List.replicate_succ, List.replicate_zero, List.cons_append, List.nil_append, List.append_nil, List.getElem?_cons_zero, List.getElem?_cons_succ, List.set_cons_zero, List.set_cons_succ, atI_0, atI_1, atI_2, atI_3, atI_4, atI_5, ixN_lit, true_and, and_true, and_self, Bool.false_eq_true, if_true, if_false, reduceIte, reduceCtorEq, mput_same, mput_mput, PySem.sizeLine_eq, truD, TruOk, oEqD, oNeD, deq_int, deq_str, deq_bl, deq_tup, deq_lst, deqs_nil, deqs_cons, deqs_nc, deqs_cn, okD, rYes, iSeq, iTupD, iStrD, iEnumD, iZipD, kL, seqD, rCompE, rCompS, rComp, hideE, rFor, rTup, rKix, rSlo, rLenC, rIsC, kBo, rParO, rPar3, rAug, rJoin, kS, cAll, cAny, kB, oSame, rMkL, Bool.and_true, Bool.true_and, Bool.not_true, Bool.not_false, List.set_nil, Int.cast_ofNat_Int, Int.natCast_zero, Int.natCast_one, bls, Option.map_some, List.all_cons, List.all_nil, id_eq, beq_self_eq_true, Int.reduceBEq, Int.reduceLT, Int.reduceLE, Int.reduceAdd, Int.reduceSub, Int.reduceNeg, decide_true, decide_false, Bool.false_and, Bool.and_false, iRange1, iRange2, rBoolC, cReprB, cRepr, isBox, oEqS, rMethK, byOrd]
    by_cases w3 : way = 3
    · subst w3
      have p1 : ((many - 4) * (x - 4)).natAbs ≤ 100 := by
        rw [Int.natAbs_mul]
        exact Nat.mul_le_mul (show _ ≤ 10 by omega) (show _ ≤ 10 by omega)
      have p2 : ((many - 4) * (y - 4)).natAbs ≤ 100 := by
        rw [Int.natAbs_mul]
        exact Nat.mul_le_mul (show _ ≤ 10 by omega) (show _ ≤ 10 by omega)
      simp only [rRet, rRetN, rSeq, rNext, rIfS, rAsg, rDrop, rOwn, rPar, rApp, rNever, rBrk, rCont, dEnds, rV, rC, r2, r1, rTup, rLst, rLstM, rCons, rNil, rStar, rA, rB, rT, rNot, rAnd, rOr, rIf, rIfT, rAndV, rOrV, rNotV, rChain, rIxO, rIsi, rSlice, rPart, rNoP, rCall, rMeth, rProp, rFld, rSetF, rNewF, rMkP, rMkM, gV, gN0, gCs, gT, gIx, gIxO, oAdd, oSub, oMulI, oDiv, oMod, oPow, oInt, oCmp, oNeg, oIx, oIsN, oNotN, isNon, cLen, cAbs, cInt1, cInt2, cIntI, cStrI, cMax, cMin, cDivmod, cTuple, cList, kO, kN, kB, kI, startE, List.map_cons, List.map_nil, List.length_cons, List.length_nil, Nat.reduceAdd, Nat.reduceSub, Nat.reduceLeDiff, Nat.reduceLT, Nat.zero_lt_succ, List.replicate_succ, List.replicate_zero, List.cons_append, List.nil_append, List.append_nil, List.getElem?_cons_zero, List.getElem?_cons_succ, List.set_cons_zero, List.set_cons_succ, atI_0, atI_1, atI_2, atI_3, atI_4, atI_5, ixN_lit, true_and, and_true, and_self, Bool.false_eq_true, if_true, if_false, reduceIte, reduceCtorEq, mput_same, mput_mput, PySem.sizeLine_eq, truD, TruOk, oEqD, oNeD, deq_int, deq_str, deq_bl, deq_tup, deq_lst, deqs_nil, deqs_cons, deqs_nc, deqs_cn, okD, rYes, iSeq, iTupD, iStrD, iEnumD, iZipD, kL, seqD, rCompE, rCompS, rComp, hideE, rFor, rTup, rKix, rSlo, rLenC, rIsC, kBo, rParO, rPar3, rAug, rJoin, kS, cAll, cAny, kB, oSame, rMkL, Bool.and_true, Bool.true_and, Bool.not_true, Bool.not_false, List.set_nil, Int.cast_ofNat_Int, Int.natCast_zero, Int.natCast_one, bls, Option.map_some, List.all_cons, List.all_nil, id_eq, beq_self_eq_true, Int.reduceBEq, Int.reduceLT, Int.reduceLE, Int.reduceAdd, Int.reduceSub, Int.reduceNeg, decide_true, decide_false, Bool.false_and, Bool.and_false, iRange1, iRange2, rBoolC, cReprB, cRepr, isBox, oEqS, rMethK, byOrd]
      exact ⟨⟨_, rfl⟩, mul64 (by omega) (by omega), mul64 (by omega) (by omega), bl, step ((many - 4) * (x - 4), (many - 4) * (y - 4), sv - hi) mo7 _ _ _ (btn (Nat.le_trans p1 (by decide)) (Nat.le_trans p2 (by decide)) (bb _ (by omega) (by omega))) (hW7.mono (by omega))⟩
    · have e3 : (way == 3) = false := by rw [beq_eq_false_iff_ne]; exact w3
      by_cases w4 : way = 4
      · subst w4
        simp only [rRet, rRetN, rSeq, rNext, rIfS, rAsg, rDrop, rOwn, rPar, rApp, rNever, rBrk, rCont, dEnds, rV, rC, r2, r1, rTup, rLst, rLstM, rCons, rNil, rStar, rA, rB, rT, rNot, rAnd, rOr, rIf, rIfT, rAndV, rOrV, rNotV, rChain, rIxO, rIsi, rSlice, rPart, rNoP, rCall, rMeth, rProp, rFld, rSetF, rNewF, rMkP, rMkM, gV, gN0, gCs, gT, gIx, gIxO, oAdd, oSub, oMulI, oDiv, oMod, oPow, oInt, oCmp, oNeg, oIx, oIsN, oNotN, isNon, cLen, cAbs, cInt1, cInt2, cIntI, cStrI, cMax, cMin, cDivmod, cTuple, cList, kO, kN, kB, kI, startE, List.map_cons, List.map_nil, List.length_cons, List.length_nil, Nat.reduceAdd, Nat.reduceSub, Nat.reduceLeDiff, Nat.reduceLT, Nat.zero_lt_succ, List.replicate_succ, List.replicate_zero, List.cons_append, List.nil_append, List.append_nil, List.getElem?_cons_zero, List.getElem?_cons_succ, List.set_cons_zero, List.set_cons_succ, atI_0, atI_1, atI_2, atI_3, atI_4, atI_5, ixN_lit, true_and, and_true, and_self, Bool.false_eq_true, if_true, if_false, reduceIte, reduceCtorEq, mput_same, mput_mput, PySem.sizeLine_eq, truD, TruOk, oEqD, oNeD, deq_int, deq_str, deq_bl, deq_tup, deq_lst, deqs_nil, deqs_cons, deqs_nc, deqs_cn, okD, rYes, iSeq, iTupD, iStrD, iEnumD, iZipD, kL, seqD, rCompE, rCompS, rComp, hideE, rFor, rTup, rKix, rSlo, rLenC, rIsC, kBo, rParO, rPar3, rAug, rJoin, kS, cAll, cAny, kB, oSame, rMkL, Bool.and_true, Bool.true_and, Bool.not_true, Bool.not_false, List.set_nil, Int.cast_ofNat_Int, Int.natCast_zero, Int.natCast_one, bls, Option.map_some, List.all_cons, List.all_nil, id_eq, beq_self_eq_true, Int.reduceBEq, Int.reduceLT, Int.reduceLE, Int.reduceAdd, Int.reduceSub, Int.reduceNeg, decide_true, decide_false, Bool.false_and, Bool.and_false, iRange1, iRange2, rBoolC, cReprB, cRepr, isBox, oEqS, rMethK, byOrd]
        exact ⟨⟨_, rfl⟩, bl, step (0, 0, sv - hi) mo7 _ _ _ (btn z30 z30 (bb _ (by omega) (by omega))) (hW7.mono (by omega))⟩
      · have e4 : (way == 4) = false := by rw [beq_eq_false_iff_ne]; exact w4
        by_cases w5 : way = 5
        · subst w5
          simp only [rRet, rRetN, rSeq, rNext, rIfS, rAsg, rDrop, rOwn, rPar, rApp, rNever, rBrk, rCont, dEnds, rV, rC, r2, r1, rTup, rLst, rLstM, rCons, rNil, rStar, rA, rB, rT, rNot, rAnd, rOr, rIf, rIfT, rAndV, rOrV, rNotV, rChain, rIxO, rIsi, rSlice, rPart, rNoP, rCall, rMeth, rProp, rFld, rSetF, rNewF, rMkP, rMkM, gV, gN0, gCs, gT, gIx, gIxO, oAdd, oSub, oMulI, oDiv, oMod, oPow, oInt, oCmp, oNeg, oIx, oIsN, oNotN, isNon, cLen, cAbs, cInt1, cInt2, cIntI, cStrI, cMax, cMin, cDivmod, cTuple, cList, kO, kN, kB, kI, startE, List.map_cons, List.map_nil, List.length_cons, List.length_nil, Nat.reduceAdd, Nat.reduceSub, Nat.reduceLeDiff, Nat.reduceLT, Nat.zero_lt_succ, List.replicate_succ, List.replicate_zero, List.cons_append, List.nil_append, List.append_nil, List.getElem?_cons_zero, List.getElem?_cons_succ, List.set_cons_zero, List.set_cons_succ, atI_0, atI_1, atI_2, atI_3, atI_4, atI_5, ixN_lit, true_and, and_true, and_self, Bool.false_eq_true, if_true, if_false, reduceIte, reduceCtorEq, mput_same, mput_mput, PySem.sizeLine_eq, truD, TruOk, oEqD, oNeD, deq_int, deq_str, deq_bl, deq_tup, deq_lst, deqs_nil, deqs_cons, deqs_nc, deqs_cn, okD, rYes, iSeq, iTupD, iStrD, iEnumD, iZipD, kL, seqD, rCompE, rCompS, rComp, hideE, rFor, rTup, rKix, rSlo, rLenC, rIsC, kBo, rParO, rPar3, rAug, rJoin, kS, cAll, cAny, kB, oSame, rMkL, Bool.and_true, Bool.true_and, Bool.not_true, Bool.not_false, List.set_nil, Int.cast_ofNat_Int, Int.natCast_zero, Int.natCast_one, bls, Option.map_some, List.all_cons, List.all_nil, id_eq, beq_self_eq_true, Int.reduceBEq, Int.reduceLT, Int.reduceLE, Int.reduceAdd, Int.reduceSub, Int.reduceNeg, decide_true, decide_false, Bool.false_and, Bool.and_false, iRange1, iRange2, rBoolC, cReprB, cRepr, isBox, oEqS, rMethK, byOrd]
          refine ⟨⟨_, rfl⟩, a, mo7, _, rfl, mput_same, hW7, by omega, fun m mo8 hm hW8 => ?_⟩
          simp only [rRet, rRetN, rSeq, rNext, rIfS, rAsg, rDrop, rOwn, rPar, rApp, rNever, rBrk, rCont, dEnds, rV, rC, r2, r1, rTup, rLst, rLstM, rCons, rNil, rStar, rA, rB, rT, rNot, rAnd, rOr, rIf, rIfT, rAndV, rOrV, rNotV, rChain, rIxO, rIsi, rSlice, rPart, rNoP, rCall, rMeth, rProp, rFld, rSetF, rNewF, rMkP, rMkM, gV, gN0, gCs, gT, gIx, gIxO, oAdd, oSub, oMulI, oDiv, oMod, oPow, oInt, oCmp, oNeg, oIx, oIsN, oNotN, isNon, cLen, cAbs, cInt1, cInt2, cIntI, cStrI, cMax, cMin, cDivmod, cTuple, cList, kO, kN, kB, kI, startE, List.map_cons, List.map_nil, List.length_cons, List.length_nil, Nat.reduceAdd, Nat.reduceSub, Nat.reduceLeDiff, Nat.reduceLT, Nat.zero_lt_succ, List.replicate_succ, List.replicate_zero, List.cons_append, List.nil_append, List.append_nil, List.getElem?_cons_zero, List.getElem?_cons_succ, List.set_cons_zero, List.set_cons_succ, atI_0, atI_1, atI_2, atI_3, atI_4, atI_5, ixN_lit, true_and, and_true, and_self, Bool.false_eq_true, if_true, if_false, reduceIte, reduceCtorEq, mput_same, mput_mput, PySem.sizeLine_eq, truD, TruOk, oEqD, oNeD, deq_int, deq_str, deq_bl, deq_tup, deq_lst, deqs_nil, deqs_cons, deqs_nc, deqs_cn, okD, rYes, iSeq, iTupD, iStrD, iEnumD, iZipD, kL, seqD, rCompE, rCompS, rComp, hideE, rFor, rTup, rKix, rSlo, rLenC, rIsC, kBo, rParO, rPar3, rAug, rJoin, kS, cAll, cAny, kB, oSame, rMkL, Bool.and_true, Bool.true_and, Bool.not_true, Bool.not_false, List.set_nil, Int.cast_ofNat_Int, Int.natCast_zero, Int.natCast_one, bls, Option.map_some, List.all_cons, List.all_nil, id_eq, beq_self_eq_true, Int.reduceBEq, Int.reduceLT, Int.reduceLE, Int.reduceAdd, Int.reduceSub, Int.reduceNeg, decide_true, decide_false, Bool.false_and, Bool.and_false, iRange1, iRange2, rBoolC, cReprB, cRepr, isBox, oEqS, rMethK, byOrd]
          exact ⟨bl, step m mo8 _ _ _ hm (hW8.mono (by omega))⟩
        · have e5 : (way == 5) = false := by rw [beq_eq_false_iff_ne]; exact w5
          simp only [rRet, rRetN, rSeq, rNext, rIfS, rAsg, rDrop, rOwn, rPar, rApp, rNever, rBrk, rCont, dEnds, rV, rC, r2, r1, rTup, rLst, rLstM, rCons, rNil, rStar, rA, rB, rT, rNot, rAnd, rOr, rIf, rIfT, rAndV, rOrV, rNotV, rChain, rIxO, rIsi, rSlice, rPart, rNoP, rCall, rMeth, rProp, rFld, rSetF, rNewF, rMkP, rMkM, gV, gN0, gCs, gT, gIx, gIxO, oAdd, oSub, oMulI, oDiv, oMod, oPow, oInt, oCmp, oNeg, oIx, oIsN, oNotN, isNon, cLen, cAbs, cInt1, cInt2, cIntI, cStrI, cMax, cMin, cDivmod, cTuple, cList, kO, kN, kB, kI, startE, List.map_cons, List.map_nil, List.length_cons, List.length_nil, Nat.reduceAdd, Nat.reduceSub, Nat.reduceLeDiff, Nat.reduceLT, Nat.zero_lt_succ, List.replicate_succ, List.replicate_zero, List.cons_append, List.nil_append, List.append_nil, List.getElem?_cons_zero, List.getElem?_cons_succ, List.set_cons_zero, List.set_cons_succ, atI_0, atI_1, atI_2, atI_3, atI_4, atI_5, ixN_lit, true_and, and_true, and_self, Bool.false_eq_true, if_true, if_false, reduceIte, reduceCtorEq, mput_same, mput_mput, PySem.sizeLine_eq, truD, TruOk, oEqD, oNeD, deq_int, deq_str, deq_bl, deq_tup, deq_lst, deqs_nil, deqs_cons, deqs_nc, deqs_cn, okD, rYes, iSeq, iTupD, iStrD, iEnumD, iZipD, kL, seqD, rCompE, rCompS, rComp, hideE, rFor, rTup, rKix, rSlo, rLenC, rIsC, kBo, rParO, rPar3, rAug, rJoin, kS, cAll, cAny, kB, oSame, rMkL, Bool.and_true, Bool.true_and, Bool.not_true, Bool.not_false, List.set_nil, Int.cast_ofNat_Int, Int.natCast_zero, Int.natCast_one, bls, Option.map_some, List.all_cons, List.all_nil, id_eq, beq_self_eq_true, Int.reduceBEq, Int.reduceLT, Int.reduceLE, Int.reduceAdd, Int.reduceSub, Int.reduceNeg, decide_true, decide_false, Bool.false_and, Bool.and_false, iRange1, iRange2, rBoolC, cReprB, cRepr, isBox, oEqS, rMethK, byOrd, e3, e4, e5]
          refine ⟨⟨_, rfl⟩, mul64 (by decide) (by omega), a, mo7, _, 2 * hi, rfl, mput_same, hW7, by omega, by omega, by omega, fun xx mo8 xx0 xx1 hW8 => ?_⟩
          simp only [rRet, rRetN, rSeq, rNext, rIfS, rAsg, rDrop, rOwn, rPar, rApp, rNever, rBrk, rCont, dEnds, rV, rC, r2, r1, rTup, rLst, rLstM, rCons, rNil, rStar, rA, rB, rT, rNot, rAnd, rOr, rIf, rIfT, rAndV, rOrV, rNotV, rChain, rIxO, rIsi, rSlice, rPart, rNoP, rCall, rMeth, rProp, rFld, rSetF, rNewF, rMkP, rMkM, gV, gN0, gCs, gT, gIx, gIxO, oAdd, oSub, oMulI, oDiv, oMod, oPow, oInt, oCmp, oNeg, oIx, oIsN, oNotN, isNon, cLen, cAbs, cInt1, cInt2, cIntI, cStrI, cMax, cMin, cDivmod, cTuple, cList, kO, kN, kB, kI, startE, List.map_cons, List.map_nil, List.length_cons, List.length_nil, Nat.reduceAdd, Nat.reduceSub, Nat.reduceLeDiff, Nat.reduceLT, Nat.zero_lt_succ, List.replicate_succ, List.replicate_zero, List.cons_append, List.nil_append, List.append_nil, List.getElem?_cons_zero, List.getElem?_cons_succ, List.set_cons_zero, List.set_cons_succ, atI_0, atI_1, atI_2, atI_3, atI_4, atI_5, ixN_lit, true_and, and_true, and_self, Bool.false_eq_true, if_true, if_false, reduceIte, reduceCtorEq, mput_same, mput_mput, PySem.sizeLine_eq, truD, TruOk, oEqD, oNeD, deq_int, deq_str, deq_bl, deq_tup, deq_lst, deqs_nil, deqs_cons, deqs_nc, deqs_cn, okD, rYes, iSeq, iTupD, iStrD, iEnumD, iZipD, kL, seqD, rCompE, rCompS, rComp, hideE, rFor, rTup, rKix, rSlo, rLenC, rIsC, kBo, rParO, rPar3, rAug, rJoin, kS, cAll, cAny, kB, oSame, rMkL, Bool.and_true, Bool.true_and, Bool.not_true, Bool.not_false, List.set_nil, Int.cast_ofNat_Int, Int.natCast_zero, Int.natCast_one, bls, Option.map_some, List.all_cons, List.all_nil, id_eq, beq_self_eq_true, Int.reduceBEq, Int.reduceLT, Int.reduceLE, Int.reduceAdd, Int.reduceSub, Int.reduceNeg, decide_true, decide_false, Bool.false_and, Bool.and_false, iRange1, iRange2, rBoolC, cReprB, cRepr, isBox, oEqS, rMethK, byOrd]
          refine ⟨mul64 (by decide) (by omega), a, mo8, _, 2 * hi, rfl, mput_same, hW8, by omega, by omega, by omega, fun yy mo9 yy0 yy1 hW9 => ?_⟩
          simp only [rRet, rRetN, rSeq, rNext, rIfS, rAsg, rDrop, rOwn, rPar, rApp, rNever, rBrk, rCont, dEnds, rV, rC, r2, r1, rTup, rLst, rLstM, rCons, rNil, rStar, rA, rB, rT, rNot, rAnd, rOr, rIf, rIfT, rAndV, rOrV, rNotV, rChain, rIxO, rIsi, rSlice, rPart, rNoP, rCall, rMeth, rProp, rFld, rSetF, rNewF, rMkP, rMkM, gV, gN0, gCs, gT, gIx, gIxO, oAdd, oSub, oMulI, oDiv, oMod, oPow, oInt, oCmp, oNeg, oIx, oIsN, oNotN, isNon, cLen, cAbs, cInt1, cInt2, cIntI, cStrI, cMax, cMin, cDivmod, cTuple, cList, kO, kN, kB, kI, startE, List.map_cons, List.map_nil, List.length_cons, List.length_nil, Nat.reduceAdd, Nat.reduceSub, Nat.reduceLeDiff, Nat.reduceLT, Nat.zero_lt_succ, List.replicate_succ, List.replicate_zero, List.cons_append, List.nil_append, List.append_nil, List.getElem?_cons_zero, List.getElem?_cons_succ, List.set_cons_zero, List.set_cons_succ, atI_0, atI_1, atI_2, atI_3, atI_4, atI_5, ixN_lit, true_and, and_true, and_self, Bool.false_eq_true, if_true, if_false, reduceIte, reduceCtorEq, mput_same, mput_mput, PySem.sizeLine_eq, truD, TruOk, oEqD, oNeD, deq_int, deq_str, deq_bl, deq_tup, deq_lst, deqs_nil, deqs_cons, deqs_nc, deqs_cn, okD, rYes, iSeq, iTupD, iStrD, iEnumD, iZipD, kL, seqD, rCompE, rCompS, rComp, hideE, rFor, rTup, rKix, rSlo, rLenC, rIsC, kBo, rParO, rPar3, rAug, rJoin, kS, cAll, cAny, kB, oSame, rMkL, Bool.and_true, Bool.true_and, Bool.not_true, Bool.not_false, List.set_nil, Int.cast_ofNat_Int, Int.natCast_zero, Int.natCast_one, bls, Option.map_some, List.all_cons, List.all_nil, id_eq, beq_self_eq_true, Int.reduceBEq, Int.reduceLT, Int.reduceLE, Int.reduceAdd, Int.reduceSub, Int.reduceNeg, decide_true, decide_false, Bool.false_and, Bool.and_false, iRange1, iRange2, rBoolC, cReprB, cRepr, isBox, oEqS, rMethK, byOrd]
          exact ⟨bl, step (xx - hi, yy - hi, sv - hi) mo9 _ _ _ (btn (bb _ (by omega) (by omega)) (bb _ (by omega) (by omega)) (bb _ (by omega) (by omega))) (hW9.mono (by omega))⟩
def sp__law_drawn_plan (d : Nat) : DSp := fun ds M q => ∃ (a : Addr) (mo : MO) (n size : Nat), ds = [.ref a, .int size, .int d] ∧ M a = some mo ∧ W n mo ∧ n + cP d ≤ 700000 ∧ 1 ≤ size ∧ size ≤ 1000000 ∧ 1 ≤ d ∧ d ≤ 5 ∧ ∀ (p : D) (mo' : MO), PlanOk d size p → W (n + cP d) mo' → q p (mput M a mo')
abbrev s__law_drawn_plan : Stmt := topS 52
theorem sc__law_drawn_plan : FnScope ["well", "size", "deep", "found", "turn", "part"] ["well", "size", "deep"] (defScope s__law_drawn_plan) := ⟨rfl, rfl, rfl, by decide +kernel, rfl, by decide +kernel, by decide +kernel⟩
theorem ok__law_drawn_plan {f c pp : Addr} {fd : FuncData} {k0 dd : Nat} (hk : 6 ≤ k0) (F : Fun K "_law_drawn_plan" "_law_drawn_plan" s__law_drawn_plan f fd) (hm : mg "_law_drawn_plan" = some (.ref f)) (B : Blt mg) (g__law_dip : FnG P w K mg base "_law_dip" 1 2 sp__law_dip) (g__law_one_of : FnG P w K mg base "_law_one_of" 2 2 sp__law_one_of) (g__law_drawn_plan : FnG P w K mg base "_law_drawn_plan" k0 3 (sp__law_drawn_plan dd)) : FnG P w K mg base "_law_drawn_plan" (k0 + 1) 3 (sp__law_drawn_plan (dd + 1)) := by
  refine fng_mk F hm sc__law_drawn_plan (fun _ _ _ _ _ _ us hl => match us, hl with | [_, _, _], _ => rfl) rfl (fun cdv A outer s H E hr => ?_)
  refine ⟨_, (ss_cons (s_own 3 sc__law_drawn_plan.nd a_nil)
    (ss_cons (s_for PassesOwn.never rfl (i_range1 rfl (B "range" (by decide +kernel)) (a_cons (d_call g__law_dip (hr.mono (by first | decide | omega)) rfl (a_cons (dv 0) (a_cons d_int a_nil))) a_nil)) (g_name (vs := [4]) 4 sc__law_drawn_plan.nd) (ss_cons (s_set 5 sc__law_drawn_plan.nd (d_call g__law_dip (hr.mono (by first | decide | omega)) rfl (a_cons (dv 0) (a_cons (dv 1) a_nil))))
    (ss_cons (s_if (t_w (w_and (t_cm c_gt (dv 2) d_int) (w_and1 (t_cm (c_eq hr.units) (d_call g__law_dip (hr.mono (by first | decide | omega)) rfl (a_cons (dv 0) (a_cons d_int a_nil))) d_int)))) (ss_one (s_set 5 sc__law_drawn_plan.nd (d_call g__law_drawn_plan (hr.mono (by first | decide | omega)) rfl (a_cons (dv 0) (a_cons (dv 1) (a_cons (d_sub (dv 2) d_int) a_nil)))))) ss_nil)
    (ss_one (s_app 3 (d_tup (a_cons (dv 5) (a_cons (d_call g__law_one_of (hr.mono (by first | decide | omega)) rfl (a_cons (dv 0) (a_cons (d_lst (a_cons d_int (a_cons d_int (a_cons (d_neg d_int) (a_cons d_int (a_cons (d_neg d_int) (a_cons d_int (a_cons (d_pow d_int d_int) a_nil)))))))) a_nil))) a_nil))))))))
    (ss_one (s_ret (d_callT b_tuple rfl (B "tuple" (by decide +kernel)) (by decide +kernel) (a_cons (dv 3) a_nil)))))), fun ds M q hl h => ?_⟩
  obtain ⟨a, mo, n, size, rfl, hM, hW, hn, hs, hs', hd1, hd, h⟩ := h
  have hc := cP_le (d := dd) (by omega)
  obtain ⟨c, hcc⟩ : ∃ c, c = cP dd := ⟨_, rfl⟩
  have hcd : cP (dd + 1) = 10 + 3 * c := by rw [hcc]; rfl
  rw [hcd] at hn
  simp only [rRet, rRetN, rSeq, rNext, rIfS, rAsg, rDrop, rOwn, rPar, rApp, rNever, rBrk, rCont, dEnds, rV, rC, r2, r1, rTup, rLst, rLstM, rCons, rNil, rStar, rA, rB, rT, rNot, rAnd, rOr, rIf, rIfT, rAndV, rOrV, rNotV, rChain, rIxO, rIsi, rSlice, rPart, rNoP, rCall, rMeth, rProp, rFld, rSetF, rNewF, rMkP, rMkM, gV, gN0, gCs, gT, gIx, gIxO, oAdd, oSub, oMulI, oDiv, oMod, oPow, oInt, oCmp, oNeg, oIx, oIsN, oNotN, isNon, cLen, cAbs, cInt1, cInt2, cIntI, cStrI, cMax, cMin, cDivmod, cTuple, cList, kO, kN, kB, kI, startE, List.map_cons, List.map_nil, List.length_cons, List.length_nil, Nat.reduceAdd, Nat.reduceSub, Nat.reduceLeDiff, Nat.reduceLT, Nat.zero_lt_succ, List.replicate_succ, List.replicate_zero, List.cons_append, List.nil_append, List.append_nil, List.getElem?_cons_zero, List.getElem?_cons_succ, List.set_cons_zero, List.set_cons_succ, atI_0, atI_1, atI_2, atI_3, atI_4, atI_5, ixN_lit, true_and, and_true, and_self, Bool.false_eq_true, if_true, if_false, reduceIte, reduceCtorEq, mput_same, mput_mput, PySem.sizeLine_eq, truD, TruOk, oEqD, oNeD, deq_int, deq_str, deq_bl, deq_tup, deq_lst, deqs_nil, deqs_cons, deqs_nc, deqs_cn, okD, rYes, iSeq, iTupD, iStrD, iEnumD, iZipD, kL, seqD, rCompE, rCompS, rComp, hideE, rFor, rTup, rKix, rSlo, rLenC, rIsC, kBo, rParO, rPar3, rAug, rJoin, kS, cAll, cAny, kB, oSame, rMkL, Bool.and_true, Bool.true_and, Bool.not_true, Bool.not_false, List.set_nil, Int.cast_ofNat_Int, Int.natCast_zero, Int.natCast_one, bls, Option.map_some, List.all_cons, List.all_nil, id_eq, beq_self_eq_true, Int.reduceBEq, Int.reduceLT, Int.reduceLE, Int.reduceAdd, Int.reduceSub, Int.reduceNeg, decide_true, decide_false, Bool.false_and, Bool.and_false, iRange1, iRange2, rBoolC, cReprB, cRepr, isBox, oEqS, rMethK, byOrd]
  refine ⟨a, mo, n, 4, rfl, hM, hW, by omega, by decide, by decide, fun t mo1 t0 t1 hW1 => ?_⟩
  simp only [rRet, rRetN, rSeq, rNext, rIfS, rAsg, rDrop, rOwn, rPar, rApp, rNever, rBrk, rCont, dEnds, rV, rC, r2, r1, rTup, rLst, rLstM, rCons, rNil, rStar, rA, rB, rT, rNot, rAnd, rOr, rIf, rIfT, rAndV, rOrV, rNotV, rChain, rIxO, rIsi, rSlice, rPart, rNoP, rCall, rMeth, rProp, rFld, rSetF, rNewF, rMkP, rMkM, gV, gN0, gCs, gT, gIx, gIxO, oAdd, oSub, oMulI, oDiv, oMod, oPow, oInt, oCmp, oNeg, oIx, oIsN, oNotN, isNon, cLen, cAbs, cInt1, cInt2, cIntI, cStrI, cMax, cMin, cDivmod, cTuple, cList, kO, kN, kB, kI, startE, List.map_cons, List.map_nil, List.length_cons, List.length_nil, Nat.reduceAdd, Nat.reduceSub, Nat.reduceLeDiff, Nat.reduceLT, Nat.zero_lt_succ, List.replicate_succ, List.replicate_zero, List.cons_append, List.nil_append, List.append_nil, List.getElem?_cons_zero, List.getElem?_cons_succ, List.set_cons_zero, List.set_cons_succ, atI_0, atI_1, atI_2, atI_3, atI_4, atI_5, ixN_lit, true_and, and_true, and_self, Bool.false_eq_true, if_true, if_false, reduceIte, reduceCtorEq, mput_same, mput_mput, PySem.sizeLine_eq, truD, TruOk, oEqD, oNeD, deq_int, deq_str, deq_bl, deq_tup, deq_lst, deqs_nil, deqs_cons, deqs_nc, deqs_cn, okD, rYes, iSeq, iTupD, iStrD, iEnumD, iZipD, kL, seqD, rCompE, rCompS, rComp, hideE, rFor, rTup, rKix, rSlo, rLenC, rIsC, kBo, rParO, rPar3, rAug, rJoin, kS, cAll, cAny, kB, oSame, rMkL, Bool.and_true, Bool.true_and, Bool.not_true, Bool.not_false, List.set_nil, Int.cast_ofNat_Int, Int.natCast_zero, Int.natCast_one, bls, Option.map_some, List.all_cons, List.all_nil, id_eq, beq_self_eq_true, Int.reduceBEq, Int.reduceLT, Int.reduceLE, Int.reduceAdd, Int.reduceSub, Int.reduceNeg, decide_true, decide_false, Bool.false_and, Bool.and_false, iRange1, iRange2, rBoolC, cReprB, cRepr, isBox, oEqS, rMethK, byOrd]
  refine ⟨⟨by omega, by omega⟩, ?_⟩
  refine for_ind (fun items st => ∃ (ps : List (D × Int)) (mo2 : MO) (y4 y5 : Sl), items.length + ps.length ≤ 3 ∧ (∀ e ∈ ps, e.2 ≠ 0 ∧ e.2.natAbs ≤ 10 ^ 20 ∧ ((∃ i : Nat, e.1 = .int i ∧ i < size) ∨ PlanOk dd size e.1)) ∧ W (n + 1 + (3 + c) * ps.length) mo2 ∧ st = ⟨[.val (.ref a), .val (.int size), .val (.int ((dd + 1 : Nat) : Int)), .own (ps.map pairD), y4, y5], mput M a mo2⟩) ⟨[], mo1, .no, .no, by rw [range_len]; show t.toNat + 0 ≤ 3; omega, by simp, hW1, rfl⟩ ?_ ?_
  · rintro st ⟨ps, mo2, y4, y5, k1, k2, hW2, rfl⟩
    rw [List.length_nil, Nat.zero_add] at k1
    have k3 := Nat.mul_le_mul_left (3 + c) k1
    simp only [rRet, rRetN, rSeq, rNext, rIfS, rAsg, rDrop, rOwn, rPar, rApp, rNever, rBrk, rCont, dEnds, rV, rC, r2, r1, rTup, rLst, rLstM, rCons, rNil, rStar, rA, rB, rT, rNot, rAnd, rOr, rIf, rIfT, rAndV, rOrV, rNotV, rChain, rIxO, rIsi, rSlice, rPart, rNoP, rCall, rMeth, rProp, rFld, rSetF, rNewF, rMkP, rMkM, gV, gN0, gCs, gT, gIx, gIxO, oAdd, oSub, oMulI, oDiv, oMod, oPow, oInt, oCmp, oNeg, oIx, oIsN, oNotN, isNon, cLen, cAbs, cInt1, cInt2, cIntI, cStrI, cMax, cMin, cDivmod, cTuple, cList, kO, kN, kB, kI, startE, List.map_cons, List.map_nil, List.length_cons, List.length_nil, Nat.reduceAdd, Nat.reduceSub, Nat.reduceLeDiff, Nat.reduceLT, Nat.zero_lt_succ, List.replicate_succ, List.replicate_zero, List.cons_append, List.nil_append, List.append_nil, List.getElem?_cons_zero, List.getElem?_cons_succ, List.set_cons_zero, List.set_cons_succ, atI_0, atI_1, atI_2, atI_3, atI_4, atI_5, ixN_lit, true_and, and_true, and_self, Bool.false_eq_true, if_true, if_false, reduceIte, reduceCtorEq, mput_same, mput_mput, PySem.sizeLine_eq, truD, TruOk, oEqD, oNeD, deq_int, deq_str, deq_bl, deq_tup, deq_lst, deqs_nil, deqs_cons, deqs_nc, deqs_cn, okD, rYes, iSeq, iTupD, iStrD, iEnumD, iZipD, kL, seqD, rCompE, rCompS, rComp, hideE, rFor, rTup, rKix, rSlo, rLenC, rIsC, kBo, rParO, rPar3, rAug, rJoin, kS, cAll, cAny, kB, oSame, rMkL, Bool.and_true, Bool.true_and, Bool.not_true, Bool.not_false, List.set_nil, Int.cast_ofNat_Int, Int.natCast_zero, Int.natCast_one, bls, Option.map_some, List.all_cons, List.all_nil, id_eq, beq_self_eq_true, Int.reduceBEq, Int.reduceLT, Int.reduceLE, Int.reduceAdd, Int.reduceSub, Int.reduceNeg, decide_true, decide_false, Bool.false_and, Bool.and_false, iRange1, iRange2, rBoolC, cReprB, cRepr, isBox, oEqS, rMethK, byOrd]
    exact h _ mo2 ⟨ps, rfl, k1, k2⟩ (hW2.mono (by omega))
  · rintro d ds st L ⟨ps, mo2, y4, y5, k1, k2, hW2, rfl⟩ hL
    rw [List.length_cons] at k1
    have k3 := Nat.mul_le_mul_left (3 + c) (show ps.length ≤ 2 by omega)
    have bl : (ps.map pairD).length < 16777216 := by rw [List.length_map]; omega
    have step : ∀ (p : D) (mo3 : MO) (m : Nat), m + 1 ≤ n + 1 + (3 + c) * ps.length + (3 + c) → W m mo3 → ((∃ i : Nat, p = .int i ∧ i < size) ∨ PlanOk dd size p) → sp__law_one_of [.ref a, .lst [.int 1, .int 1, .int (-1), .int 2, .int (-3), .int 7, .int (10 ^ Int.toNat 20)]] (mput M a mo3) fun r M' => (ps.map pairD).length < 16777216 ∧ L ⟨[.val (.ref a), .val (.int size), .val (.int ((dd + 1 : Nat) : Int)), .own (ps.map pairD ++ [.tup [p, r]]), .val d, .val p], M'⟩ := fun p mo3 m hm hW3 hp => by
      refine ⟨a, mo3, m, _, _, rfl, mput_same, hW3, by omega, rfl, by simp, by simp, fun x mo4 hx hW4 => ?_⟩
      have hx' : ∃ t : Int, x = .int t ∧ t ≠ 0 ∧ t.natAbs ≤ 10 ^ 20 := by
        simp only [List.mem_cons, List.not_mem_nil, or_false] at hx
        rcases hx with rfl | rfl | rfl | rfl | rfl | rfl | rfl <;> exact ⟨_, rfl, by decide, by decide⟩
      obtain ⟨t, rfl, ht, ht'⟩ := hx'
      rw [mput_mput]
      refine ⟨bl, hL _ ⟨ps ++ [(p, t)], mo4, _, _, by rw [List.length_append, List.length_singleton]; omega, fun e he => ?_, hW4.mono (by rw [List.length_append, List.length_singleton, Nat.mul_succ]; omega), by rw [List.map_append]; rfl⟩⟩
      rcases List.mem_append.mp he with he | he
      · exact k2 e he
      · rw [List.mem_singleton.mp he]; exact ⟨ht, ht', hp⟩
    simp only [rRet, rRetN, rSeq, rNext, rIfS, rAsg, rDrop, rOwn, rPar, rApp, rNever, rBrk, rCont, dEnds, rV, rC, r2, r1, rTup, rLst, rLstM, rCons, rNil, rStar, rA, rB, rT, rNot, rAnd, rOr, rIf, rIfT, rAndV, rOrV, rNotV, rChain, rIxO, rIsi, rSlice, rPart, rNoP, rCall, rMeth, rProp, rFld, rSetF, rNewF, rMkP, rMkM, gV, gN0, gCs, gT, gIx, gIxO, oAdd, oSub, oMulI, oDiv, oMod, oPow, oInt, oCmp, oNeg, oIx, oIsN, oNotN, isNon, cLen, cAbs, cInt1, cInt2, cIntI, cStrI, cMax, cMin, cDivmod, cTuple, cList, kO, kN, kB, kI, startE, List.map_cons, List.map_nil, List.length_cons, List.length_nil, Nat.reduceAdd, Nat.reduceSub, Nat.reduceLeDiff, Nat.reduceLT, Nat.zero_lt_succ, List.replicate_succ, List.replicate_zero, List.cons_append, List.nil_append, List.append_nil, List.getElem?_cons_zero, List.getElem?_cons_succ, List.set_cons_zero, List.set_cons_succ, atI_0, atI_1, atI_2, atI_3, atI_4, atI_5, ixN_lit, true_and, and_true, and_self, Bool.false_eq_true, if_true, if_false, reduceIte, reduceCtorEq, mput_same, mput_mput, PySem.sizeLine_eq, truD, TruOk, oEqD, oNeD, deq_int, deq_str, deq_bl, deq_tup, deq_lst, deqs_nil, deqs_cons, deqs_nc, deqs_cn, okD, rYes, iSeq, iTupD, iStrD, iEnumD, iZipD, kL, seqD, rCompE, rCompS, rComp, hideE, rFor, rTup, rKix, rSlo, rLenC, rIsC, kBo, rParO, rPar3, rAug, rJoin, kS, cAll, cAny, kB, oSame, rMkL, Bool.and_true, Bool.true_and, Bool.not_true, Bool.not_false, List.set_nil, Int.cast_ofNat_Int, Int.natCast_zero, Int.natCast_one, bls, Option.map_some, List.all_cons, List.all_nil, id_eq, beq_self_eq_true, Int.reduceBEq, Int.reduceLT, Int.reduceLE, Int.reduceAdd, Int.reduceSub, Int.reduceNeg, decide_true, decide_false, Bool.false_and, Bool.and_false, iRange1, iRange2, rBoolC, cReprB, cRepr, isBox, oEqS, rMethK, byOrd]
    refine ⟨a, mo2, _, size, rfl, mput_same, hW2, by omega, by omega, by omega, fun i mo3 i0 i1 hW3 => ?_⟩
    obtain ⟨j, rfl⟩ := Int.eq_ofNat_of_zero_le i0
    have hc2 : CPow 10 20 := ⟨by decide, by decide, by decide⟩
    by_cases hd0 : dd = 0
    · have e0 : decide ((1 : Int) < ((dd + 1 : Nat) : Int)) = false := by rw [decide_eq_false_iff_not]; omega
      refine iteN e0 ⟨⟨_, rfl⟩, hc2, ?_⟩
      rw [mput_mput]
      exact step (.int j) mo3 _ (by omega) hW3 (.inl ⟨j, rfl, by omega⟩)
    · have e0 : decide ((1 : Int) < ((dd + 1 : Nat) : Int)) = true := by rw [decide_eq_true_eq]; omega
      refine iteY e0 ?_
      refine ⟨a, mo3, _, 3, rfl, mput_same, hW3, by omega, by decide, by decide, fun z mo4 z0 z1 hW4 => ⟨rfl, ?_⟩⟩
      by_cases hz : z = 0
      · refine iteY (by rw [deq_int, hz]; rfl) ?_
        have e1 : ((dd + 1 : Nat) : Int) - 1 = (dd : Int) := by omega
        rw [e1]
        refine ⟨a, mo4, _, size, rfl, mput_same, hW4, by omega, hs, hs', by omega, by omega, fun p mo5 hp hW5 => ⟨⟨_, rfl⟩, hc2, ?_⟩⟩
        rw [mput_mput, mput_mput, mput_mput]
        rw [← hcc] at hW5
        exact step p mo5 _ (by omega) hW5 (.inr hp)
      · refine iteN (by rw [deq_int, beq_eq_false_iff_ne]; exact hz) ⟨⟨_, rfl⟩, hc2, ?_⟩
        rw [mput_mput, mput_mput]
        exact step (.int j) mo4 _ (by omega) hW4 (.inl ⟨j, rfl, by omega⟩)
def sp__law_planned (d : Nat) : DSp := fun ds M q => ∃ (bs : List Mv) (plan : D), ds = [.tup (bs.map mvD), plan] ∧ (∀ b ∈ bs, IsBtn b) ∧ d ≤ 4 ∧ PlanOk d bs.length plan ∧ q (mvD (meanP d bs plan)) M
abbrev s__law_planned : Stmt := topS 53
theorem sc__law_planned : FnScope ["buttons_here", "thing", "found", "part", "times_here", "one"] ["buttons_here", "thing"] (defScope s__law_planned) := ⟨rfl, rfl, rfl, by decide +kernel, rfl, by decide +kernel, by decide +kernel⟩
theorem ok__law_planned {f c pp : Addr} {fd : FuncData} {k0 dd : Nat} (hk : 6 ≤ k0) (F : Fun K "_law_planned" "_law_planned" s__law_planned f fd) (hm : mg "_law_planned" = some (.ref f)) (B : Blt mg) (g__law_join : FnG P w K mg base "_law_join" 1 2 sp__law_join) (g__law_many : FnG P w K mg base "_law_many" 1 2 sp__law_many) (g__law_planned : FnG P w K mg base "_law_planned" k0 2 (sp__law_planned dd)) : FnG P w K mg base "_law_planned" (k0 + 1) 2 (sp__law_planned (dd + 1)) := by
  refine fng_mk F hm sc__law_planned (fun _ _ _ _ _ _ us hl => match us, hl with | [_, _], _ => rfl) rfl (fun cdv A outer s H E hr => ?_)
  refine ⟨_, (ss_cons (s_set 2 sc__law_planned.nd (d_tup (a_cons d_int (a_cons d_int (a_cons d_int a_nil)))))
    (ss_cons (s_for PassesOwn.never rfl (i_tup (dv 1)) (g_tup rfl (gs_cons (g_name (vs := [3, 4]) 3 sc__law_planned.nd) (gs_cons (g_name (vs := [3, 4]) 4 sc__law_planned.nd) gs_nil))) (ss_cons (s_set 5 sc__law_planned.nd (d_if (t_val (d_isi isi_tup rfl (B "isinstance" (by decide +kernel)) (by decide +kernel) rfl (B "tuple" (by decide +kernel)) (by decide +kernel) (dv 3))) (d_call g__law_planned (hr.mono (by first | decide | omega)) rfl (a_cons (dv 0) (a_cons (dv 3) a_nil))) (d_ix (dv 0) (dv 3))))
    (ss_one (s_set 2 sc__law_planned.nd (d_call g__law_join (hr.mono (by first | decide | omega)) rfl (a_cons (dv 2) (a_cons (d_call g__law_many (hr.mono (by first | decide | omega)) rfl (a_cons (dv 5) (a_cons (dv 4) a_nil))) a_nil)))))))
    (ss_one (s_ret (dv 2))))), fun ds M q hl h => ?_⟩
  obtain ⟨bs, plan, rfl, hB, hd, ⟨ps, rfl, hl, hp⟩, h⟩ := h
  rw [meanP_tup] at h
  have hbd := part_bd (bs := bs) (n := bs.length) hB dd
  have hBp : 3 * (2 * 10 ^ 20 * BpN dd) ≤ lim := BpN_small (by omega)
  simp only [rRet, rRetN, rSeq, rNext, rIfS, rAsg, rDrop, rOwn, rPar, rApp, rNever, rBrk, rCont, dEnds, rV, rC, r2, r1, rTup, rLst, rLstM, rCons, rNil, rStar, rA, rB, rT, rNot, rAnd, rOr, rIf, rIfT, rAndV, rOrV, rNotV, rChain, rIxO, rIsi, rSlice, rPart, rNoP, rCall, rMeth, rProp, rFld, rSetF, rNewF, rMkP, rMkM, gV, gN0, gCs, gT, gIx, gIxO, oAdd, oSub, oMulI, oDiv, oMod, oPow, oInt, oCmp, oNeg, oIx, oIsN, oNotN, isNon, cLen, cAbs, cInt1, cInt2, cIntI, cStrI, cMax, cMin, cDivmod, cTuple, cList, kO, kN, kB, kI, startE, List.map_cons, List.map_nil, List.length_cons, List.length_nil, Nat.reduceAdd, Nat.reduceSub, Nat.reduceLeDiff, Nat.reduceLT, Nat.zero_lt_succ, List.replicate_succ, List.replicate_zero, List.cons_append, List.nil_append, List.append_nil, List.getElem?_cons_zero, List.getElem?_cons_succ, List.set_cons_zero, List.set_cons_succ, atI_0, atI_1, atI_2, atI_3, atI_4, atI_5, ixN_lit, true_and, and_true, and_self, Bool.false_eq_true, if_true, if_false, reduceIte, reduceCtorEq, mput_same, mput_mput, PySem.sizeLine_eq, truD, TruOk, oEqD, oNeD, deq_int, deq_str, deq_bl, deq_tup, deq_lst, deqs_nil, deqs_cons, deqs_nc, deqs_cn, okD, rYes, iSeq, iTupD, iStrD, iEnumD, iZipD, kL, seqD, rCompE, rCompS, rComp, hideE, rFor, rTup, rKix, rSlo, rLenC, rIsC, kBo, rParO, rPar3, rAug, rJoin, kS, cAll, cAny, kB, oSame, rMkL, Bool.and_true, Bool.true_and, Bool.not_true, Bool.not_false, List.set_nil, Int.cast_ofNat_Int, Int.natCast_zero, Int.natCast_one, bls, Option.map_some, List.all_cons, List.all_nil, id_eq, beq_self_eq_true, Int.reduceBEq, Int.reduceLT, Int.reduceLE, Int.reduceAdd, Int.reduceSub, Int.reduceNeg, decide_true, decide_false, Bool.false_and, Bool.and_false, iRange1, iRange2, rBoolC, cReprB, cRepr, isBox, oEqS, rMethK, byOrd]
  refine for_ind (fun items st => ∃ (rest : List (D × Int)) (a : Mv) (n : Nat) (y3 y4 y5 : Sl), items = rest.map pairD ∧ n + rest.length ≤ 3 ∧ Bd (n * (2 * 10 ^ 20 * BpN dd)) a ∧ (∀ p ∈ rest, p ∈ ps) ∧ foldP (meanP dd bs) (rest.map pairD) a = foldP (meanP dd bs) (ps.map pairD) PL ∧ st = ⟨[.val (.tup (bs.map mvD)), .val (.tup (ps.map pairD)), .val (mvD a), y3, y4, y5], M⟩) ⟨ps, PL, 0, .no, .no, .no, rfl, by omega, .pl _, fun p h => h, rfl, rfl⟩ ?_ ?_
  · rintro st ⟨rest, a, n, y3, y4, y5, k1, k2, k3, k4, k5, rfl⟩
    cases rest with
    | nil => rw [← k5] at h; exact h
    | cons a r => cases k1
  · rintro d ds st L ⟨rest, a, n, y3, y4, y5, k1, k2, k3, k4, k5, rfl⟩ hL
    cases rest with
    | nil => cases k1
    | cons pt r =>
      obtain ⟨p, t⟩ := pt
      simp only [List.map_cons, List.cons.injEq] at k1
      obtain ⟨rfl, rfl⟩ := k1
      obtain ⟨q1, q2, q3⟩ := hp (p, t) (k4 _ List.mem_cons_self)
      have hm : Bd (BpN dd) (meanP dd bs p) := hbd p q3
      rw [List.length_cons] at k2
      have hmany : Bd (2 * 10 ^ 20 * BpN dd) (manyM (meanP dd bs p) t) := hm.many q2 (by decide)
      have l1 : BpN dd ≤ lim := Nat.le_trans (by omega) hBp
      have l2 : 2 * 10 ^ 20 * BpN dd ≤ lim := Nat.le_trans (by omega) hBp
      have l3 : n * (2 * 10 ^ 20 * BpN dd) ≤ lim := Nat.le_trans (Nat.mul_le_mul_right _ (by omega)) hBp
      have go : ∀ (y : Sl), sp__law_many [mvD (meanP dd bs p), .int t] M fun d' M' => sp__law_join [mvD a, d'] M' fun d2 M2 => L ⟨[.val (.tup (bs.map mvD)), .val (.tup (ps.map pairD)), .val d2, .val p, .val (.int t), y], M2⟩ := fun y => by
        refine ⟨_, t, rfl, hm.ok l1, Nat.le_trans q2 ten20_small, a, _, rfl, k3.ok l3, hmany.ok l2, ?_⟩
        exact hL _ ⟨r, joinM a (manyM (meanP dd bs p) t), n + 1, .val p, .val (.int t), y, rfl, by omega, by have h9 := k3.join hmany; rwa [← Nat.succ_mul] at h9, fun x hx => k4 x (List.mem_cons_of_mem _ hx), k5, rfl⟩
      rcases q3 with ⟨i, hi, hi2⟩ | q3
      · have hi : p = .int i := hi
        subst hi
        have h3 : atI (bs.map mvD) ((i : Nat) : Int) = some (mvD (meanP dd bs (.int i))) := by
          rw [meanP_int, show ((i : Nat) : Int).toNat = i from rfl, List.getD_eq_getElem?_getD, List.getElem?_eq_getElem hi2]; exact atI_nat (j := i) (by rw [List.getElem?_map, List.getElem?_eq_getElem hi2]; rfl)
        simp only [rRet, rRetN, rSeq, rNext, rIfS, rAsg, rDrop, rOwn, rPar, rApp, rNever, rBrk, rCont, dEnds, rV, rC, r2, r1, rTup, rLst, rLstM, rCons, rNil, rStar, rA, rB, rT, rNot, rAnd, rOr, rIf, rIfT, rAndV, rOrV, rNotV, rChain, rIxO, rIsi, rSlice, rPart, rNoP, rCall, rMeth, rProp, rFld, rSetF, rNewF, rMkP, rMkM, gV, gN0, gCs, gT, gIx, gIxO, oAdd, oSub, oMulI, oDiv, oMod, oPow, oInt, oCmp, oNeg, oIx, oIsN, oNotN, isNon, cLen, cAbs, cInt1, cInt2, cIntI, cStrI, cMax, cMin, cDivmod, cTuple, cList, kO, kN, kB, kI, startE, List.map_cons, List.map_nil, List.length_cons, List.length_nil, Nat.reduceAdd, Nat.reduceSub, Nat.reduceLeDiff, Nat.reduceLT, Nat.zero_lt_succ, List.replicate_succ, List.replicate_zero, List.cons_append, List.nil_append, List.append_nil, List.getElem?_cons_zero, List.getElem?_cons_succ, List.set_cons_zero, List.set_cons_succ, atI_0, atI_1, atI_2, atI_3, atI_4, atI_5, ixN_lit, true_and, and_true, and_self, Bool.false_eq_true, if_true, if_false, reduceIte, reduceCtorEq, mput_same, mput_mput, PySem.sizeLine_eq, truD, TruOk, oEqD, oNeD, deq_int, deq_str, deq_bl, deq_tup, deq_lst, deqs_nil, deqs_cons, deqs_nc, deqs_cn, okD, rYes, iSeq, iTupD, iStrD, iEnumD, iZipD, kL, seqD, rCompE, rCompS, rComp, hideE, rFor, rTup, rKix, rSlo, rLenC, rIsC, kBo, rParO, rPar3, rAug, rJoin, kS, cAll, cAny, kB, oSame, rMkL, Bool.and_true, Bool.true_and, Bool.not_true, Bool.not_false, List.set_nil, Int.cast_ofNat_Int, Int.natCast_zero, Int.natCast_one, bls, Option.map_some, List.all_cons, List.all_nil, id_eq, beq_self_eq_true, Int.reduceBEq, Int.reduceLT, Int.reduceLE, Int.reduceAdd, Int.reduceSub, Int.reduceNeg, decide_true, decide_false, Bool.false_and, Bool.and_false, iRange1, iRange2, rBoolC, cReprB, cRepr, isBox, oEqS, rMethK, byOrd, pairD, isTup, tyN, Option.isSome_some, h3]
        exact ⟨rfl, go _⟩
      · have ht : ∃ qs, p = .tup qs := by
          cases dd with
          | zero => exact q3.elim
          | succ d => obtain ⟨qs, e, _⟩ := q3; exact ⟨_, e⟩
        obtain ⟨qs, rfl⟩ := ht
        simp only [rRet, rRetN, rSeq, rNext, rIfS, rAsg, rDrop, rOwn, rPar, rApp, rNever, rBrk, rCont, dEnds, rV, rC, r2, r1, rTup, rLst, rLstM, rCons, rNil, rStar, rA, rB, rT, rNot, rAnd, rOr, rIf, rIfT, rAndV, rOrV, rNotV, rChain, rIxO, rIsi, rSlice, rPart, rNoP, rCall, rMeth, rProp, rFld, rSetF, rNewF, rMkP, rMkM, gV, gN0, gCs, gT, gIx, gIxO, oAdd, oSub, oMulI, oDiv, oMod, oPow, oInt, oCmp, oNeg, oIx, oIsN, oNotN, isNon, cLen, cAbs, cInt1, cInt2, cIntI, cStrI, cMax, cMin, cDivmod, cTuple, cList, kO, kN, kB, kI, startE, List.map_cons, List.map_nil, List.length_cons, List.length_nil, Nat.reduceAdd, Nat.reduceSub, Nat.reduceLeDiff, Nat.reduceLT, Nat.zero_lt_succ, List.replicate_succ, List.replicate_zero, List.cons_append, List.nil_append, List.append_nil, List.getElem?_cons_zero, List.getElem?_cons_succ, List.set_cons_zero, List.set_cons_succ, atI_0, atI_1, atI_2, atI_3, atI_4, atI_5, ixN_lit, true_and, and_true, and_self, Bool.false_eq_true, if_true, if_false, reduceIte, reduceCtorEq, mput_same, mput_mput, PySem.sizeLine_eq, truD, TruOk, oEqD, oNeD, deq_int, deq_str, deq_bl, deq_tup, deq_lst, deqs_nil, deqs_cons, deqs_nc, deqs_cn, okD, rYes, iSeq, iTupD, iStrD, iEnumD, iZipD, kL, seqD, rCompE, rCompS, rComp, hideE, rFor, rTup, rKix, rSlo, rLenC, rIsC, kBo, rParO, rPar3, rAug, rJoin, kS, cAll, cAny, kB, oSame, rMkL, Bool.and_true, Bool.true_and, Bool.not_true, Bool.not_false, List.set_nil, Int.cast_ofNat_Int, Int.natCast_zero, Int.natCast_one, bls, Option.map_some, List.all_cons, List.all_nil, id_eq, beq_self_eq_true, Int.reduceBEq, Int.reduceLT, Int.reduceLE, Int.reduceAdd, Int.reduceSub, Int.reduceNeg, decide_true, decide_false, Bool.false_and, Bool.and_false, iRange1, iRange2, rBoolC, cReprB, cRepr, isBox, oEqS, rMethK, byOrd, pairD, isTup, tyN, Option.isSome_some]
        exact ⟨rfl, bs, _, rfl, hB, by omega, q3, go _⟩
end
end DL

set_option autoImplicit true
set_option Elab.async false
set_option linter.all false
set_option maxRecDepth 100000
set_option maxHeartbeats 400000
namespace DL
open PySem PySem.Spec L2
section
variable {P : Program} {w : World} {K : PySem.W.Frag} {mg : Str → Option Value} {base : Heap}
abbrev s_Walker___len__ : Stmt := inClass (topS 42) 8
theorem sc_Walker___len__ : FnScope ["self"] ["self"] (defScope s_Walker___len__) := ⟨rfl, rfl, rfl, by decide +kernel, rfl, by decide +kernel, by decide +kernel⟩
def sp_Walker_len : DSp := fun ds M q => ∃ a r, ds = [.ref a] ∧ M a = some (walkerM r) ∧ q (.int (r.length : Nat)) M
theorem ok_Walker___len__ {f c : Addr} {fd : FuncData} (F : Fun K "__len__" "Walker.__len__" s_Walker___len__ f fd) (hc : mg "Walker" = some (.ref c)) (hfi : PySem.W.findIn K (.ref c) "__len__" = some (some (.ref f))) (hfn : PySem.W.isFn K (.ref f) = true) (B : Blt mg) (f_road : FldG K mg "Spot" "road") (f_spot : FldG K mg "Walker" "spot") : SpG P w K mg base "Walker" "__len__" 1 1 sp_Walker_len := by
  refine spg_mk F hc hfi hfn sc_Walker___len__ (fun _ _ _ _ _ _ us hl => match us, hl with | [_], _ => rfl) rfl (fun cdv A outer s H E hr => ?_)
  refine ⟨_, (ss_one (s_ret (d_callB b_len rfl (B "len" (by decide +kernel)) (by decide +kernel) (a_cons (d_fld ["whole", "road", "ahead"] 1 f_road (d_fld ["spot"] 0 f_spot (dv 0))) a_nil)))), fun ds M q hl h => ?_⟩

  obtain ⟨a, r, rfl, hM, h⟩ := h
  simp only [rRet, rRetN, rSeq, rNext, rIfS, rAsg, rDrop, rOwn, rPar, rApp, rNever, rBrk, rCont, dEnds, rV, rC, r2, r1, rTup, rLst, rLstM, rCons, rNil, rStar, rA, rB, rT, rNot, rAnd, rOr, rIf, rIfT, rAndV, rOrV, rNotV, rChain, rIxO, rIsi, rSlice, rPart, rNoP, rCall, rMeth, rProp, rFld, rSetF, rNewF, rMkP, rMkM, gV, gN0, gCs, gT, gIx, gIxO, oAdd, oSub, oMulI, oDiv, oMod, oPow, oInt, oCmp, oNeg, oIx, oIsN, oNotN, isNon, cLen, cAbs, cInt1, cInt2, cIntI, cStrI, cMax, cMin, cDivmod, cTuple, cList, kO, kN, kB, kI, startE, List.map_cons, List.map_nil, List.length_cons, List.length_nil, Nat.reduceAdd, Nat.reduceSub, Nat.reduceLeDiff, Nat.reduceLT, Nat.zero_lt_succ, List.replicate_succ, List.replicate_zero, List.cons_append, List.nil_append, List.append_nil, List.getElem?_cons_zero, List.getElem?_cons_succ, List.set_cons_zero, List.set_cons_succ, atI_0, atI_1, atI_2, atI_3, atI_4, atI_5, ixN_lit, true_and, and_true, and_self, Bool.false_eq_true, if_true, if_false, reduceIte, reduceCtorEq, mput_same, mput_mput, PySem.sizeLine_eq, truD, TruOk, oEqD, oNeD, deq_int, deq_str, deq_bl, deq_tup, deq_lst, deqs_nil, deqs_cons, deqs_nc, deqs_cn, okD, rYes, iSeq, iTupD, iStrD, iEnumD, iZipD, kL, seqD, rCompE, rCompS, rComp, hideE, rFor, rTup, rKix, rSlo, rLenC, rIsC, kBo, rParO, rPar3, rAug, rJoin, kS, cAll, cAny, kB, oSame, rMkL, Bool.and_true, Bool.true_and, Bool.not_true, Bool.not_false, List.set_nil, Int.cast_ofNat_Int, Int.natCast_zero, Int.natCast_one, bls, Option.map_some, List.all_cons, List.all_nil, id_eq, beq_self_eq_true, Int.reduceBEq, Int.reduceLT, Int.reduceLE, Int.reduceAdd, Int.reduceSub, Int.reduceNeg, decide_true, decide_false, Bool.false_and, Bool.and_false, iRange1, iRange2, rBoolC, cReprB, cRepr, isBox, oEqS, rMethK, byOrd, hM, walkerM, spotD_eq, List.length_map, List.length_reverse]
  exact h
abbrev s_Walker___bool__ : Stmt := inClass (topS 42) 9
theorem sc_Walker___bool__ : FnScope ["self"] ["self"] (defScope s_Walker___bool__) := ⟨rfl, rfl, rfl, by decide +kernel, rfl, by decide +kernel, by decide +kernel⟩
def sp_Walker_bool : DSp := fun ds M q => q (.bl true) M
theorem ok_Walker___bool__ {f c : Addr} {fd : FuncData} (F : Fun K "__bool__" "Walker.__bool__" s_Walker___bool__ f fd) (hc : mg "Walker" = some (.ref c)) (hfi : PySem.W.findIn K (.ref c) "__bool__" = some (some (.ref f))) (hfn : PySem.W.isFn K (.ref f) = true) (B : Blt mg) : SpG P w K mg base "Walker" "__bool__" 1 1 sp_Walker_bool := by
  refine spg_mk F hc hfi hfn sc_Walker___bool__ (fun _ _ _ _ _ _ us hl => match us, hl with | [_], _ => rfl) rfl (fun cdv A outer s H E hr => ?_)
  refine ⟨_, (ss_one (s_ret d_bl)), fun ds M q hl h => ?_⟩

  match ds, hl with
  | [d], _ =>
    simp only [rRet, rRetN, rSeq, rNext, rIfS, rAsg, rDrop, rOwn, rPar, rApp, rNever, rBrk, rCont, dEnds, rV, rC, r2, r1, rTup, rLst, rLstM, rCons, rNil, rStar, rA, rB, rT, rNot, rAnd, rOr, rIf, rIfT, rAndV, rOrV, rNotV, rChain, rIxO, rIsi, rSlice, rPart, rNoP, rCall, rMeth, rProp, rFld, rSetF, rNewF, rMkP, rMkM, gV, gN0, gCs, gT, gIx, gIxO, oAdd, oSub, oMulI, oDiv, oMod, oPow, oInt, oCmp, oNeg, oIx, oIsN, oNotN, isNon, cLen, cAbs, cInt1, cInt2, cIntI, cStrI, cMax, cMin, cDivmod, cTuple, cList, kO, kN, kB, kI, startE, List.map_cons, List.map_nil, List.length_cons, List.length_nil, Nat.reduceAdd, Nat.reduceSub, Nat.reduceLeDiff, Nat.reduceLT, Nat.zero_lt_succ, List.replicate_succ, List.replicate_zero, List.cons_append, List.nil_append, List.append_nil, List.getElem?_cons_zero, List.getElem?_cons_succ, List.set_cons_zero, List.set_cons_succ, atI_0, atI_1, atI_2, atI_3, atI_4, atI_5, ixN_lit, true_and, and_true, and_self, Bool.false_eq_true, if_true, if_false, reduceIte, reduceCtorEq, mput_same, mput_mput, PySem.sizeLine_eq, truD, TruOk, oEqD, oNeD, deq_int, deq_str, deq_bl, deq_tup, deq_lst, deqs_nil, deqs_cons, deqs_nc, deqs_cn, okD, rYes, iSeq, iTupD, iStrD, iEnumD, iZipD, kL, seqD, rCompE, rCompS, rComp, hideE, rFor, rTup, rKix, rSlo, rLenC, rIsC, kBo, rParO, rPar3, rAug, rJoin, kS, cAll, cAny, kB, oSame, rMkL, Bool.and_true, Bool.true_and, Bool.not_true, Bool.not_false, List.set_nil, Int.cast_ofNat_Int, Int.natCast_zero, Int.natCast_one, bls, Option.map_some, List.all_cons, List.all_nil, id_eq, beq_self_eq_true, Int.reduceBEq, Int.reduceLT, Int.reduceLE, Int.reduceAdd, Int.reduceSub, Int.reduceNeg, decide_true, decide_false, Bool.false_and, Bool.and_false, iRange1, iRange2, rBoolC, cReprB, cRepr, isBox, oEqS, rMethK, byOrd]
    exact h
abbrev s__law_shows : Stmt := topS 54
theorem sc__law_shows : FnScope ["walker", "pile", "at", "road"] ["walker", "pile"] (defScope s__law_shows) := ⟨rfl, rfl, rfl, by decide +kernel, rfl, by decide +kernel, by decide +kernel⟩
def sp__law_shows : DSp := fun ds M q => ∃ a r, ds = [.ref a, .lst (pileL r)] ∧ M a = some (walkerM r) ∧ r.length ≤ 1000 ∧ (∀ m ∈ r, Bd (BpN 4) m) ∧ q (.bl true) M
theorem ok__law_shows {f c pp : Addr} {fd : FuncData} (F : Fun K "_law_shows" "_law_shows" s__law_shows f fd) (hm : mg "_law_shows" = some (.ref f)) (B : Blt mg) (bool_Walker : SpG P w K mg base "Walker" "__bool__" 1 1 sp_Walker_bool) (len_Walker : SpG P w K mg base "Walker" "__len__" 1 1 sp_Walker_len) (p_gone : PrG P w K mg base "Walker" "gone" 1 sp_Walker_gone) (p_at : PrG P w K mg base "Walker" "at" 1 sp_Walker_at) : FnW P w K mg base "_law_shows" 3 2 sp__law_shows := by
  refine fnw_mk F hm sc__law_shows (fun _ _ _ _ _ _ us hl => match us, hl with | [_, _], _ => rfl) rfl (fun cdv A outer s H E hgd hr => ?_)
  refine ⟨_, (ss_cons (s_asg (d_ix (dv 1) (d_neg d_int)) (g_tup rfl (gs_cons (g_name (vs := [2, 3]) 2 sc__law_shows.nd) (gs_cons (g_name (vs := [2, 3]) 3 sc__law_shows.nd) gs_nil))))
    (ss_one (s_ret (d_cm c_eqS (d_callB (b_repr hgd hr) rfl (B "repr" (by decide +kernel)) (by decide +kernel) (a_cons (d_lst (a_cons (d_prop p_at (hr.mono (by decide)) (dv 0)) (a_cons (d_prop p_gone (hr.mono (by decide)) (dv 0)) (a_cons (d_lenC len_Walker (hr.mono (by decide)) rfl (B "len" (by decide +kernel)) (dv 0)) (a_cons (d_boolC bool_Walker (hr.mono (by decide)) rfl (B "bool" (by decide +kernel)) (dv 0)) a_nil))))) a_nil)) (d_callB (b_repr hgd hr) rfl (B "repr" (by decide +kernel)) (by decide +kernel) (a_cons (d_lst (a_cons (dv 2) (a_cons (d_callT b_tuple rfl (B "tuple" (by decide +kernel)) (by decide +kernel) (a_cons (dv 3) a_nil)) (a_cons (d_callB b_len rfl (B "len" (by decide +kernel)) (by decide +kernel) (a_cons (dv 3) a_nil)) (a_cons d_bl a_nil))))) a_nil)))))), fun ds M q hl h => ?_⟩
  obtain ⟨a, r, rfl, hM, hl, hb, h⟩ := h
  have hs := shown_ok (whole4s hb hl) (fun m hm => bd4s (hb m hm)) hl
  simp only [rRet, rRetN, rSeq, rNext, rIfS, rAsg, rDrop, rOwn, rPar, rApp, rNever, rBrk, rCont, dEnds, rV, rC, r2, r1, rTup, rLst, rLstM, rCons, rNil, rStar, rA, rB, rT, rNot, rAnd, rOr, rIf, rIfT, rAndV, rOrV, rNotV, rChain, rIxO, rIsi, rSlice, rPart, rNoP, rCall, rMeth, rProp, rFld, rSetF, rNewF, rMkP, rMkM, gV, gN0, gCs, gT, gIx, gIxO, oAdd, oSub, oMulI, oDiv, oMod, oPow, oInt, oCmp, oNeg, oIx, oIsN, oNotN, isNon, cLen, cAbs, cInt1, cInt2, cIntI, cStrI, cMax, cMin, cDivmod, cTuple, cList, kO, kN, kB, kI, startE, List.map_cons, List.map_nil, List.length_cons, List.length_nil, Nat.reduceAdd, Nat.reduceSub, Nat.reduceLeDiff, Nat.reduceLT, Nat.zero_lt_succ, List.replicate_succ, List.replicate_zero, List.cons_append, List.nil_append, List.append_nil, List.getElem?_cons_zero, List.getElem?_cons_succ, List.set_cons_zero, List.set_cons_succ, atI_0, atI_1, atI_2, atI_3, atI_4, atI_5, ixN_lit, true_and, and_true, and_self, Bool.false_eq_true, if_true, if_false, reduceIte, reduceCtorEq, mput_same, mput_mput, PySem.sizeLine_eq, truD, TruOk, oEqD, oNeD, deq_int, deq_str, deq_bl, deq_tup, deq_lst, deqs_nil, deqs_cons, deqs_nc, deqs_cn, okD, rYes, iSeq, iTupD, iStrD, iEnumD, iZipD, kL, seqD, rCompE, rCompS, rComp, hideE, rFor, rTup, rKix, rSlo, rLenC, rIsC, kBo, rParO, rPar3, rAug, rJoin, kS, cAll, cAny, kB, oSame, rMkL, Bool.and_true, Bool.true_and, Bool.not_true, Bool.not_false, List.set_nil, Int.cast_ofNat_Int, Int.natCast_zero, Int.natCast_one, bls, Option.map_some, List.all_cons, List.all_nil, id_eq, beq_self_eq_true, Int.reduceBEq, Int.reduceLT, Int.reduceLE, Int.reduceAdd, Int.reduceSub, Int.reduceNeg, decide_true, decide_false, Bool.false_and, Bool.and_false, iRange1, iRange2, rBoolC, cReprB, cRepr, isBox, oEqS, rMethK, byOrd, pile_last, lastD, rd]
  refine ⟨rfl, insOkW hM, a, r, rfl, hM, insOkW hM, a, r, rfl, hM, insOkW hM, a, r, rfl, hM, ⟨by omega, by have : r.length < 2 ^ 63 := Nat.lt_of_le_of_lt hl (by decide); exact_mod_cast this⟩, insOkW hM, rfl, ?_⟩
  rw [List.length_map, List.length_reverse]
  have e1 := okD_mv 37 (wholeM r)
  have e2 := okD_mvs 36 r.reverse
  refine ⟨⟨by rw [e1, e2]; rfl, hs.2.1, hs.2.2⟩, ⟨by rw [e1]; exact e2, hs.2.1, hs.2.2⟩, ?_⟩
  rw [decide_eq_true rfl]
  exact h
abbrev s__law_deed : Stmt := topS 55
theorem sc__law_deed : FnScope ["well", "walker", "pile", "fresh", "way", "one", "told", "buttons_here", "thing", "at", "road"] ["well", "walker", "pile"] (defScope s__law_deed) := ⟨rfl, rfl, rfl, by decide +kernel, rfl, by decide +kernel, by decide +kernel⟩
def sp__law_deed : DSp := fun ds M q => ∃ (a wk : Addr) (mo : MO) (n : Nat) (r : List Mv), ds = [.ref a, .ref wk, .lst (pileL r)] ∧ M a = some mo ∧ W n mo ∧ n ≤ 500000 ∧ M wk = some (walkerM r) ∧ wk ≠ a ∧ r.length ≤ 500 ∧ (∀ m ∈ r, Bd (BpN 4) m) ∧
  ∀ (r' : List Mv) (mo' : MO), (∀ m ∈ r', Bd (BpN 4) m) → r'.length ≤ r.length + 1 → W (n + 700) mo' → q (.lst (pileL r')) (mput (mput M a mo') wk (walkerM r'))
theorem ok__law_deed {f c pp : Addr} {fd : FuncData} (F : Fun K "_law_deed" "_law_deed" s__law_deed f fd) (hm : mg "_law_deed" = some (.ref f)) (B : Blt mg) (g__law_join : FnG P w K mg base "_law_join" 1 2 sp__law_join) (m_go : MtG P w K mg base "Walker" "go" 4 2 sp_Walker_go) (mkgo : MtK P w K mg base "Walker" "go" 4 2 ["move"] [0] sp_Walker_go) (g__law_drawn : FnG P w K mg base "_law_drawn" 3 1 sp__law_drawn) (m_press : MtG P w K mg base "Walker" "press" 22 3 sp_Walker_press) (mk_Lot : MkL P w K mg base "Lot" 5 okLot) (mkpress : MtK P w K mg base "Walker" "press" 22 3 ["plan", "lot"] [1, 0] sp_Walker_press) (g__law_planned : FnG P w K mg base "_law_planned" 20 2 (sp__law_planned 4)) (g__law_drawn_plan : FnG P w K mg base "_law_drawn_plan" 20 3 (sp__law_drawn_plan 4)) (g__law_buttons : FnG P w K mg base "_law_buttons" 4 1 sp__law_buttons) (m_undo : MtG P w K mg base "Walker" "undo" 1 1 sp_Walker_undo) (g__law_dip : FnG P w K mg base "_law_dip" 1 2 sp__law_dip) : FnG P w K mg base "_law_deed" 23 3 sp__law_deed := by
  refine fng_mk F hm sc__law_deed (fun _ _ _ _ _ _ us hl => match us, hl with | [_, _, _], _ => rfl) rfl (fun cdv A outer s H E hr => ?_)
  refine ⟨_, (ss_cons (s_asg (d_tup (a_cons (d_call g__law_dip (hr.mono (by first | decide | omega)) rfl (a_cons (dv 0) (a_cons d_int a_nil))) (a_cons (d_ix (dv 2) (d_neg d_int)) a_nil))) (g_tup rfl (gs_cons (g_name (vs := [4, 9, 10]) 4 sc__law_deed.nd) (gs_cons (g_tup rfl (gs_cons (g_name (vs := [4, 9, 10]) 9 sc__law_deed.nd) (gs_cons (g_name (vs := [4, 9, 10]) 10 sc__law_deed.nd) gs_nil))) gs_nil))))
    (ss_cons (s_if (t_cm (c_eq hr.units) (dv 4) d_int) (ss_cons (s_if (t_cm (c_eq hr.units) (d_callB b_len rfl (B "len" (by decide +kernel)) (by decide +kernel) (a_cons (dv 2) a_nil)) d_int) (ss_one (s_ret (dv 2))) ss_nil)
    (ss_one (s_ret (d_if (t_cm c_is (d_meth0 m_undo (hr.mono (by decide)) (dv 1)) d_non) (d_slice (dv 2) o_none (o_some (d_neg d_int))) (d_lst a_nil))))) ss_nil)
    (ss_cons (s_if (t_cm c_lt (dv 4) d_int) (ss_cons (s_set 5 sc__law_deed.nd (d_call g__law_drawn (hr.mono (by first | decide | omega)) rfl (a_cons (dv 0) a_nil)))
    (ss_one (s_set 6 sc__law_deed.nd (d_if (t_cm (c_eq hr.units) (dv 4) d_int) (d_meth m_go (hr.mono (by decide)) (dv 1) (a_cons (dv 5) a_nil)) (d_methK mkgo (hr.mono (by decide)) (dv 1) (kw_cons (dv 5) kw_nil)))))) (ss_cons (s_set 7 sc__law_deed.nd (d_call g__law_buttons (hr.mono (by first | decide | omega)) rfl (a_cons (dv 0) a_nil)))
    (ss_cons (s_set 8 sc__law_deed.nd (d_call g__law_drawn_plan (hr.mono (by first | decide | omega)) rfl (a_cons (dv 0) (a_cons (d_callB b_len rfl (B "len" (by decide +kernel)) (by decide +kernel) (a_cons (dv 7) a_nil)) (a_cons d_int a_nil)))))
    (ss_cons (s_set 5 sc__law_deed.nd (d_call g__law_planned (hr.mono (by first | decide | omega)) rfl (a_cons (dv 7) (a_cons (dv 8) a_nil))))
    (ss_one (s_set 6 sc__law_deed.nd (d_if (t_cm (c_eq hr.units) (dv 4) d_int) (d_meth m_press (hr.mono (by decide)) (dv 1) (a_cons (d_mkL mk_Lot (hr.mono (by decide)) rfl (a_cons (dv 7) a_nil)) (a_cons (dv 8) a_nil))) (d_methK mkpress (hr.mono (by decide)) (dv 1) (kw_cons (dv 8) (kw_cons (d_mkL mk_Lot (hr.mono (by decide)) rfl (a_cons (dv 7) a_nil)) kw_nil))))))))))
    (ss_cons (s_set 3 sc__law_deed.nd (d_call g__law_join (hr.mono (by first | decide | omega)) rfl (a_cons (dv 9) (a_cons (dv 5) a_nil))))
    (ss_one (s_ret (d_if (t_cm (c_eq hr.units) (dv 6) (dv 3)) (d_add (dv 2) (d_lst (a_cons (d_tup (a_cons (dv 3) (a_cons (d_add (dv 10) (d_lst (a_cons (dv 5) a_nil))) a_nil))) a_nil))) (d_lst a_nil)))))))), fun ds M q hl h => ?_⟩
  obtain ⟨a, wk, mo, n, r, rfl, hM, hW, hn, hw, hne, hrl, hbr, h⟩ := h
  have hok : Ok (wholeM r) := whole4 hbr (by omega)
  have e1 : ∀ mo, mput M a mo wk = some (walkerM r) := fun mo => by rw [mput_ne hne]; exact hw
  have cls : ∀ (m : Mv), Bd (BpN 4) m → ∀ x ∈ m :: r, Bd (BpN 4) x := fun m hm x hx => by
    rcases List.mem_cons.mp hx with rfl | hx
    · exact hm
    · exact hbr x hx
  have fin : ∀ (m : Mv) (mo' : MO), Bd (BpN 4) m → W (n + 700) mo' → q (.lst (pileL r ++ [.tup [mvD (joinM (wholeM r) m), .lst (r.reverse.map mvD ++ [mvD m])]])) (mput (mput M a mo') wk (walkerM (m :: r))) := fun m mo' hm hW' => by
    have e := h (m :: r) mo' (cls m hm) (Nat.le_refl _) hW'
    rw [pile_cons] at e
    have e2 : lastD (m :: r) = .tup [mvD (joinM (wholeM r) m), .lst (r.reverse.map mvD ++ [mvD m])] := by
      show D.tup [mvD (joinM (wholeM r) m), rd (m :: r)] = _
      rw [rd, rev_cons]
    rw [e2] at e
    exact e
  simp only [rRet, rRetN, rSeq, rNext, rIfS, rAsg, rDrop, rOwn, rPar, rApp, rNever, rBrk, rCont, dEnds, rV, rC, r2, r1, rTup, rLst, rLstM, rCons, rNil, rStar, rA, rB, rT, rNot, rAnd, rOr, rIf, rIfT, rAndV, rOrV, rNotV, rChain, rIxO, rIsi, rSlice, rPart, rNoP, rCall, rMeth, rProp, rFld, rSetF, rNewF, rMkP, rMkM, gV, gN0, gCs, gT, gIx, gIxO, oAdd, oSub, oMulI, oDiv, oMod, oPow, oInt, oCmp, oNeg, oIx, oIsN, oNotN, isNon, cLen, cAbs, cInt1, cInt2, cIntI, cStrI, cMax, cMin, cDivmod, cTuple, cList, kO, kN, kB, kI, startE, List.map_cons, List.map_nil, List.length_cons, List.length_nil, Nat.reduceAdd, Nat.reduceSub, Nat.reduceLeDiff, Nat.reduceLT, Nat.zero_lt_succ, List.replicate_succ, List.replicate_zero, List.cons_append, List.nil_append, List.append_nil, List.getElem?_cons_zero, List.getElem?_cons_succ, List.set_cons_zero, List.set_cons_succ, atI_0, atI_1, atI_2, atI_3, atI_4, atI_5, ixN_lit, true_and, and_true, and_self, Bool.false_eq_true, if_true, if_false, reduceIte, reduceCtorEq, mput_same, mput_mput, PySem.sizeLine_eq, truD, TruOk, oEqD, oNeD, deq_int, deq_str, deq_bl, deq_tup, deq_lst, deqs_nil, deqs_cons, deqs_nc, deqs_cn, okD, rYes, iSeq, iTupD, iStrD, iEnumD, iZipD, kL, seqD, rCompE, rCompS, rComp, hideE, rFor, rTup, rKix, rSlo, rLenC, rIsC, kBo, rParO, rPar3, rAug, rJoin, kS, cAll, cAny, kB, oSame, rMkL, Bool.and_true, Bool.true_and, Bool.not_true, Bool.not_false, List.set_nil, Int.cast_ofNat_Int, Int.natCast_zero, Int.natCast_one, bls, Option.map_some, List.all_cons, List.all_nil, id_eq, beq_self_eq_true, Int.reduceBEq, Int.reduceLT, Int.reduceLE, Int.reduceAdd, Int.reduceSub, Int.reduceNeg, decide_true, decide_false, Bool.false_and, Bool.and_false, iRange1, iRange2, rBoolC, cReprB, cRepr, isBox, oEqS, rMethK, byOrd]
  refine ⟨a, mo, n, 5, rfl, hM, hW, by omega, by decide, by decide, fun way mo1 w0 w1 hW1 => ?_⟩
  simp only [rRet, rRetN, rSeq, rNext, rIfS, rAsg, rDrop, rOwn, rPar, rApp, rNever, rBrk, rCont, dEnds, rV, rC, r2, r1, rTup, rLst, rLstM, rCons, rNil, rStar, rA, rB, rT, rNot, rAnd, rOr, rIf, rIfT, rAndV, rOrV, rNotV, rChain, rIxO, rIsi, rSlice, rPart, rNoP, rCall, rMeth, rProp, rFld, rSetF, rNewF, rMkP, rMkM, gV, gN0, gCs, gT, gIx, gIxO, oAdd, oSub, oMulI, oDiv, oMod, oPow, oInt, oCmp, oNeg, oIx, oIsN, oNotN, isNon, cLen, cAbs, cInt1, cInt2, cIntI, cStrI, cMax, cMin, cDivmod, cTuple, cList, kO, kN, kB, kI, startE, List.map_cons, List.map_nil, List.length_cons, List.length_nil, Nat.reduceAdd, Nat.reduceSub, Nat.reduceLeDiff, Nat.reduceLT, Nat.zero_lt_succ, List.replicate_succ, List.replicate_zero, List.cons_append, List.nil_append, List.append_nil, List.getElem?_cons_zero, List.getElem?_cons_succ, List.set_cons_zero, List.set_cons_succ, atI_0, atI_1, atI_2, atI_3, atI_4, atI_5, ixN_lit, true_and, and_true, and_self, Bool.false_eq_true, if_true, if_false, reduceIte, reduceCtorEq, mput_same, mput_mput, PySem.sizeLine_eq, truD, TruOk, oEqD, oNeD, deq_int, deq_str, deq_bl, deq_tup, deq_lst, deqs_nil, deqs_cons, deqs_nc, deqs_cn, okD, rYes, iSeq, iTupD, iStrD, iEnumD, iZipD, kL, seqD, rCompE, rCompS, rComp, hideE, rFor, rTup, rKix, rSlo, rLenC, rIsC, kBo, rParO, rPar3, rAug, rJoin, kS, cAll, cAny, kB, oSame, rMkL, Bool.and_true, Bool.true_and, Bool.not_true, Bool.not_false, List.set_nil, Int.cast_ofNat_Int, Int.natCast_zero, Int.natCast_one, bls, Option.map_some, List.all_cons, List.all_nil, id_eq, beq_self_eq_true, Int.reduceBEq, Int.reduceLT, Int.reduceLE, Int.reduceAdd, Int.reduceSub, Int.reduceNeg, decide_true, decide_false, Bool.false_and, Bool.and_false, iRange1, iRange2, rBoolC, cReprB, cRepr, isBox, oEqS, rMethK, byOrd, pile_last, lastD, rd]
  refine ⟨rfl, rfl, ?_⟩
  by_cases c0 : way = 0
  · subst c0
    simp only [rRet, rRetN, rSeq, rNext, rIfS, rAsg, rDrop, rOwn, rPar, rApp, rNever, rBrk, rCont, dEnds, rV, rC, r2, r1, rTup, rLst, rLstM, rCons, rNil, rStar, rA, rB, rT, rNot, rAnd, rOr, rIf, rIfT, rAndV, rOrV, rNotV, rChain, rIxO, rIsi, rSlice, rPart, rNoP, rCall, rMeth, rProp, rFld, rSetF, rNewF, rMkP, rMkM, gV, gN0, gCs, gT, gIx, gIxO, oAdd, oSub, oMulI, oDiv, oMod, oPow, oInt, oCmp, oNeg, oIx, oIsN, oNotN, isNon, cLen, cAbs, cInt1, cInt2, cIntI, cStrI, cMax, cMin, cDivmod, cTuple, cList, kO, kN, kB, kI, startE, List.map_cons, List.map_nil, List.length_cons, List.length_nil, Nat.reduceAdd, Nat.reduceSub, Nat.reduceLeDiff, Nat.reduceLT, Nat.zero_lt_succ, List.replicate_succ, List.replicate_zero, List.cons_append, List.nil_append, List.append_nil, List.getElem?_cons_zero, List.getElem?_cons_succ, List.set_cons_zero, List.set_cons_succ, atI_0, atI_1, atI_2, atI_3, atI_4, atI_5, ixN_lit, true_and, and_true, and_self, Bool.false_eq_true, if_true, if_false, reduceIte, reduceCtorEq, mput_same, mput_mput, PySem.sizeLine_eq, truD, TruOk, oEqD, oNeD, deq_int, deq_str, deq_bl, deq_tup, deq_lst, deqs_nil, deqs_cons, deqs_nc, deqs_cn, okD, rYes, iSeq, iTupD, iStrD, iEnumD, iZipD, kL, seqD, rCompE, rCompS, rComp, hideE, rFor, rTup, rKix, rSlo, rLenC, rIsC, kBo, rParO, rPar3, rAug, rJoin, kS, cAll, cAny, kB, oSame, rMkL, Bool.and_true, Bool.true_and, Bool.not_true, Bool.not_false, List.set_nil, Int.cast_ofNat_Int, Int.natCast_zero, Int.natCast_one, bls, Option.map_some, List.all_cons, List.all_nil, id_eq, beq_self_eq_true, Int.reduceBEq, Int.reduceLT, Int.reduceLE, Int.reduceAdd, Int.reduceSub, Int.reduceNeg, decide_true, decide_false, Bool.false_and, Bool.and_false, iRange1, iRange2, rBoolC, cReprB, cRepr, isBox, oEqS, rMethK, byOrd, pile_len]
    cases r with
    | nil =>
      have e := h [] mo1 hbr (by simp) (hW1.mono (by omega))
      rw [mput_self (e1 mo1)] at e
      exact iteY rfl e
    | cons m r =>
      refine iteN (by rw [beq_eq_false_iff_ne, List.length_cons]; omega) ⟨selfW (r := m :: r) (e1 _) (by decide +kernel), wk, m, r, rfl, e1 _, iteY rfl ?_⟩
      rw [pile_cons, cut_last]
      exact h r mo1 (fun x hx => hbr x (List.mem_cons_of_mem _ hx)) (by rw [List.length_cons]; omega) (hW1.mono (by omega))
  · have e0 : (way == 0) = false := by rw [beq_eq_false_iff_ne]; exact c0
    have tail : ∀ (m : Mv) (mo' : MO), Bd (BpN 4) m → W (n + 700) mo' → sp__law_join [mvD (wholeM r), mvD m] (mput (mput M a mo') wk (walkerM (m :: r))) fun d1 M1 => (okD 60 (mvD (wholeM (m :: r))) = true ∧ okD 60 d1 = true) ∧ if deq (mvD (wholeM (m :: r))) d1 = true then (r.reverse.map mvD).length ≤ 16777215 ∧ (pileL r).length ≤ 16777215 ∧ q (.lst (pileL r ++ [.tup [d1, .lst (r.reverse.map mvD ++ [mvD m])]])) M1 else q (.lst []) M1 := fun m mo' hm hW' =>
      ⟨wholeM r, m, rfl, hok, bd4ok hm, ⟨rfl, rfl⟩, iteY (deq_self (okD_mv 58 _)) ⟨by rw [List.length_map, List.length_reverse]; omega, by rw [pile_len]; omega, fin m mo' hm hW'⟩⟩
    have up : ∀ {m : Mv}, IsBtn m → Bd (BpN 4) m := fun hm => hm.bd.mono (BpN_le 4)
    simp only [rRet, rRetN, rSeq, rNext, rIfS, rAsg, rDrop, rOwn, rPar, rApp, rNever, rBrk, rCont, dEnds, rV, rC, r2, r1, rTup, rLst, rLstM, rCons, rNil, rStar, rA, rB, rT, rNot, rAnd, rOr, rIf, rIfT, rAndV, rOrV, rNotV, rChain, rIxO, rIsi, rSlice, rPart, rNoP, rCall, rMeth, rProp, rFld, rSetF, rNewF, rMkP, rMkM, gV, gN0, gCs, gT, gIx, gIxO, oAdd, oSub, oMulI, oDiv, oMod, oPow, oInt, oCmp, oNeg, oIx, oIsN, oNotN, isNon, cLen, cAbs, cInt1, cInt2, cIntI, cStrI, cMax, cMin, cDivmod, cTuple, cList, kO, kN, kB, kI, startE, List.map_cons, List.map_nil, List.length_cons, List.length_nil, Nat.reduceAdd, Nat.reduceSub, Nat.reduceLeDiff, Nat.reduceLT, Nat.zero_lt_succ, List.replicate_succ, List.replicate_zero, List.cons_append, List.nil_append, List.append_nil, List.getElem?_cons_zero, List.getElem?_cons_succ, List.set_cons_zero, List.set_cons_succ, atI_0, atI_1, atI_2, atI_3, atI_4, atI_5, ixN_lit, true_and, and_true, and_self, Bool.false_eq_true, if_true, if_false, reduceIte, reduceCtorEq, mput_same, mput_mput, PySem.sizeLine_eq, truD, TruOk, oEqD, oNeD, deq_int, deq_str, deq_bl, deq_tup, deq_lst, deqs_nil, deqs_cons, deqs_nc, deqs_cn, okD, rYes, iSeq, iTupD, iStrD, iEnumD, iZipD, kL, seqD, rCompE, rCompS, rComp, hideE, rFor, rTup, rKix, rSlo, rLenC, rIsC, kBo, rParO, rPar3, rAug, rJoin, kS, cAll, cAny, kB, oSame, rMkL, Bool.and_true, Bool.true_and, Bool.not_true, Bool.not_false, List.set_nil, Int.cast_ofNat_Int, Int.natCast_zero, Int.natCast_one, bls, Option.map_some, List.all_cons, List.all_nil, id_eq, beq_self_eq_true, Int.reduceBEq, Int.reduceLT, Int.reduceLE, Int.reduceAdd, Int.reduceSub, Int.reduceNeg, decide_true, decide_false, Bool.false_and, Bool.and_false, iRange1, iRange2, rBoolC, cReprB, cRepr, isBox, oEqS, rMethK, byOrd, e0]
    by_cases c3 : way < 3
    · refine iteY (by rw [decide_eq_true_eq]; exact c3) ⟨a, mo1, n + 1, rfl, mput_same, hW1, by omega, fun m mo2 hm hW2 => ?_⟩
      rw [mput_mput]
      by_cases c1 : way = 1
      · refine iteY (by rw [c1]; rfl) ⟨selfW (r := r) (e1 _) (by decide +kernel), wk, r, m, rfl, e1 _, hok, bd4ok (up hm), by omega, ?_⟩
        exact tail m mo2 (up hm) (hW2.mono (by omega))
      · refine iteN (by rw [beq_eq_false_iff_ne]; exact c1) ⟨selfW (r := r) (e1 _) (by decide +kernel), wk, r, m, rfl, e1 _, hok, bd4ok (up hm), by omega, ?_⟩
        exact tail m mo2 (up hm) (hW2.mono (by omega))
    · refine iteN (by rw [decide_eq_false_iff_not]; exact c3) ⟨a, mo1, n + 1, rfl, mput_same, hW1, by omega, fun bs mo2 hB hW2 => ?_⟩
      have hcl : cP 4 = 400 := rfl
      rw [mput_mput]
      refine ⟨a, mo2, _, bs.length, by rw [List.length_map]; rfl, mput_same, hW2, by omega, List.length_pos_iff.mpr hB.1, by have := hB.2.1; omega, by omega, by omega, fun p mo3 hp hW3 => ?_⟩
      have hpb : Bd (BpN 4) (meanP 4 bs p) := part_bd hB.2.2 4 p (.inr hp)
      rw [mput_mput]
      refine ⟨bs, p, rfl, hB.2.2, by omega, hp, ?_⟩
      by_cases c1 : way = 3
      · exact iteY (by rw [c1]; rfl) ⟨selfW (r := r) (e1 _) (by decide +kernel), ⟨bs, rfl, hB⟩, wk, r, bs, p, rfl, e1 _, hok, by omega, hB, hp, tail _ mo3 hpb (hW3.mono (by omega))⟩
      · exact iteN (by rw [beq_eq_false_iff_ne]; exact c1) ⟨selfW (r := r) (e1 _) (by decide +kernel), ⟨bs, rfl, hB⟩, wk, r, bs, p, rfl, e1 _, hok, by omega, hB, hp, tail _ mo3 hpb (hW3.mono (by omega))⟩
abbrev s__law_right : Stmt := topS 56
theorem sc__law_right : FnScope ["well", "turn", "walker", "pile"] ["well"] (defScope s__law_right) := ⟨rfl, rfl, rfl, by decide +kernel, rfl, by decide +kernel, by decide +kernel⟩
def sp__law_right : DSp := fun ds M q => ∃ (a : Addr) (mo : MO), ds = [.ref a] ∧ M a = some mo ∧ W 0 mo ∧ ∀ Z, q (.bl true) Z
theorem ok__law_right {f c pp : Addr} {fd : FuncData} (F : Fun K "_law_right" "_law_right" s__law_right f fd) (hm : mg "_law_right" = some (.ref f)) (B : Blt mg) (w__law_shows : FnW P w K mg base "_law_shows" 3 2 sp__law_shows) (m_undo : MtG P w K mg base "Walker" "undo" 1 1 sp_Walker_undo) (g__law_dip : FnG P w K mg base "_law_dip" 1 2 sp__law_dip) (g_after : FnG P w K mg base "after" 3 1 sp_after) (p_gone : PrG P w K mg base "Walker" "gone" 1 sp_Walker_gone) (p_at : PrG P w K mg base "Walker" "at" 1 sp_Walker_at) (g__law_deed : FnG P w K mg base "_law_deed" 23 3 sp__law_deed) (k_Walker : MkG P w K mg base "Walker" 3 1 sp_Walker___init__) : FnW P w K mg base "_law_right" 24 1 sp__law_right := by
  refine fnw_mk F hm sc__law_right (fun _ _ _ _ _ _ us hl => match us, hl with | [_], _ => rfl) rfl (fun cdv A outer s H E hgd hr => ?_)
  refine ⟨_, (ss_cons (s_par 2 3 rfl sc__law_right.nd (a_cons (d_mkM0 k_Walker (hr.mono (by decide)) rfl) (a_cons (d_lst (a_cons (d_tup (a_cons (d_tup (a_cons d_int (a_cons d_int (a_cons d_int a_nil)))) (a_cons (d_lst a_nil) a_nil))) a_nil)) a_nil)))
    (ss_cons (s_for PassesOwn.never rfl (i_range1 rfl (B "range" (by decide +kernel)) (a_cons (d_add d_int (d_call g__law_dip (hr.mono (by first | decide | omega)) rfl (a_cons (dv 0) (a_cons d_int a_nil)))) a_nil)) (g_name (vs := [1]) 1 sc__law_right.nd) (ss_cons (s_set 3 sc__law_right.nd (d_call g__law_deed (hr.mono (by first | decide | omega)) rfl (a_cons (dv 0) (a_cons (dv 2) (a_cons (dv 3) a_nil)))))
    (ss_one (s_if (t_w (w_or (t_cm (c_eq hr.units) (dv 3) (d_lst a_nil)) (w_or (t_not (t_val (d_callW w__law_shows hgd (hr.mono (by decide)) rfl (a_cons (dv 2) (a_cons (dv 3) a_nil))))) (w_or1 (t_cm (c_ne hr.units) (d_call g_after (hr.mono (by first | decide | omega)) rfl (a_cons (d_prop p_gone (hr.mono (by decide)) (dv 2)) a_nil)) (d_prop p_at (hr.mono (by decide)) (dv 2))))))) (ss_one (s_ret d_bl)) ss_nil))))
    (ss_cons (s_for PassesOwn.never rfl (i_range1 rfl (B "range" (by decide +kernel)) (a_cons (d_sub (d_callB b_len rfl (B "len" (by decide +kernel)) (by decide +kernel) (a_cons (dv 3) a_nil)) d_int) a_nil)) (g_name (vs := [1]) 1 sc__law_right.nd) (ss_cons (s_set 3 sc__law_right.nd (d_slice (dv 3) o_none (o_some (d_neg d_int))))
    (ss_one (s_if (t_w (w_or (t_cm c_isnot (d_meth0 m_undo (hr.mono (by decide)) (dv 2)) d_non) (w_or1 (t_not (t_val (d_callW w__law_shows hgd (hr.mono (by decide)) rfl (a_cons (dv 2) (a_cons (dv 3) a_nil)))))))) (ss_one (s_ret d_bl)) ss_nil))))
    (ss_one (s_ret d_bl))))), fun ds M q hl h => ?_⟩
  obtain ⟨a, mo, rfl, hM, hW, h⟩ := h
  simp only [rRet, rRetN, rSeq, rNext, rIfS, rAsg, rDrop, rOwn, rPar, rApp, rNever, rBrk, rCont, dEnds, rV, rC, r2, r1, rTup, rLst, rLstM, rCons, rNil, rStar, rA, rB, rT, rNot, rAnd, rOr, rIf, rIfT, rAndV, rOrV, rNotV, rChain, rIxO, rIsi, rSlice, rPart, rNoP, rCall, rMeth, rProp, rFld, rSetF, rNewF, rMkP, rMkM, gV, gN0, gCs, gT, gIx, gIxO, oAdd, oSub, oMulI, oDiv, oMod, oPow, oInt, oCmp, oNeg, oIx, oIsN, oNotN, isNon, cLen, cAbs, cInt1, cInt2, cIntI, cStrI, cMax, cMin, cDivmod, cTuple, cList, kO, kN, kB, kI, startE, List.map_cons, List.map_nil, List.length_cons, List.length_nil, Nat.reduceAdd, Nat.reduceSub, Nat.reduceLeDiff, Nat.reduceLT, Nat.zero_lt_succ, List.replicate_succ, List.replicate_zero, List.cons_append, List.nil_append, List.append_nil, List.getElem?_cons_zero, List.getElem?_cons_succ, List.set_cons_zero, List.set_cons_succ, atI_0, atI_1, atI_2, atI_3, atI_4, atI_5, ixN_lit, true_and, and_true, and_self, Bool.false_eq_true, if_true, if_false, reduceIte, reduceCtorEq, mput_same, mput_mput, PySem.sizeLine_eq, truD, TruOk, oEqD, oNeD, deq_int, deq_str, deq_bl, deq_tup, deq_lst, deqs_nil, deqs_cons, deqs_nc, deqs_cn, okD, rYes, iSeq, iTupD, iStrD, iEnumD, iZipD, kL, seqD, rCompE, rCompS, rComp, hideE, rFor, rTup, rKix, rSlo, rLenC, rIsC, kBo, rParO, rPar3, rAug, rJoin, kS, cAll, cAny, kB, oSame, rMkL, Bool.and_true, Bool.true_and, Bool.not_true, Bool.not_false, List.set_nil, Int.cast_ofNat_Int, Int.natCast_zero, Int.natCast_one, bls, Option.map_some, List.all_cons, List.all_nil, id_eq, beq_self_eq_true, Int.reduceBEq, Int.reduceLT, Int.reduceLE, Int.reduceAdd, Int.reduceSub, Int.reduceNeg, decide_true, decide_false, Bool.false_and, Bool.and_false, iRange1, iRange2, rBoolC, cReprB, cRepr, isBox, oEqS, rMethK, byOrd]
  refine fun x hx => ⟨x, rfl, mput_same, rfl, ?_⟩
  rw [mput_mput]
  have hxa : x ≠ a := ne_of_mem hx hM
  refine ⟨a, mo, 0, 8, rfl, by rw [mput_ne (Ne.symm hxa)]; exact hM, hW, by omega, by decide, by decide, fun c mo1 c0 c1 hW1 => ?_⟩
  simp only [rRet, rRetN, rSeq, rNext, rIfS, rAsg, rDrop, rOwn, rPar, rApp, rNever, rBrk, rCont, dEnds, rV, rC, r2, r1, rTup, rLst, rLstM, rCons, rNil, rStar, rA, rB, rT, rNot, rAnd, rOr, rIf, rIfT, rAndV, rOrV, rNotV, rChain, rIxO, rIsi, rSlice, rPart, rNoP, rCall, rMeth, rProp, rFld, rSetF, rNewF, rMkP, rMkM, gV, gN0, gCs, gT, gIx, gIxO, oAdd, oSub, oMulI, oDiv, oMod, oPow, oInt, oCmp, oNeg, oIx, oIsN, oNotN, isNon, cLen, cAbs, cInt1, cInt2, cIntI, cStrI, cMax, cMin, cDivmod, cTuple, cList, kO, kN, kB, kI, startE, List.map_cons, List.map_nil, List.length_cons, List.length_nil, Nat.reduceAdd, Nat.reduceSub, Nat.reduceLeDiff, Nat.reduceLT, Nat.zero_lt_succ, List.replicate_succ, List.replicate_zero, List.cons_append, List.nil_append, List.append_nil, List.getElem?_cons_zero, List.getElem?_cons_succ, List.set_cons_zero, List.set_cons_succ, atI_0, atI_1, atI_2, atI_3, atI_4, atI_5, ixN_lit, true_and, and_true, and_self, Bool.false_eq_true, if_true, if_false, reduceIte, reduceCtorEq, mput_same, mput_mput, PySem.sizeLine_eq, truD, TruOk, oEqD, oNeD, deq_int, deq_str, deq_bl, deq_tup, deq_lst, deqs_nil, deqs_cons, deqs_nc, deqs_cn, okD, rYes, iSeq, iTupD, iStrD, iEnumD, iZipD, kL, seqD, rCompE, rCompS, rComp, hideE, rFor, rTup, rKix, rSlo, rLenC, rIsC, kBo, rParO, rPar3, rAug, rJoin, kS, cAll, cAny, kB, oSame, rMkL, Bool.and_true, Bool.true_and, Bool.not_true, Bool.not_false, List.set_nil, Int.cast_ofNat_Int, Int.natCast_zero, Int.natCast_one, bls, Option.map_some, List.all_cons, List.all_nil, id_eq, beq_self_eq_true, Int.reduceBEq, Int.reduceLT, Int.reduceLE, Int.reduceAdd, Int.reduceSub, Int.reduceNeg, decide_true, decide_false, Bool.false_and, Bool.and_false, iRange1, iRange2, rBoolC, cReprB, cRepr, isBox, oEqS, rMethK, byOrd]
  refine ⟨⟨by omega, by omega⟩, ?_⟩
  refine for_ind (fun items st => ∃ (M1 : Mem) (n : Nat) (r : List Mv) (y1 : Sl), items.length + r.length ≤ 15 ∧ n + 700 * items.length ≤ 20000 ∧ (∃ mo, M1 a = some mo ∧ W n mo) ∧ M1 x = some (walkerM r) ∧ (∀ m ∈ r, Bd (BpN 4) m) ∧ st = ⟨[.val (.ref a), y1, .val (.ref x), .val (.lst (pileL r))], M1⟩) ⟨_, 1, [], .no, by rw [range_len]; simp; omega, by rw [range_len]; omega, ⟨mo1, mput_same, hW1⟩, by rw [mput_ne hxa, mput_same], by simp, rfl⟩ ?_ ?_
  · rintro st ⟨M1, n, r, y1, k1, k2, _, hx1, hb, rfl⟩
    rw [List.length_nil, Nat.zero_add] at k1
    simp only [rRet, rRetN, rSeq, rNext, rIfS, rAsg, rDrop, rOwn, rPar, rApp, rNever, rBrk, rCont, dEnds, rV, rC, r2, r1, rTup, rLst, rLstM, rCons, rNil, rStar, rA, rB, rT, rNot, rAnd, rOr, rIf, rIfT, rAndV, rOrV, rNotV, rChain, rIxO, rIsi, rSlice, rPart, rNoP, rCall, rMeth, rProp, rFld, rSetF, rNewF, rMkP, rMkM, gV, gN0, gCs, gT, gIx, gIxO, oAdd, oSub, oMulI, oDiv, oMod, oPow, oInt, oCmp, oNeg, oIx, oIsN, oNotN, isNon, cLen, cAbs, cInt1, cInt2, cIntI, cStrI, cMax, cMin, cDivmod, cTuple, cList, kO, kN, kB, kI, startE, List.map_cons, List.map_nil, List.length_cons, List.length_nil, Nat.reduceAdd, Nat.reduceSub, Nat.reduceLeDiff, Nat.reduceLT, Nat.zero_lt_succ, List.replicate_succ, List.replicate_zero, List.cons_append, List.nil_append, List.append_nil, List.getElem?_cons_zero, List.getElem?_cons_succ, List.set_cons_zero, List.set_cons_succ, atI_0, atI_1, atI_2, atI_3, atI_4, atI_5, ixN_lit, true_and, and_true, and_self, Bool.false_eq_true, if_true, if_false, reduceIte, reduceCtorEq, mput_same, mput_mput, PySem.sizeLine_eq, truD, TruOk, oEqD, oNeD, deq_int, deq_str, deq_bl, deq_tup, deq_lst, deqs_nil, deqs_cons, deqs_nc, deqs_cn, okD, rYes, iSeq, iTupD, iStrD, iEnumD, iZipD, kL, seqD, rCompE, rCompS, rComp, hideE, rFor, rTup, rKix, rSlo, rLenC, rIsC, kBo, rParO, rPar3, rAug, rJoin, kS, cAll, cAny, kB, oSame, rMkL, Bool.and_true, Bool.true_and, Bool.not_true, Bool.not_false, List.set_nil, Int.cast_ofNat_Int, Int.natCast_zero, Int.natCast_one, bls, Option.map_some, List.all_cons, List.all_nil, id_eq, beq_self_eq_true, Int.reduceBEq, Int.reduceLT, Int.reduceLE, Int.reduceAdd, Int.reduceSub, Int.reduceNeg, decide_true, decide_false, Bool.false_and, Bool.and_false, iRange1, iRange2, rBoolC, cReprB, cRepr, isBox, oEqS, rMethK, byOrd, pile_len]
    refine ⟨⟨by omega, by omega⟩, ?_⟩
    refine for_ind (fun items st => ∃ (M2 : Mem) (r2' : List Mv) (y1 : Sl), items.length = r2'.length ∧ r2'.length ≤ 15 ∧ M2 x = some (walkerM r2') ∧ (∀ m ∈ r2', Bd (BpN 4) m) ∧ st = ⟨[.val (.ref a), y1, .val (.ref x), .val (.lst (pileL r2'))], M2⟩) ⟨M1, r, y1, by rw [range_len]; omega, k1, hx1, hb, rfl⟩ ?_ ?_
    · rintro st ⟨M2, r2', y1, _, _, _, _, rfl⟩
      exact h _
    · rintro d ds st L ⟨M2, r2', y1, j1, j2, hx2, hb2, rfl⟩ hL
      cases r2' with
      | nil => rw [List.length_cons, List.length_nil] at j1; omega
      | cons m r3 =>
        rw [List.length_cons, List.length_cons] at j1
        rw [List.length_cons] at j2
        rw [pile_cons]
        simp only [rRet, rRetN, rSeq, rNext, rIfS, rAsg, rDrop, rOwn, rPar, rApp, rNever, rBrk, rCont, dEnds, rV, rC, r2, r1, rTup, rLst, rLstM, rCons, rNil, rStar, rA, rB, rT, rNot, rAnd, rOr, rIf, rIfT, rAndV, rOrV, rNotV, rChain, rIxO, rIsi, rSlice, rPart, rNoP, rCall, rMeth, rProp, rFld, rSetF, rNewF, rMkP, rMkM, gV, gN0, gCs, gT, gIx, gIxO, oAdd, oSub, oMulI, oDiv, oMod, oPow, oInt, oCmp, oNeg, oIx, oIsN, oNotN, isNon, cLen, cAbs, cInt1, cInt2, cIntI, cStrI, cMax, cMin, cDivmod, cTuple, cList, kO, kN, kB, kI, startE, List.map_cons, List.map_nil, List.length_cons, List.length_nil, Nat.reduceAdd, Nat.reduceSub, Nat.reduceLeDiff, Nat.reduceLT, Nat.zero_lt_succ, List.replicate_succ, List.replicate_zero, List.cons_append, List.nil_append, List.append_nil, List.getElem?_cons_zero, List.getElem?_cons_succ, List.set_cons_zero, List.set_cons_succ, atI_0, atI_1, atI_2, atI_3, atI_4, atI_5, ixN_lit, true_and, and_true, and_self, Bool.false_eq_true, if_true, if_false, reduceIte, reduceCtorEq, mput_same, mput_mput, PySem.sizeLine_eq, truD, TruOk, oEqD, oNeD, deq_int, deq_str, deq_bl, deq_tup, deq_lst, deqs_nil, deqs_cons, deqs_nc, deqs_cn, okD, rYes, iSeq, iTupD, iStrD, iEnumD, iZipD, kL, seqD, rCompE, rCompS, rComp, hideE, rFor, rTup, rKix, rSlo, rLenC, rIsC, kBo, rParO, rPar3, rAug, rJoin, kS, cAll, cAny, kB, oSame, rMkL, Bool.and_true, Bool.true_and, Bool.not_true, Bool.not_false, List.set_nil, Int.cast_ofNat_Int, Int.natCast_zero, Int.natCast_one, bls, Option.map_some, List.all_cons, List.all_nil, id_eq, beq_self_eq_true, Int.reduceBEq, Int.reduceLT, Int.reduceLE, Int.reduceAdd, Int.reduceSub, Int.reduceNeg, decide_true, decide_false, Bool.false_and, Bool.and_false, iRange1, iRange2, rBoolC, cReprB, cRepr, isBox, oEqS, rMethK, byOrd, cut_last]
        have hb3 : ∀ z ∈ r3, Bd (BpN 4) z := fun z hz => hb2 z (List.mem_cons_of_mem _ hz)
        exact ⟨selfW hx2 (by decide +kernel), x, m, r3, rfl, hx2, iteN rfl ⟨x, r3, rfl, mput_same, by omega, hb3, trivial, iteN rfl (hL _ ⟨_, r3, _, by omega, by omega, mput_same, hb3, rfl⟩)⟩⟩
  · rintro d ds st L ⟨M1, n, r, y1, k1, k2, ⟨mo2, ha2, hW2⟩, hx1, hb, rfl⟩ hL
    rw [List.length_cons] at k1 k2
    simp only [rRet, rRetN, rSeq, rNext, rIfS, rAsg, rDrop, rOwn, rPar, rApp, rNever, rBrk, rCont, dEnds, rV, rC, r2, r1, rTup, rLst, rLstM, rCons, rNil, rStar, rA, rB, rT, rNot, rAnd, rOr, rIf, rIfT, rAndV, rOrV, rNotV, rChain, rIxO, rIsi, rSlice, rPart, rNoP, rCall, rMeth, rProp, rFld, rSetF, rNewF, rMkP, rMkM, gV, gN0, gCs, gT, gIx, gIxO, oAdd, oSub, oMulI, oDiv, oMod, oPow, oInt, oCmp, oNeg, oIx, oIsN, oNotN, isNon, cLen, cAbs, cInt1, cInt2, cIntI, cStrI, cMax, cMin, cDivmod, cTuple, cList, kO, kN, kB, kI, startE, List.map_cons, List.map_nil, List.length_cons, List.length_nil, Nat.reduceAdd, Nat.reduceSub, Nat.reduceLeDiff, Nat.reduceLT, Nat.zero_lt_succ, List.replicate_succ, List.replicate_zero, List.cons_append, List.nil_append, List.append_nil, List.getElem?_cons_zero, List.getElem?_cons_succ, List.set_cons_zero, List.set_cons_succ, atI_0, atI_1, atI_2, atI_3, atI_4, atI_5, ixN_lit, true_and, and_true, and_self, Bool.false_eq_true, if_true, if_false, reduceIte, reduceCtorEq, mput_same, mput_mput, PySem.sizeLine_eq, truD, TruOk, oEqD, oNeD, deq_int, deq_str, deq_bl, deq_tup, deq_lst, deqs_nil, deqs_cons, deqs_nc, deqs_cn, okD, rYes, iSeq, iTupD, iStrD, iEnumD, iZipD, kL, seqD, rCompE, rCompS, rComp, hideE, rFor, rTup, rKix, rSlo, rLenC, rIsC, kBo, rParO, rPar3, rAug, rJoin, kS, cAll, cAny, kB, oSame, rMkL, Bool.and_true, Bool.true_and, Bool.not_true, Bool.not_false, List.set_nil, Int.cast_ofNat_Int, Int.natCast_zero, Int.natCast_one, bls, Option.map_some, List.all_cons, List.all_nil, id_eq, beq_self_eq_true, Int.reduceBEq, Int.reduceLT, Int.reduceLE, Int.reduceAdd, Int.reduceSub, Int.reduceNeg, decide_true, decide_false, Bool.false_and, Bool.and_false, iRange1, iRange2, rBoolC, cReprB, cRepr, isBox, oEqS, rMethK, byOrd]
    refine ⟨a, x, mo2, n, r, rfl, ha2, hW2, by omega, hx1, hxa, by omega, hb, fun r3 mo3 hb3 hl3 hW3 => ?_⟩
    obtain ⟨M2, hM2⟩ : ∃ M2 : Mem, M2 = mput (mput M1 a mo3) x (walkerM r3) := ⟨_, rfl⟩
    have hx2 : M2 x = some (walkerM r3) := by rw [hM2]; exact mput_same
    have ha3 : M2 a = some mo3 := by rw [hM2, mput_ne (Ne.symm hxa), mput_same]
    rw [← hM2]
    have ed : deqs (pileL r3) [] = false := deqs_snoc _ _
    have lm := B4_lim
    simp only [rRet, rRetN, rSeq, rNext, rIfS, rAsg, rDrop, rOwn, rPar, rApp, rNever, rBrk, rCont, dEnds, rV, rC, r2, r1, rTup, rLst, rLstM, rCons, rNil, rStar, rA, rB, rT, rNot, rAnd, rOr, rIf, rIfT, rAndV, rOrV, rNotV, rChain, rIxO, rIsi, rSlice, rPart, rNoP, rCall, rMeth, rProp, rFld, rSetF, rNewF, rMkP, rMkM, gV, gN0, gCs, gT, gIx, gIxO, oAdd, oSub, oMulI, oDiv, oMod, oPow, oInt, oCmp, oNeg, oIx, oIsN, oNotN, isNon, cLen, cAbs, cInt1, cInt2, cIntI, cStrI, cMax, cMin, cDivmod, cTuple, cList, kO, kN, kB, kI, startE, List.map_cons, List.map_nil, List.length_cons, List.length_nil, Nat.reduceAdd, Nat.reduceSub, Nat.reduceLeDiff, Nat.reduceLT, Nat.zero_lt_succ, List.replicate_succ, List.replicate_zero, List.cons_append, List.nil_append, List.append_nil, List.getElem?_cons_zero, List.getElem?_cons_succ, List.set_cons_zero, List.set_cons_succ, atI_0, atI_1, atI_2, atI_3, atI_4, atI_5, ixN_lit, true_and, and_true, and_self, Bool.false_eq_true, if_true, if_false, reduceIte, reduceCtorEq, mput_same, mput_mput, PySem.sizeLine_eq, truD, TruOk, oEqD, oNeD, deq_int, deq_str, deq_bl, deq_tup, deq_lst, deqs_nil, deqs_cons, deqs_nc, deqs_cn, okD, rYes, iSeq, iTupD, iStrD, iEnumD, iZipD, kL, seqD, rCompE, rCompS, rComp, hideE, rFor, rTup, rKix, rSlo, rLenC, rIsC, kBo, rParO, rPar3, rAug, rJoin, kS, cAll, cAny, kB, oSame, rMkL, Bool.and_true, Bool.true_and, Bool.not_true, Bool.not_false, List.set_nil, Int.cast_ofNat_Int, Int.natCast_zero, Int.natCast_one, bls, Option.map_some, List.all_cons, List.all_nil, id_eq, beq_self_eq_true, Int.reduceBEq, Int.reduceLT, Int.reduceLE, Int.reduceAdd, Int.reduceSub, Int.reduceNeg, decide_true, decide_false, Bool.false_and, Bool.and_false, iRange1, iRange2, rBoolC, cReprB, cRepr, isBox, oEqS, rMethK, byOrd, ed]
    refine ⟨ok_pile r3, x, r3, rfl, hx2, by omega, hb3, trivial, iteN rfl ⟨insOkW hx2, x, r3, rfl, hx2, r3.reverse, BpN 4, rfl, fun m hm => hb3 m (List.mem_reverse.mp hm), ?_, by omega, insOkW hx2, x, r3, rfl, hx2, ⟨rfl, rfl⟩, iteN (by rw [List.reverse_reverse]; exact congrArg not (deq_self (okD_mv 58 _))) (hL _ ⟨M2, n + 700, r3, _, by omega, by omega, ⟨mo3, ha3, hW3⟩, hx2, hb3, rfl⟩)⟩⟩
    rw [List.length_reverse]
    exact Nat.le_trans (Nat.mul_le_mul_right _ (show r3.length ≤ 1000 by omega)) lm
abbrev s__law_quiet : Stmt := topS 57
theorem sc__law_quiet : FnScope ["well", "is_right"] ["well"] (defScope s__law_quiet) := ⟨rfl, rfl, rfl, by decide +kernel, rfl, by decide +kernel, by decide +kernel⟩
def sp__law_quiet : DSp := fun ds M q => ∃ (a : Addr) (mo : MO), ds = [.ref a] ∧ M a = some mo ∧ W 0 mo ∧ ∀ Z, q (.bl true) Z
theorem ok__law_quiet {f c pp : Addr} {fd : FuncData} (F : Fun K "_law_quiet" "_law_quiet" s__law_quiet f fd) (hm : mg "_law_quiet" = some (.ref f)) (B : Blt mg) (w__law_right : FnW P w K mg base "_law_right" 24 1 sp__law_right) : FnW P w K mg base "_law_quiet" 25 1 sp__law_quiet := by
  refine fnw_mk F hm sc__law_quiet (fun _ _ _ _ _ _ us hl => match us, hl with | [_], _ => rfl) rfl (fun cdv A outer s H E hgd hr => ?_)
  refine ⟨_, (ss_cons (s_try (ss_one (s_set 1 sc__law_quiet.nd (d_callW w__law_right hgd (hr.mono (by decide)) rfl (a_cons (dv 0) a_nil)))))
    (ss_one (s_ret (dv 1)))), fun ds M q hl h => ?_⟩
  obtain ⟨a, mo, rfl, hM, hW, h⟩ := h
  simp only [rRet, rRetN, rSeq, rNext, rIfS, rAsg, rDrop, rOwn, rPar, rApp, rNever, rBrk, rCont, dEnds, rV, rC, r2, r1, rTup, rLst, rLstM, rCons, rNil, rStar, rA, rB, rT, rNot, rAnd, rOr, rIf, rIfT, rAndV, rOrV, rNotV, rChain, rIxO, rIsi, rSlice, rPart, rNoP, rCall, rMeth, rProp, rFld, rSetF, rNewF, rMkP, rMkM, gV, gN0, gCs, gT, gIx, gIxO, oAdd, oSub, oMulI, oDiv, oMod, oPow, oInt, oCmp, oNeg, oIx, oIsN, oNotN, isNon, cLen, cAbs, cInt1, cInt2, cIntI, cStrI, cMax, cMin, cDivmod, cTuple, cList, kO, kN, kB, kI, startE, List.map_cons, List.map_nil, List.length_cons, List.length_nil, Nat.reduceAdd, Nat.reduceSub, Nat.reduceLeDiff, Nat.reduceLT, Nat.zero_lt_succ, List.replicate_succ, List.replicate_zero, List.cons_append, List.nil_append, List.append_nil, List.getElem?_cons_zero, List.getElem?_cons_succ, List.set_cons_zero, List.set_cons_succ, atI_0, atI_1, atI_2, atI_3, atI_4, atI_5, ixN_lit, true_and, and_true, and_self, Bool.false_eq_true, if_true, if_false, reduceIte, reduceCtorEq, mput_same, mput_mput, PySem.sizeLine_eq, truD, TruOk, oEqD, oNeD, deq_int, deq_str, deq_bl, deq_tup, deq_lst, deqs_nil, deqs_cons, deqs_nc, deqs_cn, okD, rYes, iSeq, iTupD, iStrD, iEnumD, iZipD, kL, seqD, rCompE, rCompS, rComp, hideE, rFor, rTup, rKix, rSlo, rLenC, rIsC, kBo, rParO, rPar3, rAug, rJoin, kS, cAll, cAny, kB, oSame, rMkL, Bool.and_true, Bool.true_and, Bool.not_true, Bool.not_false, List.set_nil, Int.cast_ofNat_Int, Int.natCast_zero, Int.natCast_one, bls, Option.map_some, List.all_cons, List.all_nil, id_eq, beq_self_eq_true, Int.reduceBEq, Int.reduceLT, Int.reduceLE, Int.reduceAdd, Int.reduceSub, Int.reduceNeg, decide_true, decide_false, Bool.false_and, Bool.and_false, iRange1, iRange2, rBoolC, cReprB, cRepr, isBox, oEqS, rMethK, byOrd]
  exact ⟨a, mo, rfl, hM, hW, fun Z => h Z⟩
abbrev s__law_well : Stmt := topS 44
theorem sc__law_well : FnScope ["cells", "turn", "cell", "stirred", "each"] ["cells", "turn"] (defScope s__law_well) := ⟨rfl, rfl, rfl, by decide +kernel, rfl, by decide +kernel, by decide +kernel⟩
def sp__law_well : DSp := fun ds M q => ∃ (ns : List Int) (t : Nat), ds = [.rl (ns.map .int), .int t] ∧ t ≤ 63 ∧ ns.length ≤ 63 ∧ (∀ z ∈ ns, z.natAbs < 2 ^ 1048576) ∧ ∀ (p : Addr) (mo : MO), M p = none → W 0 mo → q (.ref p) (mput M p mo)
theorem ok__law_well {f c pp : Addr} {fd : FuncData} (F : Fun K "_law_well" "_law_well" s__law_well f fd) (hm : mg "_law_well" = some (.ref f)) (B : Blt mg) : FnG P w K mg base "_law_well" 1 2 sp__law_well := by
  refine fng_mk F hm sc__law_well (fun _ _ _ _ _ _ us hl => match us, hl with | [_, _], _ => rfl) rfl (fun cdv A outer s H E hr => ?_)
  refine ⟨_, (ss_cons (s_set 2 sc__law_well.nd (d_if (t_cm c_lt (dv 1) (d_callB b_len rfl (B "len" (by decide +kernel)) (by decide +kernel) (a_cons (dv 0) a_nil))) (d_ix (dv 0) (dv 1)) (d_add (d_mul d_int (dv 1)) d_int)))
    (ss_cons (s_set 3 sc__law_well.nd (d_add d_int (d_mul d_int (dv 1))))
    (ss_cons (s_for PassesOwn.never rfl (i_lst (d_add (d_slice (dv 0) o_none (o_some d_int)) (d_lst (a_cons (dv 2) a_nil)))) (g_name (vs := [4]) 4 sc__law_well.nd) (ss_one (s_set 3 sc__law_well.nd (d_mod (d_callT b_int rfl (B "int" (by decide +kernel)) (by decide +kernel) (a_cons (d_add (d_add (d_mul (dv 3) d_int) (d_mul (dv 4) d_int)) d_int) a_nil)) d_int))))
    (ss_one (s_ret (d_lstM (a_cons (d_if (t_w (w_or (t_cm c_lt (dv 2) d_int) (w_or1 (t_cm c_ge (dv 2) (d_pow d_int d_int))))) (d_callB b_abs rfl (B "abs" (by decide +kernel)) (by decide +kernel) (a_cons (dv 2) a_nil)) d_int) (a_cons (dv 3) (a_cons d_int a_nil))))))))), fun ds M q hl h => ?_⟩
  obtain ⟨ns, t, rfl, ht, hl, hb, h⟩ := h
  have key : ∃ c : Int, c.natAbs < 2 ^ 1048576 ∧ (((t : Nat) : Int) < ((ns.length : Nat) : Int) → atI (ns.map D.int) ((t : Nat) : Int) = some (.int c)) ∧ (¬ ((t : Nat) : Int) < ((ns.length : Nat) : Int) → c = 13 * t + 6) := by
    by_cases hlt : t < ns.length
    · exact ⟨ns[t], hb _ (List.getElem_mem hlt), fun _ => atI_nat (j := t) (by rw [List.getElem?_map, List.getElem?_eq_getElem hlt]; rfl), fun n => absurd (by omega) n⟩
    · refine ⟨13 * t + 6, ?_, fun n => absurd n (by omega), fun _ => rfl⟩
      exact Nat.lt_of_lt_of_le (show _ < 2 ^ 20 by omega) (Nat.pow_le_pow_right (by decide) (by decide))
  obtain ⟨c, hc, k1, k2⟩ := key
  by_cases hlt : ((t : Nat) : Int) < ((ns.length : Nat) : Int)
  · simp only [rRet, rRetN, rSeq, rNext, rIfS, rAsg, rDrop, rOwn, rPar, rApp, rNever, rBrk, rCont, dEnds, rV, rC, r2, r1, rTup, rLst, rLstM, rCons, rNil, rStar, rA, rB, rT, rNot, rAnd, rOr, rIf, rIfT, rAndV, rOrV, rNotV, rChain, rIxO, rIsi, rSlice, rPart, rNoP, rCall, rMeth, rProp, rFld, rSetF, rNewF, rMkP, rMkM, gV, gN0, gCs, gT, gIx, gIxO, oAdd, oSub, oMulI, oDiv, oMod, oPow, oInt, oCmp, oNeg, oIx, oIsN, oNotN, isNon, cLen, cAbs, cInt1, cInt2, cIntI, cStrI, cMax, cMin, cDivmod, cTuple, cList, kO, kN, kB, kI, startE, List.map_cons, List.map_nil, List.length_cons, List.length_nil, Nat.reduceAdd, Nat.reduceSub, Nat.reduceLeDiff, Nat.reduceLT, Nat.zero_lt_succ, List.replicate_succ, List.replicate_zero, List.cons_append, List.nil_append, List.append_nil, List.getElem?_cons_zero, List.getElem?_cons_succ, List.set_cons_zero, List.set_cons_succ, atI_0, atI_1, atI_2, atI_3, atI_4, atI_5, ixN_lit, true_and, and_true, and_self, Bool.false_eq_true, if_true, if_false, reduceIte, reduceCtorEq, mput_same, mput_mput, PySem.sizeLine_eq, truD, TruOk, oEqD, oNeD, deq_int, deq_str, deq_bl, deq_tup, deq_lst, deqs_nil, deqs_cons, deqs_nc, deqs_cn, okD, rYes, iSeq, iTupD, iStrD, iEnumD, iZipD, kL, seqD, rCompE, rCompS, rComp, hideE, rFor, rTup, rKix, rSlo, rLenC, rIsC, kBo, rParO, rPar3, rAug, rJoin, kS, cAll, cAny, kB, oSame, rMkL, Bool.and_true, Bool.true_and, Bool.not_true, Bool.not_false, List.set_nil, Int.cast_ofNat_Int, Int.natCast_zero, Int.natCast_one, bls, Option.map_some, List.all_cons, List.all_nil, id_eq, beq_self_eq_true, Int.reduceBEq, Int.reduceLT, Int.reduceLE, Int.reduceAdd, Int.reduceSub, Int.reduceNeg, decide_true, decide_false, Bool.false_and, Bool.and_false, iRange1, iRange2, rBoolC, cReprB, cRepr, isBox, oEqS, rMethK, byOrd, List.length_map, hlt, k1 hlt]
    refine ⟨mul64 (by decide) (by omega), Nat.le_trans (cut_len _ _ _) (by rw [List.length_map]; omega), ?_⟩
    refine for_ind (fun items st => ∃ (sv : Int) (y4 : Sl), (∀ d ∈ items, ∃ z : Int, d = .int z ∧ z.natAbs < 2 ^ 1048576) ∧ 0 ≤ sv ∧ sv < 100000000000 ∧ (items = [] → sv < 2147483399) ∧ st = ⟨[.val (.rl (ns.map D.int)), .val (.int t), .val (.int c), .val (.int sv), y4], M⟩) ⟨_, .no, fun d hd => ?_, by omega, by omega, fun e => absurd e (by simp), rfl⟩ ?_ ?_
    · rcases List.mem_append.mp hd with hd | hd
      · obtain ⟨z, hz, rfl⟩ := List.mem_map.mp (cut_mem hd)
        exact ⟨z, rfl, hb z hz⟩
      · exact ⟨c, List.mem_singleton.mp hd, hc⟩
    · rintro st ⟨sv, y4, _, s0, _, s1, rfl⟩
      have s1 := s1 rfl
      have hcp : CPow 10 18 := ⟨by decide, by decide, by decide⟩
      by_cases c1 : c < 0
      · simp only [rRet, rRetN, rSeq, rNext, rIfS, rAsg, rDrop, rOwn, rPar, rApp, rNever, rBrk, rCont, dEnds, rV, rC, r2, r1, rTup, rLst, rLstM, rCons, rNil, rStar, rA, rB, rT, rNot, rAnd, rOr, rIf, rIfT, rAndV, rOrV, rNotV, rChain, rIxO, rIsi, rSlice, rPart, rNoP, rCall, rMeth, rProp, rFld, rSetF, rNewF, rMkP, rMkM, gV, gN0, gCs, gT, gIx, gIxO, oAdd, oSub, oMulI, oDiv, oMod, oPow, oInt, oCmp, oNeg, oIx, oIsN, oNotN, isNon, cLen, cAbs, cInt1, cInt2, cIntI, cStrI, cMax, cMin, cDivmod, cTuple, cList, kO, kN, kB, kI, startE, List.map_cons, List.map_nil, List.length_cons, List.length_nil, Nat.reduceAdd, Nat.reduceSub, Nat.reduceLeDiff, Nat.reduceLT, Nat.zero_lt_succ, List.replicate_succ, List.replicate_zero, List.cons_append, List.nil_append, List.append_nil, List.getElem?_cons_zero, List.getElem?_cons_succ, List.set_cons_zero, List.set_cons_succ, atI_0, atI_1, atI_2, atI_3, atI_4, atI_5, ixN_lit, true_and, and_true, and_self, Bool.false_eq_true, if_true, if_false, reduceIte, reduceCtorEq, mput_same, mput_mput, PySem.sizeLine_eq, truD, TruOk, oEqD, oNeD, deq_int, deq_str, deq_bl, deq_tup, deq_lst, deqs_nil, deqs_cons, deqs_nc, deqs_cn, okD, rYes, iSeq, iTupD, iStrD, iEnumD, iZipD, kL, seqD, rCompE, rCompS, rComp, hideE, rFor, rTup, rKix, rSlo, rLenC, rIsC, kBo, rParO, rPar3, rAug, rJoin, kS, cAll, cAny, kB, oSame, rMkL, Bool.and_true, Bool.true_and, Bool.not_true, Bool.not_false, List.set_nil, Int.cast_ofNat_Int, Int.natCast_zero, Int.natCast_one, bls, Option.map_some, List.all_cons, List.all_nil, id_eq, beq_self_eq_true, Int.reduceBEq, Int.reduceLT, Int.reduceLE, Int.reduceAdd, Int.reduceSub, Int.reduceNeg, decide_true, decide_false, Bool.false_and, Bool.and_false, iRange1, iRange2, rBoolC, cReprB, cRepr, isBox, oEqS, rMethK, byOrd, c1]
        exact fun p hp => h p _ hp ⟨_, _, _, rfl, by omega, s0, s1, by omega, by omega⟩
      · by_cases c2 : (10 : Int) ^ Int.toNat 18 ≤ c
        · simp only [rRet, rRetN, rSeq, rNext, rIfS, rAsg, rDrop, rOwn, rPar, rApp, rNever, rBrk, rCont, dEnds, rV, rC, r2, r1, rTup, rLst, rLstM, rCons, rNil, rStar, rA, rB, rT, rNot, rAnd, rOr, rIf, rIfT, rAndV, rOrV, rNotV, rChain, rIxO, rIsi, rSlice, rPart, rNoP, rCall, rMeth, rProp, rFld, rSetF, rNewF, rMkP, rMkM, gV, gN0, gCs, gT, gIx, gIxO, oAdd, oSub, oMulI, oDiv, oMod, oPow, oInt, oCmp, oNeg, oIx, oIsN, oNotN, isNon, cLen, cAbs, cInt1, cInt2, cIntI, cStrI, cMax, cMin, cDivmod, cTuple, cList, kO, kN, kB, kI, startE, List.map_cons, List.map_nil, List.length_cons, List.length_nil, Nat.reduceAdd, Nat.reduceSub, Nat.reduceLeDiff, Nat.reduceLT, Nat.zero_lt_succ, List.replicate_succ, List.replicate_zero, List.cons_append, List.nil_append, List.append_nil, List.getElem?_cons_zero, List.getElem?_cons_succ, List.set_cons_zero, List.set_cons_succ, atI_0, atI_1, atI_2, atI_3, atI_4, atI_5, ixN_lit, true_and, and_true, and_self, Bool.false_eq_true, if_true, if_false, reduceIte, reduceCtorEq, mput_same, mput_mput, PySem.sizeLine_eq, truD, TruOk, oEqD, oNeD, deq_int, deq_str, deq_bl, deq_tup, deq_lst, deqs_nil, deqs_cons, deqs_nc, deqs_cn, okD, rYes, iSeq, iTupD, iStrD, iEnumD, iZipD, kL, seqD, rCompE, rCompS, rComp, hideE, rFor, rTup, rKix, rSlo, rLenC, rIsC, kBo, rParO, rPar3, rAug, rJoin, kS, cAll, cAny, kB, oSame, rMkL, Bool.and_true, Bool.true_and, Bool.not_true, Bool.not_false, List.set_nil, Int.cast_ofNat_Int, Int.natCast_zero, Int.natCast_one, bls, Option.map_some, List.all_cons, List.all_nil, id_eq, beq_self_eq_true, Int.reduceBEq, Int.reduceLT, Int.reduceLE, Int.reduceAdd, Int.reduceSub, Int.reduceNeg, decide_true, decide_false, Bool.false_and, Bool.and_false, iRange1, iRange2, rBoolC, cReprB, cRepr, isBox, oEqS, rMethK, byOrd, c1, c2]
          exact ⟨hcp, fun p hp => h p _ hp ⟨_, _, _, rfl, by omega, s0, s1, by omega, by omega⟩⟩
        · simp only [rRet, rRetN, rSeq, rNext, rIfS, rAsg, rDrop, rOwn, rPar, rApp, rNever, rBrk, rCont, dEnds, rV, rC, r2, r1, rTup, rLst, rLstM, rCons, rNil, rStar, rA, rB, rT, rNot, rAnd, rOr, rIf, rIfT, rAndV, rOrV, rNotV, rChain, rIxO, rIsi, rSlice, rPart, rNoP, rCall, rMeth, rProp, rFld, rSetF, rNewF, rMkP, rMkM, gV, gN0, gCs, gT, gIx, gIxO, oAdd, oSub, oMulI, oDiv, oMod, oPow, oInt, oCmp, oNeg, oIx, oIsN, oNotN, isNon, cLen, cAbs, cInt1, cInt2, cIntI, cStrI, cMax, cMin, cDivmod, cTuple, cList, kO, kN, kB, kI, startE, List.map_cons, List.map_nil, List.length_cons, List.length_nil, Nat.reduceAdd, Nat.reduceSub, Nat.reduceLeDiff, Nat.reduceLT, Nat.zero_lt_succ, List.replicate_succ, List.replicate_zero, List.cons_append, List.nil_append, List.append_nil, List.getElem?_cons_zero, List.getElem?_cons_succ, List.set_cons_zero, List.set_cons_succ, atI_0, atI_1, atI_2, atI_3, atI_4, atI_5, ixN_lit, true_and, and_true, and_self, Bool.false_eq_true, if_true, if_false, reduceIte, reduceCtorEq, mput_same, mput_mput, PySem.sizeLine_eq, truD, TruOk, oEqD, oNeD, deq_int, deq_str, deq_bl, deq_tup, deq_lst, deqs_nil, deqs_cons, deqs_nc, deqs_cn, okD, rYes, iSeq, iTupD, iStrD, iEnumD, iZipD, kL, seqD, rCompE, rCompS, rComp, hideE, rFor, rTup, rKix, rSlo, rLenC, rIsC, kBo, rParO, rPar3, rAug, rJoin, kS, cAll, cAny, kB, oSame, rMkL, Bool.and_true, Bool.true_and, Bool.not_true, Bool.not_false, List.set_nil, Int.cast_ofNat_Int, Int.natCast_zero, Int.natCast_one, bls, Option.map_some, List.all_cons, List.all_nil, id_eq, beq_self_eq_true, Int.reduceBEq, Int.reduceLT, Int.reduceLE, Int.reduceAdd, Int.reduceSub, Int.reduceNeg, decide_true, decide_false, Bool.false_and, Bool.and_false, iRange1, iRange2, rBoolC, cReprB, cRepr, isBox, oEqS, rMethK, byOrd, c1, c2]
          exact ⟨hcp, fun p hp => h p _ hp ⟨_, _, _, rfl, by omega, s0, s1, by omega, by omega⟩⟩
    · rintro d ds st L ⟨sv, y4, k3, s0, s1, _, rfl⟩ hL
      obtain ⟨z, rfl, hz⟩ := k3 d List.mem_cons_self
      simp only [rRet, rRetN, rSeq, rNext, rIfS, rAsg, rDrop, rOwn, rPar, rApp, rNever, rBrk, rCont, dEnds, rV, rC, r2, r1, rTup, rLst, rLstM, rCons, rNil, rStar, rA, rB, rT, rNot, rAnd, rOr, rIf, rIfT, rAndV, rOrV, rNotV, rChain, rIxO, rIsi, rSlice, rPart, rNoP, rCall, rMeth, rProp, rFld, rSetF, rNewF, rMkP, rMkM, gV, gN0, gCs, gT, gIx, gIxO, oAdd, oSub, oMulI, oDiv, oMod, oPow, oInt, oCmp, oNeg, oIx, oIsN, oNotN, isNon, cLen, cAbs, cInt1, cInt2, cIntI, cStrI, cMax, cMin, cDivmod, cTuple, cList, kO, kN, kB, kI, startE, List.map_cons, List.map_nil, List.length_cons, List.length_nil, Nat.reduceAdd, Nat.reduceSub, Nat.reduceLeDiff, Nat.reduceLT, Nat.zero_lt_succ, List.replicate_succ, List.replicate_zero, List.cons_append, List.nil_append, List.append_nil, List.getElem?_cons_zero, List.getElem?_cons_succ, List.set_cons_zero, List.set_cons_succ, atI_0, atI_1, atI_2, atI_3, atI_4, atI_5, ixN_lit, true_and, and_true, and_self, Bool.false_eq_true, if_true, if_false, reduceIte, reduceCtorEq, mput_same, mput_mput, PySem.sizeLine_eq, truD, TruOk, oEqD, oNeD, deq_int, deq_str, deq_bl, deq_tup, deq_lst, deqs_nil, deqs_cons, deqs_nc, deqs_cn, okD, rYes, iSeq, iTupD, iStrD, iEnumD, iZipD, kL, seqD, rCompE, rCompS, rComp, hideE, rFor, rTup, rKix, rSlo, rLenC, rIsC, kBo, rParO, rPar3, rAug, rJoin, kS, cAll, cAny, kB, oSame, rMkL, Bool.and_true, Bool.true_and, Bool.not_true, Bool.not_false, List.set_nil, Int.cast_ofNat_Int, Int.natCast_zero, Int.natCast_one, bls, Option.map_some, List.all_cons, List.all_nil, id_eq, beq_self_eq_true, Int.reduceBEq, Int.reduceLT, Int.reduceLE, Int.reduceAdd, Int.reduceSub, Int.reduceNeg, decide_true, decide_false, Bool.false_and, Bool.and_false, iRange1, iRange2, rBoolC, cReprB, cRepr, isBox, oEqS, rMethK, byOrd]
      refine ⟨mul64 (by omega) (by decide), mul_ok hz (show (7 : Int).natAbs < 2 ^ 3 by decide) (by decide), by decide, ?_⟩
      have r9 := fun x => fmod_rng x (show (0 : Int) < 2147483399 by decide)
      exact hL _ ⟨_, _, fun d hd => k3 d (List.mem_cons_of_mem _ hd), (r9 _).1, Int.lt_trans (r9 _).2 (by decide), fun _ => (r9 _).2, rfl⟩
  · simp only [rRet, rRetN, rSeq, rNext, rIfS, rAsg, rDrop, rOwn, rPar, rApp, rNever, rBrk, rCont, dEnds, rV, rC, r2, r1, rTup, rLst, rLstM, rCons, rNil, rStar, rA, rB, rT, rNot, rAnd, rOr, rIf, rIfT, rAndV, rOrV, rNotV, rChain, rIxO, rIsi, rSlice, rPart, rNoP, rCall, rMeth, rProp, rFld, rSetF, rNewF, rMkP, rMkM, gV, gN0, gCs, gT, gIx, gIxO, oAdd, oSub, oMulI, oDiv, oMod, oPow, oInt, oCmp, oNeg, oIx, oIsN, oNotN, isNon, cLen, cAbs, cInt1, cInt2, cIntI, cStrI, cMax, cMin, cDivmod, cTuple, cList, kO, kN, kB, kI, startE, List.map_cons, List.map_nil, List.length_cons, List.length_nil, Nat.reduceAdd, Nat.reduceSub, Nat.reduceLeDiff, Nat.reduceLT, Nat.zero_lt_succ, List.replicate_succ, List.replicate_zero, List.cons_append, List.nil_append, List.append_nil, List.getElem?_cons_zero, List.getElem?_cons_succ, List.set_cons_zero, List.set_cons_succ, atI_0, atI_1, atI_2, atI_3, atI_4, atI_5, ixN_lit, true_and, and_true, and_self, Bool.false_eq_true, if_true, if_false, reduceIte, reduceCtorEq, mput_same, mput_mput, PySem.sizeLine_eq, truD, TruOk, oEqD, oNeD, deq_int, deq_str, deq_bl, deq_tup, deq_lst, deqs_nil, deqs_cons, deqs_nc, deqs_cn, okD, rYes, iSeq, iTupD, iStrD, iEnumD, iZipD, kL, seqD, rCompE, rCompS, rComp, hideE, rFor, rTup, rKix, rSlo, rLenC, rIsC, kBo, rParO, rPar3, rAug, rJoin, kS, cAll, cAny, kB, oSame, rMkL, Bool.and_true, Bool.true_and, Bool.not_true, Bool.not_false, List.set_nil, Int.cast_ofNat_Int, Int.natCast_zero, Int.natCast_one, bls, Option.map_some, List.all_cons, List.all_nil, id_eq, beq_self_eq_true, Int.reduceBEq, Int.reduceLT, Int.reduceLE, Int.reduceAdd, Int.reduceSub, Int.reduceNeg, decide_true, decide_false, Bool.false_and, Bool.and_false, iRange1, iRange2, rBoolC, cReprB, cRepr, isBox, oEqS, rMethK, byOrd, List.length_map, hlt]
    rw [← k2 hlt]
    refine ⟨mul64 (by decide) (by omega), mul64 (by decide) (by omega), Nat.le_trans (cut_len _ _ _) (by rw [List.length_map]; omega), ?_⟩
    refine for_ind (fun items st => ∃ (sv : Int) (y4 : Sl), (∀ d ∈ items, ∃ z : Int, d = .int z ∧ z.natAbs < 2 ^ 1048576) ∧ 0 ≤ sv ∧ sv < 100000000000 ∧ (items = [] → sv < 2147483399) ∧ st = ⟨[.val (.rl (ns.map D.int)), .val (.int t), .val (.int c), .val (.int sv), y4], M⟩) ⟨_, .no, fun d hd => ?_, by omega, by omega, fun e => absurd e (by simp), rfl⟩ ?_ ?_
    · rcases List.mem_append.mp hd with hd | hd
      · obtain ⟨z, hz, rfl⟩ := List.mem_map.mp (cut_mem hd)
        exact ⟨z, rfl, hb z hz⟩
      · exact ⟨c, List.mem_singleton.mp hd, hc⟩
    · rintro st ⟨sv, y4, _, s0, _, s1, rfl⟩
      have s1 := s1 rfl
      have hcp : CPow 10 18 := ⟨by decide, by decide, by decide⟩
      by_cases c1 : c < 0
      · simp only [rRet, rRetN, rSeq, rNext, rIfS, rAsg, rDrop, rOwn, rPar, rApp, rNever, rBrk, rCont, dEnds, rV, rC, r2, r1, rTup, rLst, rLstM, rCons, rNil, rStar, rA, rB, rT, rNot, rAnd, rOr, rIf, rIfT, rAndV, rOrV, rNotV, rChain, rIxO, rIsi, rSlice, rPart, rNoP, rCall, rMeth, rProp, rFld, rSetF, rNewF, rMkP, rMkM, gV, gN0, gCs, gT, gIx, gIxO, oAdd, oSub, oMulI, oDiv, oMod, oPow, oInt, oCmp, oNeg, oIx, oIsN, oNotN, isNon, cLen, cAbs, cInt1, cInt2, cIntI, cStrI, cMax, cMin, cDivmod, cTuple, cList, kO, kN, kB, kI, startE, List.map_cons, List.map_nil, List.length_cons, List.length_nil, Nat.reduceAdd, Nat.reduceSub, Nat.reduceLeDiff, Nat.reduceLT, Nat.zero_lt_succ, List.replicate_succ, List.replicate_zero, List.cons_append, List.nil_append, List.append_nil, List.getElem?_cons_zero, List.getElem?_cons_succ, List.set_cons_zero, List.set_cons_succ, atI_0, atI_1, atI_2, atI_3, atI_4, atI_5, ixN_lit, true_and, and_true, and_self, Bool.false_eq_true, if_true, if_false, reduceIte, reduceCtorEq, mput_same, mput_mput, PySem.sizeLine_eq, truD, TruOk, oEqD, oNeD, deq_int, deq_str, deq_bl, deq_tup, deq_lst, deqs_nil, deqs_cons, deqs_nc, deqs_cn, okD, rYes, iSeq, iTupD, iStrD, iEnumD, iZipD, kL, seqD, rCompE, rCompS, rComp, hideE, rFor, rTup, rKix, rSlo, rLenC, rIsC, kBo, rParO, rPar3, rAug, rJoin, kS, cAll, cAny, kB, oSame, rMkL, Bool.and_true, Bool.true_and, Bool.not_true, Bool.not_false, List.set_nil, Int.cast_ofNat_Int, Int.natCast_zero, Int.natCast_one, bls, Option.map_some, List.all_cons, List.all_nil, id_eq, beq_self_eq_true, Int.reduceBEq, Int.reduceLT, Int.reduceLE, Int.reduceAdd, Int.reduceSub, Int.reduceNeg, decide_true, decide_false, Bool.false_and, Bool.and_false, iRange1, iRange2, rBoolC, cReprB, cRepr, isBox, oEqS, rMethK, byOrd, c1]
        exact fun p hp => h p _ hp ⟨_, _, _, rfl, by omega, s0, s1, by omega, by omega⟩
      · by_cases c2 : (10 : Int) ^ Int.toNat 18 ≤ c
        · simp only [rRet, rRetN, rSeq, rNext, rIfS, rAsg, rDrop, rOwn, rPar, rApp, rNever, rBrk, rCont, dEnds, rV, rC, r2, r1, rTup, rLst, rLstM, rCons, rNil, rStar, rA, rB, rT, rNot, rAnd, rOr, rIf, rIfT, rAndV, rOrV, rNotV, rChain, rIxO, rIsi, rSlice, rPart, rNoP, rCall, rMeth, rProp, rFld, rSetF, rNewF, rMkP, rMkM, gV, gN0, gCs, gT, gIx, gIxO, oAdd, oSub, oMulI, oDiv, oMod, oPow, oInt, oCmp, oNeg, oIx, oIsN, oNotN, isNon, cLen, cAbs, cInt1, cInt2, cIntI, cStrI, cMax, cMin, cDivmod, cTuple, cList, kO, kN, kB, kI, startE, List.map_cons, List.map_nil, List.length_cons, List.length_nil, Nat.reduceAdd, Nat.reduceSub, Nat.reduceLeDiff, Nat.reduceLT, Nat.zero_lt_succ, List.replicate_succ, List.replicate_zero, List.cons_append, List.nil_append, List.append_nil, List.getElem?_cons_zero, List.getElem?_cons_succ, List.set_cons_zero, List.set_cons_succ, atI_0, atI_1, atI_2, atI_3, atI_4, atI_5, ixN_lit, true_and, and_true, and_self, Bool.false_eq_true, if_true, if_false, reduceIte, reduceCtorEq, mput_same, mput_mput, PySem.sizeLine_eq, truD, TruOk, oEqD, oNeD, deq_int, deq_str, deq_bl, deq_tup, deq_lst, deqs_nil, deqs_cons, deqs_nc, deqs_cn, okD, rYes, iSeq, iTupD, iStrD, iEnumD, iZipD, kL, seqD, rCompE, rCompS, rComp, hideE, rFor, rTup, rKix, rSlo, rLenC, rIsC, kBo, rParO, rPar3, rAug, rJoin, kS, cAll, cAny, kB, oSame, rMkL, Bool.and_true, Bool.true_and, Bool.not_true, Bool.not_false, List.set_nil, Int.cast_ofNat_Int, Int.natCast_zero, Int.natCast_one, bls, Option.map_some, List.all_cons, List.all_nil, id_eq, beq_self_eq_true, Int.reduceBEq, Int.reduceLT, Int.reduceLE, Int.reduceAdd, Int.reduceSub, Int.reduceNeg, decide_true, decide_false, Bool.false_and, Bool.and_false, iRange1, iRange2, rBoolC, cReprB, cRepr, isBox, oEqS, rMethK, byOrd, c1, c2]
          exact ⟨hcp, fun p hp => h p _ hp ⟨_, _, _, rfl, by omega, s0, s1, by omega, by omega⟩⟩
        · simp only [rRet, rRetN, rSeq, rNext, rIfS, rAsg, rDrop, rOwn, rPar, rApp, rNever, rBrk, rCont, dEnds, rV, rC, r2, r1, rTup, rLst, rLstM, rCons, rNil, rStar, rA, rB, rT, rNot, rAnd, rOr, rIf, rIfT, rAndV, rOrV, rNotV, rChain, rIxO, rIsi, rSlice, rPart, rNoP, rCall, rMeth, rProp, rFld, rSetF, rNewF, rMkP, rMkM, gV, gN0, gCs, gT, gIx, gIxO, oAdd, oSub, oMulI, oDiv, oMod, oPow, oInt, oCmp, oNeg, oIx, oIsN, oNotN, isNon, cLen, cAbs, cInt1, cInt2, cIntI, cStrI, cMax, cMin, cDivmod, cTuple, cList, kO, kN, kB, kI, startE, List.map_cons, List.map_nil, List.length_cons, List.length_nil, Nat.reduceAdd, Nat.reduceSub, Nat.reduceLeDiff, Nat.reduceLT, Nat.zero_lt_succ, List.replicate_succ, List.replicate_zero, List.cons_append, List.nil_append, List.append_nil, List.getElem?_cons_zero, List.getElem?_cons_succ, List.set_cons_zero, List.set_cons_succ, atI_0, atI_1, atI_2, atI_3, atI_4, atI_5, ixN_lit, true_and, and_true, and_self, Bool.false_eq_true, if_true, if_false, reduceIte, reduceCtorEq, mput_same, mput_mput, PySem.sizeLine_eq, truD, TruOk, oEqD, oNeD, deq_int, deq_str, deq_bl, deq_tup, deq_lst, deqs_nil, deqs_cons, deqs_nc, deqs_cn, okD, rYes, iSeq, iTupD, iStrD, iEnumD, iZipD, kL, seqD, rCompE, rCompS, rComp, hideE, rFor, rTup, rKix, rSlo, rLenC, rIsC, kBo, rParO, rPar3, rAug, rJoin, kS, cAll, cAny, kB, oSame, rMkL, Bool.and_true, Bool.true_and, Bool.not_true, Bool.not_false, List.set_nil, Int.cast_ofNat_Int, Int.natCast_zero, Int.natCast_one, bls, Option.map_some, List.all_cons, List.all_nil, id_eq, beq_self_eq_true, Int.reduceBEq, Int.reduceLT, Int.reduceLE, Int.reduceAdd, Int.reduceSub, Int.reduceNeg, decide_true, decide_false, Bool.false_and, Bool.and_false, iRange1, iRange2, rBoolC, cReprB, cRepr, isBox, oEqS, rMethK, byOrd, c1, c2]
          exact ⟨hcp, fun p hp => h p _ hp ⟨_, _, _, rfl, by omega, s0, s1, by omega, by omega⟩⟩
    · rintro d ds st L ⟨sv, y4, k3, s0, s1, _, rfl⟩ hL
      obtain ⟨z, rfl, hz⟩ := k3 d List.mem_cons_self
      simp only [rRet, rRetN, rSeq, rNext, rIfS, rAsg, rDrop, rOwn, rPar, rApp, rNever, rBrk, rCont, dEnds, rV, rC, r2, r1, rTup, rLst, rLstM, rCons, rNil, rStar, rA, rB, rT, rNot, rAnd, rOr, rIf, rIfT, rAndV, rOrV, rNotV, rChain, rIxO, rIsi, rSlice, rPart, rNoP, rCall, rMeth, rProp, rFld, rSetF, rNewF, rMkP, rMkM, gV, gN0, gCs, gT, gIx, gIxO, oAdd, oSub, oMulI, oDiv, oMod, oPow, oInt, oCmp, oNeg, oIx, oIsN, oNotN, isNon, cLen, cAbs, cInt1, cInt2, cIntI, cStrI, cMax, cMin, cDivmod, cTuple, cList, kO, kN, kB, kI, startE, List.map_cons, List.map_nil, List.length_cons, List.length_nil, Nat.reduceAdd, Nat.reduceSub, Nat.reduceLeDiff, Nat.reduceLT, Nat.zero_lt_succ, List.replicate_succ, List.replicate_zero, List.cons_append, List.nil_append, List.append_nil, List.getElem?_cons_zero, List.getElem?_cons_succ, List.set_cons_zero, List.set_cons_succ, atI_0, atI_1, atI_2, atI_3, atI_4, atI_5, ixN_lit, true_and, and_true, and_self, Bool.false_eq_true, if_true, if_false, reduceIte, reduceCtorEq, mput_same, mput_mput, PySem.sizeLine_eq, truD, TruOk, oEqD, oNeD, deq_int, deq_str, deq_bl, deq_tup, deq_lst, deqs_nil, deqs_cons, deqs_nc, deqs_cn, okD, rYes, iSeq, iTupD, iStrD, iEnumD, iZipD, kL, seqD, rCompE, rCompS, rComp, hideE, rFor, rTup, rKix, rSlo, rLenC, rIsC, kBo, rParO, rPar3, rAug, rJoin, kS, cAll, cAny, kB, oSame, rMkL, Bool.and_true, Bool.true_and, Bool.not_true, Bool.not_false, List.set_nil, Int.cast_ofNat_Int, Int.natCast_zero, Int.natCast_one, bls, Option.map_some, List.all_cons, List.all_nil, id_eq, beq_self_eq_true, Int.reduceBEq, Int.reduceLT, Int.reduceLE, Int.reduceAdd, Int.reduceSub, Int.reduceNeg, decide_true, decide_false, Bool.false_and, Bool.and_false, iRange1, iRange2, rBoolC, cReprB, cRepr, isBox, oEqS, rMethK, byOrd]
      refine ⟨mul64 (by omega) (by decide), mul_ok hz (show (7 : Int).natAbs < 2 ^ 3 by decide) (by decide), by decide, ?_⟩
      have r9 := fun x => fmod_rng x (show (0 : Int) < 2147483399 by decide)
      exact hL _ ⟨_, _, fun d hd => k3 d (List.mem_cons_of_mem _ hd), (r9 _).1, Int.lt_trans (r9 _).2 (by decide), fun _ => (r9 _).2, rfl⟩
abbrev s_law : Stmt := topS 58
theorem sc_law : FnScope ["cells", "turn"] ["cells"] (defScope s_law) := ⟨rfl, rfl, rfl, by decide +kernel, rfl, by decide +kernel, by decide +kernel⟩
def sp_law : DSp := fun ds M q => ∃ (ns : List Int), ds = [.rl (ns.map .int)] ∧ ns.length ≤ 63 ∧ (∀ z ∈ ns, z.natAbs < 2 ^ 1048576) ∧ ∀ Z, q (.bl true) Z
theorem ok_law {f : Addr} {fd : FuncData} (F : Fun K "law" "law" s_law f fd) (B : Blt mg) (w__law_quiet : FnW P w K mg base "_law_quiet" 25 1 sp__law_quiet) (g__law_well : FnG P w K mg base "_law_well" 1 2 sp__law_well) : GOk P w K mg base 26 f fd ["cells"] (lift K mg 1 sp_law) := by
  refine gok_mk F sc_law (fun cdv A outer s H E hgd hr => ?_)
  refine ⟨_, (ss_one (s_ret (d_callB (b_all rfl) rfl (B "all" (by decide +kernel)) (by decide +kernel) (a_cons (d_lc (own := [("turn", 1)]) rfl sc_law.nd (i_range1 rfl (B "range" (by decide +kernel)) (a_cons (d_callB (b_max rfl) rfl (B "max" (by decide +kernel)) (by decide +kernel) (a_cons d_int (a_cons (d_callB (b_min rfl) rfl (B "min" (by decide +kernel)) (by decide +kernel) (a_cons (d_callB b_len rfl (B "len" (by decide +kernel)) (by decide +kernel) (a_cons (dv 0) a_nil)) (a_cons d_int a_nil))) a_nil))) a_nil)) (blkOk_by (N := ["cells", "turn"]) (sc := defScope s_law) (by decide +kernel)) (fun _ _ _ _ _ => (g_name 1 sc_law.nd)) (fun _ _ _ _ _ => ts_nil) (fun _ _ _ _ _ => (d_callW w__law_quiet hgd (hr.mono (by decide)) rfl (a_cons (d_call g__law_well (hr.mono (by first | decide | omega)) rfl (a_cons (dv 0) (a_cons (dv 1) a_nil))) a_nil)))) a_nil)))), fun ds M q hl h => ?_⟩
  obtain ⟨ns, rfl, hl, hb, h⟩ := h
  simp only [rRet, rRetN, rSeq, rNext, rIfS, rAsg, rDrop, rOwn, rPar, rApp, rNever, rBrk, rCont, dEnds, rV, rC, r2, r1, rTup, rLst, rLstM, rCons, rNil, rStar, rA, rB, rT, rNot, rAnd, rOr, rIf, rIfT, rAndV, rOrV, rNotV, rChain, rIxO, rIsi, rSlice, rPart, rNoP, rCall, rMeth, rProp, rFld, rSetF, rNewF, rMkP, rMkM, gV, gN0, gCs, gT, gIx, gIxO, oAdd, oSub, oMulI, oDiv, oMod, oPow, oInt, oCmp, oNeg, oIx, oIsN, oNotN, isNon, cLen, cAbs, cInt1, cInt2, cIntI, cStrI, cMax, cMin, cDivmod, cTuple, cList, kO, kN, kB, kI, startE, List.map_cons, List.map_nil, List.length_cons, List.length_nil, Nat.reduceAdd, Nat.reduceSub, Nat.reduceLeDiff, Nat.reduceLT, Nat.zero_lt_succ, List.replicate_succ, List.replicate_zero, List.cons_append, List.nil_append, List.append_nil, List.getElem?_cons_zero, List.getElem?_cons_succ, List.set_cons_zero, List.set_cons_succ, atI_0, atI_1, atI_2, atI_3, atI_4, atI_5, ixN_lit, true_and, and_true, and_self, Bool.false_eq_true, if_true, if_false, reduceIte, reduceCtorEq, mput_same, mput_mput, PySem.sizeLine_eq, truD, TruOk, oEqD, oNeD, deq_int, deq_str, deq_bl, deq_tup, deq_lst, deqs_nil, deqs_cons, deqs_nc, deqs_cn, okD, rYes, iSeq, iTupD, iStrD, iEnumD, iZipD, kL, seqD, rCompE, rCompS, rComp, hideE, rFor, rTup, rKix, rSlo, rLenC, rIsC, kBo, rParO, rPar3, rAug, rJoin, kS, cAll, cAny, kB, oSame, rMkL, Bool.and_true, Bool.true_and, Bool.not_true, Bool.not_false, List.set_nil, Int.cast_ofNat_Int, Int.natCast_zero, Int.natCast_one, bls, Option.map_some, List.all_cons, List.all_nil, id_eq, beq_self_eq_true, Int.reduceBEq, Int.reduceLT, Int.reduceLE, Int.reduceAdd, Int.reduceSub, Int.reduceNeg, decide_true, decide_false, Bool.false_and, Bool.and_false, iRange1, iRange2, rBoolC, cReprB, cRepr, isBox, oEqS, rMethK, byOrd, List.length_map]
  obtain ⟨n, hn⟩ : ∃ n : Int, n = (if (if (5 : Int) < ((ns.length : Nat) : Int) then 5 else ((ns.length : Nat) : Int)) > 2 then if (5 : Int) < ((ns.length : Nat) : Int) then 5 else ((ns.length : Nat) : Int) else 2) := ⟨_, rfl⟩
  have hn4 : 0 ≤ n ∧ n ≤ 5 := by rw [hn]; split <;> (try split) <;> omega
  rw [← hn]
  refine ⟨⟨by omega, by omega⟩, ?_⟩
  refine comp_ind (fun items acc M' => ∃ k : Nat, acc = List.replicate k (.bl true) ∧ items.length + k ≤ 5 ∧ ∀ d ∈ items, ∃ i : Nat, i < 5 ∧ d = .int i) ⟨0, rfl, by rw [range_len]; omega, fun d hd => ?_⟩ ?_ ?_
  · obtain ⟨i, hi, rfl⟩ := range_mem hd
    exact ⟨i, by omega, by rw [Int.zero_add]⟩
  · rintro acc M' ⟨k, rfl, _, _⟩
    rw [bls_rep]
    show q (.bl ((List.replicate k true).all id)) M'
    rw [all_rep]
    exact h _
  · rintro d ds acc M' L ⟨k, rfl, k1, k2⟩ hL
    obtain ⟨i, hi, rfl⟩ := k2 d List.mem_cons_self
    rw [List.length_cons] at k1
    simp only [rRet, rRetN, rSeq, rNext, rIfS, rAsg, rDrop, rOwn, rPar, rApp, rNever, rBrk, rCont, dEnds, rV, rC, r2, r1, rTup, rLst, rLstM, rCons, rNil, rStar, rA, rB, rT, rNot, rAnd, rOr, rIf, rIfT, rAndV, rOrV, rNotV, rChain, rIxO, rIsi, rSlice, rPart, rNoP, rCall, rMeth, rProp, rFld, rSetF, rNewF, rMkP, rMkM, gV, gN0, gCs, gT, gIx, gIxO, oAdd, oSub, oMulI, oDiv, oMod, oPow, oInt, oCmp, oNeg, oIx, oIsN, oNotN, isNon, cLen, cAbs, cInt1, cInt2, cIntI, cStrI, cMax, cMin, cDivmod, cTuple, cList, kO, kN, kB, kI, startE, List.map_cons, List.map_nil, List.length_cons, List.length_nil, Nat.reduceAdd, Nat.reduceSub, Nat.reduceLeDiff, Nat.reduceLT, Nat.zero_lt_succ, List.replicate_succ, List.replicate_zero, List.cons_append, List.nil_append, List.append_nil, List.getElem?_cons_zero, List.getElem?_cons_succ, List.set_cons_zero, List.set_cons_succ, atI_0, atI_1, atI_2, atI_3, atI_4, atI_5, ixN_lit, true_and, and_true, and_self, Bool.false_eq_true, if_true, if_false, reduceIte, reduceCtorEq, mput_same, mput_mput, PySem.sizeLine_eq, truD, TruOk, oEqD, oNeD, deq_int, deq_str, deq_bl, deq_tup, deq_lst, deqs_nil, deqs_cons, deqs_nc, deqs_cn, okD, rYes, iSeq, iTupD, iStrD, iEnumD, iZipD, kL, seqD, rCompE, rCompS, rComp, hideE, rFor, rTup, rKix, rSlo, rLenC, rIsC, kBo, rParO, rPar3, rAug, rJoin, kS, cAll, cAny, kB, oSame, rMkL, Bool.and_true, Bool.true_and, Bool.not_true, Bool.not_false, List.set_nil, Int.cast_ofNat_Int, Int.natCast_zero, Int.natCast_one, bls, Option.map_some, List.all_cons, List.all_nil, id_eq, beq_self_eq_true, Int.reduceBEq, Int.reduceLT, Int.reduceLE, Int.reduceAdd, Int.reduceSub, Int.reduceNeg, decide_true, decide_false, Bool.false_and, Bool.and_false, iRange1, iRange2, rBoolC, cReprB, cRepr, isBox, oEqS, rMethK, byOrd]
    refine ⟨ns, i, rfl, by omega, hl, hb, fun p mo hp hW => ?_⟩
    simp only [rRet, rRetN, rSeq, rNext, rIfS, rAsg, rDrop, rOwn, rPar, rApp, rNever, rBrk, rCont, dEnds, rV, rC, r2, r1, rTup, rLst, rLstM, rCons, rNil, rStar, rA, rB, rT, rNot, rAnd, rOr, rIf, rIfT, rAndV, rOrV, rNotV, rChain, rIxO, rIsi, rSlice, rPart, rNoP, rCall, rMeth, rProp, rFld, rSetF, rNewF, rMkP, rMkM, gV, gN0, gCs, gT, gIx, gIxO, oAdd, oSub, oMulI, oDiv, oMod, oPow, oInt, oCmp, oNeg, oIx, oIsN, oNotN, isNon, cLen, cAbs, cInt1, cInt2, cIntI, cStrI, cMax, cMin, cDivmod, cTuple, cList, kO, kN, kB, kI, startE, List.map_cons, List.map_nil, List.length_cons, List.length_nil, Nat.reduceAdd, Nat.reduceSub, Nat.reduceLeDiff, Nat.reduceLT, Nat.zero_lt_succ, List.replicate_succ, List.replicate_zero, List.cons_append, List.nil_append, List.append_nil, List.getElem?_cons_zero, List.getElem?_cons_succ, List.set_cons_zero, List.set_cons_succ, atI_0, atI_1, atI_2, atI_3, atI_4, atI_5, ixN_lit, true_and, and_true, and_self, Bool.false_eq_true, if_true, if_false, reduceIte, reduceCtorEq, mput_same, mput_mput, PySem.sizeLine_eq, truD, TruOk, oEqD, oNeD, deq_int, deq_str, deq_bl, deq_tup, deq_lst, deqs_nil, deqs_cons, deqs_nc, deqs_cn, okD, rYes, iSeq, iTupD, iStrD, iEnumD, iZipD, kL, seqD, rCompE, rCompS, rComp, hideE, rFor, rTup, rKix, rSlo, rLenC, rIsC, kBo, rParO, rPar3, rAug, rJoin, kS, cAll, cAny, kB, oSame, rMkL, Bool.and_true, Bool.true_and, Bool.not_true, Bool.not_false, List.set_nil, Int.cast_ofNat_Int, Int.natCast_zero, Int.natCast_one, bls, Option.map_some, List.all_cons, List.all_nil, id_eq, beq_self_eq_true, Int.reduceBEq, Int.reduceLT, Int.reduceLE, Int.reduceAdd, Int.reduceSub, Int.reduceNeg, decide_true, decide_false, Bool.false_and, Bool.and_false, iRange1, iRange2, rBoolC, cReprB, cRepr, isBox, oEqS, rMethK, byOrd]
    exact ⟨p, mo, rfl, mput_same, hW, fun Z => ⟨by rw [List.length_replicate]; omega, hL _ _ ⟨k + 1, rep_snoc .., by omega, fun d hd => k2 d (List.mem_cons_of_mem _ hd)⟩⟩⟩
end
end DL

set_option autoImplicit true
set_option Elab.async false
set_option linter.all false
set_option maxRecDepth 100000
set_option maxHeartbeats 1000000
namespace DL
open PySem PySem.Spec L2
/-- a def of the top -/
def FF (K : PySem.W.Frag) (x : Str) (st : Stmt) : Prop := ∃ f fd, PySem.W.nsIn K mainGlobals x = some (some (.ref f)) ∧ Fun K x x st f fd
/-- a def of a class -/
def MF (K : PySem.W.Frag) (c : Addr) (m qual : Str) (st : Stmt) : Prop := ∃ f fd, PySem.W.findIn K (.ref c) m = some (some (.ref f)) ∧ PySem.W.isFn K (.ref f) = true ∧ Fun K m qual st f fd
def PF (K : PySem.W.Frag) (c : Addr) (m qual : Str) (st : Stmt) : Prop := ∃ p f fd, PropOf K c m p f ∧ Fun K m qual st f fd
def TupAt (K : PySem.W.Frag) (a : Addr) (its : List Int) : Prop := ∃ (o : Obj) (arr : Array Value) (n : Nat), K.lookup a = some o ∧ o.cls = .type "tuple" ∧ o.data = .seq arr n ∧ arr.size ≤ sizeLine ∧ Vals (its.map V.int) arr.toList
theorem tup_rep {K : PySem.W.Frag} {mg : Str → Option Value} {a : Addr} {x y z : Int} (h : TupAt K a [x, y, z]) (F : Hp) : Rep K mg F (.tup [.int x, .int y, .int z]) (.ref a) := by
  obtain ⟨o, arr, n, h1, h2, h3, h4, h5⟩ := h
  exact ⟨a, [.int x, .int y, .int z], rfl, .inr ⟨o, arr, n, h1, h2, h3, h4, h5⟩, _, _, rfl, rfl, _, _, rfl, rfl, _, _, rfl, rfl, rfl⟩
def IntC (K : PySem.W.Frag) (x : Str) (i : Int) : Prop := ∃ t, PySem.W.nsIn K mainGlobals x = some (some (.int i t))
def TupC (K : PySem.W.Frag) (x : Str) (its : List Int) : Prop := ∃ a, PySem.W.nsIn K mainGlobals x = some (some (.ref a)) ∧ TupAt K a its
theorem reps_ints {K : PySem.W.Frag} {mg : Str → Option Value} {F : Hp} : ∀ ns : List Int, Reps K mg F (ns.map D.int) (ns.map V.int)
  | [] => rfl
  | n :: ns => ⟨_, _, rfl, rfl, reps_ints ns⟩
def spLaw (K : PySem.W.Frag) : Sp := fun vs H Q _ => ∃ (a : Addr) (ns : List Int), vs = [.ref a] ∧ SqL K H a (ns.map V.int) ∧ ns.length ≤ 63 ∧ (∀ z ∈ ns, Builtin.Int.intBits z ≤ 1048576) ∧ ∀ H', Q (.bl true) H'
theorem law_imp {K : PySem.W.Frag} {mg : Str → Option Value} (vs : List V) (H : Hp) (Q : VK) (E : XK) (h : spLaw K vs H Q E) : lift K mg 1 sp_law vs H Q E := by
  obtain ⟨a, ns, rfl, hS, hl, hb, hq⟩ := h
  refine ⟨H, fun _ => none, [.rl (ns.map .int)], fun d _ => d = .bl true, .refl H, (fun a mo e => nomatch e), ⟨.ref a, [], rfl, ⟨a, _, rfl, hS, reps_ints ns⟩, rfl⟩, rfl, ⟨ns, rfl, hl, fun z hz => PySem.intBits_le_iff.mp (hb z hz), fun Z => rfl⟩, fun d M' F' H' v e _ _ _ r => ?_⟩
  subst e
  cases r
  exact hq _
theorem walkB {l : PySem.W.OpenLaw} {k : Nat} {q : Program} {loose : List Str} {XP : (Str → Option Value) → Heap → Prop} {YP : World → Heap → Prop} {d : DefRec} {K : Params → PySem.W.Frag} (hn : l.most = some 63) (hdf : d.params.defaults = []) (hk : Room k callerA)
    (hY : ∀ (w : World) (h : Heap), YP w h → (K w.params).In h)
    (F : ∀ (w : World) (mg : Str → Option Value) (fa : Addr) (h : Heap), (K w.params).In h → h.Ns mainGlobals mg → mg d.name = some (.ref fa) →
      ∃ fd : FuncData, (∀ (s : Shared) (u : Value), BindsTo s fd ⟨[u], []⟩ [("cells", u)]) ∧ ∀ base : Heap, (K w.params).In base → base.Ns mainGlobals mg → GOk l.prog w (K w.params) mg base k fa fd ["cells"] (spLaw (K w.params))) :
    PySem.W.WalkO q loose XP YP l.row.toRowW d [] (fun f vs => PySem.call f vs) :=
  walk_goes (n := 63) (k := k) (x := "cells") (sp := fun w => spLaw (K w.params)) hn (by decide) hdf hk hY F (fun _ _ a ns hl hb hS => ⟨a, ns, rfl, hS, hl, hb, fun _ => rfl⟩)
structure WalkerC (K : PySem.W.Frag) (c : Addr) : Prop where
  ns : PySem.W.nsIn K mainGlobals "Walker" = some (some (.ref c))
  cl : Cls K c
  mks : PySem.W.makesIn K c = true
  kp : PySem.W.keepIn K (.ref c) = true
  spot : NoAttr K c "spot"
  init : MF K c "__init__" "Walker.__init__" s_Walker___init__
  go : MF K c "go" "Walker.go" s_Walker_go
  press : MF K c "press" "Walker.press" s_Walker_press
  undo : MF K c "undo" "Walker.undo" s_Walker_undo
  at_ : PF K c "at" "Walker.at" s_Walker_at
  gone : PF K c "gone" "Walker.gone" s_Walker_gone
  len : MF K c "__len__" "Walker.__len__" s_Walker___len__
  bool_ : MF K c "__bool__" "Walker.__bool__" s_Walker___bool__
abbrev s_Spot___init__ : Stmt := inClass (topS 41) 0
theorem sc_Spot___init__ : FnScope ["self", "whole", "road", "ahead"] ["self", "whole", "road", "ahead"] (defScope s_Spot___init__) := ⟨rfl, rfl, rfl, by decide +kernel, rfl, by decide +kernel, by decide +kernel⟩
structure SpotC (K : PySem.W.Frag) (c : Addr) : Prop where
  ns : PySem.W.nsIn K mainGlobals "Spot" = some (some (.ref c))
  cl : Cls K c
  mks : PySem.W.makesIn K c = true
  kp : PySem.W.keepIn K (.ref c) = true
  f1 : NoAttr K c "whole"
  f2 : NoAttr K c "road"
  f3 : NoAttr K c "ahead"
  init : MF K c "__init__" "Spot.__init__" s_Spot___init__
structure LotC (K : PySem.W.Frag) (c sl : Addr) : Prop where
  ns : PySem.W.nsIn K mainGlobals "Lot" = some (some (.ref c))
  sc : SlX.SCls K c
  s1 : SlX.Slot1 K c "own_buttons" sl 0
  si : SlX.SIsi K c
  k1 : PySem.W.kitOne K (.ref c) (.ref c) = some true
  k2 : ∀ T ∈ ["NoneType", "bool", "int", "str", "tuple", "list", "dict"], PySem.W.kitOne K (.type T) (.ref c) = some false
  mks : PySem.W.makesIn K c = true
  kp : PySem.W.keepIn K (.ref c) = true
  init : MF K c "__init__" "Lot.__init__" s_Lot___init__
  len : MF K c "__len__" "Lot.__len__" s_Lot___len__
def BltC (K : PySem.W.Frag) : Prop := PySem.W.nsIn K mainGlobals "isinstance" = some none ∧ PySem.W.nsIn K mainGlobals "int" = some none ∧ PySem.W.nsIn K mainGlobals "bool" = some none ∧ PySem.W.nsIn K mainGlobals "str" = some none ∧ PySem.W.nsIn K mainGlobals "tuple" = some none ∧ PySem.W.nsIn K mainGlobals "list" = some none ∧ PySem.W.nsIn K mainGlobals "len" = some none ∧ PySem.W.nsIn K mainGlobals "abs" = some none ∧ PySem.W.nsIn K mainGlobals "all" = some none ∧ PySem.W.nsIn K mainGlobals "any" = some none ∧ PySem.W.nsIn K mainGlobals "max" = some none ∧ PySem.W.nsIn K mainGlobals "min" = some none ∧ PySem.W.nsIn K mainGlobals "divmod" = some none ∧ PySem.W.nsIn K mainGlobals "sum" = some none ∧ PySem.W.nsIn K mainGlobals "range" = some none ∧ PySem.W.nsIn K mainGlobals "enumerate" = some none ∧ PySem.W.nsIn K mainGlobals "zip" = some none ∧ PySem.W.nsIn K mainGlobals "repr" = some none ∧ PySem.W.nsIn K mainGlobals "sorted" = some none ∧ PySem.W.nsIn K mainGlobals "set" = some none
section
variable {P : Program} {w : World} {K : PySem.W.Frag} {mg : Str → Option Value} {base : Heap}
theorem all_mk {h : Heap} {fa cW cS cL sl : Addr} (X : K.In h) (G : h.Ns mainGlobals mg) (hfa : mg "law" = some (.ref fa)) (hB : BltC K) (hW : WalkerC K cW) (hS : SpotC K cS) (hL : LotC K cL sl)
    (h_PLAIN : TupC K "PLAIN" [0, 0, 0]) (h_NUM : IntC K "MOST_NUMBER" (10 ^ 30)) (h_BUT : IntC K "MOST_BUTTONS" 5) (h_DEP : IntC K "MOST_DEPTH" 5) (h_is_integer : FF K "is_integer" s_is_integer) (h_is_move : FF K "is_move" s_is_move) (h_check_move : FF K "check_move" s_check_move) (h_then_move : FF K "then_move" s_then_move) (h_often_move : FF K "often_move" s_often_move) (h_after : FF K "after" s_after) (h_is_button : FF K "is_button" s_is_button) (h_wrong_button : FF K "wrong_button" s_wrong_button) (h_check_lot : FF K "check_lot" s_check_lot) (h_part_move : FF K "part_move" s_part_move) (h_plan_move : FF K "plan_move" s_plan_move) (h_doing : FF K "doing" s_doing) (h__law_dip : FF K "_law_dip" s__law_dip) (h__law_one_of : FF K "_law_one_of" s__law_one_of) (h__law_number : FF K "_law_number" s__law_number) (h__law_drawn : FF K "_law_drawn" s__law_drawn) (h__law_join : FF K "_law_join" s__law_join) (h__law_many : FF K "_law_many" s__law_many) (h__law_buttons : FF K "_law_buttons" s__law_buttons) (h__law_drawn_plan : FF K "_law_drawn_plan" s__law_drawn_plan) (h__law_planned : FF K "_law_planned" s__law_planned) (h__law_shows : FF K "_law_shows" s__law_shows) (h__law_deed : FF K "_law_deed" s__law_deed) (h__law_right : FF K "_law_right" s__law_right) (h__law_quiet : FF K "_law_quiet" s__law_quiet) (h__law_well : FF K "_law_well" s__law_well) (h_law : FF K "law" s_law) :
    ∃ fd : FuncData, (∀ (s : Shared) (u : Value), BindsTo s fd ⟨[u], []⟩ [("cells", u)]) ∧ ∀ base : Heap, K.In base → base.Ns mainGlobals mg → GOk P w K mg base 26 fa fd ["cells"] (spLaw K) := by
  have B : Blt mg := by
    obtain ⟨b0, b1, b2, b3, b4, b5, b6, b7, b8, b9, b10, b11, b12, b13, b14, b15, b16, b17, b18, b19⟩ := hB
    intro x hx
    simp only [bltNames, List.mem_cons, List.not_mem_nil, or_false] at hx
    rcases hx with rfl | rfl | rfl | rfl | rfl | rfl | rfl | rfl | rfl | rfl | rfl | rfl | rfl | rfl | rfl | rfl | rfl | rfl | rfl | rfl
    · exact PySem.W.mg_none_of X G b0
    · exact PySem.W.mg_none_of X G b1
    · exact PySem.W.mg_none_of X G b2
    · exact PySem.W.mg_none_of X G b3
    · exact PySem.W.mg_none_of X G b4
    · exact PySem.W.mg_none_of X G b5
    · exact PySem.W.mg_none_of X G b6
    · exact PySem.W.mg_none_of X G b7
    · exact PySem.W.mg_none_of X G b8
    · exact PySem.W.mg_none_of X G b9
    · exact PySem.W.mg_none_of X G b10
    · exact PySem.W.mg_none_of X G b11
    · exact PySem.W.mg_none_of X G b12
    · exact PySem.W.mg_none_of X G b13
    · exact PySem.W.mg_none_of X G b14
    · exact PySem.W.mg_none_of X G b15
    · exact PySem.W.mg_none_of X G b16
    · exact PySem.W.mg_none_of X G b17
    · exact PySem.W.mg_none_of X G b18
    · exact PySem.W.mg_none_of X G b19
  have c_PLAIN : GlobV K mg "PLAIN" (mvD PL) := by
    obtain ⟨a, h1, h2⟩ := h_PLAIN
    exact ⟨.ref a, _, PySem.W.mg_of X G h1, rfl, fun F => tup_rep h2 F⟩
  have c_MOST_NUMBER : GlobV K mg "MOST_NUMBER" (.int (10 ^ 30)) := by
    obtain ⟨t, h1⟩ := h_NUM
    exact ⟨.int _, _, PySem.W.mg_of X G h1, ⟨t, rfl⟩, fun F => rfl⟩
  have c_MOST_BUTTONS : GlobV K mg "MOST_BUTTONS" (.int 5) := by
    obtain ⟨t, h1⟩ := h_BUT
    exact ⟨.int _, _, PySem.W.mg_of X G h1, ⟨t, rfl⟩, fun F => rfl⟩
  have c_MOST_DEPTH : GlobV K mg "MOST_DEPTH" (.int 5) := by
    obtain ⟨t, h1⟩ := h_DEP
    exact ⟨.int _, _, PySem.W.mg_of X G h1, ⟨t, rfl⟩, fun F => rfl⟩
  have mW := PySem.W.mg_of X G hW.ns
  have mS := PySem.W.mg_of X G hS.ns
  have mL := PySem.W.mg_of X G hL.ns
  have f_whole : FldG K mg "Spot" "whole" := ⟨cS, mS, hS.cl, hS.f1⟩
  have f_road : FldG K mg "Spot" "road" := ⟨cS, mS, hS.cl, hS.f2⟩
  have f_ahead : FldG K mg "Spot" "ahead" := ⟨cS, mS, hS.cl, hS.f3⟩
  have f_spot : FldG K mg "Walker" "spot" := ⟨cW, mW, hW.cl, hW.spot⟩
  have sl_Lot : SloG K mg "Lot" "own_buttons" 0 := ⟨cL, sl, mL, hL.sc, hL.s1⟩
  have is_Lot : IsG K mg "Lot" := ⟨cL, mL, hL.sc, hL.si, hL.k1, hL.k2⟩
  obtain ⟨fI, fdI, aI, iI, FI⟩ := hS.init
  obtain ⟨fLi, fdLi, aLi, iLi, FLi⟩ := hL.init
  obtain ⟨fLl, fdLl, aLl, iLl, FLl⟩ := hL.len
  obtain ⟨fWi, fdWi, aWi, iWi, FWi⟩ := hW.init
  obtain ⟨fWg, fdWg, aWg, iWg, FWg⟩ := hW.go
  obtain ⟨fWp, fdWp, aWp, iWp, FWp⟩ := hW.press
  obtain ⟨fWu, fdWu, aWu, iWu, FWu⟩ := hW.undo
  obtain ⟨fWl, fdWl, aWl, iWl, FWl⟩ := hW.len
  obtain ⟨fWb, fdWb, aWb, iWb, FWb⟩ := hW.bool_
  obtain ⟨pA, fWa, fdWa, poA, FWa⟩ := hW.at_
  obtain ⟨pG, fWo, fdWo, poG, FWo⟩ := hW.gone
  obtain ⟨f_is_integer_, fd_is_integer, a_is_integer, F_is_integer⟩ := h_is_integer
  obtain ⟨f_is_move_, fd_is_move, a_is_move, F_is_move⟩ := h_is_move
  obtain ⟨f_check_move_, fd_check_move, a_check_move, F_check_move⟩ := h_check_move
  obtain ⟨f_then_move_, fd_then_move, a_then_move, F_then_move⟩ := h_then_move
  obtain ⟨f_often_move_, fd_often_move, a_often_move, F_often_move⟩ := h_often_move
  obtain ⟨f_after_, fd_after, a_after, F_after⟩ := h_after
  obtain ⟨f_is_button_, fd_is_button, a_is_button, F_is_button⟩ := h_is_button
  obtain ⟨f_wrong_button_, fd_wrong_button, a_wrong_button, F_wrong_button⟩ := h_wrong_button
  obtain ⟨f_check_lot_, fd_check_lot, a_check_lot, F_check_lot⟩ := h_check_lot
  obtain ⟨f_part_move_, fd_part_move, a_part_move, F_part_move⟩ := h_part_move
  obtain ⟨f_plan_move_, fd_plan_move, a_plan_move, F_plan_move⟩ := h_plan_move
  obtain ⟨f_doing_, fd_doing, a_doing, F_doing⟩ := h_doing
  obtain ⟨f__law_dip_, fd__law_dip, a__law_dip, F__law_dip⟩ := h__law_dip
  obtain ⟨f__law_one_of_, fd__law_one_of, a__law_one_of, F__law_one_of⟩ := h__law_one_of
  obtain ⟨f__law_number_, fd__law_number, a__law_number, F__law_number⟩ := h__law_number
  obtain ⟨f__law_drawn_, fd__law_drawn, a__law_drawn, F__law_drawn⟩ := h__law_drawn
  obtain ⟨f__law_join_, fd__law_join, a__law_join, F__law_join⟩ := h__law_join
  obtain ⟨f__law_many_, fd__law_many, a__law_many, F__law_many⟩ := h__law_many
  obtain ⟨f__law_buttons_, fd__law_buttons, a__law_buttons, F__law_buttons⟩ := h__law_buttons
  obtain ⟨f__law_drawn_plan_, fd__law_drawn_plan, a__law_drawn_plan, F__law_drawn_plan⟩ := h__law_drawn_plan
  obtain ⟨f__law_planned_, fd__law_planned, a__law_planned, F__law_planned⟩ := h__law_planned
  obtain ⟨f__law_shows_, fd__law_shows, a__law_shows, F__law_shows⟩ := h__law_shows
  obtain ⟨f__law_deed_, fd__law_deed, a__law_deed, F__law_deed⟩ := h__law_deed
  obtain ⟨f__law_right_, fd__law_right, a__law_right, F__law_right⟩ := h__law_right
  obtain ⟨f__law_quiet_, fd__law_quiet, a__law_quiet, F__law_quiet⟩ := h__law_quiet
  obtain ⟨f__law_well_, fd__law_well, a__law_well, F__law_well⟩ := h__law_well
  obtain ⟨f_law_, fd_law, a_law, F_law⟩ := h_law
  have e := hfa.symm.trans (PySem.W.mg_of X G a_law)
  cases e
  refine ⟨fd_law, fun s u => ?_, fun base KB GB => ?_⟩
  · obtain ⟨⟨oc, od, kV, doc, pm, an, cdv, ct, osl, rfl, l, c⟩, k⟩ := F_law
    exact .of_eq rfl
  have k_Spot : MkP P w K mg base "Spot" 1 ["whole", "road", "ahead"] := mkp3 FI mS ⟨hS.mks, aI, iI, hS.kp⟩ hS.cl hS.f1 hS.f2 hS.f3 sc_Spot___init__ (fun _ _ _ _ _ _ us hl => match us, hl with | [_, _, _, _], _ => rfl) rfl rfl (by decide +kernel) (by decide +kernel) (by decide +kernel) (fun cdv A outer s H E => ⟨_, _, _, rfl, ps_fld (pv 0) (pv 1) rfl, ps_fld (pv 0) (pv 2) rfl, ps_fld (pv 0) (pv 3) rfl⟩)
  have g_is_integer := ok_is_integer (P := P) (w := w) (base := base) (c := cW) (pp := cW) F_is_integer (PySem.W.mg_of X G a_is_integer) B 
  have g_is_move := ok_is_move (P := P) (w := w) (base := base) (c := cW) (pp := cW) F_is_move (PySem.W.mg_of X G a_is_move) B g_is_integer
  have g_check_move := ok_check_move (P := P) (w := w) (base := base) (c := cW) (pp := cW) F_check_move (PySem.W.mg_of X G a_check_move) B g_is_move
  have g_then_move := ok_then_move (P := P) (w := w) (base := base) (c := cW) (pp := cW) F_then_move (PySem.W.mg_of X G a_then_move) B 
  have g_often_move := ok_often_move (P := P) (w := w) (base := base) (c := cW) (pp := cW) F_often_move (PySem.W.mg_of X G a_often_move) B 
  have g_after := ok_after (P := P) (w := w) (base := base) (c := cW) (pp := cW) F_after (PySem.W.mg_of X G a_after) B g_then_move g_is_move c_PLAIN
  have g_is_button := ok_is_button (P := P) (w := w) (base := base) (c := cW) (pp := cW) F_is_button (PySem.W.mg_of X G a_is_button) B c_MOST_NUMBER g_is_move
  have g_wrong_button := ok_wrong_button (P := P) (w := w) (base := base) (c := cW) (pp := cW) F_wrong_button (PySem.W.mg_of X G a_wrong_button) B g_is_button c_MOST_BUTTONS
  have mk_Lot := ok_Lot_init (P := P) (w := w) (base := base) FLi mL ⟨hL.mks, aLi, iLi, hL.kp⟩ hL.sc hL.s1 g_wrong_button
  have len_Lot := ok_Lot_len (P := P) (w := w) (base := base) FLl mL aLl iLl B sl_Lot
  have g_check_lot := ok_check_lot (P := P) (w := w) (base := base) (c := cW) (pp := cW) F_check_lot (PySem.W.mg_of X G a_check_lot) B is_Lot
  have mpl := PySem.W.mg_of X G a_plan_move
  have mpa := PySem.W.mg_of X G a_part_move
  have pl0 : FnG P w K mg base "plan_move" 6 3 (sp_plan_move 0) := ((fng_never F_plan_move mpl sc_plan_move (fun _ _ _ _ _ _ us hl => match us, hl with | [_, _, _], _ => rfl) rfl).imp fun ds M q _ ⟨_, _, _, _, _, _, _, hp, _⟩ => hp).mono (by decide)
  have pa0 := ok_part_move (P := P) (w := w) (base := base) (c := cW) (pp := cW) (k0 := 6) (by decide) F_part_move mpa B sl_Lot len_Lot g_is_integer pl0
  have pl1 := ok_plan_move (P := P) (w := w) (base := base) (c := cW) (pp := cW) (k0 := 7) (by decide) F_plan_move mpl B g_then_move g_often_move pa0 g_is_integer c_PLAIN
  have pa1 := ok_part_move (P := P) (w := w) (base := base) (c := cW) (pp := cW) (k0 := 8) (by decide) F_part_move mpa B sl_Lot len_Lot g_is_integer pl1
  have pl2 := ok_plan_move (P := P) (w := w) (base := base) (c := cW) (pp := cW) (k0 := 9) (by decide) F_plan_move mpl B g_then_move g_often_move pa1 g_is_integer c_PLAIN
  have pa2 := ok_part_move (P := P) (w := w) (base := base) (c := cW) (pp := cW) (k0 := 10) (by decide) F_part_move mpa B sl_Lot len_Lot g_is_integer pl2
  have pl3 := ok_plan_move (P := P) (w := w) (base := base) (c := cW) (pp := cW) (k0 := 11) (by decide) F_plan_move mpl B g_then_move g_often_move pa2 g_is_integer c_PLAIN
  have pa3 := ok_part_move (P := P) (w := w) (base := base) (c := cW) (pp := cW) (k0 := 12) (by decide) F_part_move mpa B sl_Lot len_Lot g_is_integer pl3
  have pl4 := ok_plan_move (P := P) (w := w) (base := base) (c := cW) (pp := cW) (k0 := 13) (by decide) F_plan_move mpl B g_then_move g_often_move pa3 g_is_integer c_PLAIN
  have g_plan_move : FnG P w K mg base "plan_move" 20 3 (sp_plan_move 4) := pl4.mono (by decide)
  have g_doing := ok_doing (P := P) (w := w) (base := base) (c := cW) (pp := cW) (dd := 4) (by decide) F_doing (PySem.W.mg_of X G a_doing) B g_plan_move c_MOST_DEPTH g_check_lot
  have k_Walker := ok_Walker___init__ (P := P) (w := w) (base := base) (pp := cW) FWi mW ⟨hW.mks, aWi, iWi, hW.kp⟩ B f_spot k_Spot c_PLAIN
  have p_at := ok_Walker_at (P := P) (w := w) (base := base) FWa mW hW.cl poA B f_whole f_spot
  have p_gone := ok_Walker_gone (P := P) (w := w) (base := base) FWo mW hW.cl poG B f_road f_spot
  have m_go := ok_Walker_go (P := P) (w := w) (base := base) (pp := cW) FWg mW hW.cl ⟨aWg, iWg, FWg.kp⟩ B f_whole f_spot k_Spot f_road g_then_move g_check_move
  have mkgo : MtK P w K mg base "Walker" "go" 4 2 ["move"] [0] sp_Walker_go := mtk_of FWg mW hW.cl ⟨aWg, iWg, FWg.kp⟩ (okf_Walker_go FWg B f_whole f_spot k_Spot f_road g_then_move g_check_move) rfl (fun _ _ _ _ _ _ u ws hl => match ws, hl with | [_], _ => rfl)
  have m_press := ok_Walker_press (P := P) (w := w) (base := base) (pp := cW) FWp mW hW.cl ⟨aWp, iWp, FWp.kp⟩ B m_go g_doing
  have mkpress : MtK P w K mg base "Walker" "press" 22 3 ["plan", "lot"] [1, 0] sp_Walker_press := mtk_of FWp mW hW.cl ⟨aWp, iWp, FWp.kp⟩ (okf_Walker_press FWp B m_go g_doing) rfl (fun _ _ _ _ _ _ u ws hl => match ws, hl with | [_, _], _ => rfl)
  have m_undo := ok_Walker_undo (P := P) (w := w) (base := base) (pp := cW) FWu mW hW.cl ⟨aWu, iWu, FWu.kp⟩ B f_spot f_ahead
  have g__law_dip := ok__law_dip (P := P) (w := w) (base := base) (c := cW) (pp := cW) F__law_dip (PySem.W.mg_of X G a__law_dip) B 
  have g__law_one_of := ok__law_one_of (P := P) (w := w) (base := base) (c := cW) (pp := cW) F__law_one_of (PySem.W.mg_of X G a__law_one_of) B g__law_dip
  have g__law_number := ok__law_number (P := P) (w := w) (base := base) (c := cW) (pp := cW) F__law_number (PySem.W.mg_of X G a__law_number) B g__law_dip
  have g__law_drawn := ok__law_drawn (P := P) (w := w) (base := base) (c := cW) (pp := cW) F__law_drawn (PySem.W.mg_of X G a__law_drawn) B g__law_dip g__law_number
  have g__law_join := ok__law_join (P := P) (w := w) (base := base) (c := cW) (pp := cW) F__law_join (PySem.W.mg_of X G a__law_join) B 
  have g__law_many := ok__law_many (P := P) (w := w) (base := base) (c := cW) (pp := cW) F__law_many (PySem.W.mg_of X G a__law_many) B 
  have g__law_buttons := ok__law_buttons (P := P) (w := w) (base := base) (c := cW) (pp := cW) F__law_buttons (PySem.W.mg_of X G a__law_buttons) B g__law_dip g__law_drawn
  have mdp := PySem.W.mg_of X G a__law_drawn_plan
  have dp0 : FnG P w K mg base "_law_drawn_plan" 6 3 (sp__law_drawn_plan 0) := ((fng_never F__law_drawn_plan mdp sc__law_drawn_plan (fun _ _ _ _ _ _ us hl => match us, hl with | [_, _, _], _ => rfl) rfl).imp fun ds M q _ ⟨_, _, _, _, _, _, _, _, _, _, h1, _⟩ => absurd h1 (by decide)).mono (by decide)
  have dp1 := ok__law_drawn_plan (P := P) (w := w) (base := base) (c := cW) (pp := cW) (k0 := 6) (by decide) F__law_drawn_plan mdp B g__law_dip g__law_one_of dp0
  have dp2 := ok__law_drawn_plan (P := P) (w := w) (base := base) (c := cW) (pp := cW) (k0 := 7) (by decide) F__law_drawn_plan mdp B g__law_dip g__law_one_of dp1
  have dp3 := ok__law_drawn_plan (P := P) (w := w) (base := base) (c := cW) (pp := cW) (k0 := 8) (by decide) F__law_drawn_plan mdp B g__law_dip g__law_one_of dp2
  have dp4 := ok__law_drawn_plan (P := P) (w := w) (base := base) (c := cW) (pp := cW) (k0 := 9) (by decide) F__law_drawn_plan mdp B g__law_dip g__law_one_of dp3
  have g__law_drawn_plan : FnG P w K mg base "_law_drawn_plan" 20 3 (sp__law_drawn_plan 4) := dp4.mono (by decide)
  have mpd := PySem.W.mg_of X G a__law_planned
  have pd0 : FnG P w K mg base "_law_planned" 6 2 (sp__law_planned 0) := ((fng_never F__law_planned mpd sc__law_planned (fun _ _ _ _ _ _ us hl => match us, hl with | [_, _], _ => rfl) rfl).imp fun ds M q _ ⟨_, _, _, _, _, hp, _⟩ => hp).mono (by decide)
  have pd1 := ok__law_planned (P := P) (w := w) (base := base) (c := cW) (pp := cW) (k0 := 6) (by decide) F__law_planned mpd B g__law_join g__law_many pd0
  have pd2 := ok__law_planned (P := P) (w := w) (base := base) (c := cW) (pp := cW) (k0 := 7) (by decide) F__law_planned mpd B g__law_join g__law_many pd1
  have pd3 := ok__law_planned (P := P) (w := w) (base := base) (c := cW) (pp := cW) (k0 := 8) (by decide) F__law_planned mpd B g__law_join g__law_many pd2
  have pd4 := ok__law_planned (P := P) (w := w) (base := base) (c := cW) (pp := cW) (k0 := 9) (by decide) F__law_planned mpd B g__law_join g__law_many pd3
  have g__law_planned : FnG P w K mg base "_law_planned" 20 2 (sp__law_planned 4) := pd4.mono (by decide)
  have len_Walker := ok_Walker___len__ (P := P) (w := w) (base := base) FWl mW aWl iWl B f_road f_spot
  have bool_Walker := ok_Walker___bool__ (P := P) (w := w) (base := base) FWb mW aWb iWb B 
  have w__law_shows := ok__law_shows (P := P) (w := w) (base := base) (c := cW) (pp := cW) F__law_shows (PySem.W.mg_of X G a__law_shows) B bool_Walker len_Walker p_gone p_at
  have g__law_deed := ok__law_deed (P := P) (w := w) (base := base) (c := cW) (pp := cW) F__law_deed (PySem.W.mg_of X G a__law_deed) B g__law_join m_go mkgo g__law_drawn m_press mk_Lot mkpress g__law_planned g__law_drawn_plan g__law_buttons m_undo g__law_dip
  have w__law_right := ok__law_right (P := P) (w := w) (base := base) (c := cW) (pp := cW) F__law_right (PySem.W.mg_of X G a__law_right) B w__law_shows m_undo g__law_dip g_after p_gone p_at g__law_deed k_Walker
  have w__law_quiet := ok__law_quiet (P := P) (w := w) (base := base) (c := cW) (pp := cW) F__law_quiet (PySem.W.mg_of X G a__law_quiet) B w__law_right
  have g__law_well := ok__law_well (P := P) (w := w) (base := base) (c := cW) (pp := cW) F__law_well (PySem.W.mg_of X G a__law_well) B 
  exact (ok_law F_law B w__law_quiet g__law_well).imp law_imp
end
end DL

set_option autoImplicit true
set_option Elab.async false
set_option maxRecDepth 100000
open PySem PySem.W PyProof.Rows in
set_option maxRecDepth 100000 in
set_option maxHeartbeats 0 in
theorem PySem.Challenge.cw_arealots_k56_whole_walkers_led_holds : PySem.Challenge.rw_arealots_k56_whole_walkers_led.Holds := by
  w_on; o_law; k_head; (case hw => w_witness2)
  k_fill
  refine DL.walkB (l := PySem.Challenge.rw_arealots_k56_whole_walkers_led) (k := 26) rfl rfl ⟨rfl, by decide, by decide⟩ (fun w h Y => PySem.W.kIn_of Y) ?F
  case F =>
    intro w mg fa h KX G hmg
    refine' DL.all_mk KX G hmg ?hB ?hW ?hS ?hL ?hPLAIN ?hNUM ?hBUT ?hDEP ?his_integer ?his_move ?hcheck_move ?hthen_move ?hoften_move ?hafter ?his_button ?hwrong_button ?hcheck_lot ?hpart_move ?hplan_move ?hdoing ?h_law_dip ?h_law_one_of ?h_law_number ?h_law_drawn ?h_law_join ?h_law_many ?h_law_buttons ?h_law_drawn_plan ?h_law_planned ?h_law_shows ?h_law_deed ?h_law_right ?h_law_quiet ?h_law_well ?hlaw
    (case hB => exact ⟨by k_is, by k_is, by k_is, by k_is, by k_is, by k_is, by k_is, by k_is, by k_is, by k_is, by k_is, by k_is, by k_is, by k_is, by k_is, by k_is, by k_is, by k_is, by k_is, by k_is⟩)
    (case hW => exact ⟨by k_is, ⟨by k_is, by k_is, by k_is, by k_is⟩, by k_is, by k_is, (by unfold L2.NoAttr; k_is), ⟨_, _, by k_is, by k_is, L2.fun_mk (by k_is) (by k_is) (by k_is)⟩, ⟨_, _, by k_is, by k_is, L2.fun_mk (by k_is) (by k_is) (by k_is)⟩, ⟨_, _, by k_is, by k_is, L2.fun_mk (by k_is) (by k_is) (by k_is)⟩, ⟨_, _, by k_is, by k_is, L2.fun_mk (by k_is) (by k_is) (by k_is)⟩, ⟨_, _, _, ⟨by k_is, by k_is, by k_is, ⟨_, by k_is⟩⟩, L2.fun_mk (by k_is) (by k_is) (by k_is)⟩, ⟨_, _, _, ⟨by k_is, by k_is, by k_is, ⟨_, by k_is⟩⟩, L2.fun_mk (by k_is) (by k_is) (by k_is)⟩, ⟨_, _, by k_is, by k_is, L2.fun_mk (by k_is) (by k_is) (by k_is)⟩, ⟨_, _, by k_is, by k_is, L2.fun_mk (by k_is) (by k_is) (by k_is)⟩⟩)
    (case hS => exact ⟨by k_is, ⟨by k_is, by k_is, by k_is, by k_is⟩, by k_is, by k_is, (by unfold L2.NoAttr; k_is), (by unfold L2.NoAttr; k_is), (by unfold L2.NoAttr; k_is), ⟨_, _, by k_is, by k_is, L2.fun_mk (by k_is) (by k_is) (by k_is)⟩⟩)
    (case hL => exact ⟨by k_is, ⟨by k_is, by k_is, by k_is, by k_is⟩, ⟨by k_is, by k_is, by k_is, by k_is, by k_is, by decide⟩, ⟨by k_is, by k_is, by k_is, by k_is⟩, by kit_is, by intro T hT; simp only [List.mem_cons, List.not_mem_nil, or_false] at hT; rcases hT with rfl | rfl | rfl | rfl | rfl | rfl | rfl <;> kit_is, by k_is, by k_is, ⟨_, _, by k_is, by k_is, L2.fun_mk (by k_is) (by k_is) (by k_is)⟩, ⟨_, _, by k_is, by k_is, L2.fun_mk (by k_is) (by k_is) (by k_is)⟩⟩)
    (case hPLAIN => exact ⟨_, by k_is, ⟨_, _, _, by k_is, rfl, rfl, by decide, .cons ⟨_, rfl⟩ (.cons ⟨_, rfl⟩ (.cons ⟨_, rfl⟩ .nil))⟩⟩)
    (case hNUM => exact ⟨_, by k_is⟩)
    (case hBUT => exact ⟨_, by k_is⟩)
    (case hDEP => exact ⟨_, by k_is⟩)
    (case his_integer => exact ⟨_, _, by k_is, L2.fun_mk (by k_is) (by k_is) (by k_is)⟩)
    (case his_move => exact ⟨_, _, by k_is, L2.fun_mk (by k_is) (by k_is) (by k_is)⟩)
    (case hcheck_move => exact ⟨_, _, by k_is, L2.fun_mk (by k_is) (by k_is) (by k_is)⟩)
    (case hthen_move => exact ⟨_, _, by k_is, L2.fun_mk (by k_is) (by k_is) (by k_is)⟩)
    (case hoften_move => exact ⟨_, _, by k_is, L2.fun_mk (by k_is) (by k_is) (by k_is)⟩)
    (case hafter => exact ⟨_, _, by k_is, L2.fun_mk (by k_is) (by k_is) (by k_is)⟩)
    (case his_button => exact ⟨_, _, by k_is, L2.fun_mk (by k_is) (by k_is) (by k_is)⟩)
    (case hwrong_button => exact ⟨_, _, by k_is, L2.fun_mk (by k_is) (by k_is) (by k_is)⟩)
    (case hcheck_lot => exact ⟨_, _, by k_is, L2.fun_mk (by k_is) (by k_is) (by k_is)⟩)
    (case hpart_move => exact ⟨_, _, by k_is, L2.fun_mk (by k_is) (by k_is) (by k_is)⟩)
    (case hplan_move => exact ⟨_, _, by k_is, L2.fun_mk (by k_is) (by k_is) (by k_is)⟩)
    (case hdoing => exact ⟨_, _, by k_is, L2.fun_mk (by k_is) (by k_is) (by k_is)⟩)
    (case h_law_dip => exact ⟨_, _, by k_is, L2.fun_mk (by k_is) (by k_is) (by k_is)⟩)
    (case h_law_one_of => exact ⟨_, _, by k_is, L2.fun_mk (by k_is) (by k_is) (by k_is)⟩)
    (case h_law_number => exact ⟨_, _, by k_is, L2.fun_mk (by k_is) (by k_is) (by k_is)⟩)
    (case h_law_drawn => exact ⟨_, _, by k_is, L2.fun_mk (by k_is) (by k_is) (by k_is)⟩)
    (case h_law_join => exact ⟨_, _, by k_is, L2.fun_mk (by k_is) (by k_is) (by k_is)⟩)
    (case h_law_many => exact ⟨_, _, by k_is, L2.fun_mk (by k_is) (by k_is) (by k_is)⟩)
    (case h_law_buttons => exact ⟨_, _, by k_is, L2.fun_mk (by k_is) (by k_is) (by k_is)⟩)
    (case h_law_drawn_plan => exact ⟨_, _, by k_is, L2.fun_mk (by k_is) (by k_is) (by k_is)⟩)
    (case h_law_planned => exact ⟨_, _, by k_is, L2.fun_mk (by k_is) (by k_is) (by k_is)⟩)
    (case h_law_shows => exact ⟨_, _, by k_is, L2.fun_mk (by k_is) (by k_is) (by k_is)⟩)
    (case h_law_deed => exact ⟨_, _, by k_is, L2.fun_mk (by k_is) (by k_is) (by k_is)⟩)
    (case h_law_right => exact ⟨_, _, by k_is, L2.fun_mk (by k_is) (by k_is) (by k_is)⟩)
    (case h_law_quiet => exact ⟨_, _, by k_is, L2.fun_mk (by k_is) (by k_is) (by k_is)⟩)
    (case h_law_well => exact ⟨_, _, by k_is, L2.fun_mk (by k_is) (by k_is) (by k_is)⟩)
    (case hlaw => exact ⟨_, _, by k_is, L2.fun_mk (by k_is) (by k_is) (by k_is)⟩)
#print axioms PySem.Challenge.cw_arealots_k56_whole_walkers_led_holds

