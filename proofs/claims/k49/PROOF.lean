import PyProof.Rows.All
import Wide.All
import OpenK.AllK
import Wide.FinOn
import KE.KStateDown
import HandS.ForMost
import HandS.ForExc
import HandS.HeadHook2
import HandS.TryMany
import HandS.ExcIs
import HandS.TupLe
import HandS.Deep
import HandS.Conv
import HandS.IsInst
import HandS.Flow
import HandS.Zip
import HandS.CallSlots
import HandS.Style
import HandS.TupMul
import HandS.More
import HandS.WideBits
import HandS.SortInts
import HandS.Defaults
import HandS.TupAny
import HandS.SortRule
import HandS.Rev
import HandS.MakeKwOnly
import HandS.RevTup
import HandS.TryOnly
import HandS.ExcInit
import HandS.Head0
import HandS.Head1
import HandS.Head2
import HandS.HeadEnd
import HandS.HeadHook1
import HandS.Words
import KE.IntBitsLaws
import PySem.Challenge.RW_middlewebs_k49_merged_or_conflict
set_option Elab.async false
set_option linter.all false
set_option maxRecDepth 100000
set_option maxHeartbeats 0
/-! MW, part A: data as a whole (D), the heap of lists that change (DHp), the relation to the hand layer's values, a reading over data (SE). -/
namespace L2.MW
open PySem PySem.Spec PyProof.Rows

/-- a value as a whole: tuples, lists that change no more and objects that change no more are held whole; ref i: the i-th thing of the changing heap -/
inductive D where
  | non | bl (b : Bool) | int (i : Int) | str (x : Str)
  | tup (l : List D) | lst (l : List D) | fz (l : List D) | ref (i : Nat)
  | obj (c : String) (fs : List (Str × D))
  | ty (n : String) | cls (c : String)
  | exn (a : Addr) (c : String) (dd : Addr) (fs : List (Str × D))
  deriving Inhabited

/-- a thing that changes -/
inductive HB where
  | lst (l : List D)
  | ins (c : String) (fs : List (Str × D))
abbrev DHp := List HB
abbrev DSt := List (Option D)
abbrev DK := D → DHp → Prop


section
variable (K : PySem.W.Frag)
/-- a tuple, a list that is read at a, not among the changing ones -/
def TupAt (ρ : List Addr) (H : Hp) (a : Addr) (vs : List V) : Prop := a ∉ ρ ∧ H a = some (.tup vs)
def LstAt (ρ : List Addr) (H : Hp) (a : Addr) (vs : List V) : Prop := a ∉ ρ ∧ H a = some (.lst vs)
/-- a list that others made (the script, the module's own) -/
def FzAt (ρ : List Addr) (H : Hp) (a : Addr) (vs : List V) : Prop :=
  (a ∉ ρ ∧ Rd H a (.lst vs)) ∨ ∃ (o : Obj) (its : Array Value) (n : Nat), K.lookup a = some o ∧ o.cls = .type "list" ∧ o.dict = none ∧ o.data = .seq its n ∧ its.size ≤ sizeLine ∧ Vals vs its.toList
theorem TupAt.sq {K : PySem.W.Frag} {ρ : List Addr} {H : Hp} {a : Addr} {vs : List V} (h : TupAt ρ H a vs) : SqT K H a vs := SqT.of h.2
theorem LstAt.sq {K : PySem.W.Frag} {ρ : List Addr} {H : Hp} {a : Addr} {vs : List V} (h : LstAt ρ H a vs) : SqL K H a vs := SqL.of h.2
theorem FzAt.sq {K : PySem.W.Frag} {ρ : List Addr} {H : Hp} {a : Addr} {vs : List V} (h : FzAt K ρ H a vs) : SqL K H a vs := h.imp (fun h => h.2) id

mutual
def DV (ρ : List Addr) (H : Hp) : D → V → Prop
  | .non, v => v = .non
  | .bl b, v => v = .bl b
  | .int i, v => v = .int i
  | .str x, v => v = .str x
  | .tup l, v => ∃ a vs, v = .ref a ∧ TupAt ρ H a vs ∧ DVs ρ H l vs
  | .lst l, v => ∃ a vs, v = .ref a ∧ LstAt ρ H a vs ∧ DVs ρ H l vs
  | .fz l, v => ∃ a vs, v = .ref a ∧ FzAt K ρ H a vs ∧ DVs ρ H l vs
  | .ref i, v => ∃ a, v = .ref a ∧ ρ[i]? = some a
  | .obj c fs, v => ∃ a dx ws, v = .ref a ∧ a ∉ ρ ∧ H a = some (.ins (He.ga K (Str.ofString c)) dx ws) ∧ DFs ρ H fs ws
  | .ty n, v => v = .ty n
  | .cls c, v => v = .ref (He.ga K (Str.ofString c))
  | .exn a _ dd fs, v => v = .ref a ∧ ∃ ws, dd ∉ ρ ∧ H dd = some (.xd ws) ∧ DFs ρ H fs ws
def DVs (ρ : List Addr) (H : Hp) : List D → List V → Prop
  | [], vs => vs = []
  | d :: ds, vs => ∃ v r, vs = v :: r ∧ DV ρ H d v ∧ DVs ρ H ds r
def DFs (ρ : List Addr) (H : Hp) : List (Str × D) → List (Str × V) → Prop
  | [], ws => ws = []
  | p :: ps, ws => ∃ v r, ws = (p.1, v) :: r ∧ DV ρ H p.2 v ∧ DFs ρ H ps r
end
end

/-- the heap went on: what stood apart from the changing things stands; the changing things are those and new ones -/
structure Ext (ρ : List Addr) (H : Hp) (ρ' : List Addr) (H' : Hp) : Prop where
  pre : ∃ t, ρ' = ρ ++ t
  new : ∀ a : Addr, a ∈ ρ' → a ∉ ρ → H a = none
  old : ∀ (a : Addr) (o : HO), a ∉ ρ → H a = some o → H' a = some o
theorem Ext.refl {ρ : List Addr} {H : Hp} : Ext ρ H ρ H := ⟨⟨[], by simp⟩, fun _ h n => absurd h n, fun _ _ _ h => h⟩
theorem Ext.trans {ρ ρ1 ρ2 : List Addr} {H H1 H2 : Hp} (a : Ext ρ H ρ1 H1) (b : Ext ρ1 H1 ρ2 H2) : Ext ρ H ρ2 H2 := by
  obtain ⟨t, e⟩ := a.pre
  obtain ⟨u, e'⟩ := b.pre
  refine ⟨⟨t ++ u, by rw [e', e, List.append_assoc]⟩, fun x hx hn => ?_, fun x o hn h => ?_⟩
  · by_cases h1 : x ∈ ρ1
    · exact a.new x h1 hn
    · have h2 := b.new x hx h1
      cases q : H x with
      | none => rfl
      | some o => rw [a.old x o hn q] at h2; cases h2
  · refine b.old x o (fun h1 => ?_) (a.old x o hn h)
    rw [a.new x h1 hn] at h; cases h
theorem Ext.out {ρ ρ' : List Addr} {H H' : Hp} {a : Addr} {o : HO} (e : Ext ρ H ρ' H') (n : a ∉ ρ) (h : H a = some o) : a ∉ ρ' := fun q => by
  rw [e.new a q n] at h; cases h
theorem Ext.get {ρ ρ' : List Addr} {H H' : Hp} {i : Nat} {a : Addr} (e : Ext ρ H ρ' H') (h : ρ[i]? = some a) : ρ'[i]? = some a := by
  obtain ⟨t, q⟩ := e.pre
  rw [q, List.getElem?_append_left (List.getElem?_eq_some_iff.mp h).1]; exact h
section
variable {K : PySem.W.Frag} {ρ ρ' : List Addr} {H H' : Hp}
theorem Rd.ex {H : Hp} {a : Addr} {u : HO} (h : Rd H a u) : ∃ o, H a = some o := h.elim (fun h => ⟨_, h⟩) fun ⟨o, h⟩ => ⟨_, h⟩
theorem Ext.rd {a : Addr} {u : HO} (e : Ext ρ H ρ' H') (n : a ∉ ρ) (h : Rd H a u) : Rd H' a u := h.imp (fun h => e.old _ _ n h) fun ⟨o, h⟩ => ⟨o, e.old _ _ n h⟩
theorem TupAt.ext {a : Addr} {vs : List V} (e : Ext ρ H ρ' H') (h : TupAt ρ H a vs) : TupAt ρ' H' a vs := ⟨e.out h.1 h.2, e.old _ _ h.1 h.2⟩
theorem LstAt.ext {a : Addr} {vs : List V} (e : Ext ρ H ρ' H') (h : LstAt ρ H a vs) : LstAt ρ' H' a vs := ⟨e.out h.1 h.2, e.old _ _ h.1 h.2⟩
theorem FzAt.ext {a : Addr} {vs : List V} (e : Ext ρ H ρ' H') (h : FzAt K ρ H a vs) : FzAt K ρ' H' a vs :=
  h.imp (fun ⟨n, h⟩ => ⟨let ⟨_, q⟩ := Rd.ex h; e.out n q, e.rd n h⟩) id
mutual
theorem DV.ext (e : Ext ρ H ρ' H') : ∀ (d : D) (v : V), DV K ρ H d v → DV K ρ' H' d v
  | .non, _, h => h
  | .bl _, _, h => h
  | .int _, _, h => h
  | .str _, _, h => h
  | .tup l, _, ⟨a, vs, e1, h1, h2⟩ => ⟨a, vs, e1, h1.ext e, DVs.ext e l vs h2⟩
  | .lst l, _, ⟨a, vs, e1, h1, h2⟩ => ⟨a, vs, e1, h1.ext e, DVs.ext e l vs h2⟩
  | .fz l, _, ⟨a, vs, e1, h1, h2⟩ => ⟨a, vs, e1, h1.ext e, DVs.ext e l vs h2⟩
  | .ref i, _, ⟨a, e1, h1⟩ => ⟨a, e1, e.get h1⟩
  | .obj c fs, _, ⟨a, dx, ws, e1, n, h1, h2⟩ => ⟨a, dx, ws, e1, e.out n h1, e.old _ _ n h1, DFs.ext e fs ws h2⟩
  | .ty _, _, h => h
  | .cls _, _, h => h
  | .exn _ _ _ fs, _, ⟨e1, ws, n, h1, h2⟩ => ⟨e1, ws, e.out n h1, e.old _ _ n h1, DFs.ext e fs ws h2⟩
theorem DVs.ext (e : Ext ρ H ρ' H') : ∀ (ds : List D) (vs : List V), DVs K ρ H ds vs → DVs K ρ' H' ds vs
  | [], _, h => h
  | d :: ds, _, ⟨v, r, e1, h1, h2⟩ => ⟨v, r, e1, DV.ext e d v h1, DVs.ext e ds r h2⟩
theorem DFs.ext (e : Ext ρ H ρ' H') : ∀ (ds : List (Str × D)) (vs : List (Str × V)), DFs K ρ H ds vs → DFs K ρ' H' ds vs
  | [], _, h => h
  | p :: ds, _, ⟨v, r, e1, h1, h2⟩ => ⟨v, r, e1, DV.ext e p.2 v h1, DFs.ext e ds r h2⟩
end
/-! lists of data -/
theorem DVs.length : ∀ {ds : List D} {vs : List V}, DVs K ρ H ds vs → vs.length = ds.length
  | [], _, h => by rw [show _ = [] from h]; rfl
  | d :: ds, _, ⟨v, r, e1, h1, h2⟩ => by rw [e1, List.length_cons, List.length_cons, DVs.length h2]
theorem DVs.get : ∀ {ds : List D} {vs : List V} {i : Nat} {d : D}, DVs K ρ H ds vs → ds[i]? = some d → ∃ v, vs[i]? = some v ∧ DV K ρ H d v
  | [], _, _, _, _, h => by simp at h
  | d :: ds, _, 0, _, ⟨v, r, e1, h1, h2⟩, h => by
    simp at h; subst h; subst e1; exact ⟨v, rfl, h1⟩
  | d :: ds, _, i + 1, x, ⟨v, r, e1, h1, h2⟩, h => by
    subst e1
    obtain ⟨w, q, r'⟩ := DVs.get (i := i) h2 (by simpa using h)
    exact ⟨w, by simpa using q, r'⟩
theorem DVs.append : ∀ {ds es : List D} {vs ws : List V}, DVs K ρ H ds vs → DVs K ρ H es ws → DVs K ρ H (ds ++ es) (vs ++ ws)
  | [], _, _, _, h, q => by rw [show _ = [] from h]; exact q
  | d :: ds, _, _, _, ⟨v, r, e1, h1, h2⟩, q => by subst e1; exact ⟨v, r ++ _, rfl, h1, DVs.append h2 q⟩
theorem DVs.one {d : D} {v : V} (h : DV K ρ H d v) : DVs K ρ H [d] [v] := ⟨v, [], rfl, h, rfl⟩
theorem DVs.take : ∀ {ds : List D} {vs : List V} (n : Nat), DVs K ρ H ds vs → DVs K ρ H (ds.take n) (vs.take n)
  | _, _, 0, _ => rfl
  | [], _, n + 1, h => by rw [show _ = [] from h]; rfl
  | d :: ds, _, n + 1, ⟨v, r, e1, h1, h2⟩ => by subst e1; exact ⟨v, r.take n, rfl, h1, DVs.take n h2⟩
theorem DVs.drop : ∀ {ds : List D} {vs : List V} (n : Nat), DVs K ρ H ds vs → DVs K ρ H (ds.drop n) (vs.drop n)
  | _, _, 0, h => h
  | [], _, n + 1, h => by rw [show _ = [] from h]; rfl
  | d :: ds, _, n + 1, ⟨v, r, e1, h1, h2⟩ => by subst e1; exact DVs.drop n h2
theorem DVs.set {d : D} {v : V} (q : DV K ρ H d v) : ∀ {ds : List D} {vs : List V} (n : Nat), DVs K ρ H ds vs → DVs K ρ H (ds.set n d) (vs.set n v)
  | [], _, n, h => by rw [show _ = [] from h]; rfl
  | e :: ds, _, 0, ⟨w, r, e1, h1, h2⟩ => by subst e1; exact ⟨v, r, rfl, q, h2⟩
  | e :: ds, _, n + 1, ⟨w, r, e1, h1, h2⟩ => by subst e1; exact ⟨w, r.set n v, rfl, h1, DVs.set q n h2⟩
theorem DVs.reverse : ∀ {ds : List D} {vs : List V}, DVs K ρ H ds vs → DVs K ρ H ds.reverse vs.reverse
  | [], _, h => by rw [show _ = [] from h]; rfl
  | d :: ds, _, ⟨v, r, e1, h1, h2⟩ => by subst e1; rw [List.reverse_cons, List.reverse_cons]; exact (DVs.reverse h2).append (.one h1)
theorem DVs.at_ : ∀ {ds : List D} {vs : List V} {i : Nat} {v : V}, DVs K ρ H ds vs → vs[i]? = some v → ∃ d, ds[i]? = some d ∧ DV K ρ H d v := fun {ds vs i v} h e => by
  have hl := h.length
  have hi : i < ds.length := by rw [← hl]; exact (List.getElem?_eq_some_iff.mp e).1
  obtain ⟨w, q, r⟩ := h.get (List.getElem?_eq_getElem hi)
  rw [e] at q; cases q
  exact ⟨_, List.getElem?_eq_getElem hi, r⟩
theorem DVs.ints : ∀ {ns : List Int} {vs : List V}, DVs K ρ H (ns.map D.int) vs → vs = ns.map V.int
  | [], _, h => h
  | n :: ns, _, ⟨v, r, e1, h1, h2⟩ => by rw [e1, show v = .int n from h1, DVs.ints h2]; rfl
theorem DVs.of_ints : ∀ {ns : List Int}, DVs K ρ H (ns.map D.int) (ns.map V.int)
  | [] => rfl
  | n :: ns => ⟨_, _, rfl, rfl, DVs.of_ints⟩
theorem DVs.bls : ∀ {ns : List Bool} {vs : List V}, DVs K ρ H (ns.map D.bl) vs → vs = ns.map V.bl
  | [], _, h => h
  | n :: ns, _, ⟨v, r, e1, h1, h2⟩ => by rw [e1, show v = .bl n from h1, DVs.bls h2]; rfl
theorem DVs.strs : ∀ {ns : List Str} {vs : List V}, DVs K ρ H (ns.map D.str) vs → vs = ns.map V.str
  | [], _, h => h
  | n :: ns, _, ⟨v, r, e1, h1, h2⟩ => by rw [e1, show v = .str n from h1, DVs.strs h2]; rfl
theorem DVs.of_strs : ∀ {ns : List Str}, DVs K ρ H (ns.map D.str) (ns.map V.str)
  | [] => rfl
  | n :: ns => ⟨_, _, rfl, rfl, DVs.of_strs⟩
theorem DFs.lookup : ∀ {fs : List (Str × D)} {ws : List (Str × V)} {f : Str} {d : D}, DFs K ρ H fs ws → fs.lookup f = some d → ∃ v, ws.lookup f = some v ∧ DV K ρ H d v
  | [], _, _, _, _, h => by simp at h
  | (g, x) :: fs, _, f, d, ⟨v, r, e1, h1, h2⟩, h => by
    subst e1
    rw [List.lookup_cons] at h ⊢
    cases q : f == g with
    | true => rw [q] at h; cases h; exact ⟨v, rfl, h1⟩
    | false => rw [q] at h; exact DFs.lookup h2 h
theorem DFs.lookup_none : ∀ {fs : List (Str × D)} {ws : List (Str × V)} {f : Str}, DFs K ρ H fs ws → fs.lookup f = none → ws.lookup f = none
  | [], _, _, h, _ => by rw [show _ = [] from h]; rfl
  | (g, x) :: fs, _, f, ⟨v, r, e1, h1, h2⟩, h => by
    subst e1
    rw [List.lookup_cons] at h ⊢
    cases q : f == g with
    | true => rw [q] at h; cases h
    | false => rw [q] at h; exact DFs.lookup_none h2 h
theorem DFs.length : ∀ {fs : List (Str × D)} {ws : List (Str × V)}, DFs K ρ H fs ws → ws.length = fs.length
  | [], _, h => by rw [show _ = [] from h]; rfl
  | p :: fs, _, ⟨v, r, e1, h1, h2⟩ => by rw [e1, List.length_cons, List.length_cons, DFs.length h2]
end

/-- the changing heap stands at ρ -/
def HbAt (K : PySem.W.Frag) (ρ : List Addr) (H : Hp) (a : Addr) : HB → Prop
  | .lst l => ∃ vs, H a = some (.lst vs) ∧ DVs K ρ H l vs
  | .ins c fs => ∃ dx ws, H a = some (.ins (He.ga K (Str.ofString c)) dx ws) ∧ DFs K ρ H fs ws
structure HR (K : PySem.W.Frag) (ρ : List Addr) (h : DHp) (H : Hp) : Prop where
  len : ρ.length = h.length
  nd : ρ.Nodup
  at_ : ∀ (i : Nat) (b : HB) (a : Addr), h[i]? = some b → ρ[i]? = some a → HbAt K ρ H a b
theorem HR.get {K : PySem.W.Frag} {ρ : List Addr} {h : DHp} {H : Hp} {i : Nat} {b : HB} (r : HR K ρ h H) (e : h[i]? = some b) : ∃ a, ρ[i]? = some a ∧ HbAt K ρ H a b := by
  have hi : i < ρ.length := by rw [r.len]; exact (List.getElem?_eq_some_iff.mp e).1
  exact ⟨_, List.getElem?_eq_getElem hi, r.at_ _ _ _ e (List.getElem?_eq_getElem hi)⟩
theorem HR.ex {K : PySem.W.Frag} {ρ : List Addr} {h : DHp} {H : Hp} {a : Addr} (r : HR K ρ h H) (e : a ∈ ρ) : ∃ o, H a = some o := by
  obtain ⟨i, hi, rfl⟩ := List.getElem_of_mem e
  have h2 : i < h.length := by rw [← r.len]; exact hi
  have q := r.at_ i _ _ (List.getElem?_eq_getElem h2) (List.getElem?_eq_getElem hi)
  revert q
  cases h[i] with
  | lst l => rintro ⟨vs, q, _⟩; exact ⟨_, q⟩
  | ins c fs => rintro ⟨dx, ws, q, _⟩; exact ⟨_, q⟩

/-- the slots -/
structure SR (K : PySem.W.Frag) (ρ : List Addr) (H : Hp) (σd : DSt) (σ : St) : Prop where
  len : σd.length = σ.length
  at_ : ∀ (i : Nat) (d : D), σd[i]? = some (some d) → ∃ v, σ[i]? = some (some v) ∧ DV K ρ H d v
theorem SR.ext {K : PySem.W.Frag} {ρ ρ' : List Addr} {H H' : Hp} {σd : DSt} {σ : St} (e : Ext ρ H ρ' H') (r : SR K ρ H σd σ) : SR K ρ' H' σd σ :=
  ⟨r.len, fun i d h => let ⟨v, q, s⟩ := r.at_ i d h; ⟨v, q, s.ext e⟩⟩
theorem SR.set {K : PySem.W.Frag} {ρ : List Addr} {H : Hp} {σd : DSt} {σ : St} {i : Nat} {d : D} {v : V} (r : SR K ρ H σd σ) (q : DV K ρ H d v) : SR K ρ H (σd.set i (some d)) (σ.set i (some v)) := by
  refine ⟨by rw [List.length_set, List.length_set]; exact r.len, fun j x h => ?_⟩
  by_cases e : i = j
  · subst e
    have hi : i < σd.length := by
      have := (List.getElem?_eq_some_iff.mp h).1; rwa [List.length_set] at this
    rw [List.getElem?_set_self hi] at h
    cases h
    exact ⟨v, by rw [List.getElem?_set_self (by rw [← r.len]; exact hi)], q⟩
  · rw [List.getElem?_set_ne e] at h ⊢
    exact r.at_ j x h

/-- an exception that was made -/
structure Exc where
  cls : String
  fs : List (Str × D)
abbrev DX := Exc → DHp → Prop
def ExcAt (K : PySem.W.Frag) (ρ : List Addr) (H : Hp) (x : Exc) (cls : Value) (d : Option Addr) : Prop :=
  cls = .ref (He.ga K (Str.ofString x.cls)) ∧ ∃ dd ws, d = some dd ∧ dd ∉ ρ ∧ H dd = some (.xd ws) ∧ DFs K ρ H x.fs ws
abbrev DE := DSt → DHp → DX → DK → Prop
abbrev DT := DSt → DHp → DX → (Bool → DHp → Prop) → Prop
abbrev DA := DSt → DHp → DX → (List D → DHp → Prop) → Prop
/-- what is wanted of exceptions, as the layer's wish -/
def XW (K : PySem.W.Frag) (W : WX) (ρ : List Addr) (H : Hp) (σd : DSt) (σ : St) (Xd : DX) : Prop :=
  ∀ ρ' x h' cls d H', Ext ρ H ρ' H' → HR K ρ' h' H' → SR K ρ' H' σd σ → ExcAt K ρ' H' x cls d → Xd x h' → W cls d σ H'
theorem XW.ext {K : PySem.W.Frag} {W : WX} {ρ ρ' : List Addr} {H H' : Hp} {σd : DSt} {σ : St} {Xd : DX} (k : XW K W ρ H σd σ Xd) (e : Ext ρ H ρ' H') : XW K W ρ' H' σd σ Xd :=
  fun ρ2 x h2 cls d H2 e2 hr sr ea w => k ρ2 x h2 cls d H2 (e.trans e2) hr sr ea w
/-- the reading of an expression over data, as the layer's reading -/
def lE (K : PySem.W.Frag) (W : WX) (t : DE) : TE := fun σ H Q => ∃ ρ σd h Xd Qd, HR K ρ h H ∧ SR K ρ H σd σ ∧ t σd h Xd Qd ∧ XW K W ρ H σd σ Xd ∧
  ∀ ρ' d h' v H', Ext ρ H ρ' H' → HR K ρ' h' H' → DV K ρ' H' d v → Qd d h' → Q v H'
def lT (K : PySem.W.Frag) (W : WX) (t : DT) : TT := fun σ H Q => ∃ ρ σd h Xd Qd, HR K ρ h H ∧ SR K ρ H σd σ ∧ t σd h Xd Qd ∧ XW K W ρ H σd σ Xd ∧
  ∀ ρ' b h' H', Ext ρ H ρ' H' → HR K ρ' h' H' → Qd b h' → Q b H'
def lA (K : PySem.W.Frag) (W : WX) (t : DA) : TA := fun σ H Q => ∃ ρ σd h Xd Qd, HR K ρ h H ∧ SR K ρ H σd σ ∧ t σd h Xd Qd ∧ XW K W ρ H σd σ Xd ∧
  ∀ ρ' ds h' vs H', Ext ρ H ρ' H' → HR K ρ' h' H' → DVs K ρ' H' ds vs → Qd ds h' → Q vs H'
abbrev SE (X : Cx) (W : WX) (e : Expr) (t : DE) : Prop := PE X e (lE X.K W t)
abbrev ST (X : Cx) (W : WX) (e : Expr) (t : DT) : Prop := PT X e (lT X.K W t)
abbrev SW (X : Cx) (W : WX) (e : Expr) (t : DT) : Prop := PW X e (lT X.K W t)
abbrev SA (X : Cx) (W : WX) (es : List Expr) (t : DA) : Prop := PA X es (lA X.K W t)
theorem PE.imp {X : Cx} {e : Expr} {t t' : TE} (h : PE X e t) (i : ∀ σ H Q, t' σ H Q → t σ H Q) : PE X e t' := ⟨fun pins s σ H Q I w => h.run pins s σ H Q I (i σ H Q w)⟩
theorem PT.imp {X : Cx} {e : Expr} {t t' : TT} (h : PT X e t) (i : ∀ σ H Q, t' σ H Q → t σ H Q) : PT X e t' := ⟨fun pins s σ H Q I w => h.run pins s σ H Q I (i σ H Q w)⟩
theorem PW.imp {X : Cx} {e : Expr} {t t' : TT} (h : PW X e t) (i : ∀ σ H Q, t' σ H Q → t σ H Q) : PW X e t' := ⟨fun wh pins s σ H Q I w => h.run wh pins s σ H Q I (i σ H Q w)⟩
theorem PA.imp {X : Cx} {e : List Expr} {t t' : TA} (h : PA X e t) (i : ∀ σ H Q, t' σ H Q → t σ H Q) : PA X e t' := ⟨fun pos pins s σ H Q I w => h.run pos pins s σ H Q I (i σ H Q w)⟩
theorem PS.imp {X : Cx} {e : Stmt} {t t' : TS} (h : PS X e t) (i : ∀ D σ H, t' D σ H → t D σ H) : PS X e t' := ⟨fun pins s σ H D I w => h.run pins s σ H D I (i D σ H w)⟩
theorem PSs.imp {X : Cx} {e : List Stmt} {t t' : TS} (h : PSs X e t) (i : ∀ D σ H, t' D σ H → t D σ H) : PSs X e t' := ⟨fun pins s σ H D I w => h.run pins s σ H D I (i D σ H w)⟩
/-- continue: from lE's parts -/
theorem lE.go {K : PySem.W.Frag} {W : WX} {ρ : List Addr} {σd : DSt} {h : DHp} {H : Hp} {σ : St} {t : DE} {Xd : DX} {Qd : DK} {Q : VK} (hr : HR K ρ h H) (sr : SR K ρ H σd σ) (w : t σd h Xd Qd) (kx : XW K W ρ H σd σ Xd)
    (k : ∀ ρ' d h' v H', Ext ρ H ρ' H' → HR K ρ' h' H' → SR K ρ' H' σd σ → XW K W ρ' H' σd σ Xd → DV K ρ' H' d v → Qd d h' → Q v H') : lE K W t σ H Q :=
  ⟨ρ, σd, h, Xd, Qd, hr, sr, w, kx, fun ρ' d h' v H' e hr' dv q => k ρ' d h' v H' e hr' (sr.ext e) (kx.ext e) dv q⟩
theorem lT.go {K : PySem.W.Frag} {W : WX} {ρ : List Addr} {σd : DSt} {h : DHp} {H : Hp} {σ : St} {t : DT} {Xd : DX} {Qd : Bool → DHp → Prop} {Q : Bool → Hp → Prop} (hr : HR K ρ h H) (sr : SR K ρ H σd σ) (w : t σd h Xd Qd) (kx : XW K W ρ H σd σ Xd)
    (k : ∀ ρ' b h' H', Ext ρ H ρ' H' → HR K ρ' h' H' → SR K ρ' H' σd σ → XW K W ρ' H' σd σ Xd → Qd b h' → Q b H') : lT K W t σ H Q :=
  ⟨ρ, σd, h, Xd, Qd, hr, sr, w, kx, fun ρ' b h' H' e hr' q => k ρ' b h' H' e hr' (sr.ext e) (kx.ext e) q⟩
theorem lA.go {K : PySem.W.Frag} {W : WX} {ρ : List Addr} {σd : DSt} {h : DHp} {H : Hp} {σ : St} {t : DA} {Xd : DX} {Qd : List D → DHp → Prop} {Q : List V → Hp → Prop} (hr : HR K ρ h H) (sr : SR K ρ H σd σ) (w : t σd h Xd Qd) (kx : XW K W ρ H σd σ Xd)
    (k : ∀ ρ' ds h' vs H', Ext ρ H ρ' H' → HR K ρ' h' H' → SR K ρ' H' σd σ → XW K W ρ' H' σd σ Xd → DVs K ρ' H' ds vs → Qd ds h' → Q vs H') : lA K W t σ H Q :=
  ⟨ρ, σd, h, Xd, Qd, hr, sr, w, kx, fun ρ' ds h' vs H' e hr' dv q => k ρ' ds h' vs H' e hr' (sr.ext e) (kx.ext e) dv q⟩

/-! ### names, constants -/
section
variable {X : Cx} {W : WX}
def dVar (i : Nat) : DE := fun σ h _ Q => ∃ d, σ[i]? = some (some d) ∧ Q d h
def dC (d : D) : DE := fun _ h _ Q => Q d h
theorem se_var (i : Nat) {x : Str} {pos : Pos} (hN : X.N[i]? = some x := by rfl) (hv : Vis X.env.scope x := by first | exact Or.inl rfl | exact Or.inr (Or.inl rfl) | exact Or.inr (Or.inr rfl)) (hd : (x == ("__debug__" : Str)) = false := by decide)
    (hcd : (x == ("__classdict__" : Str)) = false := by decide) : SE X W (.Name x pos) (dVar i) := by
  refine PE.imp (pe_var hN hv hd hcd) fun σ H Q => ?_
  rintro ⟨ρ, σd, h, Xd, Qd, hr, sr, ⟨d, e, q⟩, _, k⟩
  obtain ⟨v, e', dv⟩ := sr.at_ i d e
  exact ⟨v, e', k ρ d h v H .refl hr dv q⟩
/-- a constant's value -/
theorem se_c {e : Expr} {d : D} {v : V} (he : PE X e (tC v)) (dv : ∀ ρ H, DV X.K ρ H d v) : SE X W e (dC d) := by
  refine PE.imp he fun σ H Q => ?_
  rintro ⟨ρ, σd, h, Xd, Qd, hr, sr, q, _, k⟩
  exact k ρ d h v H .refl hr (dv ρ H) q
theorem se_int {i : Int} {j : Nat} {pos : Pos} : SE X W (.Constant (.int i) j pos) (dC (.int i)) := se_c pe_int fun _ _ => rfl
theorem se_bl {b : Bool} {j : Nat} {pos : Pos} : SE X W (.Constant (.bool b) j pos) (dC (.bl b)) := se_c pe_bl fun _ _ => rfl
theorem se_non {j : Nat} {pos : Pos} : SE X W (.Constant .none j pos) (dC .non) := se_c pe_non fun _ _ => rfl
theorem se_str {x : Str} {j : Nat} {pos : Pos} : SE X W (.Constant (.str x) j pos) (dC (.str x)) := se_c pe_str fun _ _ => rfl
/-- a module's number -/
theorem se_gint {x : Str} {i : Int} {pos : Pos} (hg : Gl X x) (hm : ∃ t, X.mg x = some (.int i t)) (hd : (x == ("__debug__" : Str)) = false := by decide) : SE X W (.Name x pos) (dC (.int i)) := by
  obtain ⟨t, hm⟩ := hm
  exact se_c (pe_glob (v := .int i) hg hm ⟨_, rfl⟩ hd) fun _ _ => rfl
theorem se_gstr {x z : Str} {pos : Pos} (hg : Gl X x) (hm : ∃ t, X.mg x = some (.str z t)) (hd : (x == ("__debug__" : Str)) = false := by decide) : SE X W (.Name x pos) (dC (.str z)) := by
  obtain ⟨t, hm⟩ := hm
  exact se_c (pe_glob (v := .str z) hg hm ⟨_, rfl⟩ hd) fun _ _ => rfl
end
end L2.MW

/-! MW, part B: operators, comparisons, tests, displays, subscripts, fields. -/
namespace L2.MW
open PySem PySem.Spec PyProof.Rows

/-! ### a new thing -/
section
variable {K : PySem.W.Frag} {ρ : List Addr} {h : DHp} {H : Hp} {p : Addr} {o : HO}
theorem HR.out (hr : HR K ρ h H) (np : H p = none) : p ∉ ρ := fun hp => by
  obtain ⟨o, e⟩ := hr.ex hp
  rw [np] at e; cases e
theorem Ext.new1 (np : H p = none) : Ext ρ H ρ (upd H p o) :=
  ⟨⟨[], by simp⟩, fun _ h n => absurd h n, fun a u _ e => by rw [upd_ne (ne_of_none e np)]; exact e⟩
theorem HbAt.ext {ρ' : List Addr} {H' : Hp} {a : Addr} {b : HB} (e : Ext ρ H ρ' H') (ea : H' a = H a) (x : HbAt K ρ H a b) : HbAt K ρ' H' a b := by
  cases b with
  | lst l => obtain ⟨vs, e1, d⟩ := x; exact ⟨vs, ea.trans e1, DVs.ext e _ _ d⟩
  | ins c fs => obtain ⟨dx, ws, e1, d⟩ := x; exact ⟨dx, ws, ea.trans e1, DFs.ext e _ _ d⟩
theorem HR.new1 (hr : HR K ρ h H) (np : H p = none) : HR K ρ h (upd H p o) := by
  refine ⟨hr.len, hr.nd, fun i b a e1 e2 => (hr.at_ i b a e1 e2).ext (Ext.new1 np) (upd_ne fun z => ?_)⟩
  rw [z] at e2
  exact hr.out np (List.mem_of_getElem? e2)
theorem Ext.push (np : H p = none) : Ext ρ H (ρ ++ [p]) (upd H p o) := by
  refine ⟨⟨[p], rfl⟩, fun a ha hn => ?_, fun a u _ e => by rw [upd_ne (ne_of_none e np)]; exact e⟩
  rcases List.mem_append.mp ha with z | z
  · exact absurd z hn
  · rw [List.mem_singleton.mp z]; exact np
theorem HR.push {b : HB} (hr : HR K ρ h H) (np : H p = none) (hb : HbAt K (ρ ++ [p]) (upd H p o) p b) : HR K (ρ ++ [p]) (h ++ [b]) (upd H p o) := by
  refine ⟨by rw [List.length_append, List.length_append, hr.len]; rfl, ?_, fun i c a e1 e2 => ?_⟩
  · rw [List.nodup_append]
    refine ⟨hr.nd, by simp, fun a ha b hb => ?_⟩
    rw [List.mem_singleton.mp hb]
    intro z; subst z; exact hr.out np ha
  · by_cases hi : i < h.length
    · rw [List.getElem?_append_left hi] at e1
      rw [List.getElem?_append_left (by rw [hr.len]; exact hi)] at e2
      refine (hr.at_ i c a e1 e2).ext (Ext.push np) (upd_ne fun z => ?_)
      rw [z] at e2
      exact hr.out np (List.mem_of_getElem? e2)
    · have hi' : h.length ≤ i := Nat.le_of_not_lt hi
      rw [List.getElem?_append_right hi'] at e1
      rw [List.getElem?_append_right (by rw [hr.len]; exact hi'), hr.len] at e2
      have z : i - h.length = 0 := by
        have := (List.getElem?_eq_some_iff.mp e1).1
        simp at this; omega
      rw [z] at e1 e2
      cases e1; cases e2
      exact hb
theorem Ext.write (hp : p ∈ ρ) : Ext ρ H ρ (upd H p o) :=
  ⟨⟨[], by simp⟩, fun _ h n => absurd h n, fun a u n e => by rw [upd_ne (fun z => n (by rw [z]; exact hp))]; exact e⟩
theorem HR.write {i : Nat} {b : HB} (hr : HR K ρ h H) (hi : ρ[i]? = some p) (hb : HbAt K ρ (upd H p o) p b) : HR K ρ (h.set i b) (upd H p o) := by
  have hp : p ∈ ρ := List.mem_of_getElem? hi
  refine ⟨by rw [List.length_set]; exact hr.len, hr.nd, fun j c a e1 e2 => ?_⟩
  by_cases hj : i = j
  · subst hj
    have hl : i < h.length := by have := (List.getElem?_eq_some_iff.mp e1).1; rwa [List.length_set] at this
    rw [List.getElem?_set_self hl] at e1
    rw [hi] at e2
    cases e1; cases e2
    exact hb
  · rw [List.getElem?_set_ne hj] at e1
    refine (hr.at_ j c a e1 e2).ext (Ext.write hp) (upd_ne fun z => ?_)
    subst z
    obtain ⟨h1, q1⟩ := List.getElem?_eq_some_iff.mp hi
    obtain ⟨h2, q2⟩ := List.getElem?_eq_some_iff.mp e2
    exact hj ((List.getElem_inj hr.nd).mp (q1.trans q2.symm))
theorem TupAt.new {vs : List V} (hr : HR K ρ h H) (np : H p = none) : TupAt ρ (upd H p (.tup vs)) p vs := ⟨hr.out np, upd_same⟩
theorem LstAt.new {vs : List V} (hr : HR K ρ h H) (np : H p = none) : LstAt ρ (upd H p (.lst vs)) p vs := ⟨hr.out np, upd_same⟩
theorem DV.tupNew {ds : List D} {vs : List V} (hr : HR K ρ h H) (np : H p = none) (d : DVs K ρ H ds vs) : DV K ρ (upd H p (.tup vs)) (.tup ds) (.ref p) := ⟨p, vs, rfl, .new hr np, DVs.ext (Ext.new1 np) _ _ d⟩
theorem DV.lstNew {ds : List D} {vs : List V} (hr : HR K ρ h H) (np : H p = none) (d : DVs K ρ H ds vs) : DV K ρ (upd H p (.lst vs)) (.lst ds) (.ref p) := ⟨p, vs, rfl, .new hr np, DVs.ext (Ext.new1 np) _ _ d⟩
end

/-! ### lists as they are read -/
/-- the items of a list (fixed or changing) -/
def asL (h : DHp) : D → Option (List D)
  | .lst l => some l
  | .fz l => some l
  | .ref i => (match h[i]? with | some (.lst l) => some l | _ => none)
  | _ => none
/-- .. not of others' making -/
def asX (h : DHp) : D → Option (List D)
  | .lst l => some l
  | .ref i => (match h[i]? with | some (.lst l) => some l | _ => none)
  | _ => none
section
variable {K : PySem.W.Frag} {ρ : List Addr} {h : DHp} {H : Hp}
theorem asX_at {d : D} {v : V} {l : List D} (hr : HR K ρ h H) (dv : DV K ρ H d v) (e : asX h d = some l) : ∃ a vs, v = .ref a ∧ H a = some (.lst vs) ∧ DVs K ρ H l vs := by
  cases d with
  | lst l' => cases e; obtain ⟨a, vs, e1, h1, h2⟩ := dv; exact ⟨a, vs, e1, h1.2, h2⟩
  | ref i =>
    obtain ⟨a, e1, h1⟩ := dv
    have e' : (match h[i]? with | some (.lst l) => some l | _ => none) = some l := e
    cases q : h[i]? with
    | none => rw [q] at e'; cases e'
    | some b =>
      rw [q] at e'
      cases b with
      | lst l' => cases e'; obtain ⟨vs, h2, h3⟩ := hr.at_ i _ a q h1; exact ⟨a, vs, e1, h2, h3⟩
      | ins c fs => cases e'
  | _ => cases e
theorem asL_at {d : D} {v : V} {l : List D} (hr : HR K ρ h H) (dv : DV K ρ H d v) (e : asL h d = some l) : ∃ a vs, v = .ref a ∧ SqL K H a vs ∧ DVs K ρ H l vs := by
  cases d with
  | fz l' => cases e; obtain ⟨a, vs, e1, h1, h2⟩ := dv; exact ⟨a, vs, e1, h1.sq, h2⟩
  | lst l' => obtain ⟨a, vs, e1, h1, h2⟩ := asX_at hr dv e; exact ⟨a, vs, e1, .of h1, h2⟩
  | ref i => obtain ⟨a, vs, e1, h1, h2⟩ := asX_at hr dv e; exact ⟨a, vs, e1, .of h1, h2⟩
  | _ => cases e
end
/-- .. of a tuple or a list -/
def asS (h : DHp) : D → Option (List D)
  | .tup l => some l
  | d => asL h d
theorem asS_at {K : PySem.W.Frag} {ρ : List Addr} {h : DHp} {H : Hp} {d : D} {v : V} {l : List D} (hr : HR K ρ h H) (dv : DV K ρ H d v) (e : asS h d = some l) : ∃ a vs, v = .ref a ∧ (SqL K H a vs ∨ SqT K H a vs) ∧ DVs K ρ H l vs := by
  cases d with
  | tup l' => cases e; obtain ⟨a, vs, e1, h1, h2⟩ := dv; exact ⟨a, vs, e1, .inr h1.sq, h2⟩
  | lst l' => obtain ⟨a, vs, e1, h1, h2⟩ := asL_at hr dv e; exact ⟨a, vs, e1, .inl h1, h2⟩
  | fz l' => obtain ⟨a, vs, e1, h1, h2⟩ := asL_at hr dv e; exact ⟨a, vs, e1, .inl h1, h2⟩
  | ref i => obtain ⟨a, vs, e1, h1, h2⟩ := asL_at hr dv e; exact ⟨a, vs, e1, .inl h1, h2⟩
  | _ => cases e

/-! ### operators -/
abbrev D2 := D → D → DHp → DK → Prop
def L2ok (K : PySem.W.Frag) (op : D2) (r : R2) : Prop := ∀ ρ h H x y vx vy Qd Q, HR K ρ h H → DV K ρ H x vx → DV K ρ H y vy → op x y h Qd →
  (∀ ρ' d h' v H', Ext ρ H ρ' H' → HR K ρ' h' H' → DV K ρ' H' d v → Qd d h' → Q v H') → r vx vy H Q
def dOp (op : D2) (da db : DE) : DE := fun σ h X Q => da σ h X fun x h1 => db σ h1 X fun y h2 => op x y h2 Q
section
variable {X : Cx} {W : WX} {a b c : Expr} {da db dc : DE} {pos : Pos} {op : D2} {r : R2}
/-- two expressions, then by values -/
theorem two {Q : VK} {R : V → V → Hp → Prop} (L : L2ok X.K op r) {σ : St} {H : Hp} (w : lE X.K W (dOp op da db) σ H Q) (hR : ∀ x y H, r x y H Q → R x y H) : lE X.K W da σ H fun x H1 => lE X.K W db σ H1 fun y H2 => R x y H2 := by
  obtain ⟨ρ, σd, h, Xd, Qd, hr, sr, w, kx, k⟩ := w
  refine lE.go hr sr w kx fun ρ1 d1 h1 v1 H1 e1 hr1 sr1 kx1 dv1 w1 => lE.go hr1 sr1 w1 kx1 fun ρ2 d2 h2 v2 H2 e2 hr2 sr2 kx2 dv2 w2 => hR _ _ _ ?_
  exact L ρ2 h2 H2 d1 d2 v1 v2 Qd Q hr2 (dv1.ext e2) dv2 w2 fun ρ' d h' v H' e => k ρ' d h' v H' ((e1.trans e2).trans e)
theorem se_op {o : Operator} (ho : OpR X (binaryOp o) r) (L : L2ok X.K op r) (ha : SE X W a da) (hb : SE X W b db) : SE X W (.BinOp a o b pos) (dOp op da db) :=
  PE.imp (pe_op ho ha hb) fun σ H Q w => two L w fun _ _ _ q => q
theorem se_cmp {o : CmpOp} (ho : OpR X (compareOp o) r) (L : L2ok X.K op r) (ha : SE X W a da) (hb : SE X W b db) (hm : behindInMarks o b = false := by first | exact nomark _ | rfl) : SE X W (.Compare a [o] [b] pos) (dOp op da db) :=
  PE.imp (pe_cmpR ho ha hb hm) fun σ H Q w => two L w fun _ _ _ q => q
/-- a value that is True or False, as a test -/
def dTst (da : DE) : DT := fun σ h X Q => da σ h X fun d h' => ∃ b, d = .bl b ∧ Q b h'
theorem dTst_go {K : PySem.W.Frag} {σ : St} {H : Hp} {Q : Bool → Hp → Prop} (w : lT K W (dTst da) σ H Q) : lE K W da σ H fun x H' => ∃ k, x = .bl k ∧ Q k H' := by
  obtain ⟨ρ, σd, h, Xd, Qd, hr, sr, w, kx, k⟩ := w
  refine ⟨ρ, σd, h, Xd, _, hr, sr, w, kx, fun ρ' d h' v H' e hr' dv q => ?_⟩
  obtain ⟨b, rfl, q⟩ := q
  exact ⟨b, dv, k ρ' b h' H' e hr' q⟩
theorem st_cmp {o : CmpOp} (ho : OpR X (compareOp o) r) (L : L2ok X.K op r) (ha : SE X W a da) (hb : SE X W b db) (hm : behindInMarks o b = false := by first | exact nomark _ | rfl) : ST X W (.Compare a [o] [b] pos) (dTst (dOp op da db)) :=
  PT.imp (pt_cmpR ho ha hb hm) fun σ H Q w => two L (dTst_go w) fun _ _ _ q => q

/-! the truth of a value -/
def truD (h : DHp) : D → Option Bool
  | .non => some false
  | .bl b => some b
  | .int i => some (i != 0)
  | .str x => if x.length ≤ sizeLine then some ((x.length : Int) != 0) else none
  | d => (asS h d).map fun l => !l.isEmpty
def dTru (da : DE) : DT := fun σ h X Q => da σ h X fun d h' => ∃ b, truD h' d = some b ∧ Q b h'
theorem isEmpty_len {α β : Type} {xs : List α} {ys : List β} (h : xs.length = ys.length) : xs.isEmpty = ys.isEmpty := by
  cases xs <;> cases ys <;> first | rfl | cases h
theorem tru_at {K : PySem.W.Frag} {ρ : List Addr} {h : DHp} {H : Hp} {d : D} {v : V} {b : Bool} (hr : HR K ρ h H) (dv : DV K ρ H d v) (e : truD h d = some b) : TruV K v H b := by
  have sq : ∀ d, DV K ρ H d v → (asS h d).map (fun l => !l.isEmpty) = some b → TruV K v H b := fun d dv e => by
    obtain ⟨l, e1, e2⟩ := Option.map_eq_some_iff.mp e
    obtain ⟨a, vs, rfl, hq, ds⟩ := asS_at hr dv e1
    have z : b = !vs.isEmpty := by rw [← e2, isEmpty_len ds.length]
    rcases hq with hq | hq
    · exact .inl ⟨vs, hq, z⟩
    · exact .inr (.inl ⟨vs, hq, z⟩)
  cases d with
  | non => have z : v = .non := dv; subst z; cases e; exact rfl
  | bl c => have z : v = .bl c := dv; subst z; cases e; exact rfl
  | int i => have z : v = .int i := dv; subst z; cases e; exact rfl
  | str x =>
    rw [show v = .str x from dv]
    have e' : (if x.length ≤ sizeLine then some ((x.length : Int) != 0) else none) = some b := e
    by_cases hx : x.length ≤ sizeLine
    · rw [if_pos hx] at e'; cases e'; exact ⟨hx, rfl⟩
    · rw [if_neg hx] at e'; cases e'
  | tup l => exact sq _ dv e
  | lst l => exact sq _ dv e
  | fz l => exact sq _ dv e
  | ref i => exact sq _ dv e
  | obj _ _ => cases e
  | ty _ => cases e
  | cls _ => cases e
  | exn _ _ _ _ => cases e
theorem st_tru (ha : SE X W a da) (he : ∀ whole, isTrue a X.env whole = (do let v ← whole; standAt a.pos; holding [v] (truthy v)) := by intro _; rfl) : ST X W a (dTru da) := by
  refine PT.imp (pt_truth ha he) fun σ H Q w => ?_
  obtain ⟨ρ, σd, h, Xd, Qd, hr, sr, w, kx, k⟩ := w
  refine ⟨ρ, σd, h, Xd, _, hr, sr, w, kx, fun ρ' d h' v H' e hr' dv q => ?_⟩
  obtain ⟨b, e1, q⟩ := q
  exact ⟨b, tru_at hr' dv e1, k ρ' b h' H' e hr' q⟩

/-! ### and, or, not; if as an expression -/
variable {tA tB : DT} {rest : List Expr}
def dAnd (t u : DT) : DT := fun σ h X Q => t σ h X fun b h1 => (b = true → u σ h1 X Q) ∧ (b = false → Q false h1)
def dOr (t u : DT) : DT := fun σ h X Q => t σ h X fun b h1 => (b = true → Q true h1) ∧ (b = false → u σ h1 X Q)
def dNot (t : DT) : DT := fun σ h X Q => t σ h X fun b h1 => Q (!b) h1
theorem sw_and1 (ha : ST X W a tA) : SW X W (.BoolOp .And [a] pos) tA := pw_and1 ha
theorem sw_or1 (ha : ST X W a tA) : SW X W (.BoolOp .Or [a] pos) tA := pw_or1 ha
theorem sw_and (ha : ST X W a tA) (hb : SW X W (.BoolOp .And (b :: rest) pos) tB) : SW X W (.BoolOp .And (a :: b :: rest) pos) (dAnd tA tB) := by
  refine PW.imp (pw_and ha hb) fun σ H Q w => ?_
  obtain ⟨ρ, σd, h, Xd, Qd, hr, sr, w, kx, k⟩ := w
  refine lT.go hr sr w kx fun ρ1 b1 h1 H1 e1 hr1 sr1 kx1 q => ?_
  cases b1 with
  | true => exact iteT ⟨ρ1, σd, h1, Xd, Qd, hr1, sr1, q.1 rfl, kx1, fun ρ' b h' H' e => k ρ' b h' H' (e1.trans e)⟩
  | false => exact iteF (k ρ1 false h1 H1 e1 hr1 (q.2 rfl))
theorem sw_or (ha : ST X W a tA) (hb : SW X W (.BoolOp .Or (b :: rest) pos) tB) : SW X W (.BoolOp .Or (a :: b :: rest) pos) (dOr tA tB) := by
  refine PW.imp (pw_or ha hb) fun σ H Q w => ?_
  obtain ⟨ρ, σd, h, Xd, Qd, hr, sr, w, kx, k⟩ := w
  refine lT.go hr sr w kx fun ρ1 b1 h1 H1 e1 hr1 sr1 kx1 q => ?_
  cases b1 with
  | true => exact iteT (k ρ1 true h1 H1 e1 hr1 (q.1 rfl))
  | false => exact iteF ⟨ρ1, σd, h1, Xd, Qd, hr1, sr1, q.2 rfl, kx1, fun ρ' b h' H' e => k ρ' b h' H' (e1.trans e)⟩
theorem st_w {e : Expr} (h : SW X W e tA) : ST X W e tA := h.pt
theorem st_not (ha : ST X W a tA) : ST X W (.UnaryOp .Not a pos) (dNot tA) := by
  refine PT.imp (pt_not ha) fun σ H Q w => ?_
  obtain ⟨ρ, σd, h, Xd, Qd, hr, sr, w, kx, k⟩ := w
  exact ⟨ρ, σd, h, Xd, _, hr, sr, w, kx, fun ρ' b h' H' e hr' q => k ρ' _ h' H' e hr' q⟩
/-- as values -/
def dAndV (da db : DE) : DE := fun σ h X Q => da σ h X fun d h1 => ∃ b, d = .bl b ∧ (b = true → db σ h1 X Q) ∧ (b = false → Q (.bl false) h1)
def dOrV (da db : DE) : DE := fun σ h X Q => da σ h X fun d h1 => ∃ b, d = .bl b ∧ (b = true → Q (.bl true) h1) ∧ (b = false → db σ h1 X Q)
def dNotV (da : DE) : DE := fun σ h X Q => da σ h X fun d h1 => ∃ b, d = .bl b ∧ Q (.bl (!b)) h1
theorem se_one {op} (h : SE X W a da) : SE X W (.BoolOp op [a] pos) da := pe_one h
theorem se_and (ha : SE X W a da) (hb : SE X W (.BoolOp .And (b :: rest) pos) db) : SE X W (.BoolOp .And (a :: b :: rest) pos) (dAndV da db) := by
  refine PE.imp (pe_and ha hb) fun σ H Q w => ?_
  obtain ⟨ρ, σd, h, Xd, Qd, hr, sr, w, kx, k⟩ := w
  refine lE.go hr sr w kx fun ρ1 d1 h1 v1 H1 e1 hr1 sr1 kx1 dv1 q => ?_
  obtain ⟨b1, rfl, q1, q2⟩ := q
  refine ⟨b1, dv1, ?_⟩
  cases b1 with
  | true => exact iteT ⟨ρ1, σd, h1, Xd, Qd, hr1, sr1, q1 rfl, kx1, fun ρ' d h' v H' e => k ρ' d h' v H' (e1.trans e)⟩
  | false => exact iteF (k ρ1 (.bl false) h1 _ H1 e1 hr1 rfl (q2 rfl))
theorem se_or (ha : SE X W a da) (hb : SE X W (.BoolOp .Or (b :: rest) pos) db) : SE X W (.BoolOp .Or (a :: b :: rest) pos) (dOrV da db) := by
  refine PE.imp (pe_or ha hb) fun σ H Q w => ?_
  obtain ⟨ρ, σd, h, Xd, Qd, hr, sr, w, kx, k⟩ := w
  refine lE.go hr sr w kx fun ρ1 d1 h1 v1 H1 e1 hr1 sr1 kx1 dv1 q => ?_
  obtain ⟨b1, rfl, q1, q2⟩ := q
  refine ⟨b1, dv1, ?_⟩
  cases b1 with
  | true => exact iteT (k ρ1 (.bl true) h1 _ H1 e1 hr1 rfl (q1 rfl))
  | false => exact iteF ⟨ρ1, σd, h1, Xd, Qd, hr1, sr1, q2 rfl, kx1, fun ρ' d h' v H' e => k ρ' d h' v H' (e1.trans e)⟩
theorem se_not (ha : SE X W a da) : SE X W (.UnaryOp .Not a pos) (dNotV da) := by
  refine PE.imp (pe_not ha) fun σ H Q w => ?_
  obtain ⟨ρ, σd, h, Xd, Qd, hr, sr, w, kx, k⟩ := w
  refine ⟨ρ, σd, h, Xd, _, hr, sr, w, kx, fun ρ1 d1 h1 v1 H1 e1 hr1 dv1 q => ?_⟩
  obtain ⟨b1, rfl, q⟩ := q
  exact ⟨b1, dv1, k ρ1 (.bl (!b1)) h1 _ H1 e1 hr1 rfl q⟩
def dIfE (t : DT) (da db : DE) : DE := fun σ h X Q => t σ h X fun b h1 => (b = true → da σ h1 X Q) ∧ (b = false → db σ h1 X Q)
theorem se_if {c : Expr} (hc : ST X W c tA) (ha : SE X W a da) (hb : SE X W b db) : SE X W (.IfExp c a b pos) (dIfE tA da db) := by
  refine PE.imp (pe_ifExp hc ha hb) fun σ H Q w => ?_
  obtain ⟨ρ, σd, h, Xd, Qd, hr, sr, w, kx, k⟩ := w
  refine lT.go hr sr w kx fun ρ1 b1 h1 H1 e1 hr1 sr1 kx1 q => ?_
  cases b1 with
  | true => exact iteT ⟨ρ1, σd, h1, Xd, Qd, hr1, sr1, q.1 rfl, kx1, fun ρ' d h' v H' e => k ρ' d h' v H' (e1.trans e)⟩
  | false => exact iteF ⟨ρ1, σd, h1, Xd, Qd, hr1, sr1, q.2 rfl, kx1, fun ρ' d h' v H' e => k ρ' d h' v H' (e1.trans e)⟩
/-- a < b < c -/
def dChn (op op' : D2) (da db dc : DE) : DE := fun σ h X Q => da σ h X fun x h1 => db σ h1 X fun y h2 => op x y h2 fun z h3 => ∃ k, z = .bl k ∧ (k = true → dc σ h3 X fun u h4 => op' y u h4 Q) ∧ (k = false → Q (.bl false) h3)

/-! ### arguments, displays -/
variable {es : List Expr} {ts : DA}
def aNil : DA := fun _ h _ Q => Q [] h
def aCons (da : DE) (ts : DA) : DA := fun σ h X Q => da σ h X fun x h1 => ts σ h1 X fun xs h2 => Q (x :: xs) h2
theorem sa_nil : SA X W [] aNil := PA.imp pa_nil fun σ H Q w => by
  obtain ⟨ρ, σd, h, Xd, Qd, hr, sr, w, kx, k⟩ := w
  exact k ρ [] h [] H .refl hr rfl w
theorem sa_cons (ha : SE X W a da) (hs : SA X W es ts) (hq : starEach (a :: es) X.env = (false, eval a X.env) :: starEach es X.env := by rfl) : SA X W (a :: es) (aCons da ts) := PA.imp (pa_cons ha hs hq) fun σ H Q w => by
  obtain ⟨ρ, σd, h, Xd, Qd, hr, sr, w, kx, k⟩ := w
  refine lE.go hr sr w kx fun ρ1 d1 h1 v1 H1 e1 hr1 sr1 kx1 dv1 w1 => lA.go hr1 sr1 w1 kx1 fun ρ2 ds h2 vs H2 e2 hr2 sr2 kx2 dvs w2 => ?_
  exact k ρ2 (d1 :: ds) h2 _ H2 (e1.trans e2) hr2 ⟨v1, vs, rfl, dv1.ext e2, dvs⟩ w2
def dTup (ts : DA) : DE := fun σ h X Q => ts σ h X fun ds h1 => ds.length ≤ sizeLine ∧ Q (.tup ds) h1
/-- a list that will not change -/
def dLst (ts : DA) : DE := fun σ h X Q => ts σ h X fun ds h1 => ds.length ≤ sizeLine ∧ Q (.lst ds) h1
/-- a list that may change -/
def dLstH (ts : DA) : DE := fun σ h X Q => ts σ h X fun ds h1 => ds.length ≤ sizeLine ∧ Q (.ref h1.length) (h1 ++ [.lst ds])
theorem se_tup {k : Nat} (h : SA X W es ts) : SE X W (.Tuple es k pos) (dTup ts) := PE.imp (pe_tup h) fun σ H Q w => by
  obtain ⟨ρ, σd, h, Xd, Qd, hr, sr, w, kx, k⟩ := w
  refine ⟨ρ, σd, h, Xd, _, hr, sr, w, kx, fun ρ1 ds h1 vs H1 e1 hr1 dvs q => ⟨by rw [dvs.length]; exact q.1, fun p np => ?_⟩⟩
  exact k ρ1 _ h1 _ _ (e1.trans (.new1 np)) (hr1.new1 np) (.tupNew hr1 np dvs) q.2
theorem se_lst (h : SA X W es ts) : SE X W (.List es pos) (dLst ts) := PE.imp (pe_lst h) fun σ H Q w => by
  obtain ⟨ρ, σd, h, Xd, Qd, hr, sr, w, kx, k⟩ := w
  refine ⟨ρ, σd, h, Xd, _, hr, sr, w, kx, fun ρ1 ds h1 vs H1 e1 hr1 dvs q => ⟨by rw [dvs.length]; exact q.1, fun p np => ?_⟩⟩
  exact k ρ1 _ h1 _ _ (e1.trans (.new1 np)) (hr1.new1 np) (.lstNew hr1 np dvs) q.2
theorem push_lst {K : PySem.W.Frag} {ρ : List Addr} {h : DHp} {H : Hp} {p : Addr} {ds : List D} {vs : List V} (hr : HR K ρ h H) (np : H p = none) (dvs : DVs K ρ H ds vs) :
    HR K (ρ ++ [p]) (h ++ [.lst ds]) (upd H p (.lst vs)) ∧ DV K (ρ ++ [p]) (upd H p (.lst vs)) (.ref h.length) (.ref p) :=
  ⟨hr.push np ⟨vs, upd_same, DVs.ext (.push np) _ _ dvs⟩, p, rfl, by rw [← hr.len, List.getElem?_append_right (Nat.le_refl _), Nat.sub_self]; rfl⟩
theorem se_lstH (h : SA X W es ts) : SE X W (.List es pos) (dLstH ts) := PE.imp (pe_lst h) fun σ H Q w => by
  obtain ⟨ρ, σd, h, Xd, Qd, hr, sr, w, kx, k⟩ := w
  refine ⟨ρ, σd, h, Xd, _, hr, sr, w, kx, fun ρ1 ds h1 vs H1 e1 hr1 dvs q => ⟨by rw [dvs.length]; exact q.1, fun p np => ?_⟩⟩
  obtain ⟨a1, a2⟩ := push_lst hr1 np dvs
  exact k _ _ _ _ _ (e1.trans (.push np)) a1 a2 q.2

/-! ### subscripts -/
theorem se_ix (hr : IxR X r) (L : L2ok X.K op r) (ha : SE X W a da) (hb : SE X W b db) (hs : PlainIx b := by exact fun _ _ => rfl) : SE X W (.Subscript a b pos) (dOp op da db) :=
  PE.imp (pe_ix hr ha hb hs) fun σ H Q w => two L w fun _ _ _ q => q
def dIx : D2 := fun x y h Q => ∃ i, y = .int i ∧ ((∃ l d, asS h x = some l ∧ atI l i = some d ∧ Q d h) ∨ ∃ z c, x = .str z ∧ z.length ≤ sizeLine ∧ atI z.cps.toList i = some c ∧ Q (.str ⟨#[c]⟩) h)
theorem atI_of {K : PySem.W.Frag} {ρ : List Addr} {H : Hp} {l : List D} {vs : List V} {i : Int} {d : D} (dvs : DVs K ρ H l vs) (e : atI l i = some d) : ∃ v, atI vs i = some v ∧ DV K ρ H d v := by
  unfold atI at e ⊢
  rw [dvs.length]
  cases q : ixN l.length i with
  | none => rw [q] at e; cases e
  | some j =>
    rw [q] at e
    exact dvs.get (show l[j]? = some d from e)
theorem L_ix {K : PySem.W.Frag} : L2ok K dIx (rIx K) := by
  intro ρ h H x y vx vy Qd Q hr dx dy w k
  obtain ⟨i, rfl, w⟩ := w
  rcases w with ⟨l, d, e1, e2, q⟩ | ⟨z, c, rfl, hz, e2, q⟩
  · obtain ⟨a, vs, rfl, hq, dvs⟩ := asS_at hr dx e1
    obtain ⟨v, e3, dv⟩ := atI_of dvs e2
    have fin := k ρ d h v H .refl hr dv q
    rcases hq with hq | hq
    · exact .inl ⟨a, vs, i, v, rfl, dy, hq, e3, fin⟩
    · exact .inr (.inl ⟨a, vs, i, v, rfl, dy, hq, e3, fin⟩)
  · exact .inr (.inr ⟨z, i, c, dx, dy, hz, e2, k ρ (.str ⟨#[c]⟩) h _ H .refl hr rfl q⟩)
theorem se_sub (ha : SE X W a da) (hb : SE X W b db) (hs : PlainIx b := by exact fun _ _ => rfl) : SE X W (.Subscript a b pos) (dOp dIx da db) := se_ix ix_seq L_ix ha hb hs

/-! ### fields -/
def dFld (f : Str) (da : DE) : DE := fun σ h X Q => da σ h X fun x h1 => (∃ c fs d, x = .obj c fs ∧ fs.lookup f = some d ∧ Q d h1) ∨ ∃ i c fs d, x = .ref i ∧ h1[i]? = some (.ins c fs) ∧ fs.lookup f = some d ∧ Q d h1
/-- the classes whose instances may be read of f -/
def FldOk (K : PySem.W.Frag) (cs : List String) (f : Str) : Prop := ∀ c ∈ cs, Cls K (He.ga K (Str.ofString c)) ∧ NoAttr K (He.ga K (Str.ofString c)) f
def nFld (cs : List String) (f : Str) (x : D) (h1 : DHp) (Q : DK) : Prop := ∃ c fs d, c ∈ cs ∧ (x = .obj c fs ∨ ∃ i, x = .ref i ∧ h1[i]? = some (.ins c fs)) ∧ fs.lookup f = some d ∧ Q d h1
theorem fld_eq {cs : List String} {f : Str} {c : String} {fs : List (Str × D)} {d : D} {h : DHp} {Q : DK} (hc : c ∈ cs) (e : fs.lookup f = some d) : nFld cs f (.obj c fs) h Q ↔ Q d h := by
  constructor
  · rintro ⟨c', fs', d', _, hx, e2, q⟩
    rcases hx with hx | ⟨i, hx, _⟩
    · cases hx
      rw [e] at e2; cases e2
      exact q
    · cases hx
  · intro q
    exact ⟨c, fs, d, hc, .inl rfl, e, q⟩
def dFldC (cs : List String) (f : Str) (da : DE) : DE := fun σ h X Q => da σ h X fun x h1 => nFld cs f x h1 Q
theorem se_fld {cs : List String} {f : Str} (hf : FldOk X.K cs f) (ha : SE X W a da) (hb : attributeBase a f X.env (eval a X.env) = eval a X.env := by rfl) : SE X W (.Attribute a f pos) (dFldC cs f da) := PE.imp (pe_fld ha hb) fun σ H Q w => by
  obtain ⟨ρ, σd, h, Xd, Qd, hr, sr, w, kx, k⟩ := w
  refine ⟨ρ, σd, h, Xd, _, hr, sr, w, kx, fun ρ1 x h1 v H1 e1 hr1 dv q => ?_⟩
  obtain ⟨c, fs, d, hc, hx, hl, q⟩ := q
  obtain ⟨hcl, hna⟩ := hf c hc
  have : ∃ a dx ws, v = .ref a ∧ H1 a = some (.ins (He.ga X.K (Str.ofString c)) dx ws) ∧ DFs X.K ρ1 H1 fs ws := by
    rcases hx with rfl | ⟨i, rfl, hi⟩
    · obtain ⟨a, dx, ws, e, _, q1, q2⟩ := dv; exact ⟨a, dx, ws, e, q1, q2⟩
    · obtain ⟨a, e, q1⟩ := dv
      obtain ⟨dx, ws, q2, q3⟩ := hr1.at_ i _ a hi q1
      exact ⟨a, dx, ws, e, q2, q3⟩
  obtain ⟨a, dx, ws, rfl, hH, dfs⟩ := this
  obtain ⟨u, hl', du⟩ := dfs.lookup hl
  exact ⟨a, _, dx, ws, u, rfl, hH, hcl, hna, hl', k ρ1 d h1 u H1 e1 hr1 du q⟩
end
end L2.MW

/-! MW, part C: the operators by their values. -/
namespace L2.MW
open PySem PySem.Spec PyProof.Rows

/-! ### ints -/
def dII (C : Int → Int → Prop) (g : Int → Int → D) : D2 := fun x y h Q => ∃ i j, x = .int i ∧ y = .int j ∧ C i j ∧ Q (g i j) h
def dI0 (g : Int → Int → D) : D2 := fun x y h Q => ∃ i j, x = .int i ∧ y = .int j ∧ Q (g i j) h
theorem L_II {K : PySem.W.Frag} {C : Int → Int → Prop} {g : Int → Int → D} {g' : Int → Int → V} (e : ∀ ρ H i j, DV K ρ H (g i j) (g' i j)) : L2ok K (dII C g) (rI C g') := by
  intro ρ h H x y vx vy Qd Q hr dx dy w k
  obtain ⟨i, j, rfl, rfl, c, q⟩ := w
  exact ⟨i, j, dx, dy, c, k ρ (g i j) h _ H .refl hr (e ρ H i j) q⟩
theorem L_I0 {K : PySem.W.Frag} {g : Int → Int → D} {g' : Int → Int → V} (e : ∀ ρ H i j, DV K ρ H (g i j) (g' i j)) : L2ok K (dI0 g) (rI0 g') := by
  intro ρ h H x y vx vy Qd Q hr dx dy w k
  obtain ⟨i, j, rfl, rfl, q⟩ := w
  exact ⟨i, j, dx, dy, k ρ (g i j) h _ H .refl hr (e ρ H i j) q⟩
section
variable {X : Cx} {W : WX} {a b c : Expr} {da db dc : DE} {pos : Pos}
theorem se_sub2 (ha : SE X W a da) (hb : SE X W b db) : SE X W (.BinOp a .Sub b pos) (dOp (dI0 fun i j => .int (i - j)) da db) := se_op op_sub (L_I0 fun _ _ _ _ => rfl) ha hb
theorem se_fdiv (ha : SE X W a da) (hb : SE X W b db) : SE X W (.BinOp a .FloorDiv b pos) (dOp (dII CDiv fun i j => .int (i / j)) da db) := se_op op_fdiv (L_II fun _ _ _ _ => rfl) ha hb
theorem se_mod (ha : SE X W a da) (hb : SE X W b db) : SE X W (.BinOp a .Mod b pos) (dOp (dII (fun _ j => 0 < j) fun i j => .int (i % j)) da db) := se_op op_mod (L_II fun _ _ _ _ => rfl) ha hb
theorem se_pow (ha : SE X W a da) (hb : SE X W b db) : SE X W (.BinOp a .Pow b pos) (dOp (dII CPow fun i j => .int (i ^ j.toNat)) da db) := se_op op_pow (L_II fun _ _ _ _ => rfl) ha hb
theorem se_shl (ha : SE X W a da) (hb : SE X W b db) : SE X W (.BinOp a .LShift b pos) (dOp (dII CPow fun i j => .int (i * 2 ^ j.toNat)) da db) := se_op op_shl (L_II fun _ _ _ _ => rfl) ha hb
theorem se_shr (ha : SE X W a da) (hb : SE X W b db) : SE X W (.BinOp a .RShift b pos) (dOp (dII (fun _ j => 0 ≤ j) fun i j => .int (i / 2 ^ j.toNat)) da db) := se_op op_shr (L_II fun _ _ _ _ => rfl) ha hb
theorem se_band (ha : SE X W a da) (hb : SE X W b db) : SE X W (.BinOp a .BitAnd b pos) (dOp (dI0 fun i j => .int (Builtin.bitAnd i j)) da db) := se_op op_and (L_I0 fun _ _ _ _ => rfl) ha hb
theorem se_bor (ha : SE X W a da) (hb : SE X W b db) : SE X W (.BinOp a .BitOr b pos) (dOp (dI0 fun i j => .int (Builtin.bitOr i j)) da db) := se_op op_or (L_I0 fun _ _ _ _ => rfl) ha hb
theorem se_bxor (ha : SE X W a da) (hb : SE X W b db) : SE X W (.BinOp a .BitXor b pos) (dOp (dI0 fun i j => .int (Builtin.bitXor i j)) da db) := se_op op_xor (L_I0 fun _ _ _ _ => rfl) ha hb

/-! ### + -/
/-- t + u, any tuples -/
def rCatT' (K : PySem.W.Frag) : R2 := fun x y H Q => ∃ a b xs ys, x = .ref a ∧ y = .ref b ∧ SqT K H a xs ∧ SqT K H b ys ∧ xs.length + ys.length ≤ sizeLine ∧
  (xs = [] → Q (.ref b) H) ∧ (xs ≠ [] → ys = [] → Q (.ref a) H) ∧ (xs ≠ [] → ys ≠ [] → ∀ p, H p = none → Q (.ref p) (upd H p (.tup (xs ++ ys))))
theorem op_catT' : OpR X (binaryOp .Add) (rCatT' X.K) := by
  intro pins s σ H x y v u Q I rx ry h
  obtain ⟨a, b, xs, ys, rfl, rfl, ha, hb, hz, q0, q1, q2⟩ := h
  by_cases hx : xs = []
  · cases rx
    cases ry
    obtain ⟨its, r1, p1, _⟩ := I.tuple ha
    obtain ⟨its2, r2, p2, _⟩ := I.tuple hb
    have ei : its = [] := r1.nil_iff.mpr hx
    subst ei
    obtain ⟨⟨cls, dd, data, sl⟩, ho, hc, n, hd⟩ := id p1
    obtain ⟨⟨cls2, dd2, data2, sl2⟩, ho2, hc2, n2, hd2⟩ := id p2
    simp only at hc hd hc2 hd2
    subst hc hd hc2 hd2
    exact concat_meets ⟨_, ho, rfl⟩ ⟨_, ho2, rfl⟩ noFill_tuple_add seq_tuple_add PySem.F.slot_tuple_add PySem.F.entry_tuple_add (PySem.F.args_tuple_add_2 _ _)
      (tuple_addW0 a b #[] its2.toArray n n2 dd dd2 sl sl2 rfl) ⟨ho, ho2, ⟨.ref b, H, I, rfl, q0 hx⟩⟩
  · exact op_catT pins s σ H (.ref a) (.ref b) v u Q I rx ry ⟨a, b, xs, ys, rfl, rfl, ha, hb, hx, hz, q1 hx, q2 hx⟩
def dAdd : D2 := fun x y h Q => match x with
  | .int i => ∃ j, y = .int j ∧ Q (.int (i + j)) h
  | .str a => ∃ b, y = .str b ∧ a.length + b.length ≤ sizeLine ∧ Q (.str (a ++ b)) h
  | .tup a => ∃ b, y = .tup b ∧ a.length + b.length ≤ sizeLine ∧ Q (.tup (a ++ b)) h
  | x => ∃ a b, asX h x = some a ∧ asX h y = some b ∧ a.length + b.length ≤ sizeLine ∧ Q (.lst (a ++ b)) h
def rAdd4 (K : PySem.W.Frag) : R2 := fun x y H Q => (rI0 fun i j => .int (i + j)) x y H Q ∨ (∃ i j, x = .str i ∧ y = .str j ∧ i.length + j.length ≤ sizeLine ∧ Q (.str (i ++ j)) H) ∨ rCatT' K x y H Q ∨ rCat x y H Q
theorem op_add4 : OpR X (binaryOp .Add) (rAdd4 X.K) := op_add.or (op_add_str.or (op_catT'.or op_cat))
theorem nil_of_len {α β : Type} {xs : List α} {ys : List β} (h : xs.length = ys.length) : xs = [] ↔ ys = [] := by
  cases xs <;> cases ys <;> simp at h ⊢
theorem L_add {K : PySem.W.Frag} : L2ok K dAdd (rAdd4 K) := by
  intro ρ h H x y vx vy Qd Q hr dx dy w k
  have lists : (∃ a b, asX h x = some a ∧ asX h y = some b ∧ a.length + b.length ≤ sizeLine ∧ Qd (.lst (a ++ b)) h) → rAdd4 K vx vy H Q := by
    rintro ⟨a, b, e1, e2, hz, q⟩
    obtain ⟨p, vs, rfl, h1, d1⟩ := asX_at hr dx e1
    obtain ⟨p', vs', rfl, h2, d2⟩ := asX_at hr dy e2
    refine .inr (.inr (.inr ⟨p, p', vs, vs', rfl, rfl, h1, h2, by rw [d1.length, d2.length]; exact hz, fun n np => ?_⟩))
    exact k ρ _ h _ _ (.new1 np) (hr.new1 np) (.lstNew hr np (d1.append d2)) q
  cases x with
  | int i => obtain ⟨j, rfl, q⟩ := w; exact .inl ⟨i, j, dx, dy, k ρ (.int (i + j)) h _ H .refl hr rfl q⟩
  | str i => obtain ⟨j, rfl, hz, q⟩ := w; exact .inr (.inl ⟨i, j, dx, dy, hz, k ρ (.str (i ++ j)) h _ H .refl hr rfl q⟩)
  | tup a =>
    obtain ⟨b, rfl, hz, q⟩ := w
    have dx' := dx
    have dy' := dy
    obtain ⟨p, vs, rfl, h1, d1⟩ := dx
    obtain ⟨p', vs', rfl, h2, d2⟩ := dy
    refine .inr (.inr (.inl ⟨p, p', vs, vs', rfl, rfl, h1.sq, h2.sq, by rw [d1.length, d2.length]; exact hz, fun e => ?_, fun _ e => ?_, fun _ _ n np => ?_⟩))
    · have ea : a = [] := (nil_of_len d1.length).mp e
      subst ea
      exact k ρ (.tup b) h _ H .refl hr dy' q
    · have eb : b = [] := (nil_of_len d2.length).mp e
      subst eb
      rw [List.append_nil] at q
      exact k ρ (.tup a) h _ H .refl hr dx' q
    · exact k ρ _ h _ _ (.new1 np) (hr.new1 np) (.tupNew hr np (d1.append d2)) q
  | lst a => exact lists w
  | ref a => exact lists w
  | fz a => exact lists w
  | non => exact lists w
  | bl _ => exact lists w
  | obj _ _ => exact lists w
  | ty _ => exact lists w
  | cls _ => exact lists w
  | exn _ _ _ _ => exact lists w
theorem se_add (ha : SE X W a da) (hb : SE X W b db) : SE X W (.BinOp a .Add b pos) (dOp dAdd da db) := se_op op_add4 L_add ha hb

/-! ### * -/
def dMul : D2 := fun x y h Q => ∃ j, y = .int j ∧ match x with
  | .int i => CMul i j ∧ Q (.int (i * j)) h
  | .tup a => a ≠ [] ∧ 2 ≤ j ∧ j ≤ 1000 ∧ a.length ≤ 1000 ∧ Q (.tup (List.replicate j.toNat a).flatten) h
  | x => ∃ a, asX h x = some a ∧ -(2 ^ 63) ≤ j ∧ j < 2 ^ 63 ∧ a.length * j.toNat ≤ sizeLine ∧ Q (.lst (List.replicate j.toNat a).flatten) h
theorem DVs.rep {K : PySem.W.Frag} {ρ : List Addr} {H : Hp} {l : List D} {vs : List V} (d : DVs K ρ H l vs) : ∀ k : Nat, DVs K ρ H (List.replicate k l).flatten (List.replicate k vs).flatten
  | 0 => rfl
  | k + 1 => by rw [List.replicate_succ, List.replicate_succ, List.flatten_cons, List.flatten_cons]; exact d.append (DVs.rep d k)
def rMul3 (K : PySem.W.Frag) : R2 := fun x y H Q => (rI CMul fun i j => .int (i * j)) x y H Q ∨ rRepT K x y H Q ∨ rRep x y H Q
theorem op_mul3 : OpR X (binaryOp .Mult) (rMul3 X.K) := op_mul.or (op_repT.or op_rep)
theorem L_mul {K : PySem.W.Frag} : L2ok K dMul (rMul3 K) := by
  intro ρ h H x y vx vy Qd Q hr dx dy w k
  obtain ⟨j, rfl, w⟩ := w
  have ey : vy = .int j := dy
  subst ey
  have lists : (∃ a, asX h x = some a ∧ -(2 ^ 63) ≤ j ∧ j < 2 ^ 63 ∧ a.length * j.toNat ≤ sizeLine ∧ Qd (.lst (List.replicate j.toNat a).flatten) h) → rMul3 K vx (.int j) H Q := by
    rintro ⟨a, e1, b1, b2, hz, q⟩
    obtain ⟨p, vs, rfl, h1, d1⟩ := asX_at hr dx e1
    refine .inr (.inr ⟨p, j, vs, rfl, rfl, h1, b1, b2, by rw [d1.length]; exact hz, fun n np => ?_⟩)
    exact k ρ _ h _ _ (.new1 np) (hr.new1 np) (.lstNew hr np (d1.rep _)) q
  cases x with
  | int i => exact .inl ⟨i, j, dx, rfl, w.1, k ρ (.int (i * j)) h _ H .refl hr rfl w.2⟩
  | tup a =>
    obtain ⟨ha, b1, b2, hz, q⟩ := w
    obtain ⟨p, vs, rfl, h1, d1⟩ := dx
    refine .inr (.inl ⟨p, j, vs, rfl, rfl, h1.sq, fun e => ha ((nil_of_len d1.length).mp e), b1, b2, by rw [d1.length]; exact hz, fun n np => ?_⟩)
    exact k ρ _ h _ _ (.new1 np) (hr.new1 np) (.tupNew hr np (d1.rep _)) q
  | lst a => exact lists w
  | ref a => exact lists w
  | fz a => exact lists w
  | non => exact lists w
  | bl _ => exact lists w
  | obj _ _ => exact lists w
  | ty _ => exact lists w
  | cls _ => exact lists w
  | exn _ _ _ _ => exact lists w
  | str _ => exact lists w
theorem se_mul (ha : SE X W a da) (hb : SE X W b db) : SE X W (.BinOp a .Mult b pos) (dOp dMul da db) := se_op op_mul3 L_mul ha hb
/-! ### one operand -/
def dNeg (da : DE) : DE := fun σ h X Q => da σ h X fun d h1 => ∃ i, d = .int i ∧ Q (.int (-i)) h1
def dInv (da : DE) : DE := fun σ h X Q => da σ h X fun d h1 => ∃ i, d = .int i ∧ Q (.int (Builtin.bitNot i)) h1
theorem se_neg (ha : SE X W a da) : SE X W (.UnaryOp .USub a pos) (dNeg da) := by
  refine PE.imp (pe_un un_neg ha) fun σ H Q w => ?_
  obtain ⟨ρ, σd, h, Xd, Qd, hr, sr, w, kx, k⟩ := w
  refine ⟨ρ, σd, h, Xd, _, hr, sr, w, kx, fun ρ1 d1 h1 v1 H1 e1 hr1 dv1 q => ?_⟩
  obtain ⟨i, rfl, q⟩ := q
  exact ⟨i, dv1, k ρ1 (.int (-i)) h1 _ H1 e1 hr1 rfl q⟩
theorem se_inv (ha : SE X W a da) : SE X W (.UnaryOp .Invert a pos) (dInv da) := by
  refine PE.imp (pe_un un_inv ha) fun σ H Q w => ?_
  obtain ⟨ρ, σd, h, Xd, Qd, hr, sr, w, kx, k⟩ := w
  refine ⟨ρ, σd, h, Xd, _, hr, sr, w, kx, fun ρ1 d1 h1 v1 H1 e1 hr1 dv1 q => ?_⟩
  obtain ⟨i, rfl, q⟩ := q
  exact ⟨i, dv1, k ρ1 (.int (Builtin.bitNot i)) h1 _ H1 e1 hr1 rfl q⟩

/-! ### == of data -/
mutual
def toP : D → PyData
  | .non => .none
  | .bl b => .bool b
  | .int i => .int i
  | .str x => .str x
  | .tup l => .tuple (toPs l)
  | .lst l => .list (toPs l)
  | .fz l => .list (toPs l)
  | .ref _ => .none
  | .obj _ _ => .none
  | .ty _ => .none
  | .cls _ => .none
  | .exn _ _ _ _ => .none
def toPs : List D → List PyData
  | [] => []
  | d :: ds => toP d :: toPs ds
end
/-- data of at most this depth without objects -/
def OkD : Nat → D → Prop
  | _, .non => True
  | _, .bl _ => True
  | _, .int _ => True
  | _, .str x => PyData.strOk x = true
  | n + 1, .tup l => ∀ x ∈ l, OkD n x
  | n + 1, .lst l => ∀ x ∈ l, OkD n x
  | n + 1, .fz l => ∀ x ∈ l, OkD n x
  | _, _ => False
theorem toPs_map : ∀ l : List D, toPs l = l.map toP
  | [] => rfl
  | d :: ds => by rw [toPs, toPs_map ds]; rfl
section
variable {K : PySem.W.Frag} {ρ : List Addr} {H : Hp}
theorem OkD.all {n : Nat} (ih : ∀ d v, OkD n d → DV K ρ H d v → Dp K H v (toP d) ∧ (toP d).canLay0 = true ∧ (toP d).depth ≤ n) : ∀ {l : List D} {vs : List V}, (∀ x ∈ l, OkD n x) → DVs K ρ H l vs → DpAll K H vs (toPs l) ∧ PyData.canLayAll0 (toPs l) = true ∧ PyData.depthAll (toPs l) ≤ n
  | [], _, _, d => by rw [show _ = [] from d]; exact ⟨.nil, rfl, Nat.zero_le _⟩
  | x :: l, _, o, ⟨v, r, e, d1, d2⟩ => by
    subst e
    obtain ⟨a1, a2, a3⟩ := ih x v (o x List.mem_cons_self) d1
    obtain ⟨b1, b2, b3⟩ := OkD.all ih (fun y hy => o y (List.mem_cons_of_mem _ hy)) d2
    exact ⟨.cons a1 b1, by rw [toPs, PyData.canLayAll0, a2, b2]; rfl, by rw [toPs, PyData.depthAll]; exact Nat.max_le.mpr ⟨a3, b3⟩⟩
theorem OkD.dp : ∀ (n : Nat) (d : D) (v : V), OkD n d → DV K ρ H d v → Dp K H v (toP d) ∧ (toP d).canLay0 = true ∧ (toP d).depth ≤ n := by
  intro n
  induction n with
  | zero =>
    intro d v o dv
    cases d with
    | non => have z : v = .non := dv; subst z; exact ⟨.non, rfl, Nat.le_refl _⟩
    | bl b => have z : v = .bl b := dv; subst z; exact ⟨.bl b, rfl, Nat.le_refl _⟩
    | int i => have z : v = .int i := dv; subst z; exact ⟨.int i, rfl, Nat.le_refl _⟩
    | str x => have z : v = .str x := dv; subst z; exact ⟨.str x, o, Nat.le_refl _⟩
    | _ => exact o.elim
  | succ n ih =>
    intro d v o dv
    cases d with
    | non => have z : v = .non := dv; subst z; exact ⟨.non, rfl, Nat.zero_le _⟩
    | bl b => have z : v = .bl b := dv; subst z; exact ⟨.bl b, rfl, Nat.zero_le _⟩
    | int i => have z : v = .int i := dv; subst z; exact ⟨.int i, rfl, Nat.zero_le _⟩
    | str x => have z : v = .str x := dv; subst z; exact ⟨.str x, o, Nat.zero_le _⟩
    | tup l =>
      obtain ⟨a, vs, rfl, h1, h2⟩ := dv
      obtain ⟨b1, b2, b3⟩ := OkD.all ih o h2
      exact ⟨.tup h1.sq b1, b2, Nat.succ_le_succ b3⟩
    | lst l =>
      obtain ⟨a, vs, rfl, h1, h2⟩ := dv
      obtain ⟨b1, b2, b3⟩ := OkD.all ih o h2
      exact ⟨.lst h1.sq b1, b2, Nat.succ_le_succ b3⟩
    | fz l =>
      obtain ⟨a, vs, rfl, h1, h2⟩ := dv
      obtain ⟨b1, b2, b3⟩ := OkD.all ih o h2
      exact ⟨.lst h1.sq b1, b2, Nat.succ_le_succ b3⟩
    | _ => exact o.elim
end
/-- a changing list, as it is now -/
def rz (h : DHp) : D → D
  | .ref i => (match h[i]? with | some (.lst l) => .lst l | _ => .ref i)
  | d => d
def deq (x y : D) : Bool := PyData.eqv (toP x) (toP y)
theorem rz_dp {K : PySem.W.Frag} {ρ : List Addr} {h : DHp} {H : Hp} {d : D} {v : V} (hr : HR K ρ h H) (dv : DV K ρ H d v) (o : OkD 60 (rz h d)) : Dp K H v (toP (rz h d)) ∧ SeqAt.shaped (toP (rz h d)) = true := by
  have fin : ∀ {d : D}, OkD 60 d → DV K ρ H d v → Dp K H v (toP d) ∧ SeqAt.shaped (toP d) = true := fun o dv => by
    obtain ⟨a, b, c⟩ := OkD.dp 60 _ v o dv
    refine ⟨a, ?_⟩
    unfold SeqAt.shaped
    rw [b, decide_eq_true (by omega)]; rfl
  cases d with
  | ref i =>
    have o' : OkD 60 (match h[i]? with | some (.lst l) => .lst l | _ => .ref i) := o
    show Dp K H v (toP (match h[i]? with | some (.lst l) => .lst l | _ => .ref i)) ∧ SeqAt.shaped (toP (match h[i]? with | some (.lst l) => .lst l | _ => .ref i)) = true
    cases q : h[i]? with
    | none => rw [q] at o'; exact o'.elim
    | some b =>
      rw [q] at o'
      cases b with
      | ins c fs => exact o'.elim
      | lst l =>
        obtain ⟨a, vs, rfl, hH, dvs⟩ := asX_at (d := .ref i) (l := l) hr dv (by show (match h[i]? with | some (.lst l) => some l | _ => none) = some l; rw [q])
        obtain ⟨b1, b2, b3⟩ := OkD.all (n := 59) (fun d v => OkD.dp 59 d v) o' dvs
        refine ⟨.lst (.of hH) b1, ?_⟩
        show (PyData.canLayAll0 (toPs l) && decide (PyData.depthAll (toPs l) + 1 ≤ 64)) = true
        rw [b2, decide_eq_true (by omega)]; rfl
  | _ => exact fin o dv
def dEq : D2 := fun x y h Q => OkD 60 (rz h x) ∧ OkD 60 (rz h y) ∧ Q (.bl (deq (rz h x) (rz h y))) h
def dNe : D2 := fun x y h Q => OkD 60 (rz h x) ∧ OkD 60 (rz h y) ∧ Q (.bl (!deq (rz h x) (rz h y))) h
theorem L_eq {K : PySem.W.Frag} : L2ok K dEq (rEqD K) := by
  intro ρ h H x y vx vy Qd Q hr dx dy w k
  obtain ⟨o1, o2, q⟩ := w
  obtain ⟨a1, a2⟩ := rz_dp hr dx o1
  obtain ⟨b1, b2⟩ := rz_dp hr dy o2
  exact ⟨_, _, a1, b1, a2, b2, k ρ (.bl _) h _ H .refl hr rfl q⟩
theorem L_ne {K : PySem.W.Frag} : L2ok K dNe (rNeD K) := by
  intro ρ h H x y vx vy Qd Q hr dx dy w k
  obtain ⟨o1, o2, q⟩ := w
  obtain ⟨a1, a2⟩ := rz_dp hr dx o1
  obtain ⟨b1, b2⟩ := rz_dp hr dy o2
  exact ⟨_, _, a1, b1, a2, b2, k ρ (.bl _) h _ H .refl hr rfl q⟩
theorem dEq_int {i j : Int} {h : DHp} {Q : DK} (q : Q (.bl (i == j)) h) : dEq (.int i) (.int j) h Q := ⟨trivial, trivial, q⟩
theorem dNe_int {i j : Int} {h : DHp} {Q : DK} (q : Q (.bl (!(i == j))) h) : dNe (.int i) (.int j) h Q := ⟨trivial, trivial, q⟩
theorem se_eq (hu : X.A.units + 64 < cLine) (ha : SE X W a da) (hb : SE X W b db) : SE X W (.Compare a [.Eq] [b] pos) (dOp dEq da db) := se_cmp (op_eqD hu) L_eq ha hb
theorem se_ne (hu : X.A.units + 64 < cLine) (ha : SE X W a da) (hb : SE X W b db) : SE X W (.Compare a [.NotEq] [b] pos) (dOp dNe da db) := se_cmp (op_neD hu) L_ne ha hb
theorem st_eq (hu : X.A.units + 64 < cLine) (ha : SE X W a da) (hb : SE X W b db) : ST X W (.Compare a [.Eq] [b] pos) (dTst (dOp dEq da db)) := st_cmp (op_eqD hu) L_eq ha hb
theorem st_ne (hu : X.A.units + 64 < cLine) (ha : SE X W a da) (hb : SE X W b db) : ST X W (.Compare a [.NotEq] [b] pos) (dTst (dOp dNe da db)) := st_cmp (op_neD hu) L_ne ha hb

/-! ### <, <=, >, >= of ints -/
abbrev dCI (p : Int → Int → Bool) : D2 := dI0 fun i j => .bl (p i j)
theorem L_CI {K : PySem.W.Frag} {p : Int → Int → Bool} : L2ok K (dCI p) (rI0 fun i j => .bl (p i j)) := L_I0 fun _ _ _ _ => rfl
theorem se_lt (ha : SE X W a da) (hb : SE X W b db) : SE X W (.Compare a [.Lt] [b] pos) (dOp (dCI fun i j => decide (i < j)) da db) := se_cmp op_lt L_CI ha hb
theorem se_le (ha : SE X W a da) (hb : SE X W b db) : SE X W (.Compare a [.LtE] [b] pos) (dOp (dCI fun i j => decide (i ≤ j)) da db) := se_cmp op_le L_CI ha hb
theorem se_gt (ha : SE X W a da) (hb : SE X W b db) : SE X W (.Compare a [.Gt] [b] pos) (dOp (dCI fun i j => decide (j < i)) da db) := se_cmp op_gt L_CI ha hb
theorem se_ge (ha : SE X W a da) (hb : SE X W b db) : SE X W (.Compare a [.GtE] [b] pos) (dOp (dCI fun i j => decide (j ≤ i)) da db) := se_cmp op_ge L_CI ha hb
theorem st_lt (ha : SE X W a da) (hb : SE X W b db) : ST X W (.Compare a [.Lt] [b] pos) (dTst (dOp (dCI fun i j => decide (i < j)) da db)) := st_cmp op_lt L_CI ha hb
theorem st_le (ha : SE X W a da) (hb : SE X W b db) : ST X W (.Compare a [.LtE] [b] pos) (dTst (dOp (dCI fun i j => decide (i ≤ j)) da db)) := st_cmp op_le L_CI ha hb
theorem st_gt (ha : SE X W a da) (hb : SE X W b db) : ST X W (.Compare a [.Gt] [b] pos) (dTst (dOp (dCI fun i j => decide (j < i)) da db)) := st_cmp op_gt L_CI ha hb
theorem st_ge (ha : SE X W a da) (hb : SE X W b db) : ST X W (.Compare a [.GtE] [b] pos) (dTst (dOp (dCI fun i j => decide (j ≤ i)) da db)) := st_cmp op_ge L_CI ha hb
/-! ### is None -/
def isN : D → Bool
  | .non => true
  | _ => false
theorem isN_at {K : PySem.W.Frag} {ρ : List Addr} {H : Hp} {d : D} {v : V} (dv : DV K ρ H d v) : decide (v = .non) = isN d := by
  cases d with
  | non => have z : v = .non := dv; subst z; rfl
  | bl _ => have z : v = .bl _ := dv; subst z; rfl
  | int _ => have z : v = .int _ := dv; subst z; rfl
  | str _ => have z : v = .str _ := dv; subst z; rfl
  | tup _ => obtain ⟨a, _, rfl, _⟩ := dv; rfl
  | lst _ => obtain ⟨a, _, rfl, _⟩ := dv; rfl
  | fz _ => obtain ⟨a, _, rfl, _⟩ := dv; rfl
  | ref _ => obtain ⟨a, rfl, _⟩ := dv; rfl
  | obj _ _ => obtain ⟨a, _, _, rfl, _⟩ := dv; rfl
  | ty _ => have z : v = .ty _ := dv; subst z; rfl
  | cls _ => have z : v = .ref _ := dv; subst z; rfl
  | exn _ _ _ _ => obtain ⟨rfl, _⟩ := dv; rfl
def dIsN : D2 := fun x y h Q => y = .non ∧ Q (.bl (isN x)) h
def dNotN : D2 := fun x y h Q => y = .non ∧ Q (.bl (!isN x)) h
theorem L_isN {K : PySem.W.Frag} : L2ok K dIsN (fun x y H Q => y = .non ∧ Q (.bl (decide (x = .non))) H) := by
  intro ρ h H x y vx vy Qd Q hr dx dy w k
  obtain ⟨rfl, q⟩ := w
  refine ⟨dy, ?_⟩
  rw [isN_at dx]
  exact k ρ (.bl _) h _ H .refl hr rfl q
theorem L_notN {K : PySem.W.Frag} : L2ok K dNotN (fun x y H Q => y = .non ∧ Q (.bl (!decide (x = .non))) H) := by
  intro ρ h H x y vx vy Qd Q hr dx dy w k
  obtain ⟨rfl, q⟩ := w
  refine ⟨dy, ?_⟩
  rw [isN_at dx]
  exact k ρ (.bl _) h _ H .refl hr rfl q
theorem se_isN (ha : SE X W a da) (hb : SE X W b db) : SE X W (.Compare a [.Is] [b] pos) (dOp dIsN da db) := se_cmp op_isN L_isN ha hb
theorem se_notN (ha : SE X W a da) (hb : SE X W b db) : SE X W (.Compare a [.IsNot] [b] pos) (dOp dNotN da db) := se_cmp op_notN L_notN ha hb
theorem st_isN (ha : SE X W a da) (hb : SE X W b db) : ST X W (.Compare a [.Is] [b] pos) (dTst (dOp dIsN da db)) := st_cmp op_isN L_isN ha hb
theorem st_notN (ha : SE X W a da) (hb : SE X W b db) : ST X W (.Compare a [.IsNot] [b] pos) (dTst (dOp dNotN da db)) := st_cmp op_notN L_notN ha hb
/-! ### chains -/
theorem se_chn {o o' : CmpOp} {op op' : D2} {r r' : R2} (ho : OpR X (compareOp o) r) (L : L2ok X.K op r) (ho' : OpR X (compareOp o') r') (L' : L2ok X.K op' r') (ha : SE X W a da) (hb : SE X W b db) (hc : SE X W c dc)
    (h1 : lastMarks [o, o'] [b, c] = false := by with_unfolding_all rfl) : SE X W (.Compare a [o, o'] [b, c] pos) (dChn op op' da db dc) := by
  refine PE.imp (pe_chain ho ho' ha hb hc h1) fun σ H Q w => ?_
  obtain ⟨ρ, σd, h, Xd, Qd, hr, sr, w, kx, k⟩ := w
  refine lE.go hr sr w kx fun ρ1 d1 h1 v1 H1 e1 hr1 sr1 kx1 dv1 w1 => lE.go hr1 sr1 w1 kx1 fun ρ2 d2 h2 v2 H2 e2 hr2 sr2 kx2 dv2 w2 => ?_
  refine L ρ2 h2 H2 d1 d2 v1 v2 _ _ hr2 (dv1.ext e2) dv2 w2 fun ρ3 d3 h3 v3 H3 e3 hr3 dv3 w3 => ?_
  obtain ⟨b, rfl, q1, q2⟩ := w3
  refine ⟨b, dv3, ?_⟩
  cases b with
  | true =>
    refine iteT (lE.go hr3 (sr2.ext e3) (q1 rfl) (kx2.ext e3) fun ρ4 d4 h4 v4 H4 e4 hr4 sr4 kx4 dv4 w4 => ?_)
    exact L' ρ4 h4 H4 d2 d4 v2 v4 Qd Q hr4 (dv2.ext (e3.trans e4)) dv4 w4 fun ρ' d h' v H' e => k ρ' d h' v H' ((((e1.trans e2).trans e3).trans e4).trans e)
  | false => exact iteF (k ρ3 (.bl false) h3 _ H3 ((e1.trans e2).trans e3) hr3 rfl (q2 rfl))
theorem st_chn {o o' : CmpOp} {op op' : D2} {r r' : R2} (ho : OpR X (compareOp o) r) (L : L2ok X.K op r) (ho' : OpR X (compareOp o') r') (L' : L2ok X.K op' r') (ha : SE X W a da) (hb : SE X W b db) (hc : SE X W c dc)
    (h1 : lastMarks [o, o'] [b, c] = false := by with_unfolding_all rfl) : ST X W (.Compare a [o, o'] [b, c] pos) (dTst (dChn op op' da db dc)) := by
  refine PT.imp (pt_chain ho ho' ha hb hc h1) fun σ H Q w => ?_
  obtain ⟨ρ, σd, h, Xd, Qd, hr, sr, w, kx, k⟩ := w
  refine lE.go hr sr w kx fun ρ1 d1 h1 v1 H1 e1 hr1 sr1 kx1 dv1 w1 => lE.go hr1 sr1 w1 kx1 fun ρ2 d2 h2 v2 H2 e2 hr2 sr2 kx2 dv2 w2 => ?_
  refine L ρ2 h2 H2 d1 d2 v1 v2 _ _ hr2 (dv1.ext e2) dv2 w2 fun ρ3 d3 h3 v3 H3 e3 hr3 dv3 w3 => ?_
  obtain ⟨b, rfl, q1, q2⟩ := w3
  refine ⟨b, dv3, ?_⟩
  cases b with
  | true =>
    refine iteT (lE.go hr3 (sr2.ext e3) (q1 rfl) (kx2.ext e3) fun ρ4 d4 h4 v4 H4 e4 hr4 sr4 kx4 dv4 w4 => ?_)
    refine L' ρ4 h4 H4 d2 d4 v2 v4 _ _ hr4 (dv2.ext (e3.trans e4)) dv4 w4 fun ρ' d h' v H' e hr' dv q => ?_
    obtain ⟨b', rfl, q⟩ := q
    exact ⟨b', dv, k ρ' b' h' H' ((((e1.trans e2).trans e3).trans e4).trans e) hr' q⟩
  | false =>
    obtain ⟨b', e', q⟩ := q2 rfl
    cases e'
    exact iteF ⟨false, rfl, k ρ3 false h3 H3 ((e1.trans e2).trans e3) hr3 q⟩
end
end L2.MW

/-! MW, part D: statements, targets, loops. -/
namespace L2.MW
open PySem PySem.Spec PyProof.Rows

/-- what is wanted behind a statement; n0: how many changing things there were at the def's entry -/
structure DEnds where
  nx : DSt → DHp → Prop
  rt : DK
  bk : DSt → DHp → Prop := fun _ _ => False
  ct : DSt → DHp → Prop := fun _ _ => False
  ex : Exc → DSt → DHp → Prop := fun _ _ _ => False
  n0 : Nat := 0
abbrev DS := DEnds → DSt → DHp → Prop
abbrev DEnds.xx (E : DEnds) (σ : DSt) : DX := fun x h => E.ex x σ h
structure EW (K : PySem.W.Frag) (W : WX) (ρ0 : List Addr) (H0 : Hp) (E : DEnds) (Dn : Ends) : Prop where
  n0 : E.n0 = ρ0.length
  nx : ∀ ρ σd h σ H, Ext ρ0 H0 ρ H → HR K ρ h H → SR K ρ H σd σ → E.nx σd h → Dn.nx σ H
  bk : ∀ ρ σd h σ H, Ext ρ0 H0 ρ H → HR K ρ h H → SR K ρ H σd σ → E.bk σd h → Dn.bk σ H
  ct : ∀ ρ σd h σ H, Ext ρ0 H0 ρ H → HR K ρ h H → SR K ρ H σd σ → E.ct σd h → Dn.ct σ H
  rt : ∀ ρ d h v H, Ext ρ0 H0 ρ H → HR K ρ h H → DV K ρ H d v → E.rt d h → Dn.rt v H
  ex : ∀ ρ x σd h cls d σ H, Ext ρ0 H0 ρ H → HR K ρ h H → SR K ρ H σd σ → ExcAt K ρ H x cls d → E.ex x σd h → W cls d σ H
def lS (K : PySem.W.Frag) (W : WX) (t : DS) : TS := fun Dn σ H => ∃ ρ0 H0 ρ σd h E, Ext ρ0 H0 ρ H ∧ HR K ρ h H ∧ SR K ρ H σd σ ∧ t E σd h ∧ EW K W ρ0 H0 E Dn
abbrev SS (X : Cx) (W : WX) (st : List Stmt) (t : DS) : Prop := PSs X st (lS X.K W t)
abbrev S1 (X : Cx) (W : WX) (st : Stmt) (t : DS) : Prop := PS X st (lS X.K W t)
theorem EW.xw {K : PySem.W.Frag} {W : WX} {ρ0 ρ : List Addr} {H0 H : Hp} {E : DEnds} {Dn : Ends} {σd : DSt} {σ : St} (k : EW K W ρ0 H0 E Dn) (e : Ext ρ0 H0 ρ H) : XW K W ρ H σd σ (E.xx σd) :=
  fun ρ' x h' cls d H' e' hr' sr' ea w => k.ex ρ' x σd h' cls d σ H' (e.trans e') hr' sr' ea w

section
variable {X : Cx} {W : WX} {pos : Pos}
def sNil : DS := fun E σ h => E.nx σ h
def sSeq (t u : DS) : DS := fun E σ h => t { E with nx := u E } σ h
theorem ss_nil : SS X W [] sNil := PSs.imp pss_nil fun Dn σ H w => by
  obtain ⟨ρ0, H0, ρ, σd, h, E, e, hr, sr, w, k⟩ := w
  exact k.nx ρ σd h σ H e hr sr w
theorem ss_cons {st : Stmt} {rest : List Stmt} {t u : DS} (h1 : S1 X W st t) (h2 : SS X W rest u) : SS X W (st :: rest) (sSeq t u) := PSs.imp (pss_cons h1 h2) fun Dn σ H w => by
  obtain ⟨ρ0, H0, ρ, σd, h, E, e, hr, sr, w, k⟩ := w
  exact ⟨ρ0, H0, ρ, σd, h, _, e, hr, sr, w, ⟨k.n0, fun ρ' σd' h' σ' H' e' hr' sr' q => ⟨ρ0, H0, ρ', σd', h', E, e', hr', sr', q, k⟩, k.bk, k.ct, k.rt, k.ex⟩⟩
theorem ss_one {st : Stmt} {t : DS} (h1 : S1 X W st t) : SS X W [st] t := pss_one h1
theorem s1_pass : S1 X W (.Pass pos) sNil := PS.imp ps_pass fun Dn σ H w => by
  obtain ⟨ρ0, H0, ρ, σd, h, E, e, hr, sr, w, k⟩ := w
  exact k.nx ρ σd h σ H e hr sr w
def sBrk : DS := fun E σ h => E.bk σ h
def sCont : DS := fun E σ h => E.ct σ h
theorem s1_break : S1 X W (.Break pos) sBrk := PS.imp ps_break fun Dn σ H w => by
  obtain ⟨ρ0, H0, ρ, σd, h, E, e, hr, sr, w, k⟩ := w
  exact k.bk ρ σd h σ H e hr sr w
theorem s1_continue : S1 X W (.Continue pos) sCont := PS.imp ps_continue fun Dn σ H w => by
  obtain ⟨ρ0, H0, ρ, σd, h, E, e, hr, sr, w, k⟩ := w
  exact k.ct ρ σd h σ H e hr sr w
variable {e a b : Expr} {de da db : DE}
def sExpr (de : DE) : DS := fun E σ h => de σ h (E.xx σ) fun _ h1 => E.nx σ h1
theorem s1_expr (he : SE X W e de) (hs : swapsWith e none pos.line X.env = pure false := by rfl) : S1 X W (.Expr e pos) (sExpr de) := PS.imp (ps_expr he hs) fun Dn σ H w => by
  obtain ⟨ρ0, H0, ρ, σd, h, E, e0, hr, sr, w, k⟩ := w
  exact lE.go hr sr w (k.xw e0) fun ρ1 d1 h1 v1 H1 e1 hr1 sr1 kx1 dv1 q => k.nx ρ1 σd h1 σ H1 (e0.trans e1) hr1 sr1 q
def sRet (de : DE) : DS := fun E σ h => de σ h (E.xx σ) E.rt
theorem s1_ret (he : SE X W e de) : S1 X W (.Return (some e) pos) (sRet de) := PS.imp (ps_ret he) fun Dn σ H w => by
  obtain ⟨ρ0, H0, ρ, σd, h, E, e0, hr, sr, w, k⟩ := w
  exact lE.go hr sr w (k.xw e0) fun ρ1 d1 h1 v1 H1 e1 hr1 sr1 kx1 dv1 q => k.rt ρ1 d1 h1 v1 H1 (e0.trans e1) hr1 dv1 q
def sRetN : DS := fun E _ h => E.rt .non h
theorem s1_retN : S1 X W (.Return none pos) sRetN := PS.imp ps_retN fun Dn σ H w => by
  obtain ⟨ρ0, H0, ρ, σd, h, E, e0, hr, sr, w, k⟩ := w
  exact k.rt ρ .non h .non H e0 hr rfl w
def sIf (c : DT) (t u : DS) : DS := fun E σ h => c σ h (E.xx σ) fun b h1 => (b = true → t E σ h1) ∧ (b = false → u E σ h1)
theorem s1_if {c : Expr} {tc : DT} {sa sb : List Stmt} {t u : DS} (hc : ST X W c tc) (ha : SS X W sa t) (hb : SS X W sb u) : S1 X W (.If c sa sb pos) (sIf tc t u) := PS.imp (ps_if hc ha hb) fun Dn σ H w => by
  obtain ⟨ρ0, H0, ρ, σd, h, E, e0, hr, sr, w, k⟩ := w
  refine lT.go hr sr w (k.xw e0) fun ρ1 b1 h1 H1 e1 hr1 sr1 kx1 q => ?_
  cases b1 with
  | true => exact iteT ⟨ρ0, H0, ρ1, σd, h1, E, e0.trans e1, hr1, sr1, q.1 rfl, k⟩
  | false => exact iteF ⟨ρ0, H0, ρ1, σd, h1, E, e0.trans e1, hr1, sr1, q.2 rfl, k⟩
/-- never reached -/
def sNever : DS := fun _ _ _ => False
theorem s1_never {st : Stmt} : S1 X W st sNever := PS.imp ps_never fun Dn σ H w => by
  obtain ⟨ρ0, H0, ρ, σd, h, E, e, hr, sr, w, k⟩ := w
  exact w
theorem ss_never {st : List Stmt} : SS X W st sNever := PSs.imp pss_never fun Dn σ H w => by
  obtain ⟨ρ0, H0, ρ, σd, h, E, e, hr, sr, w, k⟩ := w
  exact w

/-! ### targets -/
abbrev DG := D → DSt → DHp → DX → (DSt → DHp → Prop) → Prop

/-- only these slots changed -/
def Only (T : List Nat) (σ σ' : St) : Prop := σ'.length = σ.length ∧ ∀ i, i ∉ T → σ'[i]? = σ[i]?
theorem Only.refl {T : List Nat} {σ : St} : Only T σ σ := ⟨rfl, fun _ _ => rfl⟩
theorem Only.set {T : List Nat} {σ : St} {i : Nat} {o : Option V} (h : i ∈ T) : Only T σ (σ.set i o) := ⟨List.length_set, fun j hj => List.getElem?_set_ne (fun (z : i = j) => hj (by rw [← z]; exact h))⟩
theorem Only.trans {T : List Nat} {a b c : St} (h : Only T a b) (k : Only T b c) : Only T a c := ⟨k.1.trans h.1, fun i hi => (k.2 i hi).trans (h.2 i hi)⟩
theorem Only.mono {T U : List Nat} {a b : St} (h : Only T a b) (s : ∀ i ∈ T, i ∈ U) : Only U a b := ⟨h.1, fun i hi => h.2 i fun z => hi (s i z)⟩
def lG (K : PySem.W.Frag) (W : WX) (T : List Nat) (t : DG) : TG := fun v σ H Q => ∃ ρ σd h Xd Qd d, HR K ρ h H ∧ SR K ρ H σd σ ∧ DV K ρ H d v ∧ t d σd h Xd Qd ∧ XW K W ρ H σd σ Xd ∧
  ∀ ρ' σd' h' σ' H', Ext ρ H ρ' H' → HR K ρ' h' H' → SR K ρ' H' σd' σ' → Only T σ σ' → Qd σd' h' → Q σ' H'
abbrev SG (X : Cx) (W : WX) (T : List Nat) (tg : Expr) (t : DG) : Prop := PG X tg (lG X.K W T t)
theorem PG.imp {tg : Expr} {t t' : TG} (h : PG X tg t) (i : ∀ v σ H Q, t' v σ H Q → t v σ H Q) : PG X tg t' := ⟨fun pins s σ H v u Q I r w => h.run pins s σ H v u Q I r (i v σ H Q w)⟩
def tgN (i : Nat) : DG := fun d σ h _ Q => Q (σ.set i (some d)) h
theorem sg_name {i : Nat} {x : Str} (hN : X.N.Nodup) (hi : X.N[i]? = some x := by rfl) (hx : Loc X.env.scope x := by first | exact Or.inl rfl | exact Or.inr rfl)
    (hf : X.fn x = true ∨ X.env.scope.names.lookup x = some .local := by first | exact .inl rfl | exact .inr rfl | assumption) : SG X W [i] (.Name x pos) (tgN i) := PG.imp (pg_name hN hi hx hf) fun v σ H Q w => by
  obtain ⟨ρ, σd, h, Xd, Qd, d, hr, sr, dv, w, kx, k⟩ := w
  exact k ρ _ h _ H .refl hr (sr.set dv) (.set List.mem_cons_self) w
/-- several targets -/
abbrev DGs := List D → DSt → DHp → DX → (DSt → DHp → Prop) → Prop
def lGs (K : PySem.W.Frag) (W : WX) (T : List Nat) (t : DGs) : TGs := fun vs σ H Q => ∃ ρ σd h Xd Qd ds, HR K ρ h H ∧ SR K ρ H σd σ ∧ DVs K ρ H ds vs ∧ t ds σd h Xd Qd ∧
  ∀ ρ' σd' h' σ' H', Ext ρ H ρ' H' → HR K ρ' h' H' → SR K ρ' H' σd' σ' → Only T σ σ' → Qd σd' h' → Q σ' H'
abbrev SGs (X : Cx) (W : WX) (T : List Nat) (tg : List Expr) (t : DGs) : Prop := PGs X tg (lGs X.K W T t)
def tgsNil : DGs := fun ds σ h _ Q => ds = [] ∧ Q σ h
def tgsCons (t : DG) (u : DGs) : DGs := fun ds σ h X Q => ∃ d r, ds = d :: r ∧ t d σ h (fun _ _ => False) fun σ' h' => u r σ' h' X Q
theorem PGs.imp {tg : List Expr} {t t' : TGs} (h : PGs X tg t) (i : ∀ v σ H Q, t' v σ H Q → t v σ H Q) : PGs X tg t' := ⟨fun pins s σ H v u Q I r w => h.run pins s σ H v u Q I r (i v σ H Q w)⟩
theorem sgs_nil {T : List Nat} : SGs X W T [] tgsNil := PGs.imp pgs_nil fun vs σ H Q w => by
  obtain ⟨ρ, σd, h, Xd, Qd, ds, hr, sr, dv, ⟨rfl, w⟩, k⟩ := w
  exact ⟨dv, k ρ _ h _ H .refl hr sr .refl w⟩
theorem sgs_cons {T U : List Nat} {tg : Expr} {tgs : List Expr} {t : DG} {u : DGs} (h1 : SG X W T tg t) (h2 : SGs X W U tgs u)
    (hq : (assignEach (tg :: tgs) X.env).map (·.2) = assign tg X.env :: (assignEach tgs X.env).map (·.2) := by rfl) : SGs X W (T ++ U) (tg :: tgs) (tgsCons t u) := PGs.imp (pgs_cons h1 h2 hq) fun vs σ H Q w => by
  obtain ⟨ρ, σd, h, Xd, Qd, ds, hr, sr, dv, ⟨d, r, rfl, w⟩, k⟩ := w
  obtain ⟨v, vr, rfl, dv1, dv2⟩ := dv
  refine ⟨v, vr, rfl, ρ, σd, h, _, _, d, hr, sr, dv1, w, fun _ _ _ _ _ _ _ _ _ _ z => z.elim, fun ρ1 σd1 h1 σ1 H1 e1 hr1 sr1 on1 q => ?_⟩
  exact ⟨ρ1, σd1, h1, Xd, Qd, r, hr1, sr1, DVs.ext e1 _ _ dv2, q, fun ρ' σd' h' σ' H' e hr' sr' on' => k ρ' σd' h' σ' H' (e1.trans e) hr' sr' ((on1.mono fun _ z => List.mem_append_left _ z).trans (on'.mono fun _ z => List.mem_append_right _ z))⟩

/-- (a, b, ..) = a tuple -/
def tgTup (n : Nat) (u : DGs) : DG := fun d σ h X Q => ∃ l, d = .tup l ∧ l.length = n ∧ u l σ h X Q
theorem sg_tup {T : List Nat} {es : List Expr} {k n : Nat} {u : DGs} (hc : X.calm = true) (hu : SGs X W T es u) (hn : (assignEach es X.env).length = n := by rfl) (hst : (assignEach es X.env).findIdx? (·.1) = none := by rfl) :
    SG X W T (.Tuple es k pos) (tgTup n u) := PG.imp (pg_tup hc hu hn hst) fun v σ H Q w => by
  obtain ⟨ρ, σd, h, Xd, Qd, d, hr, sr, dv, ⟨l, rfl, hl, w⟩, kx, k⟩ := w
  obtain ⟨a, vs, rfl, h1, h2⟩ := dv
  exact ⟨a, vs, rfl, h1.sq, by rw [h2.length]; exact hl, ρ, σd, h, Xd, Qd, l, hr, sr, h2, w, k⟩
/-- o[i] = d, o a list that changes -/
def tgSub (dd di : DE) : DG := fun d σ h X Q => dd σ h X fun x h1 => di σ h1 X fun y h2 => ∃ j l k n, x = .ref j ∧ y = .int k ∧ h2[j]? = some (.lst l) ∧ ixN l.length k = some n ∧ Q σ (h2.set j (.lst (l.set n d)))
theorem ref_lst {K : PySem.W.Frag} {ρ : List Addr} {h : DHp} {H : Hp} {j : Nat} {l : List D} {v : V} (hr : HR K ρ h H) (dv : DV K ρ H (.ref j) v) (e : h[j]? = some (.lst l)) : ∃ a vs, v = .ref a ∧ ρ[j]? = some a ∧ H a = some (.lst vs) ∧ DVs K ρ H l vs := by
  obtain ⟨a, rfl, hj⟩ := dv
  obtain ⟨vs, h1, h2⟩ := hr.at_ j _ a e hj
  exact ⟨a, vs, rfl, hj, h1, h2⟩
/-- a changing list is written -/
theorem write_lst {K : PySem.W.Frag} {ρ : List Addr} {h : DHp} {H : Hp} {j : Nat} {l : List D} {a : Addr} {vs : List V} (hr : HR K ρ h H) (hj : ρ[j]? = some a) (d : DVs K ρ H l vs) :
    HR K ρ (h.set j (.lst l)) (upd H a (.lst vs)) ∧ Ext ρ H ρ (upd H a (.lst vs)) := by
  have e : Ext ρ H ρ (upd H a (.lst vs)) := .write (List.mem_of_getElem? hj)
  exact ⟨hr.write hj ⟨vs, upd_same, DVs.ext e _ _ d⟩, e⟩
theorem sg_sub {o i : Expr} {dd di : DE} (ho : SE X W o dd) (hi : SE X W i di) (ha : ∀ v, assign (.Subscript o i pos) X.env v = (do
      let ov ← holding [v] (eval o X.env)
      let iv ← holding [v, ov] (eval i X.env)
      standAt pos
      holding [v, ov, iv] (setItem ov iv v)
      release [v, ov, iv] []) := by intros; rfl) : SG X W [] (.Subscript o i pos) (tgSub dd di) := PG.imp (pg_sub ho hi set_list ha) fun v σ H Q w => by
  obtain ⟨ρ, σd, h, Xd, Qd, d, hr, sr, dv, w, kx, k⟩ := w
  refine lE.go hr sr w kx fun ρ1 d1 h1 v1 H1 e1 hr1 sr1 kx1 dv1 w1 => lE.go hr1 sr1 w1 kx1 fun ρ2 d2 h2 v2 H2 e2 hr2 sr2 kx2 dv2 w2 => ?_
  obtain ⟨j, l, kk, n, rfl, rfl, hj, hn, q⟩ := w2
  obtain ⟨a, vs, rfl, hja, hH, dvs⟩ := ref_lst hr2 (dv1.ext e2) hj
  refine ⟨a, vs, kk, n, rfl, dv2, hH, by rw [dvs.length]; exact hn, ?_⟩
  obtain ⟨a1, a2⟩ := write_lst hr2 hja (dvs.set (dv.ext (e1.trans e2)) n)
  exact k ρ2 _ _ _ _ ((e1.trans e2).trans a2) a1 (sr2.ext a2) .refl q

/-! ### assignments -/
def sSet (i : Nat) (de : DE) : DS := fun E σ h => de σ h (E.xx σ) fun d h1 => E.nx (σ.set i (some d)) h1
theorem s1_set (i : Nat) {x : Str} {pos' : Pos} (hN : X.N.Nodup) (he : SE X W e de) (hi : X.N[i]? = some x := by rfl) (hx : Loc X.env.scope x := by first | exact Or.inl rfl | exact Or.inr rfl) (hs : swapsWith e (some (.Name x pos')) pos.line X.env = pure false := by rfl)
    (hf : X.fn x = true ∨ X.env.scope.names.lookup x = some .local := by first | exact .inl rfl | exact .inr rfl | assumption) : S1 X W (.Assign [.Name x pos'] e pos) (sSet i de) := PS.imp (ps_set hN hi hx he hs hf) fun Dn σ H w => by
  obtain ⟨ρ0, H0, ρ, σd, h, E, e0, hr, sr, w, k⟩ := w
  exact lE.go hr sr w (k.xw e0) fun ρ1 d1 h1 v1 H1 e1 hr1 sr1 kx1 dv1 q => k.nx ρ1 _ h1 _ H1 (e0.trans e1) hr1 (sr1.set dv1) q
def sAsg (de : DE) (g : DG) : DS := fun E σ h => de σ h (E.xx σ) fun d h1 => g d σ h1 (E.xx σ) E.nx
theorem s1_asg {T : List Nat} {tg : Expr} {g : DG} (he : SE X W e de) (hg : SG X W T tg g) (hs : swapsWithSole [tg] e pos.line X.env = pure false := by rfl) (hw : swappedStores [tg] e X.env = pure none := by rfl)
    (h1 : (assignEach [tg] X.env).map (·.2) = [assign tg X.env] := by rfl) : S1 X W (.Assign [tg] e pos) (sAsg de g) := PS.imp (ps_asg he hg hs hw h1) fun Dn σ H w => by
  obtain ⟨ρ0, H0, ρ, σd, h, E, e0, hr, sr, w, k⟩ := w
  refine lE.go hr sr w (k.xw e0) fun ρ1 d1 h1 v1 H1 e1 hr1 sr1 kx1 dv1 q => ?_
  exact ⟨ρ1, σd, h1, _, _, d1, hr1, sr1, dv1, q, kx1, fun ρ' σd' h' σ' H' e' hr' sr' _ q => k.nx ρ' σd' h' σ' H' ((e0.trans e1).trans e') hr' sr' q⟩
/-- a, b = x, y -/
def sPar (i j : Nat) (ts : DA) : DS := fun E σ h => ts σ h (E.xx σ) fun ds h1 => ∃ c d, ds = [c, d] ∧ E.nx ((σ.set i (some c)).set j (some d)) h1
/-- x op= e -/
def sAug (i : Nat) (de : DE) (op : D2) : DS := fun E σ h => ∃ c, σ[i]? = some (some c) ∧ de σ h (E.xx σ) fun d h1 => op c d h1 fun z h2 => E.nx (σ.set i (some z)) h2
theorem s1_augI (i : Nat) {x : Str} {pos' : Pos} {o : Operator} {tip : TIp} {op : D2} (L : L2ok X.K op tip) (hN : X.N.Nodup) (ho : PIp X o tip) (he : SE X W e de) (hi : X.N[i]? = some x := by rfl) (hx : Loc X.env.scope x := by first | exact Or.inl rfl | exact Or.inr rfl)
    (hf : X.fn x = true ∨ X.env.scope.names.lookup x = some .local := by first | exact .inl rfl | exact .inr rfl | assumption) : S1 X W (.AugAssign (.Name x pos') o e pos) (sAug i de op) := PS.imp (ps_aug hN hi hx he ho hf) fun Dn σ H w => by
  obtain ⟨ρ0, H0, ρ, σd, h, E, e0, hr, sr, w, k⟩ := w
  obtain ⟨c, hc, w⟩ := w
  obtain ⟨v, hv, dv⟩ := sr.at_ i c hc
  refine ⟨v, hv, lE.go hr sr w (k.xw e0) fun ρ1 d1 h1 v1 H1 e1 hr1 sr1 kx1 dv1 q => ?_⟩
  exact L ρ1 h1 H1 c d1 v v1 _ _ hr1 (dv.ext e1) dv1 q fun ρ2 d2 h2 v2 H2 e2 hr2 dv2 q2 => k.nx ρ2 _ h2 _ H2 ((e0.trans e1).trans e2) hr2 ((sr1.ext e2).set dv2) q2
theorem ip_bor : PIp X .BitOr (rI0 fun i j => .int (Builtin.bitOr i j)) := by
  intro pins s σ H x y v u Q I r1 r2 h
  exact iop_or pins s σ H x y v u Q I r1 r2 h
theorem ip_add0 : PIp X .Add (rI0 fun i j => .int (i + j)) := by
  intro pins s σ H x y v u Q I r1 r2 h
  exact iop_add pins s σ H x y v u Q I r1 r2 h
theorem s1_aadd (i : Nat) {x : Str} {pos' : Pos} (hN : X.N.Nodup) (he : SE X W e de) (hi : X.N[i]? = some x := by rfl) (hx : Loc X.env.scope x := by first | exact Or.inl rfl | exact Or.inr rfl)
    (hf : X.fn x = true ∨ X.env.scope.names.lookup x = some .local := by first | exact .inl rfl | exact .inr rfl | assumption) : S1 X W (.AugAssign (.Name x pos') .Add e pos) (sAug i de (dI0 fun i j => .int (i + j))) :=
  s1_augI i (tip := rI0 fun i j => .int (i + j)) (L_I0 fun _ _ _ _ => rfl) hN ip_add0 he hi hx hf
theorem s1_abor (i : Nat) {x : Str} {pos' : Pos} (hN : X.N.Nodup) (he : SE X W e de) (hi : X.N[i]? = some x := by rfl) (hx : Loc X.env.scope x := by first | exact Or.inl rfl | exact Or.inr rfl)
    (hf : X.fn x = true ∨ X.env.scope.names.lookup x = some .local := by first | exact .inl rfl | exact .inr rfl | assumption) : S1 X W (.AugAssign (.Name x pos') .BitOr e pos) (sAug i de (dI0 fun i j => .int (Builtin.bitOr i j))) :=
  s1_augI i (tip := rI0 fun i j => .int (Builtin.bitOr i j)) (L_I0 fun _ _ _ _ => rfl) hN ip_bor he hi hx hf
/-- self.f = e, in a making -/
def putD (f : Str) (d : D) : List (Str × D) → List (Str × D)
  | [] => [(f, d)]
  | p :: r => if p.1 = f then (p.1, d) :: r else p :: putD f d r
def sFldD (cs : List String) (f : Str) (da dv : DE) : DS := fun E σ h => dv σ h (E.xx σ) fun d h1 => da σ h1 (E.xx σ) fun x h2 => ∃ i c fs, c ∈ cs ∧ x = .ref i ∧ h2[i]? = some (.ins c fs) ∧ fs.length < 1000 ∧ fs.lookup f = none ∧ E.nx σ (h2.set i (.ins c (fs ++ [(f, d)])))
theorem putF_new (f : Str) (v : V) : ∀ fs : List (Str × V), fs.lookup f = none → putF f v fs = fs ++ [(f, v)]
  | [], _ => rfl
  | (g, w) :: r, h => by
    rw [List.lookup_cons] at h
    have hg : ¬ (g = f) := fun z => by subst z; simp at h
    have h2 : r.lookup f = none := by
      cases q : f == g with
      | true => rw [q] at h; cases h
      | false => rw [q] at h; exact h
    have ih := putF_new f v r h2
    simp only [putF, List.cons_append]
    first
      | rw [if_neg hg, ih]
      | (rw [if_neg (fun z => hg z.symm), ih])
      | (simp [hg, ih])
theorem DFs.append1 {K : PySem.W.Frag} {ρ : List Addr} {H : Hp} {f : Str} {d : D} {v : V} (q : DV K ρ H d v) : ∀ {fs : List (Str × D)} {ws : List (Str × V)}, DFs K ρ H fs ws → DFs K ρ H (fs ++ [(f, d)]) (ws ++ [(f, v)])
  | [], _, h => by rw [show _ = [] from h]; exact ⟨v, [], rfl, q, rfl⟩
  | p :: fs, _, ⟨u, r, e1, h1, h2⟩ => by subst e1; exact ⟨u, r ++ _, rfl, h1, DFs.append1 q h2⟩
theorem s1_fld {cs : List String} {f : Str} {pos' : Pos} (hf : FldOk X.K cs f) (ha : SE X W a da) (hv : SE X W b db) (hs : swapsWith b (some (.Attribute a f pos')) pos.line X.env = pure false := by rfl) : S1 X W (.Assign [.Attribute a f pos'] b pos) (sFldD cs f da db) := PS.imp (ps_fld ha hv hs) fun Dn σ H w => by
  obtain ⟨ρ0, H0, ρ, σd, h, E, e0, hr, sr, w, k⟩ := w
  refine lE.go hr sr w (k.xw e0) fun ρ1 d1 h1 v1 H1 e1 hr1 sr1 kx1 dv1 w1 => lE.go hr1 sr1 w1 kx1 fun ρ2 d2 h2 v2 H2 e2 hr2 sr2 kx2 dv2 w2 => ?_
  obtain ⟨i, c, fs, hc, rfl, hi, hl, hn, q⟩ := w2
  obtain ⟨hcl, hna⟩ := hf c hc
  obtain ⟨p, rfl, hp⟩ := dv2
  obtain ⟨dx, ws, hH, dfs⟩ := hr2.at_ i _ p hi hp
  have hl' := dfs.length
  refine ⟨p, _, dx, ws, rfl, hH, hcl, hna, by omega, ?_⟩
  rw [putF_new f v1 ws (dfs.lookup_none hn)]
  have ee : Ext ρ2 H2 ρ2 (upd H2 p (.ins (He.ga X.K (Str.ofString c)) dx (ws ++ [(f, v1)]))) := .write (List.mem_of_getElem? hp)
  exact k.nx ρ2 _ _ _ _ (((e0.trans e1).trans e2).trans ee) (hr2.write (b := .ins c (fs ++ [(f, d1)])) hp ⟨dx, _, upd_same, DFs.ext ee _ _ (dfs.append1 (dv1.ext e2))⟩) (sr2.ext ee) q

/-! ### loops -/
/-- what is walked: the items, and what must hold of the changing heap at every turn -/
abbrev DI := DSt → DHp → DX → (List D → (DHp → Prop) → DHp → Prop) → Prop
def ItAt (K : PySem.W.Frag) (ρ0 : List Addr) (H0 : Hp) (items : List D) (G : DHp → Prop) (J : It) : Prop := ∀ ρ h H i, Ext ρ0 H0 ρ H → HR K ρ h H → G h →
  (∀ d, items[i]? = some d → J.go i H ∧ ∀ v H', J.yld i H v H' → Ext ρ H ρ H' ∧ HR K ρ h H' ∧ DV K ρ H' d v) ∧ (items.length ≤ i → J.stop i H)
def lI (K : PySem.W.Frag) (W : WX) (t : DI) : TI := fun σ H R => ∃ ρ σd h Xd Qd, HR K ρ h H ∧ SR K ρ H σd σ ∧ t σd h Xd Qd ∧ XW K W ρ H σd σ Xd ∧
  ∀ ρ' items G h' J H', Ext ρ H ρ' H' → HR K ρ' h' H' → ItAt K ρ' H' items G J → Qd items G h' → R J H'
abbrev SI (X : Cx) (W : WX) (tg e : Expr) (t : DI) : Prop := PI X tg e (lI X.K W t)
theorem PI.imp {tg e : Expr} {t t' : TI} (h : PI X tg e t) (i : ∀ σ H Q, t' σ H Q → t σ H Q) : PI X tg e t' := ⟨fun pins s σ H Q I w => h.run pins s σ H Q I (i σ H Q w)⟩
theorem lI.go {K : PySem.W.Frag} {W : WX} {ρ : List Addr} {σd : DSt} {h : DHp} {H : Hp} {σ : St} {t : DI} {Xd : DX} {Qd : List D → (DHp → Prop) → DHp → Prop} {R : It → Hp → Prop} (hr : HR K ρ h H) (sr : SR K ρ H σd σ) (w : t σd h Xd Qd) (kx : XW K W ρ H σd σ Xd)
    (k : ∀ ρ' items G h' J H', Ext ρ H ρ' H' → HR K ρ' h' H' → SR K ρ' H' σd σ → XW K W ρ' H' σd σ Xd → ItAt K ρ' H' items G J → Qd items G h' → R J H') : lI K W t σ H R :=
  ⟨ρ, σd, h, Xd, Qd, hr, sr, w, kx, fun ρ' items G h' J H' e hr' it q => k ρ' items G h' J H' e hr' (sr.ext e) (kx.ext e) it q⟩
def forW (tb : DS) (g : DG) (G : DHp → Prop) (E : DEnds) : List D → DSt → DHp → Prop
  | [], σ, h => G h ∧ E.nx σ h
  | x :: xs, σ, h => G h ∧ g x σ h (E.xx σ) fun σ' h' => tb { E with nx := forW tb g G E xs, ct := forW tb g G E xs, bk := E.nx } σ' h'
def sFor (ti : DI) (g : DG) (tb : DS) : DS := fun E σ h => ti σ h (E.xx σ) fun items G h1 => forW tb g G { E with n0 := h1.length } items σ h1
theorem forW_G {tb : DS} {g : DG} {G : DHp → Prop} {E : DEnds} {xs : List D} {σ : DSt} {h : DHp} (w : forW tb g G E xs σ h) : G h := by
  cases xs <;> exact w.1
theorem s1_for {T : List Nat} {tg iter : Expr} {body : List Stmt} {ti : DI} {g : DG} {tb : DS} (hp : PassesOwn (model X.prog X.w) X.A X.env X.xe) (hc : X.calm = true) (hi : SI X W tg iter ti) (hg : SG X W T tg g) (hb : SS X W body tb)
    (hs : ∀ x, foldedSetIterable iter X.env x = pure x := by intro _; rfl) : S1 X W (.For tg iter body [] pos) (sFor ti g tb) := by
  refine PS.imp (ps_for hp hc hi hg hb hs) fun Dn σ H w => ?_
  obtain ⟨ρ0, H0, ρ, σd, h, E, e0, hr, sr, w, k⟩ := w
  refine lI.go hr sr w (k.xw e0) fun ρ1 items G h1 J H1 e1 hr1 sr1 kx1 it w1 => ?_
  have e01 := e0.trans e1
  refine ⟨fun i m σ H => m = items.length - i ∧ i ≤ items.length ∧ ∃ ρ2 σd2 h2, Ext ρ1 H1 ρ2 H ∧ HR X.K ρ2 h2 H ∧ SR X.K ρ2 H σd2 σ ∧ forW tb g G { E with n0 := h1.length } (items.drop i) σd2 h2, ⟨items.length, rfl, Nat.zero_le _, ρ1, σd, h1, .refl, hr1, sr1, w1⟩, ?_⟩
  rintro i m σ2 H2 ⟨rfl, hi, ρ2, σd2, h2, e12, hr2, sr2, w2⟩
  obtain ⟨itg, its⟩ := it ρ2 h2 H2 i e12 hr2 (forW_G w2)
  by_cases hlt : i < items.length
  · refine .inr ?_
    obtain ⟨go, yl⟩ := itg _ (List.getElem?_eq_getElem hlt)
    rw [List.drop_eq_getElem_cons hlt] at w2
    have w2' := w2.2
    refine ⟨go, fun σ' H' => ∃ ρ3 σd3 h3, Ext ρ1 H1 ρ3 H' ∧ HR X.K ρ3 h3 H' ∧ SR X.K ρ3 H' σd3 σ' ∧ forW tb g G { E with n0 := h1.length } (items.drop (i + 1)) σd3 h3, fun σ' H' n => ⟨items.length - (i + 1), by omega, rfl, hlt, n⟩, fun x H' y => ?_⟩
    obtain ⟨ey, hry, dvy⟩ := yl x H' y
    refine ⟨ρ2, σd2, h2, _, _, _, hry, sr2.ext ey, dvy, w2', k.xw ((e01.trans e12).trans ey), fun ρ3 σd3 h3 σ3 H3 e3 hr3 sr3 _ w3 => ?_⟩
    have e13 : Ext ρ1 H1 ρ3 H3 := (e12.trans ey).trans e3
    refine ⟨ρ1, H1, ρ3, σd3, h3, _, e13, hr3, sr3, w3, ⟨hr1.len.symm, ?_, ?_, ?_, ?_, ?_⟩⟩
    · exact fun ρ4 σd4 h4 σ4 H4 e4 hr4 sr4 q4 => ⟨ρ4, σd4, h4, e4, hr4, sr4, q4⟩
    · exact fun ρ4 σd4 h4 σ4 H4 e4 hr4 sr4 q4 => k.nx ρ4 σd4 h4 σ4 H4 (e01.trans e4) hr4 sr4 q4
    · exact fun ρ4 σd4 h4 σ4 H4 e4 hr4 sr4 q4 => ⟨ρ4, σd4, h4, e4, hr4, sr4, q4⟩
    · exact fun ρ4 d4 h4 v4 H4 e4 => k.rt ρ4 d4 h4 v4 H4 (e01.trans e4)
    · exact fun ρ4 x4 σd4 h4 c4 d4 σ4 H4 e4 => k.ex ρ4 x4 σd4 h4 c4 d4 σ4 H4 (e01.trans e4)
  · exact .inl ⟨its (Nat.le_of_not_lt hlt), by
      rw [List.drop_eq_nil_of_le (Nat.le_of_not_lt hlt)] at w2
      exact k.nx ρ2 σd2 h2 σ2 H2 (e01.trans e12) hr2 sr2 w2.2⟩

/-! ### what is walked -/
theorem it_list {K : PySem.W.Frag} {ρ0 : List Addr} {H0 : Hp} {a : Addr} {l : List D} {G : DHp → Prop} (hq : ∀ ρ h H, Ext ρ0 H0 ρ H → HR K ρ h H → G h → ∃ vs, SqL K H a vs ∧ DVs K ρ H l vs) : ItAt K ρ0 H0 l G (Itl K a) := by
  intro ρ h H i e hr g
  obtain ⟨vs, q, dvs⟩ := hq ρ h H e hr g
  refine ⟨fun d hd => ?_, fun hl => ⟨vs, q, by rw [dvs.length]; exact hl⟩⟩
  obtain ⟨v, hv, dv⟩ := dvs.get hd
  refine ⟨⟨vs, v, q, hv⟩, fun u H' y => ?_⟩
  obtain ⟨rfl, y⟩ := y
  have z := y vs q
  rw [hv] at z; cases z
  exact ⟨.refl, hr, dv⟩
theorem it_tup {K : PySem.W.Frag} {ρ0 : List Addr} {H0 : Hp} {a : Addr} {l : List D} {G : DHp → Prop} (hq : ∀ ρ h H, Ext ρ0 H0 ρ H → HR K ρ h H → G h → ∃ vs, SqT K H a vs ∧ DVs K ρ H l vs) : ItAt K ρ0 H0 l G (Itt K a) := by
  intro ρ h H i e hr g
  obtain ⟨vs, q, dvs⟩ := hq ρ h H e hr g
  refine ⟨fun d hd => ?_, fun hl => ⟨vs, q, by rw [dvs.length]; exact hl⟩⟩
  obtain ⟨v, hv, dv⟩ := dvs.get hd
  refine ⟨⟨vs, v, q, hv⟩, fun u H' y => ?_⟩
  obtain ⟨rfl, y⟩ := y
  have z := y vs q
  rw [hv] at z; cases z
  exact ⟨.refl, hr, dv⟩
/-- a list's guard: a changing one must stand -/
def gdL (d : D) (l : List D) : DHp → Prop := fun h => asL h d = some l
/-- a list -/
def iL (de : DE) : DI := fun σ h X Q => de σ h X fun d h1 => ∃ l, asL h1 d = some l ∧ Q l (gdL d l) h1
def iT (de : DE) : DI := fun σ h X Q => de σ h X fun d h1 => ∃ l, d = .tup l ∧ Q l (fun _ => True) h1
/-- range(lo, lo + n) -/
def rgD (lo : Int) (n : Nat) : List D := (List.range n).map fun (i : Nat) => D.int (lo + (i : Int))
theorem si_list (he : SE X W e de) {tg : Expr} : SI X W tg e (iL de) := PI.imp (pi_list he) fun σ H R w => by
  obtain ⟨ρ, σd, h, Xd, Qd, hr, sr, w, kx, k⟩ := w
  refine ⟨ρ, σd, h, Xd, _, hr, sr, w, kx, fun ρ1 d h1 v H1 e1 hr1 dv q => ?_⟩
  obtain ⟨l, el, q⟩ := q
  obtain ⟨a, vs, rfl, hq, dvs⟩ := asL_at hr1 dv el
  refine ⟨a, rfl, ⟨vs, hq⟩, k ρ1 l _ h1 _ H1 e1 hr1 (it_list fun ρ2 h2 H2 e2 hr2 g2 => ?_) q⟩
  obtain ⟨a', vs', e', hq', dvs'⟩ := asL_at hr2 (dv.ext e2) g2
  cases e'
  exact ⟨vs', hq', dvs'⟩
theorem si_tup (he : SE X W e de) {tg : Expr} : SI X W tg e (iT de) := PI.imp (pi_tup he) fun σ H R w => by
  obtain ⟨ρ, σd, h, Xd, Qd, hr, sr, w, kx, k⟩ := w
  refine ⟨ρ, σd, h, Xd, _, hr, sr, w, kx, fun ρ1 d h1 v H1 e1 hr1 dv q => ?_⟩
  obtain ⟨l, rfl, q⟩ := q
  obtain ⟨a, vs, rfl, hq, dvs⟩ := dv
  exact ⟨a, rfl, ⟨vs, hq.sq⟩, k ρ1 l _ h1 _ H1 e1 hr1 (it_tup fun ρ2 h2 H2 e2 hr2 g2 => ⟨vs, (hq.ext e2).sq, DVs.ext e2 _ _ dvs⟩) q⟩
theorem it_range {K : PySem.W.Frag} {ρ0 : List Addr} {H0 : Hp} {lo : Int} {n : Nat} {G : DHp → Prop} : ItAt K ρ0 H0 (rgD lo n) G (Itr lo n) := by
  intro ρ h H i e hr g
  have hl : (rgD lo n).length = n := by unfold rgD; rw [List.length_map, List.length_range]
  refine ⟨fun d hd => ?_, fun z => by rw [hl] at z; exact z⟩
  have hi : i < n := by have := (List.getElem?_eq_some_iff.mp hd).1; rwa [hl] at this
  refine ⟨hi, fun u H' y => ?_⟩
  obtain ⟨rfl, rfl⟩ := y
  unfold rgD at hd
  rw [List.getElem?_map, List.getElem?_range hi] at hd
  cases hd
  exact ⟨.refl, hr, rfl⟩
def RgD (i j : Int) : Prop := -(2 ^ 62) ≤ i ∧ i < 2 ^ 62 ∧ -(2 ^ 62) ≤ j ∧ j < 2 ^ 62
def iR1 (ts : DA) : DI := fun σ h X Q => ts σ h X fun ds h1 => ∃ j, ds = [.int j] ∧ RgD 0 j ∧ Q (rgD 0 j.toNat) (fun _ => True) h1
def iR2 (ts : DA) : DI := fun σ h X Q => ts σ h X fun ds h1 => ∃ i j, ds = [.int i, .int j] ∧ RgD i j ∧ Q (rgD i (j - i).toNat) (fun _ => True) h1
end
end L2.MW

/-! MW, part E: while, comprehensions. -/
namespace L2.MW
open PySem PySem.Spec PyProof.Rows

/-! ### refs below a bound -/
mutual
def Bd (n : Nat) : D → Prop
  | .ref i => i < n
  | .tup l => Bds n l
  | .lst l => Bds n l
  | .fz l => Bds n l
  | .obj _ fs => BdF n fs
  | .exn _ _ _ fs => BdF n fs
  | _ => True
def Bds (n : Nat) : List D → Prop
  | [] => True
  | d :: ds => Bd n d ∧ Bds n ds
def BdF (n : Nat) : List (Str × D) → Prop
  | [] => True
  | p :: ps => Bd n p.2 ∧ BdF n ps
end
theorem Bds_iff {n : Nat} : ∀ {l : List D}, Bds n l ↔ ∀ x ∈ l, Bd n x
  | [] => Iff.intro (fun _ _ h => nomatch h) (fun _ => trivial)
  | d :: ds => by
    constructor
    · intro h x hx
      rcases List.mem_cons.mp hx with e | hx
      · rw [e]; exact h.1
      · exact Bds_iff.mp h.2 x hx
    · intro h
      exact ⟨h d List.mem_cons_self, Bds_iff.mpr fun x hx => h x (List.mem_cons_of_mem _ hx)⟩
theorem Bds_append {n : Nat} {a b : List D} : Bds n (a ++ b) ↔ Bds n a ∧ Bds n b := by
  rw [Bds_iff, Bds_iff, Bds_iff]
  exact ⟨fun h => ⟨fun x hx => h x (List.mem_append_left _ hx), fun x hx => h x (List.mem_append_right _ hx)⟩, fun h x hx => (List.mem_append.mp hx).elim (h.1 x) (h.2 x)⟩
theorem Bds_map {α : Type} {n : Nat} {f : α → D} {l : List α} (h : ∀ x ∈ l, Bd n (f x)) : Bds n (l.map f) := Bds_iff.mpr fun y hy => by
  obtain ⟨x, hx, rfl⟩ := List.mem_map.mp hy
  exact h x hx
mutual
theorem Bd.mono {n m : Nat} (hm : n ≤ m) : ∀ d : D, Bd n d → Bd m d
  | .ref i, h => Nat.lt_of_lt_of_le h hm
  | .tup l, h => Bds.mono hm l h
  | .lst l, h => Bds.mono hm l h
  | .fz l, h => Bds.mono hm l h
  | .obj _ fs, h => BdF.mono hm fs h
  | .non, _ => trivial
  | .bl _, _ => trivial
  | .int _, _ => trivial
  | .str _, _ => trivial
  | .ty _, _ => trivial
  | .cls _, _ => trivial
  | .exn _ _ _ fs, h => BdF.mono hm fs h
theorem Bds.mono {n m : Nat} (hm : n ≤ m) : ∀ l : List D, Bds n l → Bds m l
  | [], _ => trivial
  | d :: ds, h => ⟨Bd.mono hm d h.1, Bds.mono hm ds h.2⟩
theorem BdF.mono {n m : Nat} (hm : n ≤ m) : ∀ l : List (Str × D), BdF n l → BdF m l
  | [], _ => trivial
  | d :: ds, h => ⟨Bd.mono hm d.2 h.1, BdF.mono hm ds h.2⟩
end
section
variable {K : PySem.W.Frag} {ρ t : List Addr} {H : Hp}
mutual
theorem DV.bd : ∀ (d : D) (v : V), DV K ρ H d v → Bd ρ.length d
  | .ref i, _, ⟨a, _, h⟩ => (List.getElem?_eq_some_iff.mp h).1
  | .tup l, _, ⟨_, vs, _, _, h⟩ => DVs.bd l vs h
  | .lst l, _, ⟨_, vs, _, _, h⟩ => DVs.bd l vs h
  | .fz l, _, ⟨_, vs, _, _, h⟩ => DVs.bd l vs h
  | .obj _ fs, _, ⟨_, _, ws, _, _, _, h⟩ => DFs.bd fs ws h
  | .non, _, _ => trivial
  | .bl _, _, _ => trivial
  | .int _, _, _ => trivial
  | .str _, _, _ => trivial
  | .ty _, _, _ => trivial
  | .cls _, _, _ => trivial
  | .exn _ _ _ fs, _, ⟨_, ws, _, _, h⟩ => DFs.bd fs ws h
theorem DVs.bd : ∀ (ds : List D) (vs : List V), DVs K ρ H ds vs → Bds ρ.length ds
  | [], _, _ => trivial
  | d :: ds, _, ⟨v, r, _, h1, h2⟩ => ⟨DV.bd d v h1, DVs.bd ds r h2⟩
theorem DFs.bd : ∀ (ds : List (Str × D)) (vs : List (Str × V)), DFs K ρ H ds vs → BdF ρ.length ds
  | [], _, _ => trivial
  | p :: ds, _, ⟨v, r, _, h1, h2⟩ => ⟨DV.bd p.2 v h1, DFs.bd ds r h2⟩
end
theorem out_app {a : Addr} (h : a ∉ ρ ++ t) : a ∉ ρ := fun z => h (List.mem_append_left _ z)
mutual
theorem DV.cut : ∀ (d : D) (v : V), Bd ρ.length d → DV K (ρ ++ t) H d v → DV K ρ H d v
  | .ref i, _, b, ⟨a, e, h⟩ => ⟨a, e, by rwa [List.getElem?_append_left b] at h⟩
  | .tup l, _, b, ⟨a, vs, e, h1, h2⟩ => ⟨a, vs, e, ⟨out_app h1.1, h1.2⟩, DVs.cut l vs b h2⟩
  | .lst l, _, b, ⟨a, vs, e, h1, h2⟩ => ⟨a, vs, e, ⟨out_app h1.1, h1.2⟩, DVs.cut l vs b h2⟩
  | .fz l, _, b, ⟨a, vs, e, h1, h2⟩ => ⟨a, vs, e, h1.imp (fun z => ⟨out_app z.1, z.2⟩) id, DVs.cut l vs b h2⟩
  | .obj _ fs, _, b, ⟨a, dx, ws, e, n, h1, h2⟩ => ⟨a, dx, ws, e, out_app n, h1, DFs.cut fs ws b h2⟩
  | .non, _, _, h => h
  | .bl _, _, _, h => h
  | .int _, _, _, h => h
  | .str _, _, _, h => h
  | .ty _, _, _, h => h
  | .cls _, _, _, h => h
  | .exn _ _ _ fs, _, b, ⟨e, ws, n, h1, h2⟩ => ⟨e, ws, out_app n, h1, DFs.cut fs ws b h2⟩
theorem DVs.cut : ∀ (ds : List D) (vs : List V), Bds ρ.length ds → DVs K (ρ ++ t) H ds vs → DVs K ρ H ds vs
  | [], _, _, h => h
  | d :: ds, _, b, ⟨v, r, e, h1, h2⟩ => ⟨v, r, e, DV.cut d v b.1 h1, DVs.cut ds r b.2 h2⟩
theorem DFs.cut : ∀ (ds : List (Str × D)) (vs : List (Str × V)), BdF ρ.length ds → DFs K (ρ ++ t) H ds vs → DFs K ρ H ds vs
  | [], _, _, h => h
  | p :: ds, _, b, ⟨v, r, e, h1, h2⟩ => ⟨v, r, e, DV.cut p.2 v b.1 h1, DFs.cut ds r b.2 h2⟩
end
end
/-- refs of a thing -/
def BdB (n : Nat) : HB → Prop
  | .lst l => Bds n l
  | .ins _ fs => BdF n fs
/-- the last changing things are let go -/
theorem HR.cut {K : PySem.W.Frag} {ρ t : List Addr} {h g : DHp} {H : Hp} (hr : HR K (ρ ++ t) (h ++ g) H) (hl : ρ.length = h.length) (hb : ∀ b ∈ h, BdB ρ.length b) : HR K ρ h H := by
  refine ⟨hl, (List.nodup_append.mp hr.nd).1, fun i b a e1 e2 => ?_⟩
  have hi : i < h.length := (List.getElem?_eq_some_iff.mp e1).1
  have z := hr.at_ i b a (by rw [List.getElem?_append_left hi]; exact e1) (by rw [List.getElem?_append_left (by rw [hl]; exact hi)]; exact e2)
  have q := hb b (List.mem_of_getElem? e1)
  cases b with
  | lst l => obtain ⟨vs, z1, z2⟩ := z; exact ⟨vs, z1, DVs.cut _ _ q z2⟩
  | ins c fs => obtain ⟨dx, ws, z1, z2⟩ := z; exact ⟨dx, ws, z1, DFs.cut _ _ q z2⟩
theorem HR.bd {K : PySem.W.Frag} {ρ : List Addr} {h : DHp} {H : Hp} (hr : HR K ρ h H) : ∀ b ∈ h, BdB ρ.length b := fun b hb => by
  obtain ⟨i, hi, rfl⟩ := List.getElem_of_mem hb
  obtain ⟨a, ha, z⟩ := hr.get (List.getElem?_eq_getElem hi)
  revert z
  cases h[i] with
  | lst l => rintro ⟨vs, _, z⟩; exact DVs.bd _ _ z
  | ins c fs => rintro ⟨dx, ws, _, z⟩; exact DFs.bd _ _ z
theorem Ext.cut {ρ t : List Addr} {H H' : Hp} (e : Ext ρ H (ρ ++ t) H') : Ext ρ H ρ H' := ⟨⟨[], by simp⟩, fun _ h n => absurd h n, e.old⟩

section
variable {X : Cx} {W : WX} {pos : Pos}
/-! ### while -/
def whW (c : DT) (tb : DS) (E : DEnds) : Nat → DSt → DHp → Prop
  | 0, _, _ => False
  | n + 1, σ, h => c σ h (E.xx σ) fun b h1 => (b = true → tb { E with nx := whW c tb E n, ct := whW c tb E n, bk := E.nx } σ h1) ∧ (b = false → E.nx σ h1)
def sWhile (c : DT) (tb : DS) : DS := fun E σ h => ∃ n, whW c tb { E with n0 := h.length } n σ h
theorem s1_while {c : Expr} {body : List Stmt} {tc : DT} {tb : DS} (hp : PassesOwn (model X.prog X.w) X.A X.env X.xe) (hc : ST X W c tc) (hb : SS X W body tb) : S1 X W (.While c body [] pos) (sWhile tc tb) := by
  refine PS.imp (ps_while hp hc hb) fun Dn σ H w => ?_
  obtain ⟨ρ0, H0, ρ, σd, h, E, e0, hr, sr, ⟨n, w⟩, k⟩ := w
  refine ⟨fun m σ2 H2 => ∃ ρ2 σd2 h2, Ext ρ H ρ2 H2 ∧ HR X.K ρ2 h2 H2 ∧ SR X.K ρ2 H2 σd2 σ2 ∧ whW tc tb { E with n0 := h.length } m σd2 h2, ⟨n, ρ, σd, h, .refl, hr, sr, w⟩, ?_⟩
  rintro m σ2 H2 ⟨ρ2, σd2, h2, e2, hr2, sr2, w2⟩
  cases m with
  | zero => exact w2.elim
  | succ m =>
    refine lT.go hr2 sr2 w2 (k.xw (e0.trans e2)) fun ρ3 b h3 H3 e3 hr3 sr3 kx3 q => ?_
    cases b with
    | true =>
      refine iteT ⟨fun σ' H' => ∃ ρ4 σd4 h4, Ext ρ H ρ4 H' ∧ HR X.K ρ4 h4 H' ∧ SR X.K ρ4 H' σd4 σ' ∧ whW tc tb { E with n0 := h.length } m σd4 h4, fun σ' H' z => ⟨m, Nat.lt_succ_self _, z⟩, ?_⟩
      refine ⟨ρ, H, ρ3, σd2, h3, _, e2.trans e3, hr3, sr3, q.1 rfl, ⟨hr.len.symm, ?_, ?_, ?_, ?_, ?_⟩⟩
      · exact fun ρ4 σd4 h4 σ4 H4 e4 hr4 sr4 q4 => ⟨ρ4, σd4, h4, e4, hr4, sr4, q4⟩
      · exact fun ρ4 σd4 h4 σ4 H4 e4 hr4 sr4 q4 => k.nx ρ4 σd4 h4 σ4 H4 (e0.trans e4) hr4 sr4 q4
      · exact fun ρ4 σd4 h4 σ4 H4 e4 hr4 sr4 q4 => ⟨ρ4, σd4, h4, e4, hr4, sr4, q4⟩
      · exact fun ρ4 d4 h4 v4 H4 e4 => k.rt ρ4 d4 h4 v4 H4 (e0.trans e4)
      · exact fun ρ4 x4 σd4 h4 c4 d4 σ4 H4 e4 => k.ex ρ4 x4 σd4 h4 c4 d4 σ4 H4 (e0.trans e4)
    | false => exact iteF (k.nx ρ3 σd2 h3 σ2 H3 ((e0.trans e2).trans e3) hr3 sr3 (q.2 rfl))

/-! ### comprehensions -/
abbrev W0 : WX := fun _ _ _ _ => False
abbrev X0 : DX := fun _ _ => False
def wipeD (σ : DSt) : List Nat → DSt
  | [] => σ
  | v :: vs => (wipeD σ vs).set v none
theorem wipe_get (σ : St) (i : Nat) : ∀ vs : List Nat, i ∉ vs → (wipe σ vs)[i]? = σ[i]?
  | [], _ => rfl
  | v :: vs, h => by
    have h1 : v ≠ i := fun z => h (by rw [z]; exact List.mem_cons_self)
    have h2 : i ∉ vs := fun z => h (List.mem_cons_of_mem _ z)
    unfold wipe
    rw [List.getElem?_set_ne h1]
    exact wipe_get σ i vs h2
theorem wipe_in (σ : St) (i : Nat) (hi : i < σ.length) : ∀ vs : List Nat, i ∈ vs → (wipe σ vs)[i]? = some none
  | [], h => nomatch h
  | v :: vs, h => by
    unfold wipe
    by_cases e : v = i
    · subst e
      rw [List.getElem?_set_self (by rw [wipe_length]; exact hi)]
    · rw [List.getElem?_set_ne e]
      rcases List.mem_cons.mp h with z | z
      · exact absurd z.symm e
      · exact wipe_in σ i hi vs z
theorem wipe_only {T vs : List Nat} {σ σ2 : St} (on : Only T (wipe σ vs) σ2) (hs : ∀ i ∈ T, i ∈ vs) : wipe σ2 vs = wipe σ vs := by
  apply List.ext_getElem?
  intro i
  by_cases hi : i ∈ vs
  · by_cases hl : i < σ.length
    · rw [wipe_in σ i hl vs hi, wipe_in σ2 i (by rw [on.1, wipe_length]; exact hl) vs hi]
    · have z1 : (wipe σ2 vs).length ≤ i := by rw [wipe_length, on.1, wipe_length]; exact Nat.le_of_not_lt hl
      have z2 : (wipe σ vs).length ≤ i := by rw [wipe_length]; exact Nat.le_of_not_lt hl
      rw [List.getElem?_eq_none z1, List.getElem?_eq_none z2]
  · rw [wipe_get σ2 i vs hi, on.2 i fun z => hi (hs i z)]
theorem SR.wipe {K : PySem.W.Frag} {ρ : List Addr} {H : Hp} {σd : DSt} {σ : St} (r : SR K ρ H σd σ) : ∀ vs : List Nat, SR K ρ H (wipeD σd vs) (wipe σ vs)
  | [] => r
  | v :: vs => by
    have ih := SR.wipe r vs
    refine ⟨by unfold wipeD L2.wipe; rw [List.length_set, List.length_set]; exact ih.len, fun i d h => ?_⟩
    unfold wipeD at h
    unfold L2.wipe
    by_cases e : v = i
    · subst e
      have hl : v < (wipeD σd vs).length := by have := (List.getElem?_eq_some_iff.mp h).1; rwa [List.length_set] at this
      rw [List.getElem?_set_self hl] at h
      cases h
    · rw [List.getElem?_set_ne e] at h ⊢
      exact ih.at_ i d h
abbrev SPT (X : Cx) (W : WX) (ifs : List Expr) (t : DT) : Prop := PTs X ifs (lT X.K W t)
def dYes : DT := fun _ h _ Q => Q true h
theorem PTs.imp {X : Cx} {e : List Expr} {t t' : TT} (h : PTs X e t) (i : ∀ σ H Q, t' σ H Q → t σ H Q) : PTs X e t' := ⟨fun pins s σ H Q I w => h.run pins s σ H Q I (i σ H Q w)⟩
theorem sp_nil : SPT X W [] dYes := PTs.imp pts_nil fun σ H Q w => by
  obtain ⟨ρ, σd, h, Xd, Qd, hr, sr, w, kx, k⟩ := w
  exact k ρ true h H .refl hr w
theorem sp_one {c : Expr} {t : DT} (h : ST X W c t) : SPT X W [c] t := pts_one h
def lcH (g : DG) (tt : DT) (te : DE) (G : DHp → Prop) (n : Nat) (σ : DSt) : List D → DHp → (DHp → Prop) → Prop
  | [], h, Q => G h ∧ Q h
  | x :: xs, h, Q => G h ∧ g x σ h X0 fun σ2 h2 => tt σ2 h2 X0 fun b h3 =>
      (b = true → te σ2 h3 X0 fun y h4 => ∃ acc, h4[n]? = some (.lst acc) ∧ acc.length < sizeLine ∧ lcH g tt te G n σ xs (h4.set n (.lst (acc ++ [y]))) Q) ∧ (b = false → lcH g tt te G n σ xs h3 Q)
theorem lcH_G {g : DG} {tt : DT} {te : DE} {G : DHp → Prop} {n : Nat} {σ : DSt} {xs : List D} {h : DHp} {Q : DHp → Prop} (w : lcH g tt te G n σ xs h Q) : G h := by
  cases xs <;> exact w.1
def dLcH (ti : DI) (g : DG) (tt : DT) (te : DE) (vs : List Nat) : DE := fun σ h X Q => ti σ h X fun items G h1 => lcH g tt te G h1.length (wipeD σ vs) items (h1 ++ [.lst []]) fun h' => Q (.ref h1.length) h'
def dLc (ti : DI) (g : DG) (tt : DT) (te : DE) (vs : List Nat) : DE := fun σ h X Q => ti σ h X fun items G h1 => lcH g tt te G h1.length (wipeD σ vs) items (h1 ++ [.lst []]) fun h' => ∃ acc, h' = h1 ++ [.lst acc] ∧ Bds h1.length acc ∧ Q (.lst acc) h1
/-- the heart of a comprehension -/
theorem lc_read {K : PySem.W.Frag} {T vs : List Nat} {g : DG} {tt : DT} {te : DE} {σ : St} {σd : DSt} {ρ1 : List Addr} {h1 : DHp} {H1 : Hp} {items : List D} {G : DHp → Prop} {J : It} {Dp : Addr} {R : Hp → Prop} {Qh : DHp → Prop} (hT : ∀ i ∈ T, i ∈ vs)
    (hr1 : HR K ρ1 h1 H1) (sr1 : SR K ρ1 H1 σd σ) (it : ItAt K ρ1 H1 items G J) (nD : H1 Dp = none) (w1 : lcH g tt te G h1.length (wipeD σd vs) items (h1 ++ [.lst []]) Qh)
    (fin : ∀ ρ2 h2 H, Ext ρ1 H1 ρ2 H → HR K ρ2 h2 H → ρ2[h1.length]? = some Dp → Qh h2 → R H) :
    ∃ Wv : Nat → Nat → Hp → Prop, (∃ m, Wv 0 m (upd H1 Dp (.lst []))) ∧ ∀ i m H, Wv i m H → (J.stop i H ∧ R H) ∨ (J.go i H ∧ ∃ Nx : Hp → Prop, (∀ H', Nx H' → ∃ m', m' < m ∧ Wv (i + 1) m' H') ∧
      ∀ x H', J.yld i H x H' → lG K W0 T g x (wipe σ vs) H' fun σ2 H2 => wipe σ2 vs = wipe σ vs ∧ lT K W0 tt σ2 H2 fun b H3 => if b = true then lE K W0 te σ2 H3 fun y H4 => ∃ acc, H4 Dp = some (.lst acc) ∧ acc.length < sizeLine ∧ Nx (upd H4 Dp (.lst (acc ++ [y]))) else Nx H3) := by
  obtain ⟨p1, p2⟩ := push_lst (p := Dp) hr1 nD (ds := []) (vs := []) rfl
  have e1p : Ext ρ1 H1 (ρ1 ++ [Dp]) (upd H1 Dp (.lst [])) := .push nD
  refine ⟨fun i m H => m = items.length - i ∧ i ≤ items.length ∧ ∃ ρ2 h2, Ext ρ1 H1 ρ2 H ∧ HR K ρ2 h2 H ∧ ρ2[h1.length]? = some Dp ∧ lcH g tt te G h1.length (wipeD σd vs) (items.drop i) h2 Qh, ⟨items.length, rfl, Nat.zero_le _, _, _, e1p, p1, ?_, w1⟩, ?_⟩
  · obtain ⟨a, ea, q⟩ := p2
    cases ea
    exact q
  rintro i m H ⟨rfl, hi, ρ2, h2, e12, hr2, hD, w2⟩
  obtain ⟨itg, its⟩ := it ρ2 h2 H i e12 hr2 (lcH_G w2)
  by_cases hlt : i < items.length
  · refine .inr ?_
    obtain ⟨go, yl⟩ := itg _ (List.getElem?_eq_getElem hlt)
    rw [List.drop_eq_getElem_cons hlt] at w2
    have w2' := w2.2
    refine ⟨go, fun H' => ∃ ρ3 h3, Ext ρ1 H1 ρ3 H' ∧ HR K ρ3 h3 H' ∧ ρ3[h1.length]? = some Dp ∧ lcH g tt te G h1.length (wipeD σd vs) (items.drop (i + 1)) h3 Qh, fun H' n => ⟨items.length - (i + 1), by omega, rfl, hlt, n⟩, fun x H' y => ?_⟩
    obtain ⟨ey, hry, dvy⟩ := yl x H' y
    have e1y := e12.trans ey
    refine ⟨ρ2, _, h2, X0, _, _, hry, (sr1.ext e1y).wipe vs, dvy, w2', fun _ _ _ _ _ _ _ _ _ _ z => z.elim, fun ρ3 σd3 h3 σ3 H3 e3 hr3 sr3 on w3 => ⟨wipe_only on hT, ?_⟩⟩
    refine lT.go hr3 sr3 w3 (fun _ _ _ _ _ _ _ _ _ _ z => z.elim) fun ρ4 b h4 H4 e4 hr4 sr4 kx4 q4 => ?_
    have e14 := (e1y.trans e3).trans e4
    have hD4 : ρ4[h1.length]? = some Dp := (ey.trans (e3.trans e4)).get hD
    cases b with
    | true =>
      refine iteT (lE.go hr4 sr4 (q4.1 rfl) kx4 fun ρ5 d5 h5 v5 H5 e5 hr5 sr5 kx5 dv5 q5 => ?_)
      obtain ⟨acc, ha, hz, q5⟩ := q5
      have hD5 : ρ5[h1.length]? = some Dp := e5.get hD4
      obtain ⟨vacc, hH, dacc⟩ := hr5.at_ _ _ _ ha hD5
      refine ⟨vacc, hH, by rw [dacc.length]; exact hz, ?_⟩
      obtain ⟨a1, a2⟩ := write_lst hr5 hD5 (dacc.append (.one dv5))
      exact ⟨ρ5, _, (e14.trans e5).trans a2, a1, hD5, q5⟩
    | false => exact iteF ⟨ρ4, h4, e14, hr4, hD4, q4.2 rfl⟩
  · refine .inl ⟨its (Nat.le_of_not_lt hlt), ?_⟩
    rw [List.drop_eq_nil_of_le (Nat.le_of_not_lt hlt)] at w2
    exact fin ρ2 h2 H e12 hr2 hD w2.2
/-- the frozen end -/
theorem lc_freeze {K : PySem.W.Frag} {ρ1 ρ2 : List Addr} {h1 : DHp} {H1 H : Hp} {Dp : Addr} {acc : List D} (hr1 : HR K ρ1 h1 H1) (e : Ext ρ1 H1 ρ2 H) (hr : HR K ρ2 (h1 ++ [.lst acc]) H) (hD : ρ2[h1.length]? = some Dp) (hb : Bds h1.length acc) :
    Ext ρ1 H1 ρ1 H ∧ HR K ρ1 h1 H ∧ DV K ρ1 H (.lst acc) (.ref Dp) := by
  obtain ⟨t, rfl⟩ := e.pre
  obtain ⟨vacc, hH, dacc⟩ := hr.at_ h1.length (.lst acc) Dp (by rw [List.getElem?_append_right (Nat.le_refl _), Nat.sub_self]; rfl) hD
  refine ⟨e.cut, hr.cut hr1.len hr1.bd, Dp, vacc, rfl, ⟨fun z => ?_, hH⟩, DVs.cut _ _ (by rw [hr1.len]; exact hb) dacc⟩
  have nd := (List.nodup_append.mp hr.nd).2.2
  rw [← hr1.len, List.getElem?_append_right (Nat.le_refl _)] at hD
  exact nd Dp z Dp (List.mem_of_getElem? hD) rfl
theorem lc_any {K : PySem.W.Frag} {T vs : List Nat} {ti : DI} {g : DG} {tt : DT} {te : DE} {σ : St} {H : Hp} {Q : VK} (hT : ∀ i ∈ T, i ∈ vs) (w : lE K W (dLc ti g tt te vs) σ H Q) : tLc (lI K W ti) (lG K W0 T g) (lT K W0 tt) (lE K W0 te) vs σ H Q := by
  obtain ⟨ρ, σd, h, Xd, Qd, hr, sr, w, kx, k⟩ := w
  refine lI.go hr sr w kx fun ρ1 items G h1 J H1 e1 hr1 sr1 kx1 it w1 => fun Dp nD => ?_
  refine lc_read hT hr1 sr1 it nD w1 fun ρ2 h2 H2 e2 hr2 hD q => ?_
  obtain ⟨acc, rfl, hb, q⟩ := q
  obtain ⟨a1, a2, a3⟩ := lc_freeze hr1 e2 hr2 hD hb
  exact k ρ1 _ h1 _ H2 (e1.trans a1) a2 a3 q
theorem lc_anyH {K : PySem.W.Frag} {T vs : List Nat} {ti : DI} {g : DG} {tt : DT} {te : DE} {σ : St} {H : Hp} {Q : VK} (hT : ∀ i ∈ T, i ∈ vs) (w : lE K W (dLcH ti g tt te vs) σ H Q) : tLc (lI K W ti) (lG K W0 T g) (lT K W0 tt) (lE K W0 te) vs σ H Q := by
  obtain ⟨ρ, σd, h, Xd, Qd, hr, sr, w, kx, k⟩ := w
  refine lI.go hr sr w kx fun ρ1 items G h1 J H1 e1 hr1 sr1 kx1 it w1 => fun Dp nD => ?_
  exact lc_read hT hr1 sr1 it nD w1 fun ρ2 h2 H2 e2 hr2 hD q => k ρ2 (.ref h1.length) h2 _ H2 (e1.trans e2) hr2 ⟨Dp, rfl, hD⟩ q
section
variable {elt tg iter : Expr} {ifs : List Expr} {scope : Scope} {own : List (Str × Nat)} {T : List Nat} {ti : DI} {g : DG} {tt : DT} {te : DE}
theorem se_lc (hc : X.calm = true) (hN : X.N.Nodup) (hi : SI X W tg iter ti) (ok : BlkOk X.N X.env.scope scope own)
    (hg : ∀ (s : Shared) (H : Hp) (C : Addr) (cl : List (Str × Addr)) (fp : List Addr), SG (X.blk s H scope (compEnvC scope cl C X.env) fp) W0 T tg g) (ht : ∀ (s : Shared) (H : Hp) (C : Addr) (cl : List (Str × Addr)) (fp : List Addr), SPT (X.blk s H scope (compEnvC scope cl C X.env) fp) W0 ifs tt)
    (he : ∀ (s : Shared) (H : Hp) (C : Addr) (cl : List (Str × Addr)) (fp : List Addr), SE (X.blk s H scope (compEnvC scope cl C X.env) fp) W0 elt te) (hT : ∀ i ∈ T, i ∈ own.map (·.2) := by decide) (hs : ∀ x, foldedSetIterable iter X.env x = pure x := by intro _; rfl) :
    SE X W (.ListComp elt [⟨tg, iter, ifs, 0⟩] scope pos) (dLc ti g tt te (own.map (·.2))) := PE.imp (pe_lc hc hN hi ok hg ht he hs) fun σ H Q w => lc_any hT w
theorem se_lcH (hc : X.calm = true) (hN : X.N.Nodup) (hi : SI X W tg iter ti) (ok : BlkOk X.N X.env.scope scope own)
    (hg : ∀ (s : Shared) (H : Hp) (C : Addr) (cl : List (Str × Addr)) (fp : List Addr), SG (X.blk s H scope (compEnvC scope cl C X.env) fp) W0 T tg g) (ht : ∀ (s : Shared) (H : Hp) (C : Addr) (cl : List (Str × Addr)) (fp : List Addr), SPT (X.blk s H scope (compEnvC scope cl C X.env) fp) W0 ifs tt)
    (he : ∀ (s : Shared) (H : Hp) (C : Addr) (cl : List (Str × Addr)) (fp : List Addr), SE (X.blk s H scope (compEnvC scope cl C X.env) fp) W0 elt te) (hT : ∀ i ∈ T, i ∈ own.map (·.2) := by decide) (hs : ∀ x, foldedSetIterable iter X.env x = pure x := by intro _; rfl) :
    SE X W (.ListComp elt [⟨tg, iter, ifs, 0⟩] scope pos) (dLcH ti g tt te (own.map (·.2))) := PE.imp (pe_lc hc hN hi ok hg ht he hs) fun σ H Q w => lc_anyH hT w
/-- name = [..] -/
theorem lS_asg {K : PySem.W.Frag} {de : DE} {i : Nat} {Dn : Ends} {σ : St} {H : Hp} (w : lS K W (sSet i de) Dn σ H) : lE K W de σ H fun x H1 => gName i x σ H1 Dn.nx := by
  obtain ⟨ρ0, H0, ρ, σd, h, E, e0, hr, sr, w, k⟩ := w
  exact lE.go hr sr w (k.xw e0) fun ρ1 d1 h1 v1 H1 e1 hr1 sr1 kx1 dv1 q => k.nx ρ1 _ h1 _ H1 (e0.trans e1) hr1 (sr1.set dv1) q
theorem s1_setLc (i : Nat) {y : Str} {py spos : Pos} (hc : X.calm = true) (hN : X.N.Nodup) (hi : SI X W tg iter ti) (ok : BlkOk X.N X.env.scope scope own)
    (hg : ∀ (s : Shared) (H : Hp) (C : Addr) (cl : List (Str × Addr)) (fp : List Addr), SG (X.blk s H scope (compEnvC scope cl C X.env) fp) W0 T tg g) (ht : ∀ (s : Shared) (H : Hp) (C : Addr) (cl : List (Str × Addr)) (fp : List Addr), SPT (X.blk s H scope (compEnvC scope cl C X.env) fp) W0 ifs tt)
    (he : ∀ (s : Shared) (H : Hp) (C : Addr) (cl : List (Str × Addr)) (fp : List Addr), SE (X.blk s H scope (compEnvC scope cl C X.env) fp) W0 elt te) (hy : X.N[i]? = some y := by rfl) (hyl : X.env.scope.names.lookup y = some .local := by rfl)
    (hsw : swapsWith (.ListComp elt [⟨tg, iter, ifs, 0⟩] scope pos) (some (.Name y py)) spos.line X.env = pure true := by exact sw_true rfl rfl rfl (by decide +kernel)) (hT : ∀ i ∈ T, i ∈ own.map (·.2) := by decide) (hs : ∀ x, foldedSetIterable iter X.env x = pure x := by intro _; rfl) :
    S1 X W (.Assign [.Name y py] (.ListComp elt [⟨tg, iter, ifs, 0⟩] scope pos) spos) (sSet i (dLc ti g tt te (own.map (·.2)))) := PS.imp (ps_setLc hc hN hy hyl hsw hi ok hg ht he hs) fun Dn σ H w => lc_any hT (lS_asg w)
theorem s1_setLcH (i : Nat) {y : Str} {py spos : Pos} (hc : X.calm = true) (hN : X.N.Nodup) (hi : SI X W tg iter ti) (ok : BlkOk X.N X.env.scope scope own)
    (hg : ∀ (s : Shared) (H : Hp) (C : Addr) (cl : List (Str × Addr)) (fp : List Addr), SG (X.blk s H scope (compEnvC scope cl C X.env) fp) W0 T tg g) (ht : ∀ (s : Shared) (H : Hp) (C : Addr) (cl : List (Str × Addr)) (fp : List Addr), SPT (X.blk s H scope (compEnvC scope cl C X.env) fp) W0 ifs tt)
    (he : ∀ (s : Shared) (H : Hp) (C : Addr) (cl : List (Str × Addr)) (fp : List Addr), SE (X.blk s H scope (compEnvC scope cl C X.env) fp) W0 elt te) (hy : X.N[i]? = some y := by rfl) (hyl : X.env.scope.names.lookup y = some .local := by rfl)
    (hsw : swapsWith (.ListComp elt [⟨tg, iter, ifs, 0⟩] scope pos) (some (.Name y py)) spos.line X.env = pure true := by exact sw_true rfl rfl rfl (by decide +kernel)) (hT : ∀ i ∈ T, i ∈ own.map (·.2) := by decide) (hs : ∀ x, foldedSetIterable iter X.env x = pure x := by intro _; rfl) :
    S1 X W (.Assign [.Name y py] (.ListComp elt [⟨tg, iter, ifs, 0⟩] scope pos) spos) (sSet i (dLcH ti g tt te (own.map (·.2)))) := PS.imp (ps_setLc hc hN hy hyl hsw hi ok hg ht he hs) fun Dn σ H w => lc_anyH hT (lS_asg w)
end
end
end L2.MW

/-! MW, part F: calls of built-ins and of the text's own defs; contracts. -/
namespace L2.MW
open PySem PySem.Spec PyProof.Rows

abbrev DN := List D → DHp → DK → Prop
def LNok (K : PySem.W.Frag) (op : DN) (r : List V → Hp → VK → Prop) : Prop := ∀ ρ h H xs vs Qd Q, HR K ρ h H → DVs K ρ H xs vs → op xs h Qd →
  (∀ ρ' d h' v H', Ext ρ H ρ' H' → HR K ρ' h' H' → DV K ρ' H' d v → Qd d h' → Q v H') → r vs H Q
def dCB (op : DN) (ts : DA) : DE := fun σ h X Q => ts σ h X fun ds h1 => op ds h1 Q
section
variable {X : Cx} {W : WX} {pos p : Pos} {x : Str} {e : Expr} {es : List Expr} {ts : DA} {op : DN} {r : List V → Hp → VK → Prop} {id T : String}
theorem cb_go (L : LNok X.K op r) {σ : St} {H : Hp} {Q : VK} (w : lE X.K W (dCB op ts) σ H Q) : lA X.K W ts σ H fun vs H1 => r vs H1 Q := by
  obtain ⟨ρ, σd, h, Xd, Qd, hr, sr, w, kx, k⟩ := w
  exact ⟨ρ, σd, h, Xd, _, hr, sr, w, kx, fun ρ1 ds h1 vs H1 e1 hr1 dvs q => L ρ1 h1 H1 ds vs Qd Q hr1 dvs q fun ρ' d h' v H' e' => k ρ' d h' v H' (e1.trans e')⟩
theorem se_cb (hc : CallR X (.builtin id) r) (L : LNok X.K op r) (hg : Gl X x) (hm : X.mg x = none) (hv : bootBuiltins x = some (.builtin id)) (ha : SA X W (e :: es) ts) (hn : x ≠ "__name__" := by decide) (hdb : (x == ("__debug__" : Str)) = false := by decide)
    (he : starEach (e :: es) X.env = (false, eval e X.env) :: starEach es X.env := by rfl) (hpl : (backTo pos (starEach es X.env)).any (·.1) = false := by rfl) : SE X W (.Call (.Name x p) (e :: es) [] pos) (dCB op ts) :=
  PE.imp (pe_callB hc hg hm hv ha hn hdb he hpl) fun σ H Q w => cb_go L w
theorem se_ct (hc : CallR X (.type T) r) (L : LNok X.K op r) (hg : Gl X x) (hm : X.mg x = none) (hv : bootBuiltins x = some (.type T)) (ha : SA X W (e :: es) ts) (hn : x ≠ "__name__" := by decide) (hdb : (x == ("__debug__" : Str)) = false := by decide)
    (he : starEach (e :: es) X.env = (false, eval e X.env) :: starEach es X.env := by rfl) (hpl : (backTo pos (starEach es X.env)).any (·.1) = false := by rfl) : SE X W (.Call (.Name x p) (e :: es) [] pos) (dCB op ts) :=
  PE.imp (pe_callTy hc hg hm hv ha hn hdb he hpl) fun σ H Q w => cb_go L w
end
section
variable {K : PySem.W.Frag}
theorem DVs.un {ρ : List Addr} {H : Hp} {d : D} {vs : List V} (h : DVs K ρ H [d] vs) : ∃ v, vs = [v] ∧ DV K ρ H d v := by
  obtain ⟨v, r, rfl, h1, rfl⟩ := h
  exact ⟨v, rfl, h1⟩
theorem DVs.bi {ρ : List Addr} {H : Hp} {d d' : D} {vs : List V} (h : DVs K ρ H [d, d'] vs) : ∃ v v', vs = [v, v'] ∧ DV K ρ H d v ∧ DV K ρ H d' v' := by
  obtain ⟨v, r, rfl, h1, v', r', rfl, h2, rfl⟩ := h
  exact ⟨v, v', rfl, h1, h2⟩
/-! ### len, tuple, list, int, abs, .. -/
def nLen : DN := fun ds h Q => ∃ d, ds = [d] ∧ ((∃ l, asS h d = some l ∧ Q (.int l.length) h) ∨ ∃ z, d = .str z ∧ z.length ≤ sizeLine ∧ Q (.int z.length) h)
theorem L_len : LNok K nLen (fun xs H Q => (∃ p ys, xs = [.ref p] ∧ (SqL K H p ys ∨ SqT K H p ys) ∧ Q (.int ys.length) H) ∨ ∃ z, xs = [.str z] ∧ z.length ≤ sizeLine ∧ Q (.int z.length) H) := by
  intro ρ h H xs vs Qd Q hr dvs w k
  obtain ⟨d, rfl, w⟩ := w
  obtain ⟨v, rfl, dv⟩ := dvs.un
  rcases w with ⟨l, e, q⟩ | ⟨z, rfl, hz, q⟩
  · obtain ⟨a, vs, rfl, hq, ds⟩ := asS_at hr dv e
    refine .inl ⟨a, vs, rfl, hq, ?_⟩
    rw [ds.length]
    exact k ρ (.int l.length) h _ H .refl hr rfl q
  · have ez : v = .str z := dv
    subst ez
    exact .inr ⟨z, rfl, hz, k ρ (.int z.length) h _ H .refl hr rfl q⟩
def nTup : DN := fun ds h Q => ∃ d l, ds = [d] ∧ asS h d = some l ∧ Q (.tup l) h
theorem L_tup : LNok K nTup (fun xs H Q => ∃ p ys, xs = [.ref p] ∧ ((SqL K H p ys ∧ ∀ l, H l = none → Q (.ref l) (upd H l (.tup ys))) ∨ (SqT K H p ys ∧ Q (.ref p) H))) := by
  intro ρ h H xs vs Qd Q hr dvs w k
  obtain ⟨d, l, rfl, e, q⟩ := w
  obtain ⟨v, rfl, dv⟩ := dvs.un
  cases d with
  | tup l' =>
    cases e
    have dv' := dv
    obtain ⟨a, vs, rfl, hq, ds⟩ := dv
    exact ⟨a, vs, rfl, .inr ⟨hq.sq, k ρ (.tup _) h _ H .refl hr dv' q⟩⟩
  | lst l' => obtain ⟨a, vs, rfl, hq, ds⟩ := asL_at hr dv e; exact ⟨a, vs, rfl, .inl ⟨hq, fun p np => k ρ _ h _ _ (.new1 np) (hr.new1 np) (.tupNew hr np ds) q⟩⟩
  | fz l' => obtain ⟨a, vs, rfl, hq, ds⟩ := asL_at hr dv e; exact ⟨a, vs, rfl, .inl ⟨hq, fun p np => k ρ _ h _ _ (.new1 np) (hr.new1 np) (.tupNew hr np ds) q⟩⟩
  | ref i => obtain ⟨a, vs, rfl, hq, ds⟩ := asL_at hr dv e; exact ⟨a, vs, rfl, .inl ⟨hq, fun p np => k ρ _ h _ _ (.new1 np) (hr.new1 np) (.tupNew hr np ds) q⟩⟩
  | _ => cases e
/-- list(x), not to be changed; to be changed -/
def nLst : DN := fun ds h Q => ∃ d l, ds = [d] ∧ asS h d = some l ∧ Q (.lst l) h
def nLstH : DN := fun ds h Q => ∃ d l, ds = [d] ∧ asS h d = some l ∧ Q (.ref h.length) (h ++ [.lst l])
def rLstOf (K : PySem.W.Frag) : List V → Hp → VK → Prop := fun xs H Q => ∃ p ys, xs = [.ref p] ∧ (SqL K H p ys ∨ SqT K H p ys) ∧ ∀ l, H l = none → Q (.ref l) (upd H l (.lst ys))
theorem L_lst : LNok K nLst (rLstOf K) := by
  intro ρ h H xs vs Qd Q hr dvs w k
  obtain ⟨d, l, rfl, e, q⟩ := w
  obtain ⟨v, rfl, dv⟩ := dvs.un
  obtain ⟨a, vs, rfl, hq, ds⟩ := asS_at hr dv e
  exact ⟨a, vs, rfl, hq, fun p np => k ρ _ h _ _ (.new1 np) (hr.new1 np) (.lstNew hr np ds) q⟩
theorem L_lstH : LNok K nLstH (rLstOf K) := by
  intro ρ h H xs vs Qd Q hr dvs w k
  obtain ⟨d, l, rfl, e, q⟩ := w
  obtain ⟨v, rfl, dv⟩ := dvs.un
  obtain ⟨a, vs, rfl, hq, ds⟩ := asS_at hr dv e
  refine ⟨a, vs, rfl, hq, fun p np => ?_⟩
  obtain ⟨a1, a2⟩ := push_lst hr np ds
  exact k _ _ _ _ _ (.push np) a1 a2 q
def b2D (b : Bool) : Int := if b then 1 else 0
def nInt : DN := fun ds h Q => (∃ i, ds = [.int i] ∧ Q (.int i) h) ∨ ∃ b, ds = [.bl b] ∧ Q (.int (b2D b)) h
theorem L_int : LNok K nInt (fun xs H Q => (∃ i, xs = [.int i] ∧ Q (.int i) H) ∨ ∃ k, xs = [.bl k] ∧ Q (.int (if k then 1 else 0)) H) := by
  intro ρ h H xs vs Qd Q hr dvs w k
  rcases w with ⟨i, rfl, q⟩ | ⟨b, rfl, q⟩
  · obtain ⟨v, rfl, dv⟩ := dvs.un
    have e : v = .int i := dv
    exact .inl ⟨i, by rw [e], k ρ (.int i) h _ H .refl hr rfl q⟩
  · obtain ⟨v, rfl, dv⟩ := dvs.un
    have e : v = .bl b := dv
    exact .inr ⟨b, by rw [e], k ρ (.int (b2D b)) h _ H .refl hr rfl q⟩
def nStr : DN := fun ds h Q => ∃ i, ds = [.int i] ∧ i.natAbs.log2 < 1920 ∧ Q (.str (toString i)) h
theorem L_str : LNok K nStr (fun xs H Q => ∃ i, xs = [.int i] ∧ i.natAbs.log2 < 1920 ∧ Q (.str (toString i)) H) := by
  intro ρ h H xs vs Qd Q hr dvs w k
  obtain ⟨i, rfl, hi, q⟩ := w
  obtain ⟨v, rfl, dv⟩ := dvs.un
  have e : v = .int i := dv
  exact ⟨i, by rw [e], hi, k ρ (.str (toString i)) h _ H .refl hr rfl q⟩
def nAbs : DN := fun ds h Q => ∃ i, ds = [.int i] ∧ Q (.int (if i < 0 then -i else i)) h
theorem L_abs : LNok K nAbs (fun xs H Q => ∃ i, xs = [.int i] ∧ Q (.int (if i < 0 then -i else i)) H) := by
  intro ρ h H xs vs Qd Q hr dvs w k
  obtain ⟨i, rfl, q⟩ := w
  obtain ⟨v, rfl, dv⟩ := dvs.un
  have e : v = .int i := dv
  exact ⟨i, by rw [e], k ρ (.int (if i < 0 then -i else i)) h _ H .refl hr rfl q⟩
def nI2 (f : Int → Int → Int) : DN := fun ds h Q => ∃ i j, ds = [.int i, .int j] ∧ Q (.int (f i j)) h
theorem L_I2 {f : Int → Int → Int} : LNok K (nI2 f) (fun xs H Q => ∃ i j, xs = [.int i, .int j] ∧ Q (.int (f i j)) H) := by
  intro ρ h H xs vs Qd Q hr dvs w k
  obtain ⟨i, j, rfl, q⟩ := w
  obtain ⟨v, v', rfl, d1, d2⟩ := dvs.bi
  have e1 : v = .int i := d1
  have e2 : v' = .int j := d2
  exact ⟨i, j, by rw [e1, e2], k ρ (.int (f i j)) h _ H .refl hr rfl q⟩
def nSum : DN := fun ds h Q => ∃ d, ∃ ns : List Int, ds = [d] ∧ asL h d = some (ns.map D.int) ∧ Q (.int ns.sum) h
theorem L_sum : LNok K nSum (rSum K) := by
  intro ρ h H xs vs Qd Q hr dvs w k
  obtain ⟨d, ns, rfl, e, q⟩ := w
  obtain ⟨v, rfl, dv⟩ := dvs.un
  obtain ⟨a, vs, rfl, hq, ds⟩ := asL_at hr dv e
  rw [ds.ints] at hq
  exact ⟨a, ns, rfl, hq, k ρ (.int ns.sum) h _ H .refl hr rfl q⟩
def nAll : DN := fun ds h Q => ∃ d, ∃ bs : List Bool, ds = [d] ∧ asL h d = some (bs.map D.bl) ∧ Q (.bl (bs.all id)) h
def nAny : DN := fun ds h Q => ∃ d, ∃ bs : List Bool, ds = [d] ∧ asL h d = some (bs.map D.bl) ∧ Q (.bl (bs.any id)) h
theorem L_all : LNok K nAll (rAll K) := by
  intro ρ h H xs vs Qd Q hr dvs w k
  obtain ⟨d, ns, rfl, e, q⟩ := w
  obtain ⟨v, rfl, dv⟩ := dvs.un
  obtain ⟨a, vs, rfl, hq, ds⟩ := asL_at hr dv e
  rw [ds.bls] at hq
  exact ⟨a, ns, rfl, hq, k ρ (.bl (ns.all id)) h _ H .refl hr rfl q⟩
theorem L_any : LNok K nAny (rAny K) := by
  intro ρ h H xs vs Qd Q hr dvs w k
  obtain ⟨d, ns, rfl, e, q⟩ := w
  obtain ⟨v, rfl, dv⟩ := dvs.un
  obtain ⟨a, vs, rfl, hq, ds⟩ := asL_at hr dv e
  rw [ds.bls] at hq
  exact ⟨a, ns, rfl, hq, k ρ (.bl (ns.any id)) h _ H .refl hr rfl q⟩
/-- max, min of a list of ints -/
def nMax : DN := fun ds h Q => ∃ d, ∃ ns : List Int, ds = [d] ∧ asL h d = some (ns.map D.int) ∧ 0 < ns.length ∧ ∀ m, m ∈ ns → (∀ y, y ∈ ns → y ≤ m) → Q (.int m) h
def nMin : DN := fun ds h Q => ∃ d, ∃ ns : List Int, ds = [d] ∧ asL h d = some (ns.map D.int) ∧ 0 < ns.length ∧ ∀ m, m ∈ ns → (∀ y, y ∈ ns → m ≤ y) → Q (.int m) h
theorem L_max : LNok K nMax (rMax K) := by
  intro ρ h H xs vs Qd Q hr dvs w k
  obtain ⟨d, ns, rfl, e, hn, q⟩ := w
  obtain ⟨v, rfl, dv⟩ := dvs.un
  obtain ⟨a, vs, rfl, hq, ds⟩ := asL_at hr dv e
  rw [ds.ints] at hq
  exact ⟨a, ns, rfl, hq, hn, fun m h1 h2 => k ρ (.int m) h _ H .refl hr rfl (q m h1 h2)⟩
theorem L_min : LNok K nMin (rMin K) := by
  intro ρ h H xs vs Qd Q hr dvs w k
  obtain ⟨d, ns, rfl, e, hn, q⟩ := w
  obtain ⟨v, rfl, dv⟩ := dvs.un
  obtain ⟨a, vs, rfl, hq, ds⟩ := asL_at hr dv e
  rw [ds.ints] at hq
  exact ⟨a, ns, rfl, hq, hn, fun m h1 h2 => k ρ (.int m) h _ H .refl hr rfl (q m h1 h2)⟩
end
section
variable {X : Cx} {W : WX} {pos p : Pos} {e : Expr} {es : List Expr} {ts : DA}
theorem call_len2 : CallR X (.builtin "len") (fun xs H Q => (∃ p ys, xs = [.ref p] ∧ (SqL X.K H p ys ∨ SqT X.K H p ys) ∧ Q (.int ys.length) H) ∨ ∃ z, xs = [.str z] ∧ z.length ≤ sizeLine ∧ Q (.int z.length) H) := call_len_seq.or call_len_str
theorem se_len (hm : X.mg "len" = none) (ha : SA X W (e :: es) ts) (hg : Gl X "len" := by rfl) (he : starEach (e :: es) X.env = (false, eval e X.env) :: starEach es X.env := by rfl) (hpl : (backTo pos (starEach es X.env)).any (·.1) = false := by rfl) : SE X W (.Call (.Name "len" p) (e :: es) [] pos) (dCB nLen ts) := se_cb call_len2 L_len hg hm PySem.boot_len ha (he := he) (hpl := hpl)
theorem se_tuple (hm : X.mg "tuple" = none) (ha : SA X W (e :: es) ts) (hg : Gl X "tuple" := by rfl) (he : starEach (e :: es) X.env = (false, eval e X.env) :: starEach es X.env := by rfl) (hpl : (backTo pos (starEach es X.env)).any (·.1) = false := by rfl) : SE X W (.Call (.Name "tuple" p) (e :: es) [] pos) (dCB nTup ts) := se_ct call_tuple_of L_tup hg hm (by decide +kernel) ha (he := he) (hpl := hpl)
theorem se_list (hm : X.mg "list" = none) (ha : SA X W (e :: es) ts) (hg : Gl X "list" := by rfl) (he : starEach (e :: es) X.env = (false, eval e X.env) :: starEach es X.env := by rfl) (hpl : (backTo pos (starEach es X.env)).any (·.1) = false := by rfl) : SE X W (.Call (.Name "list" p) (e :: es) [] pos) (dCB nLst ts) := se_ct call_list_of L_lst hg hm (by decide +kernel) ha (he := he) (hpl := hpl)
theorem se_listH (hm : X.mg "list" = none) (ha : SA X W (e :: es) ts) (hg : Gl X "list" := by rfl) (he : starEach (e :: es) X.env = (false, eval e X.env) :: starEach es X.env := by rfl) (hpl : (backTo pos (starEach es X.env)).any (·.1) = false := by rfl) : SE X W (.Call (.Name "list" p) (e :: es) [] pos) (dCB nLstH ts) := se_ct call_list_of L_lstH hg hm (by decide +kernel) ha (he := he) (hpl := hpl)
theorem se_intc (hm : X.mg "int" = none) (ha : SA X W (e :: es) ts) (hg : Gl X "int" := by rfl) (he : starEach (e :: es) X.env = (false, eval e X.env) :: starEach es X.env := by rfl) (hpl : (backTo pos (starEach es X.env)).any (·.1) = false := by rfl) : SE X W (.Call (.Name "int" p) (e :: es) [] pos) (dCB nInt ts) := se_ct call_int1 L_int hg hm (by decide +kernel) ha (he := he) (hpl := hpl)
theorem se_strc (hm : X.mg "str" = none) (ha : SA X W (e :: es) ts) (hg : Gl X "str" := by rfl) (he : starEach (e :: es) X.env = (false, eval e X.env) :: starEach es X.env := by rfl) (hpl : (backTo pos (starEach es X.env)).any (·.1) = false := by rfl) : SE X W (.Call (.Name "str" p) (e :: es) [] pos) (dCB nStr ts) := se_ct call_str_int L_str hg hm (by decide +kernel) ha (he := he) (hpl := hpl)
theorem se_abs (hm : X.mg "abs" = none) (ha : SA X W (e :: es) ts) (hg : Gl X "abs" := by rfl) (he : starEach (e :: es) X.env = (false, eval e X.env) :: starEach es X.env := by rfl) (hpl : (backTo pos (starEach es X.env)).any (·.1) = false := by rfl) : SE X W (.Call (.Name "abs" p) (e :: es) [] pos) (dCB nAbs ts) := se_cb call_abs L_abs hg hm (by decide +kernel) ha (he := he) (hpl := hpl)
theorem se_max2 (hc : X.calm = true) (hm : X.mg "max" = none) (ha : SA X W (e :: es) ts) (hg : Gl X "max" := by rfl) (he : starEach (e :: es) X.env = (false, eval e X.env) :: starEach es X.env := by rfl) (hpl : (backTo pos (starEach es X.env)).any (·.1) = false := by rfl) : SE X W (.Call (.Name "max" p) (e :: es) [] pos) (dCB (nI2 fun i j => if j > i then j else i) ts) := se_cb (call_max2 hc) L_I2 hg hm (by decide +kernel) ha (he := he) (hpl := hpl)
theorem se_min2 (hc : X.calm = true) (hm : X.mg "min" = none) (ha : SA X W (e :: es) ts) (hg : Gl X "min" := by rfl) (he : starEach (e :: es) X.env = (false, eval e X.env) :: starEach es X.env := by rfl) (hpl : (backTo pos (starEach es X.env)).any (·.1) = false := by rfl) : SE X W (.Call (.Name "min" p) (e :: es) [] pos) (dCB (nI2 fun i j => if j < i then j else i) ts) := se_cb (call_min2 hc) L_I2 hg hm (by decide +kernel) ha (he := he) (hpl := hpl)
theorem se_sum (hc : X.calm = true) (hm : X.mg "sum" = none) (ha : SA X W (e :: es) ts) (hg : Gl X "sum" := by rfl) (he : starEach (e :: es) X.env = (false, eval e X.env) :: starEach es X.env := by rfl) (hpl : (backTo pos (starEach es X.env)).any (·.1) = false := by rfl) : SE X W (.Call (.Name "sum" p) (e :: es) [] pos) (dCB nSum ts) := se_cb (cr_sum hc) L_sum hg hm (by decide +kernel) ha (he := he) (hpl := hpl)
theorem se_all (hc : X.calm = true) (hm : X.mg "all" = none) (ha : SA X W (e :: es) ts) (hg : Gl X "all" := by rfl) (he : starEach (e :: es) X.env = (false, eval e X.env) :: starEach es X.env := by rfl) (hpl : (backTo pos (starEach es X.env)).any (·.1) = false := by rfl) : SE X W (.Call (.Name "all" p) (e :: es) [] pos) (dCB nAll ts) := se_cb (cr_all hc) L_all hg hm (by decide +kernel) ha (he := he) (hpl := hpl)
theorem se_any (hc : X.calm = true) (hm : X.mg "any" = none) (ha : SA X W (e :: es) ts) (hg : Gl X "any" := by rfl) (he : starEach (e :: es) X.env = (false, eval e X.env) :: starEach es X.env := by rfl) (hpl : (backTo pos (starEach es X.env)).any (·.1) = false := by rfl) : SE X W (.Call (.Name "any" p) (e :: es) [] pos) (dCB nAny ts) := se_cb (cr_any hc) L_any hg hm (by decide +kernel) ha (he := he) (hpl := hpl)
theorem se_max1 (hc : X.calm = true) (hm : X.mg "max" = none) (ha : SA X W (e :: es) ts) (hg : Gl X "max" := by rfl) (he : starEach (e :: es) X.env = (false, eval e X.env) :: starEach es X.env := by rfl) (hpl : (backTo pos (starEach es X.env)).any (·.1) = false := by rfl) : SE X W (.Call (.Name "max" p) (e :: es) [] pos) (dCB nMax ts) := se_cb (cr_max hc) L_max hg hm (by decide +kernel) ha (he := he) (hpl := hpl)
theorem se_min1 (hc : X.calm = true) (hm : X.mg "min" = none) (ha : SA X W (e :: es) ts) (hg : Gl X "min" := by rfl) (he : starEach (e :: es) X.env = (false, eval e X.env) :: starEach es X.env := by rfl) (hpl : (backTo pos (starEach es X.env)).any (·.1) = false := by rfl) : SE X W (.Call (.Name "min" p) (e :: es) [] pos) (dCB nMin ts) := se_cb (cr_min hc) L_min hg hm (by decide +kernel) ha (he := he) (hpl := hpl)
/-! ### what range walks -/
variable {a b : Expr}
theorem si_range1 (hm : X.mg "range" = none) (ha : SA X W [a] ts) {tg : Expr} (hg : Gl X "range" := by rfl) (hs : starEach [a] X.env = [(false, eval a X.env)] := by rfl) : SI X W tg (.Call (.Name "range" p) [a] [] pos) (iR1 ts) :=
  PI.imp (pi_range1 hg hm ha hs) fun σ H R w => by
    obtain ⟨ρ, σd, h, Xd, Qd, hr, sr, w, kx, k⟩ := w
    refine ⟨ρ, σd, h, Xd, _, hr, sr, w, kx, fun ρ1 ds h1 vs H1 e1 hr1 dvs q => ?_⟩
    obtain ⟨j, rfl, hj, q⟩ := q
    obtain ⟨v, rfl, dv⟩ := dvs.un
    have ev : v = .int j := dv
    subst ev
    exact ⟨j, rfl, hj.2.2.1, hj.2.2.2, k ρ1 _ _ h1 _ H1 e1 hr1 it_range q⟩
theorem si_range2 (hm : X.mg "range" = none) (ha : SA X W [a, b] ts) {tg : Expr} (hg : Gl X "range" := by rfl) (hs : starEach [a, b] X.env = [(false, eval a X.env), (false, eval b X.env)] := by rfl) (hs2 : starEach [b] X.env = [(false, eval b X.env)] := by rfl) : SI X W tg (.Call (.Name "range" p) [a, b] [] pos) (iR2 ts) :=
  PI.imp (pi_range2 hg hm ha hs hs2) fun σ H R w => by
    obtain ⟨ρ, σd, h, Xd, Qd, hr, sr, w, kx, k⟩ := w
    refine ⟨ρ, σd, h, Xd, _, hr, sr, w, kx, fun ρ1 ds h1 vs H1 e1 hr1 dvs q => ?_⟩
    obtain ⟨i, j, rfl, hj, q⟩ := q
    obtain ⟨v, v', rfl, d1, d2⟩ := dvs.bi
    have e1' : v = .int i := d1
    have e2' : v' = .int j := d2
    subst e1' e2'
    exact ⟨i, j, rfl, hj, k ρ1 _ _ h1 _ H1 e1 hr1 it_range q⟩

/-! ### methods of built-in types -/
abbrev DM := D → List D → DHp → DK → Prop
def LMok (K : PySem.W.Frag) (op : DM) (r : V → List V → Hp → VK → Prop) : Prop := ∀ ρ h H x xs v vs Qd Q, HR K ρ h H → DV K ρ H x v → DVs K ρ H xs vs → op x xs h Qd →
  (∀ ρ' d h' v H', Ext ρ H ρ' H' → HR K ρ' h' H' → DV K ρ' H' d v → Qd d h' → Q v H') → r v vs H Q
/-- of the type T -/
def tyM (T : String) (h : DHp) (d : D) : Prop := (T = "list" ∧ ∃ l, asL h d = some l) ∨ (T = "str" ∧ ∃ z, d = .str z) ∨ (T = "int" ∧ ∃ i, d = .int i)
theorem tyM_at {K : PySem.W.Frag} {ρ : List Addr} {h : DHp} {H : Hp} {T : String} {d : D} {v : V} (hr : HR K ρ h H) (dv : DV K ρ H d v) (t : tyM T h d) : tyV K T v H := by
  rcases t with ⟨rfl, l, e⟩ | ⟨rfl, z, rfl⟩ | ⟨rfl, i, rfl⟩
  · obtain ⟨a, vs, rfl, hq, _⟩ := asL_at hr dv e
    exact .inl ⟨rfl, vs, hq⟩
  · have ev : v = .str z := dv
    subst ev; exact rfl
  · have ev : v = .int i := dv
    subst ev; exact rfl
def dBM (T : String) (op : DM) (dd : DE) (ts : DA) : DE := fun σ h X Q => dd σ h X fun x h1 => tyM T h1 x ∧ ts σ h1 X fun xs h2 => op x xs h2 Q
def dBM0 (T : String) (op : DM) (dd : DE) : DE := fun σ h X Q => dd σ h X fun x h1 => tyM T h1 x ∧ op x [] h1 Q
section
variable {o : Expr} {dd : DE} {name : Str} {apos cpos : Pos} {T id : String} {r : V → List V → Hp → VK → Prop} {op : DM}
theorem se_bm0 (pa : PlainAttrs T) (slot : Slot T name id) (hty : typeOf (.builtin id) = pure (.type "method_descriptor")) (hm : MtR X id r) (L : LMok X.K op r) (ho : SE X W o dd)
    (hbase : attributeBase o name X.env (eval o X.env) = eval o X.env := by rfl) (hline : (apos.endLine == cpos.line) = true := by rfl) : SE X W (.Call (.Attribute o name apos) [] [] cpos) (dBM0 T op dd) := PE.imp (pe_bm0 pa slot hty hm ho hbase hline) fun σ H Q w => by
  obtain ⟨ρ, σd, h, Xd, Qd, hr, sr, w, kx, k⟩ := w
  refine ⟨ρ, σd, h, Xd, _, hr, sr, w, kx, fun ρ1 d h1 v H1 e1 hr1 dv q => ⟨tyM_at hr1 dv q.1, ?_⟩⟩
  exact L ρ1 h1 H1 d [] v [] Qd Q hr1 dv rfl q.2 fun ρ' d h' v H' e => k ρ' d h' v H' (e1.trans e)
theorem se_bm (pa : PlainAttrs T) (slot : Slot T name id) (hty : typeOf (.builtin id) = pure (.type "method_descriptor")) (hm : MtR X id r) (L : LMok X.K op r) (ho : SE X W o dd) (ha : SA X W (e :: es) ts)
    (hbase : attributeBase o name X.env (eval o X.env) = eval o X.env := by rfl)
    (hfew : ((backTo cpos (starEach (e :: es) X.env)).all (fun x => !x.1) && (backToKw cpos (keywordEach [] X.env)).all (fun x => x.1.isSome)
      && decide ((e :: es).length + ([] : List Keyword).length + (if ([] : List Keyword).isEmpty then 0 else 1) < 30)) = true := by rfl)
    (hline : (apos.endLine == cpos.line) = true := by rfl) (hs : starEach (e :: es) X.env = (false, eval e X.env) :: starEach es X.env := by rfl) (hplain : (backTo cpos (starEach es X.env)).any (·.1) = false := by rfl) :
    SE X W (.Call (.Attribute o name apos) (e :: es) [] cpos) (dBM T op dd ts) := PE.imp (pe_bm pa slot hty hm ho ha hbase hfew hline hs hplain) fun σ H Q w => by
  obtain ⟨ρ, σd, h, Xd, Qd, hr, sr, w, kx, k⟩ := w
  refine lE.go hr sr w kx fun ρ1 d h1 v H1 e1 hr1 sr1 kx1 dv q => ⟨tyM_at hr1 dv q.1, ?_⟩
  refine lA.go hr1 sr1 q.2 kx1 fun ρ2 ds h2 vs H2 e2 hr2 sr2 kx2 dvs q2 => ?_
  exact L ρ2 h2 H2 d ds v vs Qd Q hr2 (dv.ext e2) dvs q2 fun ρ' d h' v H' e => k ρ' d h' v H' ((e1.trans e2).trans e)
end
section
variable {K : PySem.W.Frag}
def mApp : DM := fun x xs h Q => ∃ i l y, x = .ref i ∧ xs = [y] ∧ h[i]? = some (.lst l) ∧ l.length < sizeLine ∧ Q .non (h.set i (.lst (l ++ [y])))
theorem L_app : LMok K mApp rAppend := by
  intro ρ h H x xs v vs Qd Q hr dx dvs w k
  obtain ⟨i, l, y, rfl, rfl, hi, hz, q⟩ := w
  obtain ⟨u, rfl, du⟩ := dvs.un
  obtain ⟨a, ws, rfl, hj, hH, dl⟩ := ref_lst hr dx hi
  obtain ⟨a1, a2⟩ := write_lst hr hj (dl.append (.one du))
  exact ⟨a, ws, u, rfl, rfl, hH, by rw [dl.length]; exact hz, k ρ .non _ _ _ a2 a1 rfl q⟩
def mPop : DM := fun x xs h Q => ∃ i l y, x = .ref i ∧ xs = [] ∧ h[i]? = some (.lst l) ∧ l[l.length - 1]? = some y ∧ Q y (h.set i (.lst l.dropLast))
theorem DVs.dropLast {ρ : List Addr} {H : Hp} {l : List D} {vs : List V} (d : DVs K ρ H l vs) : DVs K ρ H l.dropLast vs.dropLast := by
  rw [List.dropLast_eq_take, List.dropLast_eq_take, d.length]; exact d.take _
theorem DVs.eraseIdx {ρ : List Addr} {H : Hp} {l : List D} {vs : List V} (n : Nat) (d : DVs K ρ H l vs) : DVs K ρ H (l.eraseIdx n) (vs.eraseIdx n) := by
  rw [List.eraseIdx_eq_take_drop_succ, List.eraseIdx_eq_take_drop_succ]; exact (d.take _).append (d.drop _)
theorem L_pop : LMok K mPop rPop := by
  intro ρ h H x xs v vs Qd Q hr dx dvs w k
  obtain ⟨i, l, y, rfl, rfl, hi, hy, q⟩ := w
  have ev : vs = [] := dvs
  subst ev
  obtain ⟨a, ws, rfl, hj, hH, dl⟩ := ref_lst hr dx hi
  obtain ⟨u, hu, du⟩ := dl.get hy
  obtain ⟨a1, a2⟩ := write_lst hr hj dl.dropLast
  exact ⟨a, ws, u, rfl, rfl, hH, by rw [dl.length]; exact hu, k ρ y _ _ _ a2 a1 (du.ext a2) q⟩
def mPopAt : DM := fun x xs h Q => ∃ i l j n y, x = .ref i ∧ xs = [.int j] ∧ h[i]? = some (.lst l) ∧ -(2 ^ 63) ≤ j ∧ j < 2 ^ 63 ∧ seqIndex? j l.length = some n ∧ l[n]? = some y ∧ Q y (h.set i (.lst (l.eraseIdx n)))
theorem L_popAt : LMok K mPopAt rPopAt := by
  intro ρ h H x xs v vs Qd Q hr dx dvs w k
  obtain ⟨i, l, j, n, y, rfl, rfl, hi, b1, b2, hn, hy, q⟩ := w
  obtain ⟨u', rfl, du'⟩ := dvs.un
  have ev : u' = .int j := du'
  subst ev
  obtain ⟨a, ws, rfl, hj, hH, dl⟩ := ref_lst hr dx hi
  obtain ⟨u, hu, du⟩ := dl.get hy
  obtain ⟨a1, a2⟩ := write_lst hr hj (dl.eraseIdx n)
  exact ⟨a, ws, j, n, u, rfl, rfl, hH, b1, b2, by rw [dl.length]; exact hn, hu, k ρ y _ _ _ a2 a1 (du.ext a2) q⟩
def mExt : DM := fun x xs h Q => ∃ i l y m, x = .ref i ∧ xs = [y] ∧ h[i]? = some (.lst l) ∧ asX h y = some m ∧ l.length + m.length ≤ sizeLine ∧ Q .non (h.set i (.lst (l ++ m)))
theorem L_ext : LMok K mExt rExtend := by
  intro ρ h H x xs v vs Qd Q hr dx dvs w k
  obtain ⟨i, l, y, m, rfl, rfl, hi, hm, hz, q⟩ := w
  obtain ⟨u, rfl, du⟩ := dvs.un
  obtain ⟨a, ws, rfl, hj, hH, dl⟩ := ref_lst hr dx hi
  obtain ⟨b, us, rfl, hB, dm⟩ := asX_at hr du hm
  obtain ⟨a1, a2⟩ := write_lst hr hj (dl.append dm)
  exact ⟨a, b, ws, us, rfl, rfl, hH, hB, by rw [dl.length, dm.length]; exact hz, k ρ .non _ _ _ a2 a1 rfl q⟩
end
theorem se_append {o : Expr} {dd : DE} {apos : Pos} (ho : SE X W o dd) (ha : SA X W (e :: es) ts) (hbase : attributeBase o "append" X.env (eval o X.env) = eval o X.env := by rfl)
    (hfew : ((backTo pos (starEach (e :: es) X.env)).all (fun x => !x.1) && (backToKw pos (keywordEach [] X.env)).all (fun x => x.1.isSome)
      && decide ((e :: es).length + ([] : List Keyword).length + (if ([] : List Keyword).isEmpty then 0 else 1) < 30)) = true := by rfl)
    (hline : (apos.endLine == pos.line) = true := by rfl) (hs : starEach (e :: es) X.env = (false, eval e X.env) :: starEach es X.env := by rfl) (hplain : (backTo pos (starEach es X.env)).any (·.1) = false := by rfl) :
    SE X W (.Call (.Attribute o "append" apos) (e :: es) [] pos) (dBM "list" mApp dd ts) := se_bm PySem.F.plainAttrs_list PySem.F.slot_list_append PySem.F.type_list_append mt_append L_app ho ha hbase hfew hline hs hplain
/-- n.bit_length() -/
def dBits (dd : DE) : DE := fun σ h X Q => dd σ h X fun x h1 => ∃ i, x = .int i ∧ Q (.int (Builtin.Int.intBits i : Nat)) h1
theorem se_bits {o : Expr} {dd : DE} {apos : Pos} (ho : SE X W o dd) (hbase : attributeBase o "bit_length" X.env (eval o X.env) = eval o X.env := by rfl) (hline : (apos.endLine == pos.line) = true := by rfl) :
    SE X W (.Call (.Attribute o "bit_length" apos) [] [] pos) (dBits dd) := PE.imp (pe_bits ho hbase hline) fun σ H Q w => by
  obtain ⟨ρ, σd, h, Xd, Qd, hr, sr, w, kx, k⟩ := w
  refine ⟨ρ, σd, h, Xd, _, hr, sr, w, kx, fun ρ1 d h1 v H1 e1 hr1 dv q => ?_⟩
  obtain ⟨i, rfl, q⟩ := q
  exact ⟨i, dv, k ρ1 (.int (Builtin.Int.intBits i : Nat)) h1 _ H1 e1 hr1 rfl q⟩

/-! ### slices -/
abbrev DO := DSt → DHp → DX → (Option Int → DHp → Prop) → Prop
def lO (K : PySem.W.Frag) (W : WX) (t : DO) : TO := fun σ H Q => ∃ ρ σd h Xd Qd, HR K ρ h H ∧ SR K ρ H σd σ ∧ t σd h Xd Qd ∧ XW K W ρ H σd σ Xd ∧
  ∀ ρ' o h' H', Ext ρ H ρ' H' → HR K ρ' h' H' → Qd o h' → Q o H'
abbrev SO (X : Cx) (W : WX) (o : Option Expr) (t : DO) : Prop := PO X o (lO X.K W t)
theorem PO.imp {o : Option Expr} {t t' : TO} (h : PO X o t) (i : ∀ σ H Q, t' σ H Q → t σ H Q) : PO X o t' := ⟨fun pins s σ H Q I w => h.run pins s σ H Q I (i σ H Q w)⟩
def oNon : DO := fun _ h _ Q => Q none h
def oSome (de : DE) : DO := fun σ h X Q => de σ h X fun d h1 => ∃ i, d = .int i ∧ Q (some i) h1
theorem so_none : SO X W none oNon := PO.imp po_none fun σ H Q w => by
  obtain ⟨ρ, σd, h, Xd, Qd, hr, sr, w, kx, k⟩ := w
  exact k ρ none h H .refl hr w
theorem so_some {de : DE} (he : SE X W e de) : SO X W (some e) (oSome de) := PO.imp (po_some he) fun σ H Q w => by
  obtain ⟨ρ, σd, h, Xd, Qd, hr, sr, w, kx, k⟩ := w
  refine ⟨ρ, σd, h, Xd, _, hr, sr, w, kx, fun ρ1 d h1 v H1 e1 hr1 dv q => ?_⟩
  obtain ⟨i, rfl, q⟩ := q
  exact ⟨i, dv, k ρ1 (some i) h1 H1 e1 hr1 q⟩
def cutD (l : List D) (lo hi : Option Int) : List D := (l.drop (HT.sIx l.length 0 lo)).take (HT.sIx l.length l.length hi - HT.sIx l.length 0 lo)
theorem DVs.cut' {K : PySem.W.Frag} {ρ : List Addr} {H : Hp} {l : List D} {vs : List V} (d : DVs K ρ H l vs) (lo hi : Option Int) : DVs K ρ H (cutD l lo hi) (cutV vs lo hi) := by
  unfold cutD cutV
  rw [d.length]
  exact (d.drop _).take _
/-- x[lo:hi]: a list (not to be changed), a tuple -/
def dSl (dd : DE) (tl th : DO) : DE := fun σ h X Q => dd σ h X fun x h1 => tl σ h1 X fun lo h2 => th σ h2 X fun hi h3 => match x with
  | .tup l => Q (.tup (cutD l lo hi)) h3
  | x => ∃ l, asL h3 x = some l ∧ Q (.lst (cutD l lo hi)) h3
def dSlH (dd : DE) (tl th : DO) : DE := fun σ h X Q => dd σ h X fun x h1 => tl σ h1 X fun lo h2 => th σ h2 X fun hi h3 => ∃ l, asL h3 x = some l ∧ Q (.ref h3.length) (h3 ++ [.lst (cutD l lo hi)])
end
end L2.MW

/-! MW, part G: slices, isinstance, contracts of defs. -/
namespace L2.MW
open PySem PySem.Spec PyProof.Rows
section
variable {X : Cx} {W : WX} {pos p p2 : Pos} {e : Expr} {es : List Expr} {ts : DA} {lo hi : Option Expr} {de : DE} {tl th : DO}
/-! ### slices -/
theorem sl_go {K : PySem.W.Frag} {r : V → Option Int → Option Int → Hp → VK → Prop} {f : D → Option Int → Option Int → DHp → DK → Prop} {σ : St} {H : Hp} {Q : VK}
    (L : ∀ ρ h H x v l u Qd Q, HR K ρ h H → DV K ρ H x v → f x l u h Qd → (∀ ρ' d h' v H', Ext ρ H ρ' H' → HR K ρ' h' H' → DV K ρ' H' d v → Qd d h' → Q v H') → r v l u H Q)
    (w : lE K W (fun σ h X Q => de σ h X fun x h1 => tl σ h1 X fun l h2 => th σ h2 X fun u h3 => f x l u h3 Q) σ H Q) : tSl r (lE K W de) (lO K W tl) (lO K W th) σ H Q := by
  obtain ⟨ρ, σd, h, Xd, Qd, hr, sr, w, kx, k⟩ := w
  refine lE.go hr sr w kx fun ρ1 d1 h1 v1 H1 e1 hr1 sr1 kx1 dv1 w1 => ?_
  refine ⟨ρ1, σd, h1, Xd, _, hr1, sr1, w1, kx1, fun ρ2 l h2 H2 e2 hr2 w2 => ?_⟩
  refine ⟨ρ2, σd, h2, Xd, _, hr2, sr1.ext e2, w2, kx1.ext e2, fun ρ3 u h3 H3 e3 hr3 w3 => ?_⟩
  exact L ρ3 h3 H3 d1 v1 l u Qd Q hr3 (dv1.ext (e2.trans e3)) w3 fun ρ' d h' v H' e => k ρ' d h' v H' ((e1.trans (e2.trans e3)).trans e)
theorem se_slice (he : SE X W e de) (hl : SO X W lo tl) (hu : SO X W hi th) : SE X W (.Subscript e (.Slice lo hi none p2) pos) (dSl de tl th) := PE.imp (pe_slice (sl_tupA.or sl_list) he hl hu) fun σ H Q w => by
  refine sl_go (f := fun x lo hi h3 Q => match x with | .tup l => Q (.tup (cutD l lo hi)) h3 | x => ∃ l, asL h3 x = some l ∧ Q (.lst (cutD l lo hi)) h3) (fun ρ h H x v l u Qd Q hr dx w k => ?_) w
  have lists : (∃ m, asL h x = some m ∧ Qd (.lst (cutD m l u)) h) → rSlA X.K v l u H Q ∨ rSlL X.K v l u H Q := by
    rintro ⟨m, em, q⟩
    obtain ⟨a, vs, rfl, hq, dvs⟩ := asL_at hr dx em
    exact .inr ⟨a, vs, rfl, hq, fun p np => k ρ _ h _ _ (.new1 np) (hr.new1 np) (.lstNew hr np (dvs.cut' l u)) q⟩
  cases x with
  | tup m =>
    have dx' := dx
    obtain ⟨a, vs, rfl, h1, dvs⟩ := dx
    refine .inl ⟨a, vs, rfl, h1.sq, fun hw => ?_, fun _ p np => k ρ _ h _ _ (.new1 np) (hr.new1 np) (.tupNew hr np (dvs.cut' l u)) w⟩
    have ec : cutD m l u = m := by
      unfold cutD
      rw [dvs.length] at hw
      rw [hw.1, hw.2, List.drop_zero, Nat.sub_zero, List.take_length]
    have w' : Qd (.tup (cutD m l u)) h := w
    rw [ec] at w'
    exact k ρ (.tup m) h _ H .refl hr dx' w'
  | lst _ => exact lists w
  | fz _ => exact lists w
  | ref _ => exact lists w
  | non => exact lists w
  | bl _ => exact lists w
  | int _ => exact lists w
  | str _ => exact lists w
  | obj _ _ => exact lists w
  | ty _ => exact lists w
  | cls _ => exact lists w
  | exn _ _ _ _ => exact lists w
theorem se_sliceH (he : SE X W e de) (hl : SO X W lo tl) (hu : SO X W hi th) : SE X W (.Subscript e (.Slice lo hi none p2) pos) (dSlH de tl th) := PE.imp (pe_slice sl_list he hl hu) fun σ H Q w => by
  refine sl_go (f := fun x lo hi h3 Q => ∃ l, asL h3 x = some l ∧ Q (D.ref h3.length) (h3 ++ [HB.lst (cutD l lo hi)])) (fun ρ h H x v l u Qd Q hr dx w k => ?_) w
  obtain ⟨m, em, q⟩ := w
  obtain ⟨a, vs, rfl, hq, dvs⟩ := asL_at hr dx em
  refine ⟨a, vs, rfl, hq, fun p np => ?_⟩
  obtain ⟨a1, a2⟩ := push_lst hr np (dvs.cut' l u)
  exact k _ _ _ _ _ (.push np) a1 a2 q

/-! ### isinstance -/
def tys : List String := ["NoneType", "bool", "int", "str", "tuple", "list"]
def tyD (h : DHp) : D → Option D
  | .non => some (.ty "NoneType")
  | .bl _ => some (.ty "bool")
  | .int _ => some (.ty "int")
  | .str _ => some (.ty "str")
  | .tup _ => some (.ty "tuple")
  | .lst _ => some (.ty "list")
  | .fz _ => some (.ty "list")
  | .ref i => (match h[i]? with
    | some (.lst _) => some (.ty "list")
    | some (.ins c _) => some (.cls c)
    | none => none)
  | .obj c _ => some (.cls c)
  | _ => none
def isaD (cs : List String) : D → D → Option Bool
  | .ty a, .ty b => if a ∈ tys ∧ b ∈ tys then some (a == b || (a == "bool" && b == "int")) else none
  | .ty a, .cls c => if a ∈ tys ∧ c ∈ cs then some false else none
  | .cls c, .ty b => if c ∈ cs ∧ b ∈ tys then some false else none
  | .cls c, .cls c' => if c ∈ cs ∧ c' ∈ cs then some (c == c') else none
  | _, _ => none
def isaAny (cs : List String) (t : D) : List D → Option Bool
  | [] => some false
  | c :: r => match isaD cs t c with
    | some true => some true
    | some false => isaAny cs t r
    | none => none
def clsVal (K : PySem.W.Frag) : D → Value
  | .ty n => .type n
  | .cls c => .ref (He.ga K (Str.ofString c))
  | _ => .none
/-- what the written part says of the plain classes -/
def kitFB (K : PySem.W.Frag) (cs : List String) : Bool :=
  cs.all fun c => (He.Fa.cls (Str.ofString c)).ok K && (decide (PySem.W.findIn K (.ref (He.ga K (Str.ofString c))) "__class__" = some (some (.builtin "object.__class__"))) &&
    (decide (PySem.W.specialIn K (.builtin "object.__class__") "__get__" = some (some (.builtin "getset_descriptor.__get__"))) && (decide (PySem.W.takesIn K (.builtin "object.__class__") = some true) &&
    (decide (PySem.W.mroIn K (He.ga K (Str.ofString c)) (.type "object") = some true) &&
    (tys.all (fun n => decide (PySem.W.kitOne K (.ref (He.ga K (Str.ofString c))) (.type n) = some false) && decide (PySem.W.kitOne K (.type n) (.ref (He.ga K (Str.ofString c))) = some false)) &&
    cs.all fun c' => decide (PySem.W.kitOne K (.ref (He.ga K (Str.ofString c))) (.ref (He.ga K (Str.ofString c'))) = some (c == c')))))))
structure KitF (K : PySem.W.Frag) (cs : List String) : Prop where
  ok : kitFB K cs = true
theorem kit_tys : ∀ a ∈ tys, ∀ b ∈ tys, kitB a b = some (a == b || (a == "bool" && b == "int")) := by decide +kernel
theorem isaD_ok {K : PySem.W.Frag} {cs : List String} (F : KitF K cs) {t c : D} {b : Bool} (h : isaD cs t c = some b) : PySem.W.kitOne K (clsVal K t) (clsVal K c) = some b := by
  have F' := List.all_eq_true.mp F.ok
  cases t with
  | ty a =>
    cases c with
    | ty n =>
      have h' : (if a ∈ tys ∧ n ∈ tys then some (a == n || (a == "bool" && n == "int")) else none) = some b := h
      split at h'
      · rename_i z
        exact kit_ty ((kit_tys a z.1 n z.2).trans h')
      · cases h'
    | cls c =>
      have h' : (if a ∈ tys ∧ c ∈ cs then some false else none) = some b := h
      split at h'
      · rename_i z
        cases h'
        have q := F' c z.2
        simp only [Bool.and_eq_true, List.all_eq_true, decide_eq_true_eq] at q
        exact (q.2.2.2.2.2.1 a z.1).2
      · cases h'
    | _ => cases h
  | cls c0 =>
    cases c with
    | ty n =>
      have h' : (if c0 ∈ cs ∧ n ∈ tys then some false else none) = some b := h
      split at h'
      · rename_i z
        cases h'
        have q := F' c0 z.1
        simp only [Bool.and_eq_true, List.all_eq_true, decide_eq_true_eq] at q
        exact (q.2.2.2.2.2.1 n z.2).1
      · cases h'
    | cls c =>
      have h' : (if c0 ∈ cs ∧ c ∈ cs then some (c0 == c) else none) = some b := h
      split at h'
      · rename_i z
        cases h'
        have q := F' c0 z.1
        simp only [Bool.and_eq_true, List.all_eq_true, decide_eq_true_eq] at q
        exact q.2.2.2.2.2.2 c z.2
      · cases h'
    | _ => cases h
  | _ => cases c <;> cases h
theorem isaAny_ok {K : PySem.W.Frag} {cs : List String} (F : KitF K cs) {t : D} : ∀ {l : List D} {b : Bool}, isaAny cs t l = some b → PySem.W.kitAny K (clsVal K t) (l.map (clsVal K)) = some b
  | [], _, h => h
  | c :: r, b, h => by
    unfold isaAny at h
    cases q : isaD cs t c with
    | none => rw [q] at h; cases h
    | some b1 =>
      rw [q] at h
      refine kitAny_cons (isaD_ok F q) (fun e => ?_) (fun e => ?_)
      · subst e; exact isaAny_ok F h
      · subst e; cases h; rfl
/-- the class of an own instance is one of cs -/
def tyIn (cs : List String) : D → Prop
  | .cls c => c ∈ cs
  | _ => True
theorem tyD_ok {K : PySem.W.Frag} {cs : List String} {ρ : List Addr} {h : DHp} {H : Hp} (F : KitF K cs) (hr : HR K ρ h H) {x t : D} {v : V} (dv : DV K ρ H x v) (e : tyD h x = some t) (ht : tyIn cs t) : TyX K H v (clsVal K t) := by
  have F' := List.all_eq_true.mp F.ok
  have own : ∀ c a dx ws, c ∈ cs → H a = some (.ins (He.ga K (Str.ofString c)) dx ws) → TyX K H (.ref a) (.ref (He.ga K (Str.ofString c))) := fun c a dx ws hc hH => by
    have q := F' c hc
    simp only [Bool.and_eq_true, List.all_eq_true, decide_eq_true_eq] at q
    exact .base (.ins hH (He.cls_ok q.1) q.2.1 q.2.2.1 q.2.2.2.1 q.2.2.2.2.1)
  cases x with
  | non => have z : v = .non := dv; subst z; cases e; exact .base .non
  | bl b => have z : v = .bl b := dv; subst z; cases e; exact .base (.bl b)
  | int i => have z : v = .int i := dv; subst z; cases e; exact .base (.int i)
  | str z => have z : v = .str z := dv; subst z; cases e; exact .base (.str _)
  | tup l =>
    obtain ⟨a, vs, rfl, h1, _⟩ := dv
    cases e
    exact .base (.tup h1.2)
  | lst l => obtain ⟨a, vs, rfl, h1, _⟩ := dv; cases e; exact .base (.lst h1.2)
  | fz l =>
    obtain ⟨a, vs, rfl, h1, _⟩ := dv
    cases e
    rcases h1 with ⟨_, h1 | ⟨o, h1⟩⟩ | ⟨o, its, n, hk, hc, _⟩
    · exact .base (.lst h1)
    · exact .base (.frz h1)
    · exact .kList hk hc
  | ref i =>
    obtain ⟨a, rfl, hi⟩ := dv
    have e' : (match h[i]? with | some (.lst _) => some (D.ty "list") | some (.ins c _) => some (.cls c) | none => none) = some t := e
    cases q : h[i]? with
    | none => rw [q] at e'; cases e'
    | some b =>
      rw [q] at e'
      have z := hr.at_ i b a q hi
      cases b with
      | lst l => obtain ⟨vs, z1, _⟩ := z; cases e'; exact .base (.lst z1)
      | ins c fs => obtain ⟨dx, ws, z1, _⟩ := z; cases e'; exact own c a dx ws ht z1
  | obj c fs =>
    obtain ⟨a, dx, ws, rfl, _, z1, _⟩ := dv
    cases e
    exact own c a dx ws ht z1
  | ty _ => cases e
  | cls _ => cases e
  | exn _ _ _ _ => cases e
def isClsD : D → Prop
  | .ty _ => True
  | .cls _ => True
  | _ => False
def nIsi (cs : List String) : DN := fun ds h Q => ∃ x c t b, ds = [x, c] ∧ tyD h x = some t ∧ tyIn cs t ∧ (match c with
  | .tup l => (∀ y ∈ l, isClsD y) ∧ isaAny cs t l = some b
  | c => isaD cs t c = some b) ∧ Q (.bl b) h
theorem clsD_at {K : PySem.W.Frag} {ρ : List Addr} {H : Hp} {c : D} {v : V} (hc : isClsD c) (dv : DV K ρ H c v) : ClsV v (clsVal K c) := by
  cases c with
  | ty n => have z : v = .ty n := dv; subst z; exact .ty n
  | cls n => have z : v = .ref _ := dv; subst z; exact .own _
  | _ => exact hc.elim
theorem clsDs_at {K : PySem.W.Frag} {ρ : List Addr} {H : Hp} : ∀ {l : List D} {vs : List V}, (∀ y ∈ l, isClsD y) → DVs K ρ H l vs → Paired ClsV vs (l.map (clsVal K))
  | [], _, _, d => by rw [show _ = [] from d]; exact .nil
  | c :: l, _, hc, ⟨v, r, e, d1, d2⟩ => by subst e; exact .cons (clsD_at (hc c List.mem_cons_self) d1) (clsDs_at (fun y hy => hc y (List.mem_cons_of_mem _ hy)) d2)
theorem clsV_vals : ∀ {vs : List V} {us ws : List Value}, Paired ClsV vs us → Vals vs ws → ws = us := ClsV.all
theorem isaD_cls {cs : List String} {t c : D} {b : Bool} (h : isaD cs t c = some b) : isClsD c := by
  cases c with
  | ty _ => trivial
  | cls _ => trivial
  | _ => cases t <;> cases h
theorem L_isi {K : PySem.W.Frag} {cs : List String} (F : KitF K cs) : LNok K (nIsi cs) (fun xs H Q => rIsi K xs H Q ∨ rIsiT K xs H Q) := by
  intro ρ h H xs vs Qd Q hr dvs w k
  obtain ⟨x, c, t, b, rfl, ht, hin, hb, q⟩ := w
  obtain ⟨v, v', rfl, d1, d2⟩ := dvs.bi
  have fin := k ρ (.bl b) h _ H .refl hr rfl q
  have ty := tyD_ok F hr d1 ht hin
  have one : isaD cs t c = some b → rIsi K [v, v'] H Q := fun hb => ⟨v, v', clsVal K t, clsVal K c, b, rfl, clsD_at (isaD_cls hb) d2, ty, isaD_ok F hb, fin⟩
  cases c with
  | tup l =>
    obtain ⟨a, ws, rfl, h1, h2⟩ := d2
    exact .inr ⟨v, a, ws, clsVal K t, l.map (clsVal K), b, rfl, h1.2, clsDs_at hb.1 h2, ty, isaAny_ok F hb.2, fin⟩
  | ty n => exact .inl (one hb)
  | cls n => exact .inl (one hb)
  | non => exact .inl (one hb)
  | bl _ => exact .inl (one hb)
  | int _ => exact .inl (one hb)
  | str _ => exact .inl (one hb)
  | lst _ => exact .inl (one hb)
  | fz _ => exact .inl (one hb)
  | ref _ => exact .inl (one hb)
  | obj _ _ => exact .inl (one hb)
  | exn _ _ _ _ => exact .inl (one hb)
theorem se_isi {cs : List String} (F : KitF X.K cs) (hm : X.mg "isinstance" = none) (ha : SA X W (e :: es) ts) (hg : Gl X "isinstance" := by rfl) (he : starEach (e :: es) X.env = (false, eval e X.env) :: starEach es X.env := by rfl) (hpl : (backTo pos (starEach es X.env)).any (·.1) = false := by rfl) :
    SE X W (.Call (.Name "isinstance" p) (e :: es) [] pos) (dCB (nIsi cs) ts) := se_cb (call_isi.or call_isiT) (L_isi F) hg hm (by decide +kernel) ha (he := he) (hpl := hpl)
/-- a built-in class, an own class as a value -/
theorem se_ty {x : Str} {n : String} (hg : Gl X x) (hm : X.mg x = none) (hv : bootBuiltins x = some (.type n)) (hn : x ≠ "__name__" := by decide) (hd : (x == ("__debug__" : Str)) = false := by decide) : SE X W (.Name x pos) (dC (.ty n)) := se_c (pe_bltn (v := .ty n) hg hm hv rfl hn hd) fun _ _ => rfl
theorem se_cls {c : String} (hm : X.mg (Str.ofString c) = some (.ref (He.ga X.K (Str.ofString c)))) (hg : Gl X (Str.ofString c) := by rfl) (hd : ((Str.ofString c) == ("__debug__" : Str)) = false := by decide) : SE X W (.Name (Str.ofString c) pos) (dC (.cls c)) :=
  se_c (pe_glob (v := .ref (He.ga X.K (Str.ofString c))) hg hm rfl hd) fun _ _ => rfl
end

/-! ### contracts -/
abbrev Ct := List D → DHp → DX → DK → Prop
def spOf (K : PySem.W.Frag) (n : Nat) (c : Ct) : Sp := fun vs H Q E => ∃ ρ ds h Xd Qd, ds.length = n ∧ HR K ρ h H ∧ DVs K ρ H ds vs ∧ c ds h Xd Qd ∧
  (∀ ρ' x h' cls d H', Ext ρ H ρ' H' → HR K ρ' h' H' → ExcAt K ρ' H' x cls d → Xd x h' → E cls d H') ∧
  ∀ ρ' d h' v H', Ext ρ H ρ' H' → HR K ρ' h' H' → DV K ρ' H' d v → Qd d h' → Q v H'
/-- the def that the module calls x keeps the contract c -/
structure FnC (P : Program) (w : World) (K : PySem.W.Frag) (mg : Str → Option Value) (base : Heap) (k : Nat) (x : Str) (n : Nat) (c : Ct) : Prop where
  ex : ∃ f fd ps, ps.length = n ∧ FnOk P w K mg base (L2.CX P w) k f fd ps (spOf K n c) ∧ mg x = some (.ref f) ∧ PySem.W.keepIn K (.ref f) = true ∧ Binds K fd ps []
def dCall (c : Ct) (n : Nat) (ts : DA) : DE := fun σ h X Q => ts σ h X fun ds h1 => ds.length = n ∧ c ds h1 X Q
section
variable {X : Cx} {W : WX} {pos p : Pos} {x : Str} {e : Expr} {es : List Expr} {ts : DA} {c : Ct} {n k : Nat}
theorem se_call (F : FnC X.prog X.w X.K X.mg X.base k x n c) (tk : Takes X W) (hr : Room k X.A) (ha : SA X W (e :: es) ts) (hg : Gl X x := by rfl) (hdb : (x == ("__debug__" : Str)) = false := by decide) (he : starEach (e :: es) X.env = (false, eval e X.env) :: starEach es X.env := by rfl)
    (hpl : (backTo pos (starEach es X.env)).any (·.1) = false := by rfl) : SE X W (.Call (.Name x p) (e :: es) [] pos) (dCall c n ts) := by
  obtain ⟨f, fd, ps, hps, F, hm, hk, hb⟩ := F.ex
  refine PE.imp (pe_callS F hr hg hm hk hb (fun σ => passAt tk σ) ha hdb he hpl) fun σ H Q w => ?_
  obtain ⟨ρ, σd, h, Xd, Qd, hr, sr, w, kx, k⟩ := w
  refine lA.go hr sr w kx fun ρ1 ds h1 vs H1 e1 hr1 sr1 kx1 dvs q => ?_
  exact ⟨ρ1, ds, h1, Xd, Qd, q.1, hr1, dvs, q.2, fun ρ' x h' cls d H' e hr' ea z => kx1 ρ' x h' cls d H' e hr' (sr1.ext e) ea z, fun ρ' d h' v H' e => k ρ' d h' v H' (e1.trans e)⟩
end
/-- what a call leaves: as it is; without the things made last; a list made in it, which will not change any more -/
inductive CutR (h0 : DHp) : D → DHp → D → DHp → Prop
  | keep (d : D) (h : DHp) : CutR h0 d h d h
  | cut (d : D) (g : DHp) : Bd h0.length d → CutR h0 d (h0 ++ g) d h0
  | frz (i : Nat) (l : List D) (g : DHp) : h0.length ≤ i → (h0 ++ g)[i]? = some (.lst l) → Bds h0.length l → CutR h0 (.ref i) (h0 ++ g) (.lst l) h0
def rtC (h0 : DHp) (Q : DK) : DK := fun d h => ∃ d' h', CutR h0 d h d' h' ∧ Q d' h'
def exC (h0 : DHp) (X : DX) : DX := fun x h => X x h ∨ ∃ g, h = h0 ++ g ∧ BdF h0.length x.fs ∧ X x h0
theorem rt_keep {h0 h : DHp} {Q : DK} {d : D} (q : Q d h) : rtC h0 Q d h := ⟨_, _, .keep d h, q⟩
theorem rt_cut {h0 g : DHp} {Q : DK} {d : D} (b : Bd h0.length d) (q : Q d h0) : rtC h0 Q d (h0 ++ g) := ⟨_, _, .cut d g b, q⟩
theorem rt_frz {h0 g : DHp} {Q : DK} {i : Nat} {l : List D} (hi : h0.length ≤ i) (e : (h0 ++ g)[i]? = some (.lst l)) (b : Bds h0.length l) (q : Q (.lst l) h0) : rtC h0 Q (.ref i) (h0 ++ g) := ⟨_, _, .frz i l g hi e b, q⟩
theorem rt_frz0 {h0 g : DHp} {Q : DK} {l : List D} (b : Bds h0.length l) (q : Q (.lst l) h0) : rtC h0 Q (.ref h0.length) (h0 ++ .lst l :: g) := rt_frz (Nat.le_refl _) (by rw [List.getElem?_append_right (Nat.le_refl _), Nat.sub_self]; rfl) b q
def endsD (h0 : DHp) (X : DX) (Q : DK) : DEnds := { nx := fun _ h => rtC h0 Q .non h, rt := rtC h0 Q, ex := fun x _ h => exC h0 X x h, n0 := h0.length }
def startD (N : Nat) (ds : List D) : DSt := ds.map some ++ List.replicate (N - ds.length) none
theorem CutR.at_ {K : PySem.W.Frag} {ρ0 ρ : List Addr} {h0 h h' : DHp} {H0 H : Hp} {d d' : D} {v : V} (c : CutR h0 d h d' h') (hr0 : HR K ρ0 h0 H0) (e : Ext ρ0 H0 ρ H) (hr : HR K ρ h H) (dv : DV K ρ H d v) : ∃ ρ', Ext ρ0 H0 ρ' H ∧ HR K ρ' h' H ∧ DV K ρ' H d' v := by
  cases c with
  | keep => exact ⟨ρ, e, hr, dv⟩
  | cut _ g b =>
    obtain ⟨t, rfl⟩ := e.pre
    exact ⟨ρ0, e.cut, hr.cut hr0.len hr0.bd, DV.cut _ _ (by rw [hr0.len]; exact b) dv⟩
  | frz i l g hi hl b =>
    obtain ⟨t, rfl⟩ := e.pre
    obtain ⟨a, rfl, hj⟩ := dv
    obtain ⟨vs, hH, dvs⟩ := hr.at_ i _ a hl hj
    refine ⟨ρ0, e.cut, hr.cut hr0.len hr0.bd, a, vs, rfl, ⟨fun z => ?_, hH⟩, DVs.cut _ _ (by rw [hr0.len]; exact b) dvs⟩
    have nd := (List.nodup_append.mp hr.nd).2.2
    rw [List.getElem?_append_right (by rw [hr0.len]; exact hi)] at hj
    exact nd a z a (List.mem_of_getElem? hj) rfl
theorem exc_cut {K : PySem.W.Frag} {ρ0 t : List Addr} {H : Hp} {x : Exc} {cls : Value} {d : Option Addr} (b : BdF ρ0.length x.fs) (h : ExcAt K (ρ0 ++ t) H x cls d) : ExcAt K ρ0 H x cls d := by
  obtain ⟨e, dd, ws, e2, n, hH, dfs⟩ := h
  exact ⟨e, dd, ws, e2, out_app n, hH, DFs.cut _ _ b dfs⟩
/-- a body's readings, whatever frame it runs in -/
def BodyC (P : Program) (w : World) (K : PySem.W.Frag) (mg : Str → Option Value) (base : Heap) (N : List Str) (qual : Str) (scope : Scope) (body : List Stmt) (k : Nat) (tb : DS) : Prop :=
  ∀ (f : Addr) (cd : Value) (A : Around) (outer : List Env) (s : Shared) (H : Hp) (E : XK), Room k (A.deeper (envOfC qual scope s.heap.objs.size f cd)) →
    Takes (cxOf (L2.CX P w) P w K mg base N qual scope f cd A outer s H E) (fun cls d _ H' => E cls d H') →
    PassesOwn (model P w) (A.deeper (envOfC qual scope s.heap.objs.size f cd)) (envOfC qual scope s.heap.objs.size f cd) (cxOf (L2.CX P w) P w K mg base N qual scope f cd A outer s H E).xe →
    SS (cxOf (L2.CX P w) P w K mg base N qual scope f cd A outer s H E) (fun cls d _ H' => E cls d H') body tb
theorem start_sr {K : PySem.W.Frag} {ρ : List Addr} {H : Hp} {ds : List D} {vs : List V} {N : List Str} (d : DVs K ρ H ds vs) : SR K ρ H (startD N.length ds) (start N vs) := by
  have hl := d.length
  refine ⟨by unfold startD start; simp [hl], fun i x h => ?_⟩
  unfold startD at h
  unfold start
  by_cases hi : i < ds.length
  · rw [List.getElem?_append_left (by simpa using hi), List.getElem?_map] at h
    cases q : ds[i]? with
    | none => rw [q] at h; cases h
    | some y =>
      rw [q] at h
      have e : y = x := by simpa using h
      subst e
      obtain ⟨v, hv, dv⟩ := d.get q
      exact ⟨v, by rw [List.getElem?_append_left (by rw [List.length_map, hl]; exact hi), List.getElem?_map, hv]; rfl, dv⟩
  · rw [List.getElem?_append_right (by simpa using hi), List.getElem?_replicate] at h
    split at h <;> cases h
theorem fn_ok {P : Program} {w : World} {K : PySem.W.Frag} {mg : Str → Option Value} {base : Heap} {k : Nat} {name qual : Str} {params : Arguments} {body : List Stmt} {scope : Scope} {kws : List (Str × V)} {f : Addr} {fd : FuncData} {N ps : List Str} {c : Ct} {tb : DS}
    (F : FunD K name qual params body scope [] kws f fd) (S : FnScope N ps scope) (hb : BodyC P w K mg base N qual scope body k tb)
    (read : ∀ ds h Xd Q, ds.length = ps.length → c ds h Xd Q → tb (endsD h Xd Q) (startD N.length ds) h) : FnOk P w K mg base (L2.CX P w) (k + 1) f fd ps (spOf K ps.length c) := by
  refine F.ok S (fun vs H Q E h => ?_) (fun cdv A outer s H vs Q E hr h => ?_)
  · obtain ⟨ρ, ds, hp, Xd, Qd, hn, _, dvs, _⟩ := h
    rw [dvs.length]; exact hn
  · obtain ⟨ρ, ds, hp, Xd, Qd, hn, hR, dvs, hc, hx, hq⟩ := h
    refine ⟨_, hb f cdv A outer s H E hr (takes_of rfl rfl rfl rfl) (passes_of rfl), ρ, H, ρ, startD N.length ds, hp, endsD hp Xd Qd, .refl, hR, start_sr dvs, read ds hp Xd Qd hn hc, ⟨hR.len.symm, ?_, ?_, ?_, ?_, ?_⟩⟩
    · intro ρ1 σd h1 σ H1 e1 hr1 sr1 q
      obtain ⟨d', h', cr, q⟩ := q
      obtain ⟨ρ', e', hr', dv'⟩ := cr.at_ hR e1 hr1 (v := .non) rfl
      exact hq ρ' d' h' _ H1 e' hr' dv' q
    · exact fun _ _ _ _ _ _ _ _ z => z.elim
    · exact fun _ _ _ _ _ _ _ _ z => z.elim
    · intro ρ1 d h1 v H1 e1 hr1 dv q
      obtain ⟨d', h', cr, q⟩ := q
      obtain ⟨ρ', e', hr', dv'⟩ := cr.at_ hR e1 hr1 dv
      exact hq ρ' d' h' _ H1 e' hr' dv' q
    · intro ρ1 x σd h1 cls d σ H1 e1 hr1 sr1 ea q
      rcases q with q | ⟨g, rfl, b, q⟩
      · exact hx ρ1 x h1 cls d H1 e1 hr1 ea q
      · obtain ⟨t, rfl⟩ := e1.pre
        exact hx ρ x hp cls d H1 e1.cut (hr1.cut hR.len hR.bd) (exc_cut (by rw [hR.len]; exact b) ea) q
end L2.MW

/-! MW, part H: making, keywords, sorting, in, o[i] op= e, try that is run through. -/
namespace L2.MW
open PySem PySem.Spec PyProof.Rows

/-! ### making -/
/-- the class c of the module: its __init__ keeps the contract ci (of n arguments, the new one first) -/
structure MkC (P : Program) (w : World) (K : PySem.W.Frag) (mg : Str → Option Value) (base : Heap) (k : Nat) (c : String) (n : Nat) (ci : Ct) : Prop where
  ex : ∃ f fd ps, ps.length = n ∧ Mk K (He.ga K (Str.ofString c)) f ∧ FnOk P w K mg base (L2.CX P w) k f fd ps (spOf K n ci) ∧ mg (Str.ofString c) = some (.ref (He.ga K (Str.ofString c))) ∧ Binds K fd ps []
/-- what the contract of an __init__ must leave: the new one alone, its fields without it -/
def mkX (h0 : DHp) (X : DX) : DX := fun x h => ∃ g, h = h0 ++ g ∧ BdF h0.length x.fs ∧ X x h0
def mkQ (c : String) (h0 : DHp) (Q : DK) : DK := fun d h => d = .non ∧ ∃ fs g, h = h0 ++ .ins c fs :: g ∧ BdF h0.length fs ∧ Q (.obj c fs) h0
def dMake (c : String) (ci : Ct) (n : Nat) (ts : DA) : DE := fun σ h X Q => ts σ h X fun ds h1 => ds.length + 1 = n ∧ ci (.ref h1.length :: ds) (h1 ++ [.ins c []]) (mkX h1 X) (mkQ c h1 Q)
section
variable {X : Cx} {W : WX} {pos p : Pos} {x : Str} {e : Expr} {es : List Expr} {ts : DA} {ci : Ct} {n k : Nat} {c : String}
def tMakeS (C : Addr) (sp : Sp) (E : St → XK) (t : TA) : TE := fun σ H Q => t σ H fun vs H1 => ∀ x dx, H1 x = none → H1 dx = none → dx ≠ x →
  sp (.ref x :: vs) (upd (upd H1 dx (.own x)) x (.ins C dx [])) (fun v H2 => v = .non ∧ Q (.ref x) H2) (E σ)
theorem run_makeS {C f : Addr} {fd : FuncData} {ps : List Str} {CX : CXT} {sp : Sp} {E : St → XK} {pins : List (Addr × Obj)} {σ : St} {H : Hp} {s : Shared} {Q : VK} {us : List Value} {vs : List V} (M : Mk X.K C f) (F : FnOk X.prog X.w X.K X.mg X.base CX k f fd ps sp) (hr : Room (k + 1) X.A) (hb : Binds X.K fd ps [])
    (hx : PassesAt CX X σ (E σ)) (I : Inv X pins σ H s) (r : Vals vs us)
    (h : ∀ x dx, H x = none → H dx = none → dx ≠ x → sp (.ref x :: vs) (upd (upd H dx (.own x)) x (.ins C dx [])) (fun v H2 => v = .non ∧ Q (.ref x) H2) (E σ)) :
    wpAny (model X.prog X.w) X.A (call (.ref C) us) (EP X pins σ Q) X.xe s := by
  have hq := h (s.heap.objs.size + 1) s.heap.objs.size (I.hok.fresh (Nat.le_succ _)) (I.hok.fresh (Nat.le_refl _)) (Nat.ne_of_lt (Nat.lt_succ_self _))
  have I2 := Inv.made (C := C) I
  have r2 : Vals (V.ref (s.heap.objs.size + 1) :: vs) (Value.ref (s.heap.objs.size + 1) :: us) := .cons rfl r
  have hl : (Value.ref (s.heap.objs.size + 1) :: us).length = ps.length := by
    have e := r2.length
    rw [F.len _ _ _ _ hq] at e
    exact e.symm
  have b := hb { s with heap := (s.heap.push PySem.W.emptyDict).push (PySem.W.instObj C s.heap.objs.size) } (Value.ref (s.heap.objs.size + 1) :: us) I2.kIn (by rw [List.append_nil]; exact hl)
  rw [List.append_nil] at b
  refine wpAny_call (make_map (f := f) I.kIn M.makes M.init (beq_iff_eq.mp M.fn) (codeAny_mono (F.run _ X.stack _ _ ⟨Value.ref (s.heap.objs.size + 1) :: us, []⟩ (Value.ref (s.heap.objs.size + 1) :: us) _ _ (E σ) (hr.make C us [])
    (I2.env0.make C us []) b r2 hq) fun r s' hq' => ?_))
  cases r with
  | error e => exact hx pins _ _ e s' I2 hq'
  | ok fl =>
    cases fl with
    | ret u =>
      obtain ⟨v, H', I3, rv, ev, q3⟩ := I2.after hq'
      subst ev
      exact ⟨rv, ⟨V.ref (s.heap.objs.size + 1), H', I3, rfl, q3⟩⟩
    | next => exact False.elim hq'
    | brk => exact False.elim hq'
    | cont => exact False.elim hq'
theorem pe_makeS {C f : Addr} {fd : FuncData} {ps : List Str} {CX : CXT} {sp : Sp} {E : St → XK} {t : TA} (M : Mk X.K C f) (F : FnOk X.prog X.w X.K X.mg X.base CX k f fd ps sp) (hr : Room (k + 1) X.A) (hg : Gl X x) (hm : X.mg x = some (.ref C)) (hb : Binds X.K fd ps []) (hx : ∀ σ, PassesAt CX X σ (E σ))
    (ha : PA X (e :: es) t) (hdb : (x == ("__debug__" : Str)) = false := by decide) (he : starEach (e :: es) X.env = (false, eval e X.env) :: starEach es X.env := by rfl) (hpl : (backTo pos (starEach es X.env)).any (·.1) = false := by rfl) :
    PE X (.Call (.Name x p) (e :: es) [] pos) (tMakeS C sp E t) := by
  refine ⟨fun pins s σ H Q I h => ?_⟩
  refine wpAny_Call_Name_kw (ld_glob I hg hm ?_ hdb)
  refine PySem.W.callWith_K (h₀ := X.base) I.ok.mod.kin M.kp (thn (ha.run pos pins s σ H _ I h) fun us s1 ⟨vs, H1, I1, r, q⟩ => ⟨I1.kIn, ?_⟩) he hpl
  exact run_makeS M F hr hb (hx σ) I1 r q
/-- a new instance among the changing things -/
theorem push_ins {K : PySem.W.Frag} {ρ : List Addr} {h : DHp} {H : Hp} {a dx : Addr} {c : String} (hr : HR K ρ h H) (na : H a = none) (nd : H dx = none) (hne : dx ≠ a) :
    HR K (ρ ++ [a]) (h ++ [.ins c []]) (upd (upd H dx (.own a)) a (.ins (He.ga K (Str.ofString c)) dx [])) ∧ Ext ρ H (ρ ++ [a]) (upd (upd H dx (.own a)) a (.ins (He.ga K (Str.ofString c)) dx [])) ∧ (ρ ++ [a])[h.length]? = some a := by
  have na' : upd H dx (.own a) a = none := by rw [upd_ne (Ne.symm hne)]; exact na
  have e1 : Ext ρ H ρ (upd H dx (.own a)) := .new1 nd
  refine ⟨(hr.new1 nd).push na' ⟨dx, [], upd_same, rfl⟩, e1.trans (.push na'), ?_⟩
  rw [← hr.len, List.getElem?_append_right (Nat.le_refl _), Nat.sub_self]; rfl
theorem mk_end {K : PySem.W.Frag} {ρ0 ρ : List Addr} {h0 : DHp} {H0 H : Hp} {a : Addr} {c : String} {fs : List (Str × D)} {g : DHp} (hr0 : HR K ρ0 h0 H0) (e : Ext ρ0 H0 ρ H) (hr : HR K ρ (h0 ++ .ins c fs :: g) H) (ha : ρ[h0.length]? = some a) (hb : BdF h0.length fs) :
    Ext ρ0 H0 ρ0 H ∧ HR K ρ0 h0 H ∧ DV K ρ0 H (.obj c fs) (.ref a) := by
  obtain ⟨t, rfl⟩ := e.pre
  obtain ⟨dx, ws, hH, dfs⟩ := hr.at_ h0.length (.ins c fs) a (by rw [List.getElem?_append_right (Nat.le_refl _), Nat.sub_self]; rfl) ha
  refine ⟨e.cut, hr.cut hr0.len hr0.bd, a, dx, ws, rfl, fun z => ?_, hH, DFs.cut _ _ (by rw [hr0.len]; exact hb) dfs⟩
  have nd := (List.nodup_append.mp hr.nd).2.2
  rw [← hr0.len, List.getElem?_append_right (Nat.le_refl _)] at ha
  exact nd a z a (List.mem_of_getElem? ha) rfl
theorem mk_go {K : PySem.W.Frag} {σ : St} {H : Hp} {Q : VK} (w : lE K W (dMake c ci n ts) σ H Q) : tMakeS (He.ga K (Str.ofString c)) (spOf K n ci) (WE W) (lA K W ts) σ H Q := by
  obtain ⟨ρ, σd, h, Xd, Qd, hr, sr, w, kx, k⟩ := w
  refine lA.go hr sr w kx fun ρ1 ds h1 vs H1 e1 hr1 sr1 kx1 dvs q => fun a dx na nd hne => ?_
  obtain ⟨p1, p2, p3⟩ := push_ins (c := c) hr1 na nd hne
  refine ⟨ρ1 ++ [a], .ref h1.length :: ds, h1 ++ [.ins c []], _, _, by rw [List.length_cons]; exact q.1, p1, ⟨_, _, rfl, ⟨a, rfl, p3⟩, DVs.ext p2 _ _ dvs⟩, q.2, ?_, ?_⟩
  · intro ρ' x h' cls d H' e' hr' ea z
    obtain ⟨g, rfl, b, z⟩ := z
    have e2 := p2.trans e'
    obtain ⟨t, rfl⟩ := e2.pre
    exact kx1 ρ1 x h1 cls d H' e2.cut (hr'.cut hr1.len hr1.bd) (sr1.ext e2.cut) (exc_cut (by rw [hr1.len]; exact b) ea) z
  · intro ρ' d h' v H' e' hr' dv z
    obtain ⟨rfl, fs, g, rfl, b, z⟩ := z
    have e2 := p2.trans e'
    obtain ⟨a1, a2, a3⟩ := mk_end hr1 e2 hr' (e'.get p3) b
    exact ⟨dv, k ρ1 _ h1 _ H' (e1.trans a1) a2 a3 z⟩
theorem se_make (M : MkC X.prog X.w X.K X.mg X.base k c n ci) (tk : Takes X W) (hr : Room (k + 1) X.A) (ha : SA X W (e :: es) ts) (hg : Gl X (Str.ofString c) := by rfl) (hdb : ((Str.ofString c) == ("__debug__" : Str)) = false := by decide)
    (he : starEach (e :: es) X.env = (false, eval e X.env) :: starEach es X.env := by rfl) (hpl : (backTo pos (starEach es X.env)).any (·.1) = false := by rfl) : SE X W (.Call (.Name (Str.ofString c) p) (e :: es) [] pos) (dMake c ci n ts) := by
  obtain ⟨f, fd, ps, hps, M1, F, hm, hb⟩ := M.ex
  exact PE.imp (pe_makeS M1 F hr hg hm hb (fun σ => passAt tk σ) ha hdb he hpl) fun σ H Q w => mk_go w

/-! ### keywords -/
theorem sk_nil : PK X [] (lA X.K W aNil) := by
  refine ⟨fun _ pins s σ H Q I h => ?_⟩
  obtain ⟨ρ, σd, hh, Xd, Qd, hr, sr, w, kx, k⟩ := h
  exact wpAny_evalAll_nil ⟨[], H, I, .nil, k ρ [] hh [] H .refl hr rfl w⟩
abbrev SK (X : Cx) (W : WX) (kws : List Keyword) (t : DA) : Prop := PK X kws (lA X.K W t)
theorem PK.imp {kws : List Keyword} {t t' : TA} (h : PK X kws t) (i : ∀ σ H Q, t' σ H Q → t σ H Q) : PK X kws t' := ⟨fun pos pins s σ H Q I w => h.run pos pins s σ H Q I (i σ H Q w)⟩
theorem sk_cons {nm : Option Str} {kpos : Pos} {kws : List Keyword} {da : DE} (ha : SE X W e da) (hs : SK X W kws ts) : SK X W (⟨nm, e, kpos⟩ :: kws) (aCons da ts) := PK.imp (pk_cons ha hs) fun σ H Q w => by
  obtain ⟨ρ, σd, h, Xd, Qd, hr, sr, w, kx, k⟩ := w
  refine lE.go hr sr w kx fun ρ1 d1 h1 v1 H1 e1 hr1 sr1 kx1 dv1 w1 => lA.go hr1 sr1 w1 kx1 fun ρ2 ds h2 vs H2 e2 hr2 sr2 kx2 dvs w2 => ?_
  exact k ρ2 (d1 :: ds) h2 _ H2 (e1.trans e2) hr2 ⟨v1, vs, rfl, dv1.ext e2, dvs⟩ w2
/-- the keywords' values in the parameters' order -/
def perm {α : Type} (q : List Nat) (l : List α) : List α := q.filterMap fun i => l[i]?
structure FnK (P : Program) (w : World) (K : PySem.W.Frag) (mg : Str → Option Value) (base : Heap) (k : Nat) (x : Str) (n : Nat) (ks : List Str) (q : List Nat) (c : Ct) : Prop where
  ex : ∃ f fd ps, ps.length = n ∧ FnOk P w K mg base (L2.CX P w) k f fd ps (spOf K n c) ∧ mg x = some (.ref f) ∧ PySem.W.keepIn K (.ref f) = true ∧
    ∀ (s : Shared) (ws : List Value), K.In s.heap → ws.length = ks.length → BindsTo s fd ⟨[], ks.zip ws⟩ (ps.zip (perm q ws))
def dCallK (c : Ct) (n m : Nat) (q : List Nat) (ts : DA) : DE := fun σ h X Q => ts σ h X fun ds h1 => ds.length = m ∧ (perm q ds).length = n ∧ c (perm q ds) h1 X Q
theorem DVs.perm {K : PySem.W.Frag} {ρ : List Addr} {H : Hp} {ds : List D} {vs : List V} (d : DVs K ρ H ds vs) : ∀ q : List Nat, DVs K ρ H (MW.perm q ds) (MW.perm q vs)
  | [] => rfl
  | i :: q => by
    have ih := DVs.perm d q
    unfold MW.perm at ih ⊢
    rw [List.filterMap_cons, List.filterMap_cons]
    cases h : ds[i]? with
    | none =>
      have hv : vs[i]? = none := List.getElem?_eq_none (by rw [d.length]; exact List.getElem?_eq_none_iff.mp h)
      rw [hv]; exact ih
    | some y =>
      obtain ⟨v, hv, dv⟩ := d.get h
      rw [hv]; exact ⟨v, _, rfl, dv, ih⟩
theorem Vals.perm {vs : List V} {us : List Value} (r : Vals vs us) : ∀ q : List Nat, Vals (MW.perm q vs) (MW.perm q us)
  | [] => .nil
  | i :: q => by
    have ih := Vals.perm r q
    unfold MW.perm at ih ⊢
    rw [List.filterMap_cons, List.filterMap_cons]
    cases h : vs[i]? with
    | none =>
      have hv : us[i]? = none := r.none_of h
      rw [hv]; exact ih
    | some y =>
      obtain ⟨v, hv, dv⟩ := r.get h
      rw [hv]; exact .cons dv ih
theorem se_callK {kws : List Keyword} {ks : List Str} {q : List Nat} {cc : Ct} (F : FnK X.prog X.w X.K X.mg X.base k x n ks q cc) (tk : Takes X W) (hr : Room k X.A) (hkw : SK X W kws ts) (hg : Gl X x := by rfl) (hall : (backToKw pos (keywordEach kws X.env)).all (·.1.isSome) = true := by rfl)
    (hks : (backToKw pos (keywordEach kws X.env)).filterMap (·.1) = ks := by rfl) (hdb : (x == ("__debug__" : Str)) = false := by decide)
    (hpl : ((backTo pos (starEach [] X.env)).any (·.1) || (backToKw pos (keywordEach kws X.env)).any (·.1.isNone)) = false := by rfl) : SE X W (.Call (.Name x p) [] kws pos) (dCallK cc n ks.length q ts) := by
  obtain ⟨f, fd, ps, hps, F, hm, hk, hb⟩ := F.ex
  refine ⟨fun pins s σ H Q I h => ?_⟩
  refine wpAny_Call_Name_kw (ld_glob I hg hm ?_ hdb)
  refine PySem.W.callWith_KW0 (h₀ := X.base) I.ok.mod.kin hk hall ?_ hpl
  obtain ⟨ρ, σd, hh, Xd, Qd, hR, sr, w, kx, kk⟩ := h
  refine thn (hkw.run pos pins s σ H (fun vs H1 => vs.length = ks.length ∧ spOf X.K n cc (MW.perm q vs) H1 Q (WE W σ)) I (lA.go hR sr w kx fun ρ1 ds h1 vs H1 e1 hr1 sr1 kx1 dvs z => ?_)) fun ws s2 ⟨zs, H2, I2, rz, l2, q2⟩ => ⟨I2.kIn, ?_⟩
  · exact ⟨by rw [dvs.length]; exact z.1, ρ1, MW.perm q ds, h1, Xd, Qd, z.2.1, hr1, dvs.perm q, z.2.2, fun ρ' x h' cls d H' e hr' ea z => kx1 ρ' x h' cls d H' e hr' (sr1.ext e) ea z, fun ρ' d h' v H' e => kk ρ' d h' v H' (e1.trans e)⟩
  · rw [hks]
    refine wpAny_call (codeAny_mono (F.run X.A X.stack s2 H2 ⟨[], ks.zip ws⟩ (MW.perm q ws) (MW.perm q zs) Q (WE W σ) hr I2.env0 (hb s2 ws I2.kIn (rz.length.symm.trans l2)) (Vals.perm rz q) q2) fun r s' hq => ?_)
    cases r with
    | error e => exact passAt tk σ pins H2 s2 e s' I2 hq
    | ok fl =>
      cases fl with
      | ret u => exact I2.after hq
      | next => exact False.elim hq
      | brk => exact False.elim hq
      | cont => exact False.elim hq
end

/-! ### sorted -/
section
variable {K : PySem.W.Frag}
def nSrtI : DN := fun ds h Q => ∃ d, ∃ ns : List Int, ds = [d] ∧ asL h d = some (ns.map D.int) ∧ ∀ ns' : List Int, ns'.Perm ns → ns'.Pairwise (· ≤ ·) → Q (.lst (ns'.map D.int)) h
theorem L_srtI : LNok K nSrtI (rSortedI K) := by
  intro ρ h H xs vs Qd Q hr dvs w k
  obtain ⟨d, ns, rfl, e, q⟩ := w
  obtain ⟨v, rfl, dv⟩ := dvs.un
  obtain ⟨a, vs, rfl, hq, ds⟩ := asL_at hr dv e
  rw [ds.ints] at hq
  exact ⟨a, ns, rfl, hq, fun ns' p h1 h2 np => k ρ _ h _ _ (.new1 np) (hr.new1 np) (.lstNew hr np DVs.of_ints) (q ns' h1 h2)⟩
def prD (p : Int × Int) : D := .tup [.int p.1, .int p.2]
/-- by the first, then by the second -/
def prLe (p q : Int × Int) : Prop := p.1 < q.1 ∨ (p.1 = q.1 ∧ p.2 ≤ q.2)
def nSrtP : DN := fun ds h Q => ∃ d, ∃ ps : List (Int × Int), ds = [d] ∧ asL h d = some (ps.map prD) ∧ ∀ ps' : List (Int × Int), ps'.Perm ps → ps'.Pairwise prLe → Q (.lst (ps'.map prD)) h
/-- the pair that stands at a value -/
def kP (H : Hp) : V → Int × Int
  | .ref t => (match H t with
    | some (.tup [.int i, .int j]) => (i, j)
    | _ => (0, 0))
  | _ => (0, 0)
theorem prs_at {ρ : List Addr} {H : Hp} : ∀ {ps : List (Int × Int)} {vs : List V}, DVs K ρ H (ps.map prD) vs → vs.map (kP H) = ps ∧ (∀ x ∈ vs, ∃ t, x = V.ref t ∧ H t = some (.tup [.int (kP H x).1, .int (kP H x).2])) ∧ ∀ x ∈ vs, DV K ρ H (prD (kP H x)) x
  | [], _, h => by rw [show _ = [] from h]; exact ⟨rfl, (fun x hx => by cases hx), (fun x hx => by cases hx)⟩
  | p :: ps, _, ⟨v, r, e, h1, h2⟩ => by
    subst e
    obtain ⟨a1, a2, a3⟩ := prs_at h2
    have hv : ∃ t, v = V.ref t ∧ H t = some (.tup [.int p.1, .int p.2]) := by
      obtain ⟨t, ws, rfl, ⟨_, ht⟩, u1, r1, rfl, d1, u2, r2, rfl, d2, rfl⟩ := h1
      have e1 : u1 = .int p.1 := d1
      have e2 : u2 = .int p.2 := d2
      subst e1 e2
      exact ⟨t, rfl, ht⟩
    obtain ⟨t, rfl, ht⟩ := hv
    have hk : kP H (.ref t) = p := by show (match H t with | some (.tup [.int i, .int j]) => (i, j) | _ => (0, 0)) = p; rw [ht]
    refine ⟨by rw [List.map_cons, hk, a1], fun x hx => ?_, fun x hx => ?_⟩
    · rcases List.mem_cons.mp hx with e | hx
      · subst e; exact ⟨t, rfl, by rw [hk]; exact ht⟩
      · exact a2 x hx
    · rcases List.mem_cons.mp hx with e | hx
      · subst e; rw [hk]; exact h1
      · exact a3 x hx
theorem DVs.of_all {ρ : List Addr} {H : Hp} {f : V → D} : ∀ {vs : List V}, (∀ x ∈ vs, DV K ρ H (f x) x) → DVs K ρ H (vs.map f) vs
  | [], _ => rfl
  | v :: vs, h => ⟨v, vs, rfl, h v List.mem_cons_self, DVs.of_all fun x hx => h x (List.mem_cons_of_mem _ hx)⟩
theorem L_srtP : LNok K nSrtP (rSortedPO K) := by
  intro ρ h H xs vs Qd Q hr dvs w k
  obtain ⟨d, ps, rfl, e, q⟩ := w
  obtain ⟨v, rfl, dv⟩ := dvs.un
  obtain ⟨a, vs, rfl, hq, ds⟩ := asL_at hr dv e
  obtain ⟨a1, a2, a3⟩ := prs_at ds
  refine ⟨a, vs, kP H, rfl, hq, a2, fun ys p hs hb np => ?_⟩
  have hm : ∀ x ∈ ys, x ∈ vs := fun x hx => hb.perm.mem_iff.mp hx
  have dy : DVs K ρ H ((ys.map (kP H)).map prD) ys := by
    rw [List.map_map]
    exact DVs.of_all (f := prD ∘ kP H) fun x hx => a3 x (hm x hx)
  have q' := q (ys.map (kP H)) (by rw [← a1]; exact hb.perm.map _) (by
    rw [List.pairwise_map]
    refine List.Pairwise.imp (fun {x y} hxy => ?_) hs
    have z := SrtO.lexB_no.mp hxy
    unfold prLe
    omega)
  exact k ρ _ h _ _ (.new1 np) (hr.new1 np) (.lstNew hr np dy) q'
end
section
variable {X : Cx} {W : WX} {pos p : Pos} {e : Expr} {es : List Expr} {ts : DA} {a b : Expr} {da db de : DE}
theorem se_sortI (hm : X.mg "sorted" = none) (ha : SA X W (e :: es) ts) (hg : Gl X "sorted" := by rfl) (he : starEach (e :: es) X.env = (false, eval e X.env) :: starEach es X.env := by rfl) (hpl : (backTo pos (starEach es X.env)).any (·.1) = false := by rfl) : SE X W (.Call (.Name "sorted" p) (e :: es) [] pos) (dCB nSrtI ts) := se_cb cr_sortedI L_srtI hg hm (by decide +kernel) ha (he := he) (hpl := hpl)
theorem se_sortP (hm : X.mg "sorted" = none) (ha : SA X W (e :: es) ts) (hg : Gl X "sorted" := by rfl) (he : starEach (e :: es) X.env = (false, eval e X.env) :: starEach es X.env := by rfl) (hpl : (backTo pos (starEach es X.env)).any (·.1) = false := by rfl) : SE X W (.Call (.Name "sorted" p) (e :: es) [] pos) (dCB nSrtP ts) := se_cb cr_sortedPO L_srtP hg hm (by decide +kernel) ha (he := he) (hpl := hpl)
/-! ### x in a list of data; a changed list by + -/
def dIn (neg : Bool) : D2 := fun x y h Q => ∃ l, rz h y = .lst l ∧ OkD 60 x ∧ OkD 60 (.lst l) ∧ Q (.bl (if neg then !(l.any fun z => deq z x) else l.any fun z => deq z x)) h
theorem toPs_any {l : List D} {x : D} : (toPs l).any (fun z => PyData.eqv z (toP x)) = l.any fun z => deq z x := by
  rw [toPs_map, List.any_map]; rfl
theorem rz_same {h : DHp} {x : D} (o : OkD 60 x) : rz h x = x := by
  cases x with
  | ref i => exact o.elim
  | _ => rfl
theorem in_at {K : PySem.W.Frag} {ρ : List Addr} {h : DHp} {H : Hp} {x y : D} {vx vy : V} {l : List D} (hr : HR K ρ h H) (dx : DV K ρ H x vx) (dy : DV K ρ H y vy) (e : rz h y = .lst l) (o1 : OkD 60 x) (o2 : OkD 60 (.lst l)) :
    Dp K H vx (toP x) ∧ Dp K H vy (.list (toPs l)) ∧ SeqAt.shaped (toP x) = true ∧ SeqAt.shaped (.list (toPs l)) = true := by
  obtain ⟨a1, a2⟩ := rz_dp hr dx (by rw [rz_same o1]; exact o1)
  rw [rz_same o1] at a1 a2
  obtain ⟨b1, b2⟩ := rz_dp hr dy (by rw [e]; exact o2)
  rw [e] at b1 b2
  exact ⟨a1, b1, a2, b2⟩
theorem L_in {K : PySem.W.Frag} : L2ok K (dIn false) (rInD K) := by
  intro ρ h H x y vx vy Qd Q hr dx dy w k
  obtain ⟨l, e, o1, o2, q⟩ := w
  obtain ⟨a1, b1, a2, b2⟩ := in_at hr dx dy e o1 o2
  refine ⟨_, _, a1, b1, a2, b2, ?_⟩
  rw [toPs_any]
  exact k ρ (.bl _) h _ H .refl hr rfl q
theorem L_notIn {K : PySem.W.Frag} : L2ok K (dIn true) (rNotInD K) := by
  intro ρ h H x y vx vy Qd Q hr dx dy w k
  obtain ⟨l, e, o1, o2, q⟩ := w
  obtain ⟨a1, b1, a2, b2⟩ := in_at hr dx dy e o1 o2
  refine ⟨_, _, a1, b1, a2, b2, ?_⟩
  rw [toPs_any]
  exact k ρ (.bl _) h _ H .refl hr rfl q
/-- x in a tuple of flat things -/
def flatD : D → Bool
  | .non => true
  | .bl _ => true
  | .int _ => true
  | .str _ => true
  | _ => false
def feq : D → D → Bool
  | .int i, .int j => i == j
  | _, _ => false
/-- an int in a tuple of ints -/
def dInT (neg : Bool) : D2 := fun x y h Q => ∃ i, ∃ ns : List Int, x = .int i ∧ y = .tup (ns.map D.int) ∧ Q (.bl (if neg then !(ns.any fun z => z == i) else ns.any fun z => z == i)) h
theorem inV_ints (i : Int) : ∀ ns : List Int, inV (.int i) (ns.map V.int) = ns.any fun z => z == i
  | [] => rfl
  | n :: ns => by
    unfold inV
    rw [List.map_cons, List.any_cons, List.any_cons]
    have := inV_ints i ns
    unfold inV at this
    rw [this]
    have : eqV (.int n) (.int i) = (n == i) := by simp [eqV, Bool.eq_iff_iff]
    rw [this]
theorem flat_ints : ∀ ns : List Int, (ns.map V.int).all flatV = true
  | [] => rfl
  | n :: ns => by rw [List.map_cons, List.all_cons, flat_ints ns]; rfl
theorem L_inT {K : PySem.W.Frag} {neg : Bool} : L2ok K (dInT neg) (rIn K neg) := by
  intro ρ h H x y vx vy Qd Q hr dx dy w k
  obtain ⟨i, ns, rfl, rfl, q⟩ := w
  obtain ⟨a, vs, rfl, h1, d1⟩ := dy
  have ev : vx = .int i := dx
  subst ev
  have e2 := d1.ints
  subst e2
  refine ⟨a, _, rfl, .inr h1.sq, rfl, flat_ints ns, ?_⟩
  rw [inV_ints]
  exact k ρ (.bl _) h _ H .refl hr rfl q
theorem se_in (hu : X.A.units + 65 < cLine) (ha : SE X W a da) (hb : SE X W b db) (hm : behindInMarks .In b = false := by rfl) : SE X W (.Compare a [.In] [b] pos) (dOp (dIn false) da db) := se_cmp (op_inD hu) L_in ha hb hm
theorem st_in (hu : X.A.units + 65 < cLine) (ha : SE X W a da) (hb : SE X W b db) (hm : behindInMarks .In b = false := by rfl) : ST X W (.Compare a [.In] [b] pos) (dTst (dOp (dIn false) da db)) := st_cmp (op_inD hu) L_in ha hb hm
theorem se_notIn (hu : X.A.units + 65 < cLine) (ha : SE X W a da) (hb : SE X W b db) (hm : behindInMarks .NotIn b = false := by rfl) : SE X W (.Compare a [.NotIn] [b] pos) (dOp (dIn true) da db) := se_cmp (op_notInD hu) L_notIn ha hb hm
theorem st_notIn (hu : X.A.units + 65 < cLine) (ha : SE X W a da) (hb : SE X W b db) (hm : behindInMarks .NotIn b = false := by rfl) : ST X W (.Compare a [.NotIn] [b] pos) (dTst (dOp (dIn true) da db)) := st_cmp (op_notInD hu) L_notIn ha hb hm
theorem st_inT (ha : SE X W a da) (hb : SE X W b db) (hm : behindInMarks .In b = false := by rfl) : ST X W (.Compare a [.In] [b] pos) (dTst (dOp (dInT false) da db)) := st_cmp op_in_seq L_inT ha hb hm
theorem st_notInT (ha : SE X W a da) (hb : SE X W b db) (hm : behindInMarks .NotIn b = false := by rfl) : ST X W (.Compare a [.NotIn] [b] pos) (dTst (dOp (dInT true) da db)) := st_cmp op_notIn_seq L_inT ha hb hm
/-- a list + a list, to be changed; a list times a number, to be changed -/
def dAddH : D2 := fun x y h Q => ∃ l m, asX h x = some l ∧ asX h y = some m ∧ l.length + m.length ≤ sizeLine ∧ Q (.ref h.length) (h ++ [.lst (l ++ m)])
theorem L_addH {K : PySem.W.Frag} : L2ok K dAddH rCat := by
  intro ρ h H x y vx vy Qd Q hr dx dy w k
  obtain ⟨l, m, e1, e2, hz, q⟩ := w
  obtain ⟨p, vs, rfl, h1, d1⟩ := asX_at hr dx e1
  obtain ⟨p', vs', rfl, h2, d2⟩ := asX_at hr dy e2
  refine ⟨p, p', vs, vs', rfl, rfl, h1, h2, by rw [d1.length, d2.length]; exact hz, fun n np => ?_⟩
  obtain ⟨a1, a2⟩ := push_lst hr np (d1.append d2)
  exact k _ _ _ _ _ (.push np) a1 a2 q
theorem se_addH (ha : SE X W a da) (hb : SE X W b db) : SE X W (.BinOp a .Add b pos) (dOp dAddH da db) := se_op op_cat L_addH ha hb
def dMulH : D2 := fun x y h Q => ∃ l j, asX h x = some l ∧ y = .int j ∧ -(2 ^ 63) ≤ j ∧ j < 2 ^ 63 ∧ l.length * j.toNat ≤ sizeLine ∧ Q (.ref h.length) (h ++ [.lst (List.replicate j.toNat l).flatten])
theorem L_mulH {K : PySem.W.Frag} : L2ok K dMulH rRep := by
  intro ρ h H x y vx vy Qd Q hr dx dy w k
  obtain ⟨l, j, e1, rfl, b1, b2, hz, q⟩ := w
  obtain ⟨p, vs, rfl, h1, d1⟩ := asX_at hr dx e1
  have ey : vy = .int j := dy
  subst ey
  refine ⟨p, j, vs, rfl, rfl, h1, b1, b2, by rw [d1.length]; exact hz, fun n np => ?_⟩
  obtain ⟨a1, a2⟩ := push_lst hr np (d1.rep j.toNat)
  exact k _ _ _ _ _ (.push np) a1 a2 q
theorem se_mulH (ha : SE X W a da) (hb : SE X W b db) : SE X W (.BinOp a .Mult b pos) (dOp dMulH da db) := se_op op_rep L_mulH ha hb
/-! ### reversed -/
theorem it_rev {K : PySem.W.Frag} {ρ0 : List Addr} {H0 : Hp} {a : Addr} {l : List D} {vs0 : List V} {G : DHp → Prop} (hl0 : vs0.length = l.length) (hq : ∀ ρ h H, Ext ρ0 H0 ρ H → HR K ρ h H → G h → ∃ vs, SqL K H a vs ∧ DVs K ρ H l vs) : ItAt K ρ0 H0 l.reverse G (Itv K a vs0.length) := by
  intro ρ h H i e hr g
  obtain ⟨vs, q, dvs⟩ := hq ρ h H e hr g
  have hl := dvs.length
  refine ⟨fun d hd => ?_, fun hle => ?_⟩
  · have hi : i < l.length := by have := (List.getElem?_eq_some_iff.mp hd).1; rwa [List.length_reverse] at this
    rw [List.getElem?_reverse hi] at hd
    obtain ⟨v, hv, dv⟩ := dvs.get hd
    refine ⟨⟨by omega, vs, v, q, by rw [hl0]; exact hv⟩, fun u H' y => ?_⟩
    obtain ⟨rfl, y⟩ := y
    have z := y vs q
    rw [hl0, hv] at z; cases z
    exact ⟨.refl, hr, dv⟩
  · rw [List.length_reverse] at hle
    show vs0.length ≤ i
    omega
theorem si_rev (hm : X.mg "reversed" = none) (ha : SA X W [e] ts) {tg : Expr} (hg : Gl X "reversed" := by rfl) (hs : starEach [e] X.env = [(false, eval e X.env)] := by rfl) : SI X W tg (.Call (.Name "reversed" p) [e] [] pos) (fun σ h X Q => ts σ h X fun ds h1 => ∃ d l, ds = [d] ∧ asL h1 d = some l ∧ Q l.reverse (gdL d l) h1) :=
  PI.imp (pi_reversed hg hm ha hs) fun σ H R w => by
    obtain ⟨ρ, σd, h, Xd, Qd, hr, sr, w, kx, k⟩ := w
    refine ⟨ρ, σd, h, Xd, _, hr, sr, w, kx, fun ρ1 ds h1 vs H1 e1 hr1 dvs q => ?_⟩
    obtain ⟨d, l, rfl, el, q⟩ := q
    obtain ⟨v, rfl, dv⟩ := dvs.un
    obtain ⟨a, ws, rfl, hq, dl⟩ := asL_at hr1 dv el
    refine ⟨a, ws, rfl, hq, k ρ1 _ _ h1 _ H1 e1 hr1 (it_rev dl.length fun ρ2 h2 H2 e2 hr2 g2 => ?_) q⟩
    obtain ⟨a', vs', e', hq', dvs'⟩ := asL_at hr2 (dv.ext e2) g2
    cases e'
    exact ⟨vs', hq', dvs'⟩
/-! ### xs[i] op= e -/
theorem get_list : PGet X (rIxL X.K) := by
  intro pins s σ H o i ov iv Q I r1 r2 h
  obtain ⟨p, xs, k, v, rfl, rfl, hq, hv, q⟩ := h
  cases r1
  obtain ⟨t, rfl⟩ := r2
  obtain ⟨its, r, pl, hz⟩ := I.list hq
  obtain ⟨j, hj, hx, _, hlo, hhi⟩ := atI_get hv
  obtain ⟨u, hu, ru⟩ := r.get hx
  have hl := r.length
  have hn := line63
  have fin : EP X pins σ Q u s := ⟨v, H, I, ru, q⟩
  by_cases h0 : 0 ≤ k
  · have hk : k.toNat = j := by
      rw [seqIndex_of h0 hhi] at hj
      exact Option.some.inj hj
    exact wpAny_getItem_list pl.isList h0 (by omega) (by rw [hk]; simpa using hu) fin
  · have hk : (k + (its.toArray.size : Int)).toNat = j := by
      rw [seqIndex_neg (by omega) hlo] at hj
      rw [List.size_toArray, ← hl]
      exact Option.some.inj hj
    exact wpAny_getItem_list_neg pl.isList (by omega) (by rw [List.size_toArray]; omega) (by omega) (by rw [hk]; simpa using hu) fin
def sAugS (op : D2) (dd di de : DE) : DS := fun E σ h => dd σ h (E.xx σ) fun x h1 => di σ h1 (E.xx σ) fun y h2 => ∃ j l k n c, x = .ref j ∧ y = .int k ∧ h2[j]? = some (.lst l) ∧ ixN l.length k = some n ∧ l[n]? = some c ∧ de σ h2 (E.xx σ) fun d h3 => op c d h3 fun z h4 => ∃ l', h4[j]? = some (.lst l') ∧ ixN l'.length k = some n ∧ E.nx σ (h4.set j (.lst (l'.set n z)))
end
end L2.MW

/-! MW, part R: tuple(reversed(a tuple)), at the library's level. -/
namespace L2.MW
open PySem PySem.Spec PyProof.Rows RT
theorem rt_nolen : typeLookup (.type "reversed") "__len__" = pure none := by
  rw [typeLookup_type, builtinLookup_eq_fast]
  kernel_rfl
theorem rt_hint : typeLookup (.type "reversed") "__length_hint__" = pure (some (.builtin "reversed.__length_hint__")) := by
  rw [typeLookup_type, builtinLookup_eq_fast]
  kernel_rfl
theorem rt_walk {P : Program} {w : World} {A : Around} (ah : A.handled = none) (z t : Addr) (ht0 : t ≠ z) (xs : Array Value) (hz : xs.size ≤ sizeLine) :
    Walks P w A z [z, t] [z] xs.size (fun j v => xs[xs.size - 1 - j]? = some v) (fun j g => j ≤ xs.size ∧ IsRt g z t ((xs.size : Int) - 1 - (j : Int)) ∧ IsTup g t xs) where
  sub := fun b hb => by
    have : b = z := by simpa using hb
    rw [this]; exact List.mem_cons_self
  frame := fun _ g g' q hk => ⟨q.1, q.2.1.at fun o e => hk z List.mem_cons_self o e, by
    obtain ⟨o, ho, r⟩ := q.2.2
    exact ⟨o, hk t (List.mem_cons_of_mem _ List.mem_cons_self) o ho, r⟩⟩
  item := fun j s Q E hj q hQ => by
    have e1 : (xs.size : Int) - 1 - (j : Int) = ((xs.size - 1 - j : Nat) : Int) := by omega
    have q1 := q.2.1
    rw [e1] at q1
    have hx : xs[xs.size - 1 - j]? = some (xs[xs.size - 1 - j]'(by omega)) := Array.getElem?_eq_getElem (by omega)
    refine next_rt_item q1 q.2.2 hx hz fun g' r' sb => ?_
    have e2 : ((xs.size - 1 - j : Nat) : Int) - 1 = (xs.size : Int) - 1 - ((j + 1 : Nat) : Int) := by omega
    rw [e2] at r'
    refine hQ _ g' (s.toks + 1) hx ⟨hj, r', ?_⟩ fun b o hb eo => sb.extBut b o (fun y => hb (by rw [y]; exact List.mem_cons_self)) eo
    obtain ⟨o, ho, r⟩ := q.2.2
    exact ⟨o, (sb.2 t ht0).trans ho, r⟩
  done := fun s Q E q hQ => by
    have e1 : (xs.size : Int) - 1 - (xs.size : Int) = -1 := by omega
    have q1 := q.2.1
    rw [e1] at q1
    exact next_rt_end ah q1 fun g' he => hQ g' s.toks fun b o hb eo => he b o (fun y => hb (by rw [y]; exact List.mem_cons_self)) eo
  self := fun _ _ _ _ q hQ => iter_rt q.2.1 hQ
section
variable {P : Program} {w : World} {A : Around} {E : Value → Shared → Prop} {s : Shared}
abbrev el : Obj := { cls := .type "list", data := .seq ([] : List Value).toArray }
theorem rt_slotH : Slot "reversed" "__length_hint__" "reversed.__length_hint__" :=
  .of (owner := "reversed") (n := "__length_hint__")
    (by rw [typeLookup_type, builtinLookup_eq_fast]; kernel_rfl)
    (by decide +kernel) (by decide +kernel) (by decide +kernel)
    (by first | exact .inl (by decide +kernel) | exact .inr (by decide +kernel))
    (by rw [isSubtype_type]; kernel_rfl)
theorem rt_entryH : entryFor table "reversed.__length_hint__" = some Builtin.«reversed.__length_hint__» := entryFor_of_tree (by kernel_rfl)
theorem rt_argsH (a : Value) : argsOk "reversed.__length_hint__" ⟨[a], []⟩ := by
  unfold argsOk
  rw [signature?_of (id := "reversed.__length_hint__") (n := "__length_hint__".toList.reverse) (o := "reversed".toList.reverse) (by kernel_rfl) owner_rt]
  kernel_rfl
/-- the hint -/
theorem rt_hintCall {z t : Addr} {xs : Array Value} {Q : Value → Shared → Prop} (hz : IsRt s.heap z t ((xs.size : Int) - 1)) (ht : IsTup s.heap t xs) (hn : xs.size ≤ sizeLine)
    (hQ : ∀ k, Q (.int xs.size k) { s with toks := k + 1 }) : wpAny (model P w) A (call (.builtin "reversed.__length_hint__") [.ref z]) Q E s := by
  obtain ⟨o, ho, hc, hd⟩ := id hz
  have l63 := line63
  refine wpAny_call_entry rt_slotH hz.typeIs rt_entryH ?_ (rt_argsH _)
  unfold Builtin.«reversed.__length_hint__»
  refine wpAny_bind (wpAny_of_eq (a := Value.ref z) rfl ?_)
  try dsimp only
  refine wpAny_bind (wpAny_field ho hd (x := .ref t) rfl ?_)
  try dsimp only
  rw [if_neg (Bool.eq_false_iff.mp (show (Value.ref t == Value.none) = false from rfl))]
  try dsimp only
  refine wpAny_bind (len_tuple ht (by omega) ?_)
  refine wpAny_bind (wpAny_of_eq (a := some ((xs.size : Nat) : Int)) rfl ?_)
  try dsimp only
  refine wpAny_bind (wpAny_field (s := { s with toks := s.toks + 1 + 1 }) ho hd (x := rawInt ((xs.size : Int) - 1)) rfl ?_)
  show wpAny _ _ (if (xs.size : Int) < (xs.size : Int) - 1 + 1 then _ else _) _ _ _
  rw [if_neg (by omega)]
  show wpAny _ _ (mkInt ((xs.size : Int) - 1 + 1) >>= fun v => ret v) _ _ _
  have e1 : (xs.size : Int) - 1 + 1 = xs.size := by omega
  rw [e1]
  refine wpAny_bind (wpAny_mkInt ?_)
  exact wpAny_pure ⟨_, rfl, hQ _⟩
/-- the loop of list.extend over it -/
theorem rt_loop {z t S : Addr} {xs : Array Value} {g : Heap} {k c0 : Nat} {Q : Value → Shared → Prop} (ah : A.handled = none) (hz : IsRt g z t ((xs.size : Int) - 1)) (ht : IsTup g t xs) (ht0 : t ≠ z) (hn : xs.size ≤ sizeLine) (n3 : S ∉ [z, t])
    (gS : g.get? S = some { cls := .type "list", data := .seq ([] : List Value).toArray c0 })
    (hQ : ∀ (g' : Heap) (k' : Nat) (acc : Array Value) (c : Nat), (∀ b o, b ≠ z → b ≠ S → g.get? b = some o → g'.get? b = some o) → g'.get? S = some { cls := .type "list", data := .seq acc c } → ItemsOf (fun j v => xs[xs.size - 1 - j]? = some v) acc xs.size → Q (.ref S) { s with heap := g', toks := k' }) :
    codeAny (model P w) A (.builtin "list.extend.loop" ⟨[.ref S, .ref z, .ref S], []⟩) (wants Q E) { s with heap := g, toks := k } := by
  have Wk := (rt_walk (P := P) (w := w) (A := A.in1) ah z t ht0 xs hn).toS
  have e0 : ((xs.size : Nat) : Int) - 1 - ((0 : Nat) : Int) = (xs.size : Int) - 1 := by omega
  refine codeAny_extend_loopS Wk hn S n3 (.ref S) xs.size 0 _ #[] c0 rfl (Nat.zero_le _) ⟨Nat.zero_le _, by rw [e0]; exact hz, ht⟩ gS (ItemsOf.nil _) fun s' acc' c' hm hS' hacc => ?_
  have hh := hm.heap
  rw [Moved.eq_with hm]
  exact hQ s'.heap s'.toks acc' c' (fun b o hb hb2 e => hh b o (fun y => by
    rcases List.mem_cons.mp y with y | y
    · exact hb2 y
    · exact hb (List.mem_singleton.mp y)) e) hS' hacc
theorem rt_collect {z t : Addr} {xs : Array Value} {Q : List Value → Shared → Prop} (ah : A.handled = none) (hz : IsRt s.heap z t ((xs.size : Int) - 1)) (ht : IsTup s.heap t xs) (ht0 : t ≠ z) (hn : xs.size ≤ sizeLine)
    (hQ : ∀ (g : Heap) (k : Nat) (acc : Array Value), (∀ b o, b ≠ z → s.heap.get? b = some o → g.get? b = some o) → ItemsOf (fun j v => xs[xs.size - 1 - j]? = some v) acc xs.size → Q acc.toList { s with heap := g, toks := k }) :
    wpAny (model P w) A (collect (.ref z)) Q E s := by
  obtain ⟨oz, hoz, _⟩ := id hz
  obtain ⟨ot, hot, _⟩ := id ht
  have n1 : s.heap.objs.size ≠ z := Nat.ne_of_gt (Heap.lt_size hoz)
  have n2 : s.heap.objs.size ≠ t := Nat.ne_of_gt (Heap.lt_size hot)
  have n3 : s.heap.objs.size ∉ [z, t] := by
    simp only [List.mem_cons, List.not_mem_nil, or_false, not_or]
    exact ⟨n1, n2⟩
  have l63 := line63
  unfold collect
  refine wpAny_bind (wpAny_runValue (codeAny_builtin F.entry_proto_collect ?_))
  rw [Around.under_plainId F.plain_proto_collect _]
  show wpAny _ A.in1 (newList [] >>= fun q => again (.builtin "list.__iadd__" ⟨[q, .ref z], []⟩)) _ _ s
  refine wpAny_bind (wpAny_newObj_type ?_)
  refine wpAny_pure ⟨plainId_quiet F.plain_list_iadd _, codeAny_builtin F.entry_list_iadd ?_⟩
  rw [Around.under_plainId F.plain_list_iadd _]
  have g0 : (s.heap.push el).get? s.heap.objs.size = some el := Heap.get?_push_size _ rfl
  have g1 : IsRt (s.heap.push el) z t ((xs.size : Int) - 1) := hz.at fun o e => Heap.get?_push_of_some _ e
  have g2 : IsTup (s.heap.push el) t xs := by
    obtain ⟨o, ho, r⟩ := ht
    exact ⟨o, Heap.get?_push_of_some _ ho, r⟩
  have gT : ({ s with heap := s.heap.push el } : Shared).TypeIs (.ref z) "reversed" := IsRt.typeIs (s := { s with heap := s.heap.push el }) g1
  have h1 : Builtin.List.listSameRef (.ref s.heap.objs.size) (.ref z) = false := by simp [Builtin.List.listSameRef, n1]
  show wpAny _ A.in1 (Builtin.List.listExtendWith (.ref s.heap.objs.size) (.ref z) (.ref s.heap.objs.size)) _ _ _
  unfold Builtin.List.listExtendWith
  refine wpAny_bind (wpAny_typeOf gT ?_)
  rw [if_neg (by rw [h1]; decide)]
  refine wpAny_bind (iter_rt (s := { s with heap := s.heap.push el }) g1 ?_)
  refine wpAny_bind (wpAny_holding ?_)
  unfold Builtin.List.listLengthHint
  refine wpAny_bind (wpAny_specialOf gT rt_nolen ?_)
  show wpAny _ A.in1 (specialOf (Value.ref z) (Str.ofString "__length_hint__") >>= _) _ _ _
  refine wpAny_bind (wpAny_specialOf gT rt_hint ?_)
  generalize hid : ("reversed.__length_hint__" : String) = id0
  wp_delta
  rw [show splitId id0 = some ("reversed", "__length_hint__") from by subst hid; decide +kernel]
  subst hid
  refine wpAny_bind (wpAny_isInstance (b := true) gT (by rw [isSubtype_type]; kernel_rfl) ?_)
  rw [if_neg (by decide)]
  try dsimp only
  rw [if_neg (Bool.eq_false_iff.mp (by kernel_rfl))]
  refine wpAny_bind (wpAny_rule ?_)
  rw [rt_slotH.bind]
  refine wpAny_bind (wpAny_pure ?_)
  refine wpAny_bind (wpAny_attempt ?_)
  refine rt_hintCall (s := { s with heap := s.heap.push el }) g1 g2 hn fun k => ?_
  show wpAny _ _ (asInt? (.int (xs.size : Int) k) >>= _) _ _ _
  refine wpAny_bind ?_
  have e3 : asInt? (.int (xs.size : Int) k) = pure (some (xs.size : Int)) := rfl
  rw [e3]
  refine wpAny_pure ?_
  try dsimp only
  have f1 : Builtin.List.listFitsIndex (xs.size : Int) = true := by
    unfold Builtin.List.listFitsIndex
    rw [Bool.and_eq_true, decide_eq_true_eq, decide_eq_true_eq]
    omega
  have f2 : Builtin.List.listTooLong (xs.size : Int).toNat = false := by
    unfold Builtin.List.listTooLong
    rw [decide_eq_false_iff_not]
    omega
  rw [if_neg (by rw [f1]; decide)]
  try dsimp only
  rw [if_neg (by omega)]
  try dsimp only
  rw [if_neg (by rw [f2]; decide)]
  refine wpAny_pure ?_
  have fin : ∀ (g : Heap) (k' c0 : Nat), IsRt g z t ((xs.size : Int) - 1) → IsTup g t xs → g.get? s.heap.objs.size = some { cls := .type "list", data := .seq ([] : List Value).toArray c0 } → (∀ b o, b ≠ s.heap.objs.size → s.heap.get? b = some o → g.get? b = some o) →
      codeAny (model P w) A (.builtin "list.extend.loop" ⟨[.ref s.heap.objs.size, .ref z, .ref s.heap.objs.size], []⟩) (wants (fun v s' => wpAny (model P w) A (match v with
        | .ref a => (do
          let o ← load a
          match o.data with
          | .seq xs _ => pure xs.toList
          | _ => unsupported "internal:collect")
        | _ => unsupported "internal:collect") Q E s') E) { s with heap := g, toks := k' } := by
    intro g k' c0 b1 b2 b3 b4
    refine rt_loop (s := s) ah b1 b2 ht0 hn n3 b3 fun g' k2 acc c b5 b6 b7 => ?_
    refine wpAny_bind (wpAny_load b6 ?_)
    refine wpAny_pure ?_
    refine hQ g' k2 acc (fun b o hb e => ?_) b7
    have hs : b ≠ s.heap.objs.size := fun y => absurd (Heap.lt_size e) (by rw [y]; exact Nat.lt_irrefl _)
    exact b5 b o hb hs (b4 b o hs e)
  split
  · refine wpAny_bind (wpAny_rule ?_)
    refine wpAny_bind ?_
    show wpAny _ A.in1 (updateSeq s.heap.objs.size (·.push .none) >>= fun _ => updateSeq s.heap.objs.size (·.pop)) _ _ _
    refine wpAny_bind (wpAny_updateSeq g0 rfl ?_ (Nat.zero_le _) (Nat.succ_le_succ (Nat.zero_le _)))
    have q2 := Heap.get?_update_self (Obj.mapSeq (·.push Value.none)) g0 rfl
    refine wpAny_updateSeq q2 rfl ?_ (show 1 ≤ sizeLine by decide) (Nat.zero_le _)
    have q3 := Heap.get?_update_self (Obj.mapSeq (·.pop)) q2 rfl
    have oth : ∀ b o, b ≠ s.heap.objs.size → (s.heap.push el).get? b = some o → (((s.heap.push el).update s.heap.objs.size (Obj.mapSeq (·.push Value.none))).update s.heap.objs.size (Obj.mapSeq (·.pop))).get? b = some o :=
      fun b o hb e => (Heap.get?_update_other _ _ (Ne.symm hb)).trans ((Heap.get?_update_other _ _ (Ne.symm hb)).trans e)
    refine wpAny_pure ⟨plainId_quiet F.plain_extend_loop _, ?_⟩
    refine fin _ _ _ (g1.at fun o e => oth z o (Ne.symm n1) e) ?_ q3 fun b o hb e => oth b o hb (Heap.get?_push_of_some _ e)
    obtain ⟨o, ho, r⟩ := g2
    exact ⟨o, oth t o (Ne.symm n2) ho, r⟩
  · refine wpAny_pure ⟨plainId_quiet F.plain_extend_loop _, ?_⟩
    exact fin _ _ _ g1 g2 g0 fun b o _ e => Heap.get?_push_of_some _ e
theorem rt_new {z t : Addr} {xs : Array Value} {Q₁ : Value → Shared → Prop} (ah : A.handled = none) (hz : IsRt s.heap z t ((xs.size : Int) - 1)) (ht : IsTup s.heap t xs) (ht0 : t ≠ z) (hn : xs.size ≤ sizeLine)
    (h : ∀ (g : Heap) (k : Nat) (acc : Array Value), (∀ b o, b ≠ z → s.heap.get? b = some o → g.get? b = some o) → ItemsOf (fun j v => xs[xs.size - 1 - j]? = some v) acc xs.size →
      Q₁ (.ref g.objs.size) { s with heap := g.push { cls := .type "tuple", data := .seq acc }, toks := k }) :
    codeAny (model P w) A (.call (.builtin "tuple.__new__") ⟨[.type "tuple", .ref z], []⟩) (wants Q₁ E) s := by
  refine codeAny_of_tree ?_
  show wpAny _ A.in1 (do checkBuiltinCall "tuple.__new__" ⟨[.type "tuple", .ref z], []⟩; again (.builtin "tuple.__new__" ⟨[.type "tuple", .ref z], []⟩)) _ _ s
  refine wpAny_bind (wpAny_of_eq (F.newCall_tuple_1 _) (wpAny_pure ⟨plainId_quiet F.plain_tuple_new _, codeAny_builtin F.entry_tuple_new ?_⟩))
  rw [Around.under_plainId F.plain_tuple_new _]
  have hsub := sub_tuple_self
  have hinit := init_tuple_lookup
  have hmh := madeHere_tuple
  have gT : s.TypeIs (.ref z) "reversed" := hz.typeIs
  have ah1 : A.in1.handled = none := ah
  wp_walk using wpAny_typeOf gT, rt_collect (A := A.in1) ah1 hz ht ht0 hn
  intro g k acc hk hacc
  show wpAny _ _ (Builtin.Tuple.tupleExact acc.toList.toArray >>= fun v => ret v) _ _ _
  unfold Builtin.Tuple.tupleExact
  refine wpAny_bind (wpAny_newObj_type ?_ (by show acc.toList.toArray.size ≤ sizeLine; simp only [Array.toArray_toList]; rw [hacc.1]; exact hn))
  refine wpAny_pure ?_
  have e : acc.toList.toArray = acc := by simp
  rw [e]
  exact h g k acc hk hacc
theorem rt_tuple {z t : Addr} {xs : Array Value} {Q : Value → Shared → Prop} (ah : A.handled = none) (hz : IsRt s.heap z t ((xs.size : Int) - 1)) (ht : IsTup s.heap t xs) (ht0 : t ≠ z) (hn : xs.size ≤ sizeLine)
    (hQ : ∀ (g : Heap) (k : Nat) (acc : Array Value), (∀ b o, b ≠ z → s.heap.get? b = some o → g.get? b = some o) → ItemsOf (fun j v => xs[xs.size - 1 - j]? = some v) acc xs.size →
      Q (.ref g.objs.size) { s with heap := g.push { cls := .type "tuple", data := .seq acc }, toks := k }) :
    wpAny (model P w) A (call (.type "tuple") [.ref z]) Q E s := by
  refine callType_codes (Q₁ := fun ob s₁ => s₁.TypeIs ob "tuple" ∧ Q ob s₁) F.called_tuple (F.typeCall_tuple_1 _) F.entry_object_init
    (rt_new (A := A.in1) ah hz ht ht0 hn fun g k acc hk hacc => ⟨⟨_, Heap.get?_push_size _ rfl, rfl⟩, hQ g k acc hk hacc⟩) fun ob s₁ q => ?_
  exact ⟨q.1, F.args_object_init_2 ob _, object_init_meets F.called_tuple.init.lookup F.called_tuple.made (by decide) P w A.in1 _ s₁ ⟨q.1, rfl, q.2⟩⟩
end
section
variable {X : Cx}
/-- tuple(reversed(t)), t a tuple -/
def tTupRevT (K : PySem.W.Frag) (te : TE) : TE := fun σ H Q => te σ H fun v H1 => ∃ (a : Addr) (xs : List V), v = .ref a ∧ SqT K H1 a xs ∧ ∀ q, H1 q = none → Q (.ref q) (upd H1 q (.tup xs.reverse))
theorem pe_tupRevT {e : Expr} {te : TE} {p p2 pos pos2 : Pos} (hc : X.calm = true) (hg : Gl X "tuple") (hm : X.mg "tuple" = none) (hg2 : Gl X "reversed") (hm2 : X.mg "reversed" = none) (he : PE X e te)
    (hs : starEach [e] X.env = (false, eval e X.env) :: starEach [] X.env := by rfl)
    (hs2 : starEach [.Call (.Name "reversed" p2) [e] [] pos2] X.env = (false, eval (.Call (.Name "reversed" p2) [e] [] pos2) X.env) :: starEach [] X.env := by rfl) :
    PE X (.Call (.Name "tuple" p) [.Call (.Name "reversed" p2) [e] [] pos2] [] pos) (tTupRevT X.K te) := by
  refine ⟨fun pins s σ H Q I h => ?_⟩
  have inner : ∀ u s1, EP X pins σ (fun v H1 => ∃ (a : Addr) (xs : List V), v = .ref a ∧ SqT X.K H1 a xs ∧ ∀ q, H1 q = none → Q (.ref q) (upd H1 q (.tup xs.reverse))) u s1 →
      wpAny (model X.prog X.w) X.A (call (.type "reversed") [u]) (fun r s2 => wpAny (model X.prog X.w) X.A (call (.type "tuple") [r]) (EP X pins σ Q) X.xe s2) X.xe s1 := by
    rintro u s1 ⟨v, H1, I1, r1, a, xs, rfl, hq, q⟩
    obtain rfl : u = Value.ref a := r1
    obtain ⟨its, rv, p', hz⟩ := I1.tuple hq
    have hn := line63
    have hl := rv.length
    have sz : its.toArray.size ≤ sizeLine := by rw [List.size_toArray, ← hl]; exact hz
    refine call_reversed_tup p' (fun A E Q k => len_tuple p' (by simp only [List.size_toArray] <;> omega) k) ?_
    have k0 : ∀ b o, s1.heap.get? b = some o → (s1.heap.push (rtObj a ((its.toArray.size : Int) - 1))).get? b = some o := fun b o e => Heap.get?_push_of_some _ e
    have I2 : Inv X pins σ H1 { s1 with heap := s1.heap.push (rtObj a ((its.toArray.size : Int) - 1)), toks := s1.toks + 1 + 1 } := I1.turned (t' := s1.toks + 1 + 1) (fun b o _ e => k0 b o e) (I1.fpOk (H' := H1) (b := s1.heap.objs.size) (Nat.le_refl _) (I1.hok.fresh (Nat.le_refl _))).1 (I1.fpOk (H' := H1) (b := s1.heap.objs.size) (Nat.le_refl _) (I1.hok.fresh (Nat.le_refl _))).2.1 (I1.fpOk (H' := H1) (b := s1.heap.objs.size) (Nat.le_refl _) (I1.hok.fresh (Nat.le_refl _))).2.2.2.1 (I1.fpOk (H' := H1) (b := s1.heap.objs.size) (Nat.le_refl _) (I1.hok.fresh (Nat.le_refl _))).2.2.2.2.1 (I1.fpOk (H' := H1) (b := s1.heap.objs.size) (Nat.le_refl _) (I1.hok.fresh (Nat.le_refl _))).2.2.2.2.2
    obtain ⟨f0, f1, f2, f3, f4, f5⟩ := I1.fpOk (H' := H1) (b := s1.heap.objs.size) (Nat.le_refl _) (I1.hok.fresh (Nat.le_refl _))
    obtain ⟨ol, hol, _⟩ := id p'
    have hne : a ≠ s1.heap.objs.size := Nat.ne_of_lt (Heap.lt_size hol)
    have pt : IsTup (s1.heap.push (rtObj a ((its.toArray.size : Int) - 1))) a its.toArray := by
      obtain ⟨o, ho, r⟩ := p'
      exact ⟨o, k0 _ _ ho, r⟩
    refine rt_tuple (s := { s1 with heap := s1.heap.push (rtObj a ((its.toArray.size : Int) - 1)), toks := s1.toks + 1 + 1 }) (I1.ok.hd hc) ⟨_, Heap.get?_push_size _ rfl, rfl, rfl⟩ pt hne sz fun g k acc hk hi => ?_
    have I3 : Inv X pins σ H1 { s1 with heap := g, toks := k } := I2.turned (t' := k) (fun b o hb e => hk b o hb e) f0 f1 f3 f4 f5
    refine ⟨.ref g.objs.size, upd H1 g.objs.size (.tup xs.reverse), I3.laid (t' := k) (fun c o e => Heap.get?_push_of_some _ e) (Nat.le_refl _) (show ObjOk X.prog X.w _ _ _ (.tup xs.reverse) from ⟨by rw [List.length_reverse]; exact hz, acc.toList, vals_rev rv hi, ?_⟩), rfl, q _ (I3.hok.fresh (Nat.le_refl _))⟩
    rw [Array.toArray_toList]
    exact IsTup.new _ _
  refine Call_ (ld_blt I hg hm boot_tuple (PyProof.Rows.callWith_type1 (args_cons (Call_ (ld_blt I hg2 hm2 PyProof.Rows.boot_reversed (PyProof.Rows.callWith_type1 (args_cons (thn (he.run pins s σ H _ I h) fun u s1 q => args_nil ?_) hs) hs rfl))) hs2) hs2 rfl))
  exact wpAny_mono (inner u s1 q) (fun r s2 z => args_nil z) fun _ _ z => z
variable {W : WX}
def dTupRev (da : DE) : DE := fun σ h X Q => da σ h X fun d h1 => ∃ l, d = .tup l ∧ Q (.tup l.reverse) h1
theorem se_tupRev {e : Expr} {de : DE} {p p2 pos pos2 : Pos} (hc : X.calm = true) (hm : X.mg "tuple" = none) (hm2 : X.mg "reversed" = none) (he : SE X W e de) (hg : Gl X "tuple" := by rfl) (hg2 : Gl X "reversed" := by rfl)
    (hs : starEach [e] X.env = (false, eval e X.env) :: starEach [] X.env := by rfl)
    (hs2 : starEach [.Call (.Name "reversed" p2) [e] [] pos2] X.env = (false, eval (.Call (.Name "reversed" p2) [e] [] pos2) X.env) :: starEach [] X.env := by rfl) :
    SE X W (.Call (.Name "tuple" p) [.Call (.Name "reversed" p2) [e] [] pos2] [] pos) (dTupRev de) := PE.imp (pe_tupRevT hc hg hm hg2 hm2 he hs hs2) fun σ H Q w => by
  obtain ⟨ρ, σd, h, Xd, Qd, hr, sr, w, kx, k⟩ := w
  refine ⟨ρ, σd, h, Xd, _, hr, sr, w, kx, fun ρ1 d h1 v H1 e1 hr1 dv q => ?_⟩
  obtain ⟨l, rfl, q⟩ := q
  obtain ⟨a, vs, rfl, ht, ds⟩ := dv
  exact ⟨a, vs, rfl, ht.sq, fun p np => k ρ1 _ h1 _ _ (e1.trans (.new1 np)) (hr1.new1 np) (.tupNew hr1 np ds.reverse) q⟩
end
end L2.MW

/-! MW, part I: xs[i] op= e, a, b = a list, enumerate, <= of tuples of ints, try that nothing leaves. -/
namespace L2.MW
open PySem PySem.Spec PyProof.Rows
section
variable {X : Cx} {W : WX} {pos p : Pos} {e a b : Expr} {da db de : DE}
theorem s1_augS {o i : Expr} {tpos : Pos} {dd di : DE} {ao : Operator} {tip : TIp} {op : D2} (L : L2ok X.K op tip) (hp : PIp X ao tip) (ho : SE X W o dd) (hi : SE X W i di) (he : SE X W e de)
    (ha : ∀ ov iv new, augStore i ov iv new = (do holding [new, ov, iv] (setItem ov iv new); release [new, ov, iv] []; pure .next) := by intros; rfl) : S1 X W (.AugAssign (.Subscript o i tpos) ao e pos) (sAugS op dd di de) := PS.imp (ps_augS ho hi get_list he hp set_list ha) fun Dn σ H w => by
  obtain ⟨ρ0, H0, ρ, σd, h, E, e0, hr, sr, w, k⟩ := w
  refine lE.go hr sr w (k.xw e0) fun ρ1 d1 h1 v1 H1 e1 hr1 sr1 kx1 dv1 w1 => lE.go hr1 sr1 w1 kx1 fun ρ2 d2 h2 v2 H2 e2 hr2 sr2 kx2 dv2 w2 => ?_
  obtain ⟨j, l, kk, n, c, rfl, rfl, hj, hn, hc, q⟩ := w2
  obtain ⟨a, vs, rfl, hja, hH, dvs⟩ := ref_lst hr2 (dv1.ext e2) hj
  have ev2 : v2 = .int kk := dv2
  subst ev2
  obtain ⟨cv, hcv, dcv⟩ := dvs.get hc
  have hat : atI vs kk = some cv := by
    unfold atI
    rw [dvs.length, hn]
    exact hcv
  refine ⟨a, vs, kk, cv, rfl, rfl, .of hH, hat, ?_⟩
  refine lE.go hr2 sr2 q kx2 fun ρ3 d3 h3 v3 H3 e3 hr3 sr3 kx3 dv3 w3 => ?_
  refine L ρ3 h3 H3 c d3 cv v3 _ _ hr3 (dcv.ext e3) dv3 w3 fun ρ4 z h4 v4 H4 e4 hr4 dv4 q4 => ?_
  obtain ⟨l', hj', hn', q4⟩ := q4
  have e24 : Ext ρ2 H2 ρ4 H4 := e3.trans e4
  have hja4 : ρ4[j]? = some a := e24.get hja
  obtain ⟨vs', hH', dvs'⟩ := hr4.at_ j _ a hj' hja4
  refine ⟨a, vs', kk, n, rfl, rfl, hH', by rw [dvs'.length]; exact hn', ?_⟩
  obtain ⟨a1, a2⟩ := write_lst hr4 hja4 (dvs'.set dv4 n)
  have ee := (((e0.trans e1).trans e2).trans e24).trans a2
  exact k.nx ρ4 _ _ _ _ ee a1 ((sr2.ext e24).ext a2) q4
theorem ip_xor0 : PIp X .BitXor (rI0 fun i j => .int (Builtin.bitXor i j)) := by
  intro pins s σ H x y v u Q I r1 r2 h
  exact iop_xor pins s σ H x y v u Q I r1 r2 h
theorem ip_sub0 : PIp X .Sub (rI0 fun i j => .int (i - j)) := by
  intro pins s σ H x y v u Q I r1 r2 h
  exact iop_sub pins s σ H x y v u Q I r1 r2 h
abbrev dIor : D2 := dI0 fun i j => .int (Builtin.bitOr i j)
abbrev dIxor : D2 := dI0 fun i j => .int (Builtin.bitXor i j)
abbrev dIadd : D2 := dI0 fun i j => .int (i + j)
theorem s1_augSor {o i : Expr} {tpos : Pos} {dd di : DE} (ho : SE X W o dd) (hi : SE X W i di) (he : SE X W e de)
    (ha : ∀ ov iv new, augStore i ov iv new = (do holding [new, ov, iv] (setItem ov iv new); release [new, ov, iv] []; pure .next) := by intros; rfl) : S1 X W (.AugAssign (.Subscript o i tpos) .BitOr e pos) (sAugS dIor dd di de) := s1_augS (L_I0 fun _ _ _ _ => rfl) ip_bor ho hi he ha
theorem s1_augSxor {o i : Expr} {tpos : Pos} {dd di : DE} (ho : SE X W o dd) (hi : SE X W i di) (he : SE X W e de)
    (ha : ∀ ov iv new, augStore i ov iv new = (do holding [new, ov, iv] (setItem ov iv new); release [new, ov, iv] []; pure .next) := by intros; rfl) : S1 X W (.AugAssign (.Subscript o i tpos) .BitXor e pos) (sAugS dIxor dd di de) := s1_augS (L_I0 fun _ _ _ _ => rfl) ip_xor0 ho hi he ha
theorem s1_augSadd {o i : Expr} {tpos : Pos} {dd di : DE} (ho : SE X W o dd) (hi : SE X W i di) (he : SE X W e de)
    (ha : ∀ ov iv new, augStore i ov iv new = (do holding [new, ov, iv] (setItem ov iv new); release [new, ov, iv] []; pure .next) := by intros; rfl) : S1 X W (.AugAssign (.Subscript o i tpos) .Add e pos) (sAugS dIadd dd di de) := s1_augS (L_I0 fun _ _ _ _ => rfl) ip_add0 ho hi he ha
/-- a, b, .. = a list of that length -/
def tgLst (n : Nat) (u : DGs) : DG := fun d σ h X Q => ∃ l, asL h d = some l ∧ l.length = n ∧ u l σ h X Q
theorem sg_lst {T : List Nat} {es : List Expr} {k n : Nat} {u : DGs} (hc : X.calm = true) (hu : SGs X W T es u) (hn : (assignEach es X.env).length = n := by rfl) (hst : (assignEach es X.env).findIdx? (·.1) = none := by rfl) :
    SG X W T (.Tuple es k pos) (tgLst n u) := PG.imp (pg_lst hc hu hn hst) fun v σ H Q w => by
  obtain ⟨ρ, σd, h, Xd, Qd, d, hr, sr, dv, ⟨l, el, hl, w⟩, kx, k⟩ := w
  obtain ⟨a, vs, rfl, hq, ds⟩ := asL_at hr dv el
  exact ⟨a, vs, rfl, hq, by rw [ds.length]; exact hl, ρ, σd, h, Xd, Qd, l, hr, sr, ds, w, k⟩
/-! ### enumerate(a list) -/
def enD (n : Nat) : List D → List D
  | [] => []
  | d :: ds => .tup [.int (n : Nat), d] :: enD (n + 1) ds
theorem enD_length : ∀ (n : Nat) (l : List D), (enD n l).length = l.length
  | _, [] => rfl
  | n, d :: ds => by rw [enD, List.length_cons, List.length_cons, enD_length]
theorem enD_get : ∀ (n : Nat) (l : List D) (i : Nat) (d : D), (enD n l)[i]? = some d → ∃ x, l[i]? = some x ∧ d = .tup [.int ((n + i : Nat) : Int), x]
  | _, [], _, _, h => by simp [enD] at h
  | n, x :: ds, 0, d, h => by
    simp [enD] at h
    exact ⟨x, rfl, h.symm⟩
  | n, x :: ds, i + 1, d, h => by
    obtain ⟨y, h1, h2⟩ := enD_get (n + 1) ds i d (by simpa [enD] using h)
    exact ⟨y, by simpa using h1, by rw [h2]; congr 3; omega⟩
theorem it_enum {K : PySem.W.Frag} {ρ0 : List Addr} {H0 : Hp} {a : Addr} {l : List D} {G : DHp → Prop} (hq : ∀ ρ h H, Ext ρ0 H0 ρ H → HR K ρ h H → G h → ∃ vs, SqL K H a vs ∧ DVs K ρ H l vs) : ItAt K ρ0 H0 (enD 0 l) G (Ite K a) := by
  intro ρ h H i e hr g
  obtain ⟨vs, q, dvs⟩ := hq ρ h H e hr g
  refine ⟨fun d hd => ?_, fun hl => ⟨vs, q, by rw [dvs.length]; rw [enD_length] at hl; exact hl⟩⟩
  obtain ⟨x, hx, rfl⟩ := enD_get 0 l i d hd
  obtain ⟨v, hv, dv⟩ := dvs.get hx
  refine ⟨⟨vs, v, q, hv⟩, fun u H' y => ?_⟩
  obtain ⟨T, x', rfl, np, rfl, y⟩ := y
  have z := y vs q
  rw [hv] at z; cases z
  refine ⟨.new1 np, hr.new1 np, .tupNew hr np ⟨_, _, by rw [Nat.zero_add], rfl, _, [], rfl, dv, rfl⟩⟩
theorem si_enum {ts : DA} {elts : List Expr} {kk : Nat} {tpos : Pos} (hm : X.mg "enumerate" = none) (ha : SA X W [e] ts) (hg : Gl X "enumerate" := by rfl) (hs : starEach [e] X.env = [(false, eval e X.env)] := by rfl) :
    SI X W (.Tuple elts kk tpos) (.Call (.Name "enumerate" p) [e] [] pos) (fun σ h X Q => ts σ h X fun ds h1 => ∃ d l, ds = [d] ∧ asL h1 d = some l ∧ Q (enD 0 l) (gdL d l) h1) :=
  PI.imp (pi_enum hg hm ha hs) fun σ H R w => by
    obtain ⟨ρ, σd, h, Xd, Qd, hr, sr, w, kx, k⟩ := w
    refine ⟨ρ, σd, h, Xd, _, hr, sr, w, kx, fun ρ1 ds h1 vs H1 e1 hr1 dvs q => ?_⟩
    obtain ⟨d, l, rfl, el, q⟩ := q
    obtain ⟨v, rfl, dv⟩ := dvs.un
    obtain ⟨a, ws, rfl, hq, dl⟩ := asL_at hr1 dv el
    refine ⟨a, ws, rfl, hq, k ρ1 _ _ h1 _ H1 e1 hr1 (it_enum fun ρ2 h2 H2 e2 hr2 g2 => ?_) q⟩
    obtain ⟨a', vs', e', hq', dvs'⟩ := asL_at hr2 (dv.ext e2) g2
    cases e'
    exact ⟨vs', hq', dvs'⟩
abbrev iEnumD (ts : DA) : DI := fun σ h X Q => ts σ h X fun ds h1 => ∃ d l, ds = [d] ∧ asL h1 d = some l ∧ Q (enD 0 l) (gdL d l) h1
abbrev iRevD (ts : DA) : DI := fun σ h X Q => ts σ h X fun ds h1 => ∃ d l, ds = [d] ∧ asL h1 d = some l ∧ Q l.reverse (gdL d l) h1
/-- <= of tuples of ints -/
def leNs (ns ms : List Int) : Bool := Ob.lexAt (fun j => decide (ns.getD j 0 = ms.getD j 0)) (fun j => decide (ns.getD j 0 ≤ ms.getD j 0)) (decide (ns.length ≤ ms.length)) 0 (min ns.length ms.length)
def dLeT : D2 := fun x y h Q => ∃ ns ms : List Int, x = .tup (ns.map D.int) ∧ y = .tup (ms.map D.int) ∧ Q (.bl (leNs ns ms)) h
theorem L_leT {K : PySem.W.Frag} : L2ok K dLeT (rLeT K) := by
  intro ρ h H x y vx vy Qd Q hr dx dy w k
  obtain ⟨ns, ms, rfl, rfl, q⟩ := w
  obtain ⟨a, vs, rfl, h1, d1⟩ := dx
  obtain ⟨b, us, rfl, h2, d2⟩ := dy
  have e1 := d1.ints
  have e2 := d2.ints
  subst e1 e2
  exact ⟨a, b, ns, ms, rfl, rfl, h1.sq, h2.sq, k ρ (.bl (leNs ns ms)) h _ H .refl hr rfl q⟩
theorem se_leT (hu : X.A.units < cLine) (ha : SE X W a da) (hb : SE X W b db) (hm : behindInMarks .LtE b = false := by first | exact nomark _ | rfl) : SE X W (.Compare a [.LtE] [b] pos) (dOp dLeT da db) := se_cmp (op_leT hu) L_leT ha hb hm
theorem st_leT (hu : X.A.units < cLine) (ha : SE X W a da) (hb : SE X W b db) (hm : behindInMarks .LtE b = false := by first | exact nomark _ | rfl) : ST X W (.Compare a [.LtE] [b] pos) (dTst (dOp dLeT da db)) := st_cmp (op_leT hu) L_leT ha hb hm
/-! ### try: nothing leaves the body -/
def sNox (t : DS) : DS := fun E σ h => t { E with ex := fun _ _ _ => False } σ h
theorem s1_try0 {body : List Stmt} {h₀ : ExceptHandler} {hs : List ExceptHandler} {t : DS} (hb : SS X.nox W0 body t) : S1 X W (.Try body (h₀ :: hs) [] [] pos) (sNox t) := PS.imp (ps_try_thru0 hb) fun Dn σ H w => by
  obtain ⟨ρ0, H0, ρ, σd, h, E, e0, hr, sr, w, k⟩ := w
  exact ⟨ρ0, H0, ρ, σd, h, _, e0, hr, sr, w, ⟨k.n0, k.nx, k.bk, k.ct, k.rt, fun _ _ _ _ _ _ _ _ _ _ _ _ z => z.elim⟩⟩
end
end L2.MW

/-! MW, part J: short names for the printed derivations. -/
namespace L2.MW
open PySem PySem.Spec PyProof.Rows
abbrev oSub : D2 := dI0 fun i j => .int (i - j)
abbrev oDiv : D2 := dII CDiv fun i j => .int (i / j)
abbrev oMod : D2 := dII (fun _ j => 0 < j) fun i j => .int (i % j)
abbrev oPow : D2 := dII CPow fun i j => .int (i ^ j.toNat)
abbrev oShl : D2 := dII CPow fun i j => .int (i * 2 ^ j.toNat)
abbrev oShr : D2 := dII (fun _ j => 0 ≤ j) fun i j => .int (i / 2 ^ j.toNat)
abbrev oAnd : D2 := dI0 fun i j => .int (Builtin.bitAnd i j)
abbrev oOr : D2 := dI0 fun i j => .int (Builtin.bitOr i j)
abbrev oXor : D2 := dI0 fun i j => .int (Builtin.bitXor i j)
abbrev oLt : D2 := dCI fun i j => decide (i < j)
abbrev oLe : D2 := dCI fun i j => decide (i ≤ j)
abbrev oGt : D2 := dCI fun i j => decide (j < i)
abbrev oGe : D2 := dCI fun i j => decide (j ≤ i)
abbrev nMax2 : DN := nI2 fun i j => if j > i then j else i
abbrev nMin2 : DN := nI2 fun i j => if j < i then j else i
theorem uu {k : Nat} {A : Around} (r : Room k A) : A.units + 64 < cLine := by have := r.un; omega
theorem uu1 {k : Nat} {A : Around} (r : Room k A) : A.units + 65 < cLine := by have := r.un; omega
theorem uu0 {k : Nat} {A : Around} (r : Room k A) : A.units < cLine := by have := r.un; omega
theorem takes00 {X : Cx} : Takes X W0 := fun u s' ⟨_, _, _, _, _, _, _, _, _, _, _, _, _, _, _, _, w⟩ => w.elim
end L2.MW

/-! MW, part L: how readings are shown: loops by an invariant, comprehensions as maps, the changing heap. -/
namespace L2.MW
open PySem PySem.Spec PyProof.Rows

/-! ### loops -/
theorem forW_inv {tb : DS} {g : DG} {G : DHp → Prop} {E : DEnds} (items : List D) (I : Nat → DSt → DHp → Prop) {σ : DSt} {h : DHp} (h0 : I 0 σ h) (hG : ∀ i σ h, i ≤ items.length → I i σ h → G h)
    (step : ∀ i x σ h (N : DSt → DHp → Prop), items[i]? = some x → I i σ h → (∀ σ' h', I (i + 1) σ' h' → N σ' h') → g x σ h (E.xx σ) fun σ' h' => tb { E with nx := N, ct := N, bk := E.nx } σ' h')
    (fin : ∀ σ h, I items.length σ h → E.nx σ h) : forW tb g G E items σ h := by
  have gen : ∀ (r : List D) (k : Nat), items.drop k = r → k ≤ items.length → ∀ σ h, I k σ h → forW tb g G E r σ h := by
    intro r
    induction r with
    | nil =>
      intro k e hk σ h i
      have hl : k = items.length := by
        have := congrArg List.length e
        rw [List.length_drop, List.length_nil] at this
        omega
      subst hl
      exact ⟨hG _ _ _ hk i, fin σ h i⟩
    | cons x xs ih =>
      intro k e hk σ h i
      have hx : items[k]? = some x := by
        have := congrArg (fun l => l[0]?) e
        rw [List.getElem?_drop] at this
        simpa using this
      have hlt : k < items.length := (List.getElem?_eq_some_iff.mp hx).1
      have hd : items.drop (k + 1) = xs := by
        have := congrArg List.tail e
        rw [List.tail_drop] at this
        simpa using this
      exact ⟨hG _ _ _ hk i, step k x σ h _ hx i fun σ' h' i' => ih (k + 1) hd hlt σ' h' i'⟩
  exact gen items 0 rfl (Nat.zero_le _) σ h h0
/-! ### comprehensions -/
theorem at_end {h : DHp} {b : HB} : (h ++ [b])[h.length]? = some b := by rw [List.getElem?_append_right (Nat.le_refl _), Nat.sub_self]; rfl
theorem set_end {h : DHp} {b c : HB} : (h ++ [b]).set h.length c = h ++ [c] := by rw [List.set_append_right _ _ (Nat.le_refl _), Nat.sub_self]; rfl
theorem at_k {h l : DHp} {k : Nat} : (h ++ l)[h.length + k]? = l[k]? := by rw [List.getElem?_append_right (Nat.le_add_right _ _), Nat.add_sub_cancel_left]
theorem at_0 {h l : DHp} : (h ++ l)[h.length]? = l[0]? := by rw [List.getElem?_append_right (Nat.le_refl _), Nat.sub_self]
theorem set_k {h l : DHp} {k : Nat} {c : HB} : (h ++ l).set (h.length + k) c = h ++ l.set k c := by rw [List.set_append_right _ _ (Nat.le_add_right _ _), Nat.add_sub_cancel_left]
theorem set_0 {h l : DHp} {c : HB} : (h ++ l).set h.length c = h ++ l.set 0 c := by rw [List.set_append_right _ _ (Nat.le_refl _), Nat.sub_self]
def lcF (f : D → D) (p : D → Bool) (items : List D) : List D := (items.filter p).map f
/-- each item: p tells if it is taken, f what is made of it -/
theorem lc_map {g : DG} {tt : DT} {te : DE} {G : DHp → Prop} {h1 : DHp} {σ : DSt} {Q : DHp → Prop} (f : D → D) (p : D → Bool) (items : List D) (hG : ∀ acc, G (h1 ++ [.lst acc])) (hl : items.length ≤ sizeLine)
    (hx : ∀ x ∈ items, ∀ (acc : List D) (R : DHp → Prop), acc.length < sizeLine → (p x = true → R (h1 ++ [.lst (acc ++ [f x])])) → (p x = false → R (h1 ++ [.lst acc])) →
      g x σ (h1 ++ [.lst acc]) X0 fun σ2 h2 => tt σ2 h2 X0 fun b h3 => (b = true → te σ2 h3 X0 fun y h4 => ∃ acc, h4[h1.length]? = some (.lst acc) ∧ acc.length < sizeLine ∧ R (h4.set h1.length (.lst (acc ++ [y])))) ∧ (b = false → R h3))
    (q : Q (h1 ++ [.lst (lcF f p items)])) : lcH g tt te G h1.length σ items (h1 ++ [.lst []]) Q := by
  have gen : ∀ (r done : List D), items = done ++ r → lcH g tt te G h1.length σ r (h1 ++ [.lst (lcF f p done)]) Q := by
    intro r
    induction r with
    | nil =>
      intro done e
      rw [List.append_nil] at e
      subst e
      exact ⟨hG _, q⟩
    | cons x xs ih =>
      intro done e
      have hlen : (lcF f p done).length < sizeLine := by
        have l1 : (lcF f p done).length ≤ done.length := by unfold lcF; rw [List.length_map]; exact List.length_filter_le _ _
        have l2 : done.length < items.length := by rw [e, List.length_append, List.length_cons]; omega
        omega
      refine ⟨hG _, hx x (by rw [e]; simp) _ (fun hh => lcH g tt te G h1.length σ xs hh Q) hlen (fun hp => ?_) fun hp => ?_⟩
      · have := ih (done ++ [x]) (by rw [e]; simp)
        have e2 : lcF f p (done ++ [x]) = lcF f p done ++ [f x] := by unfold lcF; rw [List.filter_append, List.map_append]; simp [List.filter_cons, hp]
        rw [e2] at this
        exact this
      · have := ih (done ++ [x]) (by rw [e]; simp)
        have e2 : lcF f p (done ++ [x]) = lcF f p done := by unfold lcF; rw [List.filter_append, List.map_append]; simp [List.filter_cons, hp]
        rw [e2] at this
        exact this
  exact gen items [] rfl
/-! ### what may stand anywhere: data without places -/
theorem Bds_all {m : Nat} : ∀ {l : List D}, (∀ x ∈ l, Bd m x) → Bds m l
  | [], _ => trivial
  | d :: ds, h => ⟨h d List.mem_cons_self, Bds_all fun x hx => h x (List.mem_cons_of_mem _ hx)⟩
theorem Bd.of_pl : ∀ (n : Nat) (d : D), OkD n d → ∀ m, Bd m d := by
  intro n
  induction n with
  | zero => intro d h m; cases d <;> first | trivial | exact False.elim h
  | succ n ih =>
    intro d h m
    cases d with
    | tup l => exact Bds_all fun x hx => ih x (h x hx) m
    | lst l => exact Bds_all fun x hx => ih x (h x hx) m
    | fz l => exact Bds_all fun x hx => ih x (h x hx) m
    | _ => first | trivial | exact False.elim h
theorem Bds.of_pl (n : Nat) (l : List D) (h : ∀ x ∈ l, OkD n x) (m : Nat) : Bds m l := Bds_all fun x hx => Bd.of_pl n x (h x hx) m
theorem OkD.ints {n : Nat} {l : List Int} : ∀ x ∈ l.map D.int, OkD n x := fun x hx => by
  obtain ⟨i, _, rfl⟩ := List.mem_map.mp hx
  cases n <;> trivial
theorem Bds.ints {m : Nat} {l : List Int} : Bds m (l.map D.int) := Bds.of_pl 0 _ OkD.ints m
/-! ### bits -/
theorem bOr (a b : Nat) : Builtin.bitOr (a : Int) (b : Int) = ((a ||| b : Nat) : Int) := by
  rw [bitOr_nn (by omega) (by omega)]; simp
theorem bAnd (a b : Nat) : Builtin.bitAnd (a : Int) (b : Int) = ((a &&& b : Nat) : Int) := by
  rw [bitAnd_pp (by omega) (by omega)]; simp
theorem bXor (a b : Nat) : Builtin.bitXor (a : Int) (b : Int) = ((a ^^^ b : Nat) : Int) := by
  rw [Bits.bitXor_pp (by omega) (by omega)]; simp
theorem bShl (j : Nat) : (1 : Int) * 2 ^ j = ((2 ^ j : Nat) : Int) := by push_cast; omega
theorem bShr (a j : Nat) : (a : Int) / 2 ^ j = ((a >>> j : Nat) : Int) := by
  rw [Nat.shiftRight_eq_div_pow]; push_cast; rfl
theorem bBit (a j : Nat) : Builtin.bitAnd ((a : Int) / 2 ^ j) 1 = if a.testBit j then 1 else 0 := by
  rw [bShr, show (1 : Int) = ((1 : Nat) : Int) from rfl, bAnd]
  have e : (a >>> j) &&& 1 = (a.testBit j).toNat := by
    rw [Nat.and_one_is_mod, Nat.testBit_eq_decide_div_mod_eq, Nat.shiftRight_eq_div_pow]
    have : a / 2 ^ j % 2 < 2 := Nat.mod_lt _ (by decide)
    by_cases q : a / 2 ^ j % 2 = 1 <;> simp [q] <;> omega
  rw [e]
  cases a.testBit j <;> rfl
end L2.MW

/-! MW, part M: the operations at known values. -/
namespace L2.MW
open PySem PySem.Spec PyProof.Rows
section
variable {h : DHp} {Q : DK} {l m : List D} {i j : Int} {d x y : D}
theorem tru_bl {b : Bool} : truD h (.bl b) = some b := rfl
theorem tru_int : truD h (.int i) = some (i != 0) := rfl
theorem asL_lst : asL h (.lst l) = some l := rfl
theorem asL_fz : asL h (.fz l) = some l := rfl
theorem asL_ref {k : Nat} (e : h[k]? = some (.lst l)) : asL h (.ref k) = some l := by
  show (match h[k]? with | some (.lst l) => some l | _ => none) = some l
  rw [e]
theorem asX_lst : asX h (.lst l) = some l := rfl
theorem asX_ref {k : Nat} (e : h[k]? = some (.lst l)) : asX h (.ref k) = some l := by
  show (match h[k]? with | some (.lst l) => some l | _ => none) = some l
  rw [e]
theorem asS_tup : asS h (.tup l) = some l := rfl
theorem asS_lst : asS h (.lst l) = some l := rfl
theorem asS_fz : asS h (.fz l) = some l := rfl
theorem asS_ref {k : Nat} (e : h[k]? = some (.lst l)) : asS h (.ref k) = some l := asL_ref e
theorem ix_of (e : asS h x = some l) (e2 : atI l i = some d) (q : Q d h) : dIx x (.int i) h Q := ⟨i, rfl, .inl ⟨l, d, e, e2, q⟩⟩
theorem ix_eq (e : asS h x = some l) (e2 : atI l i = some d) : dIx x (.int i) h Q ↔ Q d h := by
  constructor
  · rintro ⟨i', e', w⟩
    cases e'
    rcases w with ⟨l', d', e3, e4, q⟩ | ⟨z, c, rfl, _, _, _⟩
    · rw [e] at e3; cases e3
      rw [e2] at e4; cases e4
      exact q
    · cases e
  · exact ix_of e e2
theorem ix_tup (e2 : atI l i = some d) : dIx (.tup l) (.int i) h Q ↔ Q d h := ix_eq rfl e2
theorem ix_lst (e2 : atI l i = some d) : dIx (.lst l) (.int i) h Q ↔ Q d h := ix_eq rfl e2
theorem ix_fz (e2 : atI l i = some d) : dIx (.fz l) (.int i) h Q ↔ Q d h := ix_eq rfl e2
theorem ix_ref {k : Nat} (e : h[k]? = some (.lst l)) (e2 : atI l i = some d) : dIx (.ref k) (.int i) h Q ↔ Q d h := ix_eq (asS_ref e) e2
theorem ixN_nat {n k : Nat} (hk : k < n) : ixN n (k : Int) = some k := by unfold ixN; rw [if_pos (by omega), if_pos (by omega)]; simp
theorem atI_nat {α : Type} {l : List α} {k : Nat} {a : α} (e : l[k]? = some a) : atI l (k : Int) = some a := by
  unfold atI
  rw [ixN_nat (List.getElem?_eq_some_iff.mp e).1]
  exact e
theorem atI_0 {α : Type} {a : α} {r : List α} : atI (a :: r) 0 = some a := atI_nat (k := 0) rfl
theorem atI_1 {α : Type} {a b : α} {r : List α} : atI (a :: b :: r) 1 = some b := atI_nat (k := 1) rfl
theorem atI_2 {α : Type} {a b c : α} {r : List α} : atI (a :: b :: c :: r) 2 = some c := atI_nat (k := 2) rfl
theorem len_of (e : asS h x = some l) (q : Q (.int l.length) h) : nLen [x] h Q := ⟨x, rfl, .inl ⟨l, e, q⟩⟩
theorem len_eq (e : asS h x = some l) : nLen [x] h Q ↔ Q (.int l.length) h := by
  constructor
  · rintro ⟨x', e', w⟩
    cases e'
    rcases w with ⟨l', e3, q⟩ | ⟨z, rfl, _, _⟩
    · rw [e] at e3; cases e3; exact q
    · cases e
  · exact len_of e
theorem len_tup : nLen [.tup l] h Q ↔ Q (.int l.length) h := len_eq rfl
theorem len_lst : nLen [.lst l] h Q ↔ Q (.int l.length) h := len_eq rfl
theorem len_fz : nLen [.fz l] h Q ↔ Q (.int l.length) h := len_eq rfl
theorem ne_int : dNe (.int i) (.int j) h Q ↔ Q (.bl (!(i == j))) h := ⟨fun w => w.2.2, fun q => ⟨trivial, trivial, q⟩⟩
theorem eq_int : dEq (.int i) (.int j) h Q ↔ Q (.bl (i == j)) h := ⟨fun w => w.2.2, fun q => ⟨trivial, trivial, q⟩⟩
theorem ne_bl {a b : Bool} : dNe (.bl a) (.bl b) h Q ↔ Q (.bl (!(a == b))) h := by
  have e : deq (.bl a) (.bl b) = (a == b) := by cases a <;> cases b <;> rfl
  unfold dNe
  show _ ∧ _ ∧ Q (.bl (!deq (.bl a) (.bl b))) h ↔ _
  rw [e]
  exact ⟨fun w => w.2.2, fun q => ⟨trivial, trivial, q⟩⟩
theorem eq_bl {a b : Bool} : dEq (.bl a) (.bl b) h Q ↔ Q (.bl (a == b)) h := by
  have e : deq (.bl a) (.bl b) = (a == b) := by cases a <;> cases b <;> rfl
  unfold dEq
  show _ ∧ _ ∧ Q (.bl (deq (.bl a) (.bl b))) h ↔ _
  rw [e]
  exact ⟨fun w => w.2.2, fun q => ⟨trivial, trivial, q⟩⟩
theorem add_int : dAdd (.int i) y h Q ↔ ∃ j, y = .int j ∧ Q (.int (i + j)) h := Iff.rfl
theorem add_tup : dAdd (.tup l) (.tup m) h Q ↔ l.length + m.length ≤ sizeLine ∧ Q (.tup (l ++ m)) h := by
  constructor
  · rintro ⟨b, e, q⟩; cases e; exact q
  · intro q; exact ⟨m, rfl, q⟩
theorem mul_int : dMul (.int i) (.int j) h Q ↔ CMul i j ∧ Q (.int (i * j)) h := by
  constructor
  · rintro ⟨b, e, q⟩; cases e; exact q
  · intro q; exact ⟨j, rfl, q⟩
end
theorem int_int {h : DHp} {Q : DK} {i : Int} : nInt [.int i] h Q ↔ Q (.int i) h := by
  constructor
  · rintro (⟨j, e, q⟩ | ⟨b, e, q⟩)
    · cases e; exact q
    · cases e
  · intro q; exact .inl ⟨i, rfl, q⟩
theorem int_bl {h : DHp} {Q : DK} {b : Bool} : nInt [.bl b] h Q ↔ Q (.int (b2D b)) h := by
  constructor
  · rintro (⟨j, e, q⟩ | ⟨b', e, q⟩)
    · cases e
    · cases e; exact q
  · intro q; exact .inr ⟨b, rfl, q⟩
theorem ty_end {h : DHp} {l : List D} : tyM "list" (h ++ [.lst l]) (.ref h.length) ↔ True := ⟨fun _ => trivial, fun _ => .inl ⟨rfl, l, asL_ref at_end⟩⟩
theorem tgs_cons_eq {t : DG} {u : DGs} {d : D} {r : List D} {σ : DSt} {h : DHp} {X : DX} {Q : DSt → DHp → Prop} : tgsCons t u (d :: r) σ h X Q ↔ t d σ h (fun _ _ => False) (fun σ' h' => u r σ' h' X Q) := by
  constructor
  · rintro ⟨d', r', e, q⟩; cases e; exact q
  · intro q; exact ⟨d, r, rfl, q⟩
theorem tgs_nil_eq {σ : DSt} {h : DHp} {X : DX} {Q : DSt → DHp → Prop} : tgsNil [] σ h X Q ↔ Q σ h := ⟨fun w => w.2, fun q => ⟨rfl, q⟩⟩
theorem tg_tup_eq {n : Nat} {u : DGs} {l : List D} {σ : DSt} {h : DHp} {X : DX} {Q : DSt → DHp → Prop} : tgTup n u (.tup l) σ h X Q ↔ l.length = n ∧ u l σ h X Q := by
  constructor
  · rintro ⟨d', e, q⟩; cases e; exact q
  · intro q; exact ⟨l, rfl, q⟩
theorem tg_lst_eq {n : Nat} {u : DGs} {l : List D} {σ : DSt} {h : DHp} {X : DX} {Q : DSt → DHp → Prop} : tgLst n u (.lst l) σ h X Q ↔ l.length = n ∧ u l σ h X Q := by
  constructor
  · rintro ⟨d', e, q⟩; cases e; exact q
  · intro q; exact ⟨l, rfl, q⟩
theorem asS_end {h : DHp} {l : List D} : asS (h ++ [.lst l]) (.ref h.length) = some l := asS_ref at_end
theorem asL_end {h : DHp} {l : List D} : asL (h ++ [.lst l]) (.ref h.length) = some l := asL_ref at_end
theorem at_pre {h : DHp} {b c : HB} : (h ++ [b] ++ [c])[h.length]? = some b := by
  rw [List.append_assoc, List.getElem?_append_right (Nat.le_refl _), Nat.sub_self]; rfl
theorem set_pre {h : DHp} {b c d : HB} : (h ++ [b] ++ [c]).set h.length d = h ++ [d] ++ [c] := by
  rw [List.append_assoc, List.set_append_right _ _ (Nat.le_refl _), Nat.sub_self, List.append_assoc]; rfl
theorem ty_pre {h : DHp} {l : List D} {c : HB} : tyM "list" (h ++ [.lst l] ++ [c]) (.ref h.length) ↔ True := ⟨fun _ => trivial, fun _ => .inl ⟨rfl, l, asL_ref at_pre⟩⟩
theorem rt_frzG {h hh g : DHp} {X : DX} {Q : DK} {i : Nat} {l : List D} (e : hh = h ++ g) (hi : h.length ≤ i) (el : hh[i]? = some (.lst l)) (b : Bds h.length l) (q : Q (.lst l) h) : (endsD h X Q).rt (.ref i) hh := by
  subst e
  exact rt_frz hi el b q
/-! ### what is walked -/
theorem rg_get {n i : Nat} {x : D} (h : (rgD 0 n)[i]? = some x) : x = .int (i : Int) ∧ i < n := by
  unfold rgD at h
  rw [List.getElem?_map] at h
  have hi : i < n := by
    by_cases hi : i < n
    · exact hi
    · rw [List.getElem?_eq_none (by rw [List.length_range]; omega)] at h; cases h
  rw [List.getElem?_range hi] at h
  simp at h
  exact ⟨h.symm, hi⟩
theorem rg_len {lo : Int} {n : Nat} : (rgD lo n).length = n := by unfold rgD; rw [List.length_map, List.length_range]
theorem rg_mem {n : Nat} {x : D} (h : x ∈ rgD 0 n) : ∃ i, i < n ∧ x = .int (i : Int) := by
  obtain ⟨i, hi, rfl⟩ := List.getElem_of_mem h
  obtain ⟨e, hn⟩ := rg_get (List.getElem?_eq_getElem hi)
  exact ⟨i, hn, e⟩
theorem get_map {α : Type} {f : α → D} {l : List α} {i : Nat} {x : D} (h : (l.map f)[i]? = some x) : ∃ a, l[i]? = some a ∧ x = f a ∧ l.take (i + 1) = l.take i ++ [a] ∧ l.drop i = a :: l.drop (i + 1) ∧ a ∈ l := by
  rw [List.getElem?_map] at h
  cases q : l[i]? with
  | none => rw [q] at h; cases h
  | some a =>
    rw [q] at h
    have hl : i < l.length := (List.getElem?_eq_some_iff.mp q).1
    have ea : l[i] = a := (List.getElem?_eq_some_iff.mp q).2
    refine ⟨a, rfl, (Option.some.inj h).symm, ?_, ?_, List.mem_of_getElem? q⟩
    · rw [List.take_succ_eq_append_getElem hl, ea]
    · rw [List.drop_eq_getElem_cons hl, ea]
theorem drop_get {l : List D} {i : Nat} {x : D} (h : l[i]? = some x) : l.take (i + 1) = l.take i ++ [x] ∧ l.drop i = x :: l.drop (i + 1) ∧ x ∈ l := by
  have hl : i < l.length := (List.getElem?_eq_some_iff.mp h).1
  have ea : l[i] = x := (List.getElem?_eq_some_iff.mp h).2
  exact ⟨by rw [List.take_succ_eq_append_getElem hl, ea], by rw [List.drop_eq_getElem_cons hl, ea], List.mem_of_getElem? h⟩
theorem rgOk {n : Nat} (h : n < 4000000) : RgD 0 (n : Int) := ⟨by decide, by decide, by omega, by omega⟩
theorem small {n : Nat} (h : n ≤ 4000000) : n ≤ sizeLine := Nat.le_trans h (by decide)
theorem smallL {n : Nat} (h : n < 4000000) : n < sizeLine := Nat.lt_of_lt_of_le h (by decide)
theorem rt_of {h0 h : DHp} {X : DX} {Q : DK} {d : D} (q : Q d h) : (endsD h0 X Q).rt d h := rt_keep q
theorem rt_lst {h : DHp} {X : DX} {Q : DK} {l : List D} {g : DHp} (b : Bds h.length l) (q : Q (.lst l) h) : (endsD h X Q).rt (.ref h.length) (h ++ .lst l :: g) := rt_frz0 b q
theorem rt_back {h : DHp} {X : DX} {Q : DK} {d : D} {g : DHp} (b : Bd h.length d) (q : Q d h) : (endsD h X Q).rt d (h ++ g) := rt_cut b q
theorem cut_mem {l : List D} {lo hi : Option Int} {x : D} (h : x ∈ cutD l lo hi) : x ∈ l := List.mem_of_mem_drop (List.mem_of_mem_take h)
theorem cut_len {l : List D} {lo hi : Option Int} : (cutD l lo hi).length ≤ l.length := by
  unfold cutD
  rw [List.length_take, List.length_drop]
  omega
end L2.MW

/-! MW, part T: try with except clauses, with and without a name; errors of own classes with fields. -/
namespace L2.MW
open PySem PySem.Spec PyProof.Rows
/-- a clause: its class, the slot of its name, its suite's reading -/
abbrev Cl := Value × Option Nat × (Addr → Value → Option Addr → TS)
def goneE (i : Nat) (D : Ends) : Ends := { nx := fun σ' H' => D.nx (σ'.set i none) H', rt := D.rt, bk := fun σ' H' => D.bk (σ'.set i none) H', ct := fun σ' H' => D.ct (σ'.set i none) H' }
def runCl (o : Option Nat) (ts : Addr → Value → Option Addr → TS) (a : Addr) (cls : Value) (d : Option Addr) (D : Ends) (σ : St) (H : Hp) : Prop := match o with
  | none => ts a cls d D σ H
  | some i => ts a cls d (goneE i D) (σ.set i (some (.ref a))) H
def wCl (K : PySem.W.Frag) (Wout : WX) (D : Ends) : List Cl → WX
  | [] => Wout
  | (c, o, ts) :: r => fun cls d σ H => ∃ b, PySem.W.exmOne K cls c = some b ∧ (b = true → ∀ a, H a = none → runCl o ts a cls d D σ H) ∧ (b = false → wCl K Wout D r cls d σ H)
/-- what a suite must do -/
def SuOk (X : Cx) (su : List Stmt) (ts : Addr → Value → Option Addr → TS) : Prop :=
  ∀ (a : Addr) (oe : Obj) (cls : Value) (d : Option Addr) (pn : List (Addr × Obj)), Zc cls d oe → (∃ vs, oe.data = .fields vs) → PSs (X.suite a ((a, oe) :: pn)) su (ts a cls d)
inductive ClOk (X : Cx) : List ExceptHandler → List Cl → Prop
  | nil : ClOk X [] []
  | bare {x : Str} {c : Value} {ts : Addr → Value → Option Addr → TS} {b₀ : Stmt} {su : List Stmt} {np pos' : Pos} {hds : List ExceptHandler} {l : List Cl} (hc : Names X x c) (hsu : SuOk X (b₀ :: su) ts) (r : ClOk X hds l) :
      ClOk X (.ExceptHandler (some (.Name x np)) none (b₀ :: su) pos' :: hds) ((c, none, ts) :: l)
  | named {x n : Str} {c : Value} {i : Nat} {ts : Addr → Value → Option Addr → TS} {b₀ : Stmt} {su : List Stmt} {np pos' : Pos} {hds : List ExceptHandler} {l : List Cl} (hi : X.N[i]? = some n) (hln : X.env.kindOf n = some .local) (hc : Names X x c) (hsu : SuOk X (b₀ :: su) ts) (r : ClOk X hds l) :
      ClOk X (.ExceptHandler (some (.Name x np)) (some n) (b₀ :: su) pos' :: hds) ((c, some i, ts) :: l)
section
variable {X : Cx} {body : List Stmt} {hd0 : ExceptHandler} {hds : List ExceptHandler} {l : List Cl} {pos : Pos} {tb : WX → TS} {Wout : WX}
theorem ps_try_cl (hs : X.stack = X.env :: X.outer) (hf : X.env.frame = some X.env.locals) (hN : X.N.Nodup) (tk : Takes X Wout)
    (hb : ∀ (W : WX) (pn : List (Addr × Obj)) (xe : Value → Shared → Prop), Takes (X.tr pn xe) W → PassesOwn (model X.prog X.w) X.A X.env xe → PSs (X.tr pn xe) body (tb W))
    (hh : ClOk X (hd0 :: hds) l) : PS X (.Try body (hd0 :: hds) [] [] pos) (fun D σ H => tb (wCl X.K Wout D l) D σ H) := by
  refine ⟨fun pins s σ H D I h => ?_⟩
  have ok := I.ok
  have fr : X.A.frames = some (X.env :: X.outer) := by rw [ok.frames, hs]
  refine wpAny_Try_except ?_
  refine wpAny_mono ((hb (wCl X.K Wout D l) (X.pn ++ pins) (fun e t1 => wpAny (model X.prog X.w) X.A (noteFrame e X.env) (fun _ t2 => wpAny (model X.prog X.w) X.A (setFlight e none) (fun _ t3 =>
    wpAny (model X.prog X.w) X.A (handleBy e X.env (hd0 :: hds)) (SP X pins D) X.xe t3) X.xe t2) X.xe t1) (fun u s' xx => ?_) PassesOwn.looking).run [] s σ H D (I.toTry _) h) (fun f s1 sp => ?_) (fun e s1 he => he)
  · obtain ⟨a, B, sI, pins', σ', H', cls, d, rfl, J', nb, up, sky, na, os, ag, w⟩ := xx
    have J : Inv X pins σ' H' sI := J'.ofTry ok
    have sk : Sky B (X.env :: X.outer) a (Zc cls d) X.env.locals s'.heap := by rw [← hs]; exact sky
    show wpAny _ X.A (noteFrame (.ref a) X.env) _ _ _
    refine Sky.land Zc.steady fr hf sk fun h3 f3 u3 => ?_
    have J3 : Inv X pins σ' H' { s' with heap := h3 } := J.landed nb f3.1 (up.trans u3) os ag
    obtain ⟨o3, v3, e3, z3, d3⟩ := f3.there
    have nfr : a ∉ frs (X.env :: X.outer) := fun hm => by
      obtain ⟨_, o', e', no⟩ := f3.2.2.1.mem hm
      rw [e3] at e'; cases e'
      exact no _ d3
    have nL : a ≠ X.env.locals := fun z => nfr (List.mem_filterMap.mpr ⟨X.env, List.mem_cons_self, by rw [hf, z]⟩)
    have nF : a ∉ X.fs := fun hm => by
      obtain ⟨e, he, q⟩ := List.mem_filterMap.mp hm
      exact nfr (List.mem_filterMap.mpr ⟨e, List.mem_cons_of_mem _ he, q⟩)
    have S3 := J3.suite e3 d3 na nL nF
    have LT : PySem.W.Looks (model X.prog X.w) h3 (typeOf (.ref a)) cls := fun A Q E s k q => wpAny_typeOf_ref (k _ _ e3) (by rw [z3.1]; exact q)
    have test : ∀ {x : Str} {c : Value} {np : Pos} {Q : Value → Shared → Prop} {E : Value → Shared → Prop}, Names X x c → Q c { s' with heap := h3 } → wpAny (model X.prog X.w) (X.A.mark (some (.ref a))) (eval (.Name x np) X.env) Q E { s' with heap := h3 } := fun {x c np Q E} hc q => by
      obtain ⟨hg, hdbg, hm | ⟨hm, hv, hnn⟩⟩ := hc
      · exact ld_glob (X := X.suite a ((a, o3) :: (X.pn ++ pins))) S3 hg hm q hdbg
      · exact ld_blt (X := X.suite a ((a, o3) :: (X.pn ++ pins))) S3 hg hm hv q hnn hdbg
    have go : ∀ {hs' : List ExceptHandler} {l' : List Cl}, ClOk X hs' l' → wCl X.K Wout D l' cls d σ' H' → wpAny (model X.prog X.w) X.A (handleBy (.ref a) X.env hs') (SP X pins D) X.xe { s' with heap := h3 } := by
      intro hs' l' hk
      induction hk with
      | nil =>
        intro w
        refine wpAny_handleBy_nil ?_
        obtain ⟨k1, k2, k3, oe, vs, T, oT, ts', he, hz, hd, h1, hr⟩ := id f3
        unfold PySem.passOn
        refine wpAny_bind (wpAny_field he hd h1 ?_)
        rw [if_neg (show ¬ ((Value.ref T == Value.none) = true) from by simp)]
        have fin : wpAny (model X.prog X.w) X.A (setFlight (.ref a) X.env.frame) (fun _ s4 => wpAny (model X.prog X.w) X.A (throw (.ref a) : Sem Flow) (SP X pins D) X.xe s4) X.xe { s' with heap := h3 } := by
          rw [hf]
          refine HandSPX.setFlight_upZ f3 fun h4 hh4 up4 => wpAny_throw (tk _ _ ?_)
          exact ⟨a, B, sI, pins, σ', H', cls, d, rfl, J, nb, (up.trans u3).trans up4, .inr (.inr (by rw [hs]; exact hh4)), na, os, ag, w⟩
        first
          | exact wpAny_bind (wpAny_pure (wpAny_bind fin))
          | exact wpAny_bind fin
      | @bare x c ts b₀ su np pos' hds2 l2 hc hsu r ih =>
        intro w
        obtain ⟨b, hb1, yes, no⟩ := w
        refine wpAny_handleBy_cons (codeAny_handlers_test ?_) (by intro q; cases q)
        refine test hc ((PySem.W.exm_one (M := model X.prog X.w) (J3.kIn) LT hb1).here ?_)
        cases b with
        | true =>
          refine codeAny_handlers_suite ?_
          refine HandSPX.lands_againZ f3 fun h4 f4 u4 => ?_
          have J4 : Inv X pins σ' H' { s' with heap := h4 } := J.landed nb f4.1 ((up.trans u3).trans u4) os ag
          obtain ⟨o4, v4, e4, z4, d4⟩ := f4.there
          refine wpAny_mono ((hsu a o4 cls d (X.pn ++ pins) z4 ⟨_, d4⟩).run [] _ _ H' _ (J4.suite e4 d4 na nL nF) (yes rfl a na)) (fun f s6 sp => ?_) (fun _ _ z => False.elim z)
          cases f with
          | next => obtain ⟨σ6, H6, S6, q6⟩ := sp; exact ⟨_, _, S6.unsuite ok, q6⟩
          | brk => obtain ⟨σ6, H6, S6, q6⟩ := sp; exact ⟨_, _, S6.unsuite ok, q6⟩
          | cont => obtain ⟨σ6, H6, S6, q6⟩ := sp; exact ⟨_, _, S6.unsuite ok, q6⟩
          | ret u => obtain ⟨v6, σ6, H6, S6, r6, q6⟩ := sp; exact ⟨_, _, _, S6.unsuite ok, r6, q6⟩
        | false =>
          show wpAny _ X.A (handleBy (.ref a) X.env hds2) _ _ _
          exact ih (no rfl)
      | @named x n c i ts b₀ su np pos' hds2 l2 hi hln hc hsu r ih =>
        intro w
        obtain ⟨b, hb1, yes, no⟩ := w
        refine wpAny_handleBy_cons (codeAny_handlers_test ?_) (by intro q; cases q)
        refine test hc ((PySem.W.exm_one (M := model X.prog X.w) (J3.kIn) LT hb1).here ?_)
        cases b with
        | true =>
          refine codeAny_handlers_suite_as ?_
          refine HandSPX.lands_againZ f3 fun h4 f4 u4 => ?_
          have J4 : Inv X pins σ' H' { s' with heap := h4 } := J.landed nb f4.1 ((up.trans u3).trans u4) os ag
          obtain ⟨o4, v4, e4, z4, d4⟩ := f4.there
          refine store_ok (X := X.suite a ((a, o4) :: (X.pn ++ pins))) (v := .ref a) (J4.suite e4 d4 na nL nF) hN hi (.inl hln) rfl (fun s5 S5 => ?_) (.inr hln)
          refine wpAny_mono ((hsu a o4 cls d (X.pn ++ pins) z4 ⟨_, d4⟩).run [] s5 _ H' _ S5 (yes rfl a na)) (fun f s6 sp => ?_) (fun _ _ z => False.elim z)
          have end_ : ∀ {σ6 : St} {H6 : Hp} {Q : Shared → Prop}, Inv (X.suite a ((a, o4) :: (X.pn ++ pins))) [] σ6 H6 s6 → (∀ s7, Inv X pins (σ6.set i none) H6 s7 → Q s7) →
              wpAny (model X.prog X.w) X.A (do bindName X.env n .none; unbindBehindTheSuite X.env n pos') (fun _ s7 => Q s7) X.xe s6 := fun {σ6 H6 Q} S6 hq => gone_ok (S6.unsuite ok) hN hi hln hq
          cases f with
          | next => obtain ⟨σ6, H6, S6, q6⟩ := sp; exact end_ S6 fun s7 J7 => ⟨_, _, J7, q6⟩
          | brk => obtain ⟨σ6, H6, S6, q6⟩ := sp; exact end_ S6 fun s7 J7 => ⟨_, _, J7, q6⟩
          | cont => obtain ⟨σ6, H6, S6, q6⟩ := sp; exact end_ S6 fun s7 J7 => ⟨_, _, J7, q6⟩
          | ret u => obtain ⟨v6, σ6, H6, S6, r6, q6⟩ := sp; exact end_ S6 fun s7 J7 => ⟨_, _, _, J7, r6, q6⟩
        | false =>
          show wpAny _ X.A (handleBy (.ref a) X.env hds2) _ _ _
          exact ih (no rfl)
    exact go hh w
  · cases f with
    | next => obtain ⟨σ', H', J', q⟩ := sp; exact wpAny_execs_nil ⟨σ', H', J'.ofTry ok, q⟩
    | brk => obtain ⟨σ', H', J', q⟩ := sp; exact ⟨σ', H', J'.ofTry ok, q⟩
    | cont => obtain ⟨σ', H', J', q⟩ := sp; exact ⟨σ', H', J'.ofTry ok, q⟩
    | ret u => obtain ⟨v, σ', H', J', r, q⟩ := sp; exact ⟨v, σ', H', J'.ofTry ok, r, q⟩
end
end L2.MW

/-! MW, part U: isinstance of a caught error that has its own dict. -/
namespace L2.MW
open PySem PySem.W PySem.Spec PySem.Calls PyProof.Rows
section
variable {prog : Program} {w : World} {A : Around} {E : Value → Shared → Prop} {s : Shared} {K : Frag} {x D : Addr} {ox : Obj} {od : Option Obj}
theorem fo_data {C : Addr} {name : Str} {a g : Value} (hc : (clsIn K C).isSome = true) (ha : findIn K (.ref C) name = some (some a)) (hg : specialIn K a "__get__" = some (some g)) (ht : takesIn K a = some true) : findObj K C od name = some (.bind g a) := by
  obtain ⟨cd, hc⟩ := Option.isSome_iff_exists.mp hc
  unfold findObj
  rw [hc, Option.bind_some, ha, Option.bind_some]
  simp [hg, ht]
theorem class_of_exc {Q : Option Value → Shared → Prop} (T : ExcC K D) (X : K.In s.heap) (I : InstAt s.heap x ox D od) (h : Q (some (.ref D)) { s with toks := s.toks + 1 }) : wpAny (model prog w) A (getAttr? (.ref x) "__class__") Q E s := by
  have hf : findObj K D od "__class__" = some (.bind (.builtin "getset_descriptor.__get__") (.builtin "object.__class__")) := fo_data (by obtain ⟨cd, hc, _⟩ := any_some T.hd; rw [hc]; rfl) T.ha T.hn T.ht
  obtain ⟨hp, g, d, t, os⟩ := s
  have L0 := I.type (M := model prog w)
  have L1 := looks_findIn (M := model prog w) X T.hg
  have L2 := looks_findIn (M := model prog w) X T.hk
  have L3 := looks_find (M := model prog w) X I hf
  have sub : Looks (model prog w) hp (isInstance (.ref x) (.type "BaseException")) true := L0.andThen (looks_subIn X T.hs)
  have hx0 : (false && onTheHeap (Value.builtin "BaseException.__getattribute__")) = false := rfl
  have hx2 : (Value.builtin "BaseException.__getattribute__" == Value.builtin "object.__getattribute__") = false := by decide +kernel
  have hx1 : (onTheHeap (Value.ref D) && Value.builtin "BaseException.__getattribute__" == Value.builtin "object.__getattribute__") = false := by rw [hx2]; rfl
  unfold getAttr? getAttrBy? getAttrBy
  refine wpAny_bind (wpAny_mkText (wpAny_bind (wpAny_attempt (wpAny_holding (wpAny_bind (L0.at (wpAny_bind (L1.at ?_))))))))
  show wpAny _ _ (if (onTheHeap (Value.ref D) && Value.builtin "BaseException.__getattribute__" == Value.builtin "object.__getattribute__") = true then _ else _) _ _ _
  rw [hx1, if_neg Bool.false_ne_true]
  unfold getAttrByItsOwn hookBefore
  refine wpAny_bind ?_
  rw [if_pos (show onTheHeap (Value.ref D) = true from rfl)]
  refine L2.at ?_
  refine wpAny_bind (wpAny_attempt (wpAny_holding ?_))
  unfold callGetattribute
  rw [hx0, if_neg Bool.false_ne_true]
  unfold boundAndCalled
  rw [PySem.F.excAttr_ValueError.ga.bind (.ref x)]
  refine wpAny_bind (wpAny_pure ?_)
  show wpAny _ _ (call (.builtin "BaseException.__getattribute__") [.ref x, .str "__class__" t]) _ _ _
  refine wpAny_call (codeAny_call_builtin PySem.F.excAttr_ValueError.ga.plain PySem.F.entry_bexc_ga ?_)
  refine @check_slot (model prog w) _ _ ⟨hp, g, d, t + 1, os⟩ "BaseException.__getattribute__" "BaseException" "__getattribute__" (.ref x) [.str "__class__" t] [] _ (by decide +kernel) (by decide +kernel) sub (PySem.F.args_bexc_ga (.ref x) (.str "__class__" t)) ?_
  unfold Builtin.«object.__getattribute__»
  refine wpAny_bind (wpAny_of_eq (a := ((Value.ref x : Value), [Value.str "__class__" t])) (by first | rfl | (simp only [slotArgs]; rfl)) ?_)
  refine wpAny_bind (wpAny_pure (wpAny_bind (L0.at (wpAny_bind (L3.at ?_)))))
  show wpAny _ _ (holding [Value.builtin "object.__class__"] (call (.builtin "getset_descriptor.__get__") [.builtin "object.__class__", .ref x, .ref D]) >>= ret) _ _ _
  refine wpAny_bind (wpAny_holding (wpAny_call (class_get (s := ⟨hp, g, d, t + 1, os⟩) (ox := ox) (od := od) X I T.hm ?_)))
  refine wpAny_pure ?_
  show wpAny _ _ (handedOut (.ref D)) _ _ _
  rw [handedOut_of (v := .ref D) rfl]
  first
    | exact wpAny_pure (wpAny_pure h)
    | exact wpAny_pure h
    | exact wpAny_pure (wpAny_bind (wpAny_pure (wpAny_pure h)))
theorem kitx_od (T : ExcC K D) : KitX K (.ref x) (.ref D) (fun h => ∃ od, InstAt h x ox D od) where
  ty := fun _ _ _ ⟨_, I⟩ => I.type
  it := fun _ _ X _ => by
    obtain ⟨cd, hc, _⟩ := any_some T.hd
    unfold clsIn at hc
    split at hc
    · rename_i ho
      intro A' Q' E' s' k q
      unfold isType loadHead
      exact wpAny_bind (wpAny_loadPart (k _ _ (X _ _ ho)) (wpAny_pure q))
    · cases hc
  ne := (PySem.W.handS_kitx_exc (x := x) (ox := ox) T.hg T.hk T.hs T.hd T.ha T.hn T.ht T.hm).ne
  ca := fun X ⟨_, I⟩ k => class_of_exc T X I k
end
end L2.MW
namespace L2
open PySem PySem.Spec PyProof.Rows
theorem call_isEd {X : Cx} {a D dd : Addr} {oe : Obj} {pn : List (Addr × Obj)} (C : ExcC X.K D) (hz : Zc (.ref D) (some dd) oe) (hf : ∃ vs, oe.data = .fields vs) :
    CallR (X.suite a ((a, oe) :: pn)) (.builtin "isinstance") (fun xs H Q => (∃ fs, H dd = some (.xd fs)) ∧ rIsE X.K D a xs H Q) := by
  intro pins s σ H xs us Q I r h
  obtain ⟨⟨fs, hfs⟩, c, cv, b, rfl, hcv, e, q⟩ := h
  cases r with
  | cons rx rr =>
    cases rr with
    | cons rt rr =>
      cases rr
      cases rx
      have ec := hcv _ rt
      subst ec
      obtain ⟨hget, _⟩ := I.pin (a, oe) (List.mem_append.mpr (.inl List.mem_cons_self))
      obtain ⟨vs, hv⟩ := hf
      obtain ⟨mA, hns, _⟩ := (show ObjOk X.prog X.w H s.heap dd (.xd fs) from I.hok dd _ hfs)
      obtain ⟨od, ho, _⟩ := lookIn_ns hns
      have J : PySem.W.InstAt s.heap a oe D (some od) := ⟨hget, hz.1, by unfold PySem.W.notCls; rw [hv] <;> rfl, by rw [hz.2]; exact ho⟩
      exact PySem.W.kia_one (MW.kitx_od C) I.kIn ⟨_, J⟩ e (fun z => nomatch z) fun tk => ⟨.bl b, H, I.kept (t' := tk) fun _ _ z => z, rfl, q⟩
end L2

/-! MW, part V: raise of own classes with fields; try over data; the error in a suite. -/
namespace L2.MW
open PySem PySem.Spec PyProof.Rows

/-! ### what the class must say, as a test -/
def oexB (K : PySem.W.Frag) (C : Addr) : Bool := (match K.lookup C with
  | some ⟨.type "type", _, .cls cd, sl⟩ => (match cd.mro, sl.toList with
    | .ref C' :: bm, [_, _, _, _, some (.builtin n), _] => C' == C && (n == "ValueError.__new__" && (!cd.hasDel && (cd.hasDict && PySem.HandSPX.refsVE bm)))
    | _, _ => false)
  | _ => false) && (decide (PySem.W.findIn K (.ref C) "__setattr__" = some (some (.builtin "object.__setattr__"))) && (decide (PySem.W.subIn K (.ref C) (.type "BaseException") = some true) && (decide (PySem.W.typeIn K (.ref C) = some (.type "type")) && PySem.W.keepIn K (.ref C))))
theorem oexB_ok {K : PySem.W.Frag} {C : Addr} (h : oexB K C = true) : OexC K C := by
  unfold oexB at h
  simp only [Bool.and_eq_true, decide_eq_true_eq] at h
  obtain ⟨h0, h1, h2, h3, h4⟩ := h
  refine ⟨?_, h1, h2, h3, h4⟩
  split at h0
  · rename_i dd cd sl ho
    split at h0
    · rename_i C' bm k0 k1 k2 k3 n k5 hm hs
      simp only [Bool.and_eq_true, beq_iff_eq, Bool.not_eq_true'] at h0
      obtain ⟨e1, e2, hdel, hdict, ht⟩ := h0
      subst e1 e2
      obtain ⟨nm, bs, mro, ns, qn, hd, sn, sub, ab, col, del⟩ := cd
      dsimp only at hm hdel hdict
      subst hm hdel hdict
      have hsl : sl = #[k0, k1, k2, k3, some (.builtin "ValueError.__new__"), k5] := by
        obtain ⟨l⟩ := sl
        simp only at hs
        rw [hs]
      subst hsl
      exact ⟨nm, qn, ns, bs, bm, sn, sub, ab, col, dd, k0, k1, k2, k3, k5, ho, ht⟩
    · cases h0
  · cases h0
/-- isinstance asks it rightly -/
def excCB (K : PySem.W.Frag) (D : Addr) : Bool := decide (PySem.W.findIn K (.ref D) "__getattribute__" = some (some (.builtin "BaseException.__getattribute__"))) && (decide (PySem.W.findIn K (.ref D) "__getattr__" = some none) && (decide (PySem.W.subIn K (.ref D) (.type "BaseException") = some true) && (PySem.W.hasDictIn K D &&
  (decide (PySem.W.findIn K (.ref D) "__class__" = some (some (.builtin "object.__class__"))) && (decide (PySem.W.specialIn K (.builtin "object.__class__") "__get__" = some (some (.builtin "getset_descriptor.__get__"))) && (decide (PySem.W.takesIn K (.builtin "object.__class__") = some true) && decide (PySem.W.mroIn K D (.type "object") = some true)))))))
theorem excCB_ok {K : PySem.W.Frag} {D : Addr} (h : excCB K D = true) : ExcC K D := by
  unfold excCB at h
  simp only [Bool.and_eq_true, decide_eq_true_eq] at h
  obtain ⟨h1, h2, h3, h4, h5, h6, h7, h8⟩ := h
  exact ⟨h1, h2, h3, h4, h5, h6, h7, h8⟩
/-- the fields that it stores are no names of the class; its __init__ is found -/
def xfB (K : PySem.W.Frag) (c : String) (fs : List Str) : Bool := oexB K (He.ga K (Str.ofString c)) && (excCB K (He.ga K (Str.ofString c)) && (fs.all (fun f => decide (PySem.W.findIn K (.ref (He.ga K (Str.ofString c))) f = some none)) &&
  (decide (PySem.W.findIn K (.ref (He.ga K (Str.ofString c))) "__init__" = some (some (.ref (He.ma K (He.ga K (Str.ofString c)) "__init__")))) && decide (PySem.W.typeIn K (.ref (He.ma K (He.ga K (Str.ofString c)) "__init__")) = some (.type "function")))))
structure XF (K : PySem.W.Frag) (c : String) (fs : List Str) : Prop where
  ok : xfB K c fs = true
theorem XF.parts {K : PySem.W.Frag} {c : String} {fs : List Str} (h : XF K c fs) : OexC K (He.ga K (Str.ofString c)) ∧ ExcC K (He.ga K (Str.ofString c)) ∧ (∀ f ∈ fs, PySem.W.findIn K (.ref (He.ga K (Str.ofString c))) f = some none) ∧
    PySem.W.findIn K (.ref (He.ga K (Str.ofString c))) "__init__" = some (some (.ref (He.ma K (He.ga K (Str.ofString c)) "__init__"))) ∧ PySem.W.typeIn K (.ref (He.ma K (He.ga K (Str.ofString c)) "__init__")) = some (.type "function") := by
  have h := h.ok
  unfold xfB at h
  simp only [Bool.and_eq_true, List.all_eq_true, decide_eq_true_eq] at h
  exact ⟨oexB_ok h.1, excCB_ok h.2.1, h.2.2.1, h.2.2.2.1, h.2.2.2.2⟩

/-! ### making -/
/-- what such an __init__ does: its values into the fields -/
def spX (n : Nat) (fs : List Str) (C : Addr) : Sp := fun vs H Q _ => ∃ a us, vs = .ref a :: us ∧ us.length = n ∧ fs.length = n ∧ H a = some (exo a C none) ∧ ∀ dx, H dx = none → dx ≠ a → Q .non (upd (upd H dx (exd dx (fs.zip us).reverse)) a (exo a C (some dx)))
structure ExK (P : Program) (w : World) (K : PySem.W.Frag) (mg : Str → Option Value) (base : Heap) (c : String) (fs : List Str) : Prop where
  ex : ∃ fd ps, FnOk P w K mg base CX0 1 (He.ma K (He.ga K (Str.ofString c)) "__init__") fd ps (spX fs.length fs (He.ga K (Str.ofString c))) ∧ Binds K fd ps [] ∧ mg (Str.ofString c) = some (.ref (He.ga K (Str.ofString c)))
  xf : XF K c fs
theorem ost1 {K : PySem.W.Frag} {f1 : Str} {C : Addr} {D : Ends} {a : Addr} {v : V} {H : Hp} {Q : VK} (T : OexC K C) (no : PySem.W.findIn K (.ref C) f1 = some none) (ea : H a = some (exo a C none)) (q : ∀ dx, H dx = none → dx ≠ a → Q .non (upd (upd H dx (exd dx [(f1, v)])) a (exo a C (some dx)))) (hD : ∀ σ H, Q .non H → D.nx σ H) :
    tOst K f1 (tVar 0) (tVar 1) D (start ["self", f1] [.ref a, v]) H := ⟨v, rfl, .ref a, rfl, a, C, rfl, T, no, .inl ⟨ea, fun dx n ne => hD _ _ (q dx n ne)⟩⟩
theorem upd_swap {H : Hp} {a d : Addr} {x y z : HO} (h : d ≠ a) : upd (upd (upd H d x) a y) d z = upd (upd H d z) a y := by
  funext b
  by_cases h1 : b = d
  · subst h1
    rw [upd_same, upd_ne h, upd_same]
  · rw [upd_ne h1]
    by_cases h2 : b = a
    · subst h2; rw [upd_same, upd_same]
    · rw [upd_ne h2, upd_ne h2, upd_ne h1, upd_ne h1]
/-- the readings of the two forms of such an __init__ -/
theorem x1_read {K : PySem.W.Frag} {f1 p1 : Str} {C : Addr} {vs : List V} {H : Hp} {Q : VK} {E : XK} (T : OexC K C) (no : ∀ f ∈ [f1], PySem.W.findIn K (.ref C) f = some none) (h : spX 1 [f1] C vs H Q E) :
    tOst K f1 (tVar 0) (tVar 1) { nx := fun _ H' => Q .non H', rt := Q } (start ["self", p1] vs) H := by
  obtain ⟨a, us, rfl, hl, _, ea, q⟩ := h
  match us, hl with
  | [v], _ => exact ⟨v, rfl, .ref a, rfl, a, C, rfl, T, no f1 List.mem_cons_self, .inl ⟨ea, fun dx n ne => q dx n ne⟩⟩
theorem x2_read {K : PySem.W.Frag} {f1 f2 p1 p2 : Str} {C : Addr} {vs : List V} {H : Hp} {Q : VK} {E : XK} (T : OexC K C) (no : ∀ f ∈ [f1, f2], PySem.W.findIn K (.ref C) f = some none) (h : spX 2 [f1, f2] C vs H Q E) :
    tSeq (tOst K f1 (tVar 0) (tVar 1)) (tOst K f2 (tVar 0) (tVar 2)) { nx := fun _ H' => Q .non H', rt := Q } (start ["self", p1, p2] vs) H := by
  obtain ⟨a, us, rfl, hl, _, ea, q⟩ := h
  match us, hl with
  | [v, u], _ =>
    refine ⟨v, rfl, .ref a, rfl, a, C, rfl, T, no f1 List.mem_cons_self, .inl ⟨ea, fun dx n ne => ?_⟩⟩
    refine ⟨u, rfl, .ref a, rfl, a, C, rfl, T, no f2 (List.mem_cons_of_mem _ List.mem_cons_self), .inr ⟨dx, [(f1, v)], upd_same, by rw [upd_ne ne, upd_same], Nat.le_of_ble_eq_true rfl, ?_⟩⟩
    have := q dx n ne
    rw [upd_swap ne]
    exact this
section
variable {X : Cx} {W : WX} {pos p pos' : Pos} {e : Expr} {es : List Expr} {ts : DA} {c : String} {fs : List Str}
def sRaise (c : String) (fs : List Str) (ts : DA) : DS := fun E σ h => ts σ h (E.xx σ) fun ds h1 => ds.length = fs.length ∧ fs.length ≤ 1000 ∧ E.ex ⟨c, (fs.zip ds).reverse⟩ σ h1
theorem DFs.zip {K : PySem.W.Frag} {ρ : List Addr} {H : Hp} : ∀ {fs : List Str} {ds : List D} {vs : List V}, DVs K ρ H ds vs → DFs K ρ H (fs.zip ds) (fs.zip vs)
  | [], _, _, _ => rfl
  | f :: fs, [], _, h => by rw [show _ = [] from h]; rfl
  | f :: fs, d :: ds, _, ⟨v, r, e, h1, h2⟩ => by subst e; exact ⟨v, _, rfl, h1, DFs.zip h2⟩
theorem DFs.app {K : PySem.W.Frag} {ρ : List Addr} {H : Hp} : ∀ {a b : List (Str × D)} {x y : List (Str × V)}, DFs K ρ H a x → DFs K ρ H b y → DFs K ρ H (a ++ b) (x ++ y)
  | [], _, _, _, h, q => by rw [show _ = [] from h]; exact q
  | p :: a, _, _, _, ⟨v, r, e, h1, h2⟩, q => by subst e; exact ⟨v, r ++ _, rfl, h1, DFs.app h2 q⟩
theorem DFs.rev {K : PySem.W.Frag} {ρ : List Addr} {H : Hp} : ∀ {a : List (Str × D)} {x : List (Str × V)}, DFs K ρ H a x → DFs K ρ H a.reverse x.reverse
  | [], _, h => by rw [show _ = [] from h]; rfl
  | p :: a, _, ⟨v, r, e, h1, h2⟩ => by
    subst e
    rw [List.reverse_cons, List.reverse_cons]
    exact DFs.app (DFs.rev h2) ⟨v, [], rfl, h1, rfl⟩
theorem s1_raise (F : ExK X.prog X.w X.K X.mg X.base c fs) (hc : X.calm = true) (tk : Takes X W) (hr : Room 2 X.A) (ha : SA X W (e :: es) ts) (hg : Gl X (Str.ofString c) := by rfl) (hdb : ((Str.ofString c) == ("__debug__" : Str)) = false := by decide)
    (he : starEach (e :: es) X.env = (false, eval e X.env) :: starEach es X.env := by rfl) (hpl : (backTo pos (starEach es X.env)).any (·.1) = false := by rfl) :
    S1 X W (.Raise (some (.Call (.Name (Str.ofString c) p) (e :: es) [] pos)) none pos') (sRaise c fs ts) := by
  obtain ⟨fd, ps, F1, hb, hm⟩ := F.ex
  obtain ⟨T, _, _, iC, tI⟩ := F.xf.parts
  refine PS.imp (ps_raise hc tk (pmk_oex T iC tI F1 hr hb .nil pass0 hg hm ha hdb he hpl)) fun Dn σ H w => ?_
  obtain ⟨ρ0, H0, ρ, σd, h, E, e0, hR, sr, w, k⟩ := w
  refine lA.go hR sr w (k.xw e0) fun ρ1 ds h1 vs H1 e1 hr1 sr1 kx1 dvs q => ?_
  obtain ⟨ql, qb, q⟩ := q
  have hl := dvs.length
  refine ⟨by omega, fun a na => ?_⟩
  rw [List.append_nil]
  refine ⟨a, vs, rfl, by omega, rfl, upd_same, fun dx nd ne => ⟨rfl, dx, (fs.zip vs).reverse, upd_same, ?_, ?_, ?_⟩⟩
  · rw [upd_ne ne, upd_same]
  · rw [upd_ne ne] at nd; exact nd
  · have nd' : H1 dx = none := by rw [upd_ne ne] at nd; exact nd
    have eH : upd (del (upd (upd (upd H1 a (exo a (He.ga X.K (Str.ofString c)) none)) dx (exd dx (fs.zip vs).reverse)) a (exo a (He.ga X.K (Str.ofString c)) (some dx))) a) dx (.xd (fs.zip vs).reverse) = upd H1 dx (.xd (fs.zip vs).reverse) := by
      funext b
      by_cases h1 : b = dx
      · subst h1; rw [upd_same, upd_same]
      · rw [upd_ne h1, upd_ne h1]
        by_cases h2 : b = a
        · subst h2; rw [del_same]; exact na.symm
        · rw [del_ne h2, upd_ne h2, upd_ne h1, upd_ne h2]
    rw [eH]
    have ee : Ext ρ1 H1 ρ1 (upd H1 dx (.xd (fs.zip vs).reverse)) := .new1 nd'
    exact k.ex ρ1 ⟨c, (fs.zip ds).reverse⟩ σd h1 _ (some dx) σ _ ((e0.trans e1).trans ee) (hr1.new1 nd') (sr1.ext ee) ⟨rfl, dx, _, rfl, hr1.out nd', upd_same, DFs.ext ee _ _ (DFs.rev (DFs.zip dvs))⟩ q
end

/-! ### try over data -/
/-- which clause takes which class -/
structure ExmF (K : PySem.W.Frag) (tbl : List (String × D × Bool)) : Prop where
  ok : ∀ t ∈ tbl, PySem.W.exmOne K (.ref (He.ga K (Str.ofString t.1))) (clsVal K t.2.1) = some t.2.2 ∧ ExcC K (He.ga K (Str.ofString t.1))
abbrev DCl := D × Option Nat × (Addr → String → Addr → DS)
def goneD (i : Nat) (E : DEnds) : DEnds := { nx := fun σ h => E.nx (σ.set i none) h, rt := E.rt, bk := fun σ h => E.bk (σ.set i none) h, ct := fun σ h => E.ct (σ.set i none) h, n0 := E.n0 }
def bareD (E : DEnds) : DEnds := { E with ex := fun _ _ _ => False }
def runD (o : Option Nat) (t : Addr → String → Addr → DS) (E : DEnds) (x : Exc) (σ : DSt) (h : DHp) : Prop := ∀ a dd, match o with
  | none => t a x.cls dd (bareD E) σ h
  | some i => t a x.cls dd (goneD i E) (σ.set i (some (.exn a x.cls dd x.fs))) h
def dispD (tbl : List (String × D × Bool)) (E : DEnds) (x : Exc) (σ : DSt) (h : DHp) : List DCl → Prop
  | [] => E.ex x σ h
  | (c, o, t) :: r => ∃ b, (x.cls, c, b) ∈ tbl ∧ (b = true → runD o t E x σ h) ∧ (b = false → dispD tbl E x σ h r)
def sTry (tbl : List (String × D × Bool)) (t : DS) (cl : List DCl) : DS := fun E σ h => t { E with ex := fun x σ' h' => dispD tbl E x σ' h' cl } σ h
theorem SR.unset {K : PySem.W.Frag} {ρ : List Addr} {H : Hp} {σd : DSt} {σ : St} (r : SR K ρ H σd σ) (i : Nat) : SR K ρ H (σd.set i none) (σ.set i none) := by
  refine ⟨by rw [List.length_set, List.length_set]; exact r.len, fun j d h => ?_⟩
  by_cases e : i = j
  · subst e
    have hl : i < σd.length := by have := (List.getElem?_eq_some_iff.mp h).1; rwa [List.length_set] at this
    rw [List.getElem?_set_self hl] at h
    cases h
  · rw [List.getElem?_set_ne e] at h ⊢
    exact r.at_ j d h
/-- a clause's reading, as the lower layer's -/
def lowT (K : PySem.W.Frag) (cs : List String) (t : Addr → String → Addr → DS) (a : Addr) (cls : Value) (d : Option Addr) : TS := fun Dn σ H => ∃ c dd, c ∈ cs ∧ ExcC K (He.ga K (Str.ofString c)) ∧ cls = .ref (He.ga K (Str.ofString c)) ∧ d = some dd ∧ lS K W0 (t a c dd) Dn σ H
def lowC (K : PySem.W.Frag) (cs : List String) (cl : DCl) : Cl := (clsVal K cl.1, cl.2.1, lowT K cs cl.2.2)
def clss (tbl : List (String × D × Bool)) : List String := tbl.map (·.1)
theorem EW.gone {K : PySem.W.Frag} {W : WX} {ρ0 : List Addr} {H0 : Hp} {E : DEnds} {Dn : Ends} (k : EW K W ρ0 H0 E Dn) (i : Nat) : EW K W0 ρ0 H0 (goneD i E) (goneE i Dn) :=
  ⟨k.n0, fun ρ σd h σ H e hr sr q => k.nx ρ _ h _ H e hr (sr.unset i) q, fun ρ σd h σ H e hr sr q => k.bk ρ _ h _ H e hr (sr.unset i) q, fun ρ σd h σ H e hr sr q => k.ct ρ _ h _ H e hr (sr.unset i) q, k.rt, fun _ _ _ _ _ _ _ _ _ _ _ _ z => z.elim⟩
theorem EW.bare {K : PySem.W.Frag} {W : WX} {ρ0 : List Addr} {H0 : Hp} {E : DEnds} {Dn : Ends} (k : EW K W ρ0 H0 E Dn) : EW K W0 ρ0 H0 (bareD E) Dn := ⟨k.n0, k.nx, k.bk, k.ct, k.rt, fun _ _ _ _ _ _ _ _ _ _ _ _ z => z.elim⟩
theorem disp_low {K : PySem.W.Frag} {tbl : List (String × D × Bool)} (T : ExmF K tbl) {W : WX} {ρ0 ρ : List Addr} {H0 H : Hp} {E : DEnds} {Dn : Ends} (k : EW K W ρ0 H0 E Dn) {σd : DSt} {σ : St} {h : DHp} {x : Exc} {cls : Value} {d : Option Addr}
    (e : Ext ρ0 H0 ρ H) (hr : HR K ρ h H) (sr : SR K ρ H σd σ) (ea : ExcAt K ρ H x cls d) : ∀ cl : List DCl, dispD tbl E x σd h cl → wCl K W Dn (cl.map (lowC K (clss tbl))) cls d σ H
  | [], w => k.ex ρ x σd h cls d σ H e hr sr ea w
  | (c, o, t) :: r, ⟨b, hb, yes, no⟩ => by
    refine ⟨b, by rw [ea.1]; exact (T.ok _ hb).1, fun hb1 a na => ?_, fun hb0 => disp_low T k e hr sr ea r (no hb0)⟩
    have y := yes hb1
    have xc := (T.ok _ hb).2
    have xm : x.cls ∈ clss tbl := List.mem_map.mpr ⟨_, hb, rfl⟩
    obtain ⟨e1, dd, ws, e2, n, hH, dfs⟩ := ea
    have y2 := y a dd
    cases o with
    | none => exact ⟨x.cls, dd, xm, xc, e1, e2, ρ0, H0, ρ, σd, h, _, e, hr, sr, y2, k.bare⟩
    | some i => exact ⟨x.cls, dd, xm, xc, e1, e2, ρ0, H0, ρ, _, h, _, e, hr, sr.set (d := .exn a x.cls dd x.fs) ⟨rfl, ws, n, hH, dfs⟩, y2, k.gone i⟩
/-- a suite over data -/
def SuD (X : Cx) (cs : List String) (su : List Stmt) (t : Addr → String → Addr → DS) : Prop := ∀ (a : Addr) (oe : Obj) (c : String) (dd : Addr) (pn : List (Addr × Obj)), c ∈ cs → ExcC X.K (He.ga X.K (Str.ofString c)) → Zc (.ref (He.ga X.K (Str.ofString c))) (some dd) oe → (∃ vs, oe.data = .fields vs) → SS (X.suite a ((a, oe) :: pn)) W0 su (t a c dd)
theorem SuD.low {X : Cx} {cs : List String} {su : List Stmt} {t : Addr → String → Addr → DS} (h : SuD X cs su t) : SuOk X su (lowT X.K cs t) := fun a oe cls d pn hz hf => ⟨fun pins s σ H D I w => by
  obtain ⟨c, dd, hm, hk, rfl, rfl, w⟩ := w
  exact (h a oe c dd pn hm hk hz hf).run pins s σ H D I w⟩
inductive ClD (X : Cx) (cs : List String) : List ExceptHandler → List DCl → Prop
  | nil : ClD X cs [] []
  | bare {x : Str} {c : D} {t : Addr → String → Addr → DS} {b₀ : Stmt} {su : List Stmt} {np pos' : Pos} {hds : List ExceptHandler} {l : List DCl} (hc : Names X x (clsVal X.K c)) (hsu : SuD X cs (b₀ :: su) t) (r : ClD X cs hds l) :
      ClD X cs (.ExceptHandler (some (.Name x np)) none (b₀ :: su) pos' :: hds) ((c, none, t) :: l)
  | named {x n : Str} {c : D} {i : Nat} {t : Addr → String → Addr → DS} {b₀ : Stmt} {su : List Stmt} {np pos' : Pos} {hds : List ExceptHandler} {l : List DCl} (hi : X.N[i]? = some n) (hln : X.env.kindOf n = some .local) (hc : Names X x (clsVal X.K c)) (hsu : SuD X cs (b₀ :: su) t) (r : ClD X cs hds l) :
      ClD X cs (.ExceptHandler (some (.Name x np)) (some n) (b₀ :: su) pos' :: hds) ((c, some i, t) :: l)
theorem ClD.low {X : Cx} {cs : List String} {hds : List ExceptHandler} {l : List DCl} (h : ClD X cs hds l) : ClOk X hds (l.map (lowC X.K cs)) := by
  induction h with
  | nil => exact .nil
  | bare hc hsu r ih => exact .bare hc hsu.low ih
  | named hi hln hc hsu r ih => exact .named hi hln hc hsu.low ih
theorem s1_try {X : Cx} {W : WX} {body : List Stmt} {hd0 : ExceptHandler} {hds : List ExceptHandler} {cl : List DCl} {pos : Pos} {t : DS} {tbl : List (String × D × Bool)} (T : ExmF X.K tbl) (hN : X.N.Nodup) (tk : Takes X W)
    (hb : ∀ (W : WX) (pn : List (Addr × Obj)) (xe : Value → Shared → Prop), Takes (X.tr pn xe) W → PassesOwn (model X.prog X.w) X.A X.env xe → SS (X.tr pn xe) W body t)
    (hh : ClD X (clss tbl) (hd0 :: hds) cl) (hs : X.stack = X.env :: X.outer := by rfl) (hf : X.env.frame = some X.env.locals := by rfl) : S1 X W (.Try body (hd0 :: hds) [] [] pos) (sTry tbl t cl) :=
  PS.imp (ps_try_cl (tb := fun W => lS X.K W t) hs hf hN tk hb hh.low) fun Dn σ H w => by
    obtain ⟨ρ0, H0, ρ, σd, h, E, e0, hr, sr, w, k⟩ := w
    exact ⟨ρ0, H0, ρ, σd, h, _, e0, hr, sr, w, ⟨k.n0, k.nx, k.bk, k.ct, k.rt, fun ρ' x σd' h' cls d σ' H' e' hr' sr' ea' z => disp_low T k e' hr' sr' ea' cl z⟩⟩

/-! ### the error in a suite -/
structure KitE (K : PySem.W.Frag) (tbl : List (String × D × Bool)) : Prop where
  ok : ∀ t ∈ tbl, PySem.W.kitOne K (.ref (He.ga K (Str.ofString t.1))) (clsVal K t.2.1) = some t.2.2
section
variable {X : Cx} {W : WX} {a dd : Addr} {oe : Obj} {c : String} {pn : List (Addr × Obj)} {pos p : Pos} {e1 e2 : Expr} {d1 d2 : DE}
def nIsE (tbl : List (String × D × Bool)) (a : Addr) (c : String) (dd : Addr) : DN := fun ds h Q => ∃ fs t b, ds = [.exn a c dd fs, t] ∧ isClsD t ∧ (c, t, b) ∈ tbl ∧ Q (.bl b) h
theorem se_isE {es : List Expr} {ts : DA} {tbl : List (String × D × Bool)} (T : KitE X.K tbl) (hk : ExcC X.K (He.ga X.K (Str.ofString c))) (hz : Zc (.ref (He.ga X.K (Str.ofString c))) (some dd) oe) (hf : ∃ vs, oe.data = .fields vs) (hm : X.mg "isinstance" = none) (ha : SA (X.suite a ((a, oe) :: pn)) W (e1 :: es) ts) (hg : Gl X "isinstance" := by rfl)
    (he : starEach (e1 :: es) X.env = (false, eval e1 X.env) :: starEach es X.env := by rfl) (hpl : (backTo pos (starEach es X.env)).any (·.1) = false := by rfl) :
    SE (X.suite a ((a, oe) :: pn)) W (.Call (.Name "isinstance" p) (e1 :: es) [] pos) (dCB (nIsE tbl a c dd) ts) := by
  refine se_cb (X := X.suite a ((a, oe) :: pn)) (call_isEd hk hz hf) (fun ρ h H xs vs Qd Q hr dvs w k => ?_) hg hm (by decide +kernel) ha (he := he) (hpl := hpl)
  obtain ⟨fs, t, b, rfl, ht, hb, q⟩ := w
  obtain ⟨v, v', rfl, dv1, dv2⟩ := dvs.bi
  obtain ⟨rfl, ws, n, hH, dfs⟩ := dv1
  refine ⟨⟨ws, hH⟩, v', clsVal X.K t, b, rfl, fun u r => ?_, T.ok _ hb, k ρ (.bl b) h _ H .refl hr rfl q⟩
  cases t with
  | ty n => have z : v' = .ty n := dv2; subst z; exact r
  | cls n => have z : v' = .ref _ := dv2; subst z; exact r
  | _ => exact ht.elim
/-- e.f -/
structure XN (K : PySem.W.Frag) (cs : List String) (f : Str) : Prop where
  ok : ∀ c ∈ cs, PySem.W.findIn K (.ref (He.ga K (Str.ofString c))) f = some none
def nExF (a : Addr) (c : String) (dd : Addr) (f : Str) (x : D) (h : DHp) (Q : DK) : Prop := ∃ fs d, x = .exn a c dd fs ∧ fs.lookup f = some d ∧ Q d h
def dExF (a : Addr) (c : String) (dd : Addr) (f : Str) (da : DE) : DE := fun σ h X Q => da σ h X fun x h1 => nExF a c dd f x h1 Q
theorem se_exf {f : Str} {cs : List String} (N : XN X.K cs f) (hc : c ∈ cs) (hk : ExcC X.K (He.ga X.K (Str.ofString c))) (hz : Zc (.ref (He.ga X.K (Str.ofString c))) (some dd) oe) (hf : ∃ vs, oe.data = .fields vs)
    (ha : SE (X.suite a ((a, oe) :: pn)) W e1 d1) (hb : attributeBase e1 f X.env (eval e1 X.env) = eval e1 X.env := by rfl) : SE (X.suite a ((a, oe) :: pn)) W (.Attribute e1 f pos) (dExF a c dd f d1) := by
  refine ⟨fun pins s σ H Q I w => ?_⟩
  obtain ⟨ρ, σd, h, Xd, Qd, hr, sr, w, kx, k⟩ := w
  refine attr_of hb (thn (ha.run pins s σ H _ I (lE.go hr sr w kx fun ρ1 x h1 v H1 e1 hr1 sr1 kx1 dv1 q => (show ∃ (ws : List (Str × V)) (u : V), v = .ref a ∧ H1 dd = some (.xd ws) ∧ ws.lookup f = some u ∧ Q u H1 from ?_))) fun u s1 hh => ?_)
  · obtain ⟨fs, d, rfl, hl, q⟩ := q
    obtain ⟨rfl, ws, n, hH, dfs⟩ := dv1
    obtain ⟨y, hy, dy⟩ := dfs.lookup hl
    exact ⟨ws, y, rfl, hH, hy, k ρ1 d h1 y H1 e1 hr1 dy q⟩
  · obtain ⟨x, H1, I1, rx, ws, y, rfl, hH, hy, q⟩ := hh
    obtain rfl : u = Value.ref a := rx
    obtain ⟨hget, _⟩ := I1.pin (a, oe) (List.mem_append_left _ List.mem_cons_self)
    obtain ⟨vs, hv⟩ := hf
    obtain ⟨mA, hns, hrl⟩ := (show ObjOk X.prog X.w H1 s1.heap dd (.xd ws) from I1.hok dd _ hH)
    obtain ⟨od, ho, hlk⟩ := lookIn_ns hns
    obtain ⟨u, hu, ru⟩ := RelO.some_of (v := y) (o := mA f) (by rw [← hy]; exact hrl f)
    have J : PySem.W.InstAt s1.heap a oe (He.ga X.K (Str.ofString c)) (some od) := ⟨hget, hz.1, by unfold PySem.W.notCls; rw [hv] <;> rfl, by rw [hz.2]; exact ho⟩
    exact HandSPX.exc_get I1.kIn J hk.hg hk.hk hk.hs (PySem.W.findObj_own hk.hd (N.ok c hc) rfl (by rw [hlk, hu])) (handed_of ru) ⟨y, H1, I1.tok _, ru, q⟩
end
end L2.MW

/-! MW, part W: what the head must look at besides: error classes, clauses, isinstance. -/
namespace L2.MW
open PySem PySem.Spec PyProof.Rows
def exmB (K : PySem.W.Frag) (tbl : List (String × D × Bool)) : Bool := tbl.all fun t => decide (PySem.W.exmOne K (.ref (He.ga K (Str.ofString t.1))) (clsVal K t.2.1) = some t.2.2) && excCB K (He.ga K (Str.ofString t.1))
theorem exmB_ok {K : PySem.W.Frag} {tbl : List (String × D × Bool)} (h : exmB K tbl = true) : ExmF K tbl := ⟨fun t ht => by
  have := List.all_eq_true.mp h t ht
  rw [Bool.and_eq_true, decide_eq_true_eq] at this
  exact ⟨this.1, excCB_ok this.2⟩⟩
def kitEB (K : PySem.W.Frag) (tbl : List (String × D × Bool)) : Bool := tbl.all fun t => decide (PySem.W.kitOne K (.ref (He.ga K (Str.ofString t.1))) (clsVal K t.2.1) = some t.2.2)
theorem kitEB_ok {K : PySem.W.Frag} {tbl : List (String × D × Bool)} (h : kitEB K tbl = true) : KitE K tbl := ⟨fun t ht => of_decide_eq_true (List.all_eq_true.mp h t ht)⟩
def xnB (K : PySem.W.Frag) (cs : List String) (f : Str) : Bool := cs.all fun c => decide (PySem.W.findIn K (.ref (He.ga K (Str.ofString c))) f = some none)
theorem xnB_ok {K : PySem.W.Frag} {cs : List String} {f : Str} (h : xnB K cs f = true) : XN K cs f := ⟨fun c hc => of_decide_eq_true (List.all_eq_true.mp h c hc)⟩
/-- as the kit's hook by names, with a further test -/
def obsM (chk : PySem.W.Frag → Bool) (fa : List He.Fa) (fn : List He.DefD) (K : PySem.W.Frag) : He.AlD := (chk K && ((fa.all fun f => f.ok K) && fn.all fun d => d.ok K), fn.map fun d => He.fnW K d.at_)
def SaysM (chk : PySem.W.Frag → Bool) (fa : List He.Fa) (fn : List He.DefD) (K : PySem.W.Frag) : Prop := obsM chk fa fn K = He.valD fn
def obsMG (chk : PySem.W.Frag → Bool) (n : Nat) (fa : List He.Fa) (fn : List He.DefD) (g : Addr → Option Obj) : He.AlD := obsM chk fa fn (He.frG g (He.asD g n))
def hookM (chk : PySem.W.Frag → Bool) (n : Nat) (fa : List He.Fa) (fn : List He.DefD) : PySem.W.Hook where
  α := He.AlD
  obs := fun s => obsMG chk n fa fn s.heap.get?
  val := fun _ => He.valD fn
  says := fun _ h => ∃ K : PySem.W.Frag, K.In h ∧ SaysM chk fa fn K
  of := fun _ _ e => ⟨_, He.frG_in, e⟩
  keeps := fun _ _ _ ⟨K, hK, c⟩ k => ⟨K, PySem.W.Frag.In.keeps hK k, c⟩
theorem obsMG_eq {chk : PySem.W.Frag → Bool} {n : Nat} {fa : List He.Fa} {fn : List He.DefD} {g : Addr → Option Obj} {s : Shared} (h : ∀ a, g a = s.heap.get? a) : obsMG chk n fa fn g = (hookM chk n fa fn).obs s := by
  have e : g = s.heap.get? := funext h
  rw [e] <;> rfl
theorem SaysM.both {chk : PySem.W.Frag → Bool} {fa : List He.Fa} {fn : List He.DefD} {K : PySem.W.Frag} (c : SaysM chk fa fn K) : chk K = true ∧ He.SaysD fa fn K := by
  have e1 : (chk K && ((fa.all fun f => f.ok K) && fn.all fun d => d.ok K)) = true := congrArg (fun z : He.AlD => z.1) c
  have e2 : fn.map (fun d => He.fnW K d.at_) = fn.map He.DefD.val := congrArg (fun z : He.AlD => z.2) c
  rw [Bool.and_eq_true] at e1
  refine ⟨e1.1, ?_⟩
  show (_, _) = (_, _)
  rw [e1.2, e2]
theorem uuM {k : Nat} {A : Around} {o : Option Value} (r : Room k A) : (A.mark o).units + 64 < cLine := by
  have := r.un
  show A.units + 64 < cLine
  omega
theorem uuM1 {k : Nat} {A : Around} {o : Option Value} (r : Room k A) : (A.mark o).units + 65 < cLine := by
  have := r.un
  show A.units + 65 < cLine
  omega
theorem uuM0 {k : Nat} {A : Around} {o : Option Value} (r : Room k A) : (A.mark o).units < cLine := by
  have := r.un
  show A.units < cLine
  omega
/-! ### clauses, read -/
theorem disp_yes {tbl : List (String × D × Bool)} {E : DEnds} {x : Exc} {σ : DSt} {h : DHp} {c : D} {o : Option Nat} {t : Addr → String → Addr → DS} {r : List DCl} (ht : (x.cls, c, true) ∈ tbl) (q : runD o t E x σ h) : dispD tbl E x σ h ((c, o, t) :: r) :=
  ⟨true, ht, fun _ => q, fun z => nomatch z⟩
theorem disp_no {tbl : List (String × D × Bool)} {E : DEnds} {x : Exc} {σ : DSt} {h : DHp} {c : D} {o : Option Nat} {t : Addr → String → Addr → DS} {r : List DCl} (ht : (x.cls, c, false) ∈ tbl) (q : dispD tbl E x σ h r) : dispD tbl E x σ h ((c, o, t) :: r) :=
  ⟨false, ht, fun z => (nomatch z), fun _ => q⟩
theorem isE_eq {tbl : List (String × D × Bool)} {a dd : Addr} {c : String} {fs : List (Str × D)} {t : D} {b : Bool} {h : DHp} {Q : DK} (ht : isClsD t) (hb : (c, t, b) ∈ tbl) (q : Q (.bl b) h) : nIsE tbl a c dd [.exn a c dd fs, t] h Q := ⟨fs, t, b, rfl, ht, hb, q⟩
theorem exF_eq {a dd : Addr} {c : String} {fs : List (Str × D)} {f : Str} {d : D} {h : DHp} {Q : DK} (e : fs.lookup f = some d) : nExF a c dd f (.exn a c dd fs) h Q ↔ Q d h := by
  constructor
  · rintro ⟨fs', d', e1, e2, q⟩
    cases e1
    rw [e] at e2; cases e2
    exact q
  · intro q; exact ⟨fs, d, rfl, e, q⟩
/-- what an exception may leave behind it -/
theorem ex_of {h0 h : DHp} {X : DX} {Q : DK} {x : Exc} {σ : DSt} (q : X x h) : (endsD h0 X Q).ex x σ h := .inl q
theorem ex_back {h : DHp} {X : DX} {Q : DK} {x : Exc} {σ : DSt} {g : DHp} (b : BdF h.length x.fs) (q : X x h) : (endsD h X Q).ex x σ (h ++ g) := .inr ⟨g, rfl, b, q⟩
end L2.MW

/-! MW, part N: the ends: keywords at a def, the law's call. -/
namespace L2.MW
open PySem PySem.Spec PyProof.Rows
/-- a promise that lets nothing out, in the plain context -/
theorem cx0 {P : Program} {w : World} {K : PySem.W.Frag} {mg : Str → Option Value} {base : Heap} {k : Nat} {f : Addr} {fd : FuncData} {ps : List Str} {sp : Sp} (F : FnOk P w K mg base (L2.CX P w) k f fd ps sp) :
    FnOk P w K mg base CX0 k f fd ps (fun vs H Q _ => sp vs H Q fun _ _ _ => False) := by
  refine ⟨fun vs H Q E h => F.len vs H Q _ h, fun A outer s H args us vs Q E hr he hb hv h => codeAny_mono (F.run A outer s H args us vs Q _ hr he hb hv h) fun r s' q => ?_⟩
  cases r with
  | error e => obtain ⟨_, _, _, _, _, _, _, _, _, _, _, _, z⟩ := q; exact z.elim
  | ok fl => cases fl <;> exact q
/-- keywords alone -/
theorem bindsK {K : PySem.W.Frag} {x qual : Str} {params : Arguments} {body : List Stmt} {scope : Scope} {kws : List (Str × V)} {f : Addr} {fd : FuncData} (F : FunD K x qual params body scope [] kws f fd) (s : Shared) {args : Args} {bs : List (Str × Value)}
    (h : ∀ (kV doc pm : Value) (an : Option Addr) (cdv ct : Value), bindArgs (PySem.W.fnOf x qual params body scope .none kV doc pm an cdv ct) args = pure bs) : BindsTo s fd args bs := by
  obtain ⟨oc, od, dV, kV, doc, pm, an, cdv, ct, osl, rfl, lk, hcd, hD, hK⟩ := F.ex
  rcases hD with ⟨_, rfl⟩ | ⟨e, _⟩
  · exact .of_eq (h kV doc pm an cdv ct)
  · exact absurd rfl e
/-- the law's own call: the script is the others' list -/
theorem law_sp {K : PySem.W.Frag} {c : Ct} {H : Hp} {a : Addr} {ns : List Int} (hS : SqL K H a (ns.map V.int)) (hc : c [.fz (ns.map D.int)] [] X0 fun d _ => d = .bl true) : spOf K 1 c [.ref a] H (fun v _ => v = .bl true) fun _ _ _ => False := by
  refine ⟨[], [.fz (ns.map D.int)], [], X0, _, rfl, ⟨rfl, List.nodup_nil, fun i b a h => by simp at h⟩, ⟨.ref a, [], rfl, ⟨a, ns.map V.int, rfl, ?_, DVs.of_ints⟩, rfl⟩, hc, fun _ _ _ _ _ _ _ _ _ z => z.elim, fun ρ' d h' v H' _ _ dv q => ?_⟩
  · exact hS.imp (fun h => ⟨by simp, h⟩) id
  · subst q; exact dv
end L2.MW

namespace L2.MW.K49
open PySem PySem.Spec PyProof.Rows L2 L2.MW
/-! ### what is meant -/
/-- plain data: its kind is told by its shape -/
def plB : D → Bool
  | .non => true
  | .bl _ => true
  | .int _ => true
  | .str _ => true
  | .tup _ => true
  | .lst _ => true
  | .fz _ => true
  | _ => false
def numB : D → Bool
  | .int _ => true
  | _ => false
def tupB : D → Bool
  | .tup _ => true
  | _ => false
def btw (d : D) (lo hi : Int) : Bool := match d with
  | .int i => decide (lo ≤ i) && decide (i ≤ hi)
  | _ => false
def iOf : D → Int
  | .int i => i
  | _ => 0
/-- rising whole numbers above last, below n -/
def subs (n : Int) : Int → List D → Bool
  | _, [] => true
  | last, x :: r => btw x (last + 1) (n - 1) && subs n (iOf x) r
def subB (d : D) (n : Int) : Bool := match d with
  | .tup l => subs n (-1) l
  | _ => false
/-- as bits -/
def maskN (ns : List Nat) : Nat := ns.foldl (fun m x => m ||| 2 ^ x) 0
def nats (ns : List Nat) : List D := ns.map fun (n : Nat) => D.int (n : Int)
def prN (p : Nat × Nat) : D := .tup [.int (p.1 : Int), .int (p.2 : Int)]
def prs (ps : List (Nat × Nat)) : List D := ps.map prN
/-- strictly rising pairs -/
def ltP (p q : Nat × Nat) : Prop := p.1 < q.1 ∨ (p.1 = q.1 ∧ p.2 < q.2)
/-- what the law's pairs are -/
structure PrOk (n : Nat) (ps : List (Nat × Nat)) : Prop where
  bd : ∀ p ∈ ps, p.1 < n ∧ p.2 < n ∧ p.1 ≠ p.2
  up : ps.Pairwise ltP
  few : ps.length ≤ 2000
/-- a state: the numbers of d have with each event its causes and no two in conflict -/
def okB (n : Nat) (cs fs : List (Nat × Nat)) (d : D) : Bool := match d with
  | .tup l => subs n (-1) l && (cs.all (fun p => !(l.any fun x => iOf x == (p.2 : Int)) || (l.any fun x => iOf x == (p.1 : Int))) && fs.all fun p => !((l.any fun x => iOf x == (p.1 : Int)) && (l.any fun x => iOf x == (p.2 : Int))))
  | _ => false
/-- of the cases that the law builds: the members' kinds are plain, too -/
def plV (d : D) : Prop := plB d = true ∧ ∀ l, d = .tup l → ∀ x ∈ l, plB x = true
/-! ### what each def promises -/
def ct_is_integer : Ct := fun ds h X Q => ∃ d, ds = [d] ∧ plB d = true ∧ Q (.bl (numB d)) h
def ct_is_between : Ct := fun ds h X Q => ∃ d lo hi, ds = [d, .int lo, .int hi] ∧ plB d = true ∧ Q (.bl (btw d lo hi)) h
def ct_is_subset : Ct := fun ds h X Q => ∃ d n, ds = [d, .int n] ∧ plV d ∧ Q (.bl (subB d n)) h
def ct_mask_of : Ct := fun ds h X Q => ∃ ns : List Nat, ds = [.tup (nats ns)] ∧ (∀ n ∈ ns, n < 1000) ∧ Q (.int (maskN ns : Nat)) h
/-- a right pair -/
def ct_is_pair : Ct := fun ds h X Q => ∃ (p : Nat × Nat) (n : Nat) (b : Bool), ds = [prN p, .int n, .bl b] ∧ p.1 < n ∧ p.2 < n ∧ p.1 ≠ p.2 ∧ (b = true → p.1 < p.2) ∧ Q (.bl true) h
def ct_first_wrong_pair : Ct := fun ds h X Q => ∃ (ps : List (Nat × Nat)) (n : Nat) (b : Bool), ds = [.lst (prs ps), .int n, .bl b] ∧ PrOk n ps ∧ (b = true → ∀ p ∈ ps, p.1 < p.2) ∧ Q .non h
/-- a rank that each cause keeps -/
def Ranked (ps : List (Nat × Nat)) : Prop := ∃ r : Nat → Nat, ∀ p ∈ ps, r p.1 < r p.2
/-- .. with ranks below n -/
def RankedN (n : Nat) (ps : List (Nat × Nat)) : Prop := ∃ r : Nat → Nat, (∀ p ∈ ps, r p.1 < r p.2) ∧ ∀ p ∈ ps, r p.2 < n
def ct_leading_masks : Ct := fun ds h X Q => ∃ (ps : List (Nat × Nat)) (n : Nat), ds = [.int n, .lst (prs ps)] ∧ n ≤ 40 ∧ PrOk n ps ∧ Ranked ps ∧ ∀ ms : List Nat, ms.length = n → (∀ e m : Nat, ms[e]? = some m → m.testBit e = false) → Q (.lst (nats ms)) h
def ct_has_cycle : Ct := fun ds h X Q => ∃ (ps : List (Nat × Nat)) (n : Nat), ds = [.int n, .lst (prs ps)] ∧ n ≤ 40 ∧ PrOk n ps ∧ Ranked ps ∧ Q (.bl false) h
def evD (n : Nat) (cs fs : List (Nat × Nat)) : List (Str × D) := [("many", .int n), ("causes", .tup (prs cs)), ("conflicts", .tup (prs fs))]
def ct_Events_init : Ct := fun ds h X Q => ∃ (i n : Nat) (cs fs : List (Nat × Nat)), ds = [.ref i, .int n, .lst (prs cs), .lst (prs fs)] ∧ h[i]? = some (.ins "Events" []) ∧ n ≤ 39 ∧ PrOk n cs ∧ Ranked cs ∧ PrOk n fs ∧ (∀ p ∈ fs, p.1 < p.2) ∧ Q .non (h.set i (.ins "Events" (evD n cs fs)))
def ct_is_state : Ct := fun ds h X Q => ∃ (n : Nat) (cs fs : List (Nat × Nat)) (d : D), ds = [.obj "Events" (evD n cs fs), d] ∧ n ≤ 39 ∧ PrOk n cs ∧ PrOk n fs ∧ plV d ∧ Q (.bl (okB n cs fs d)) h
/-! the law's own -/
def ct__law_cell : Ct := fun ds h X Q => ∃ (ns : List Int) (k : Int), ds = [.fz (ns.map D.int), .int k] ∧ 0 ≤ k ∧ ns.length ≤ 63 ∧ ∀ i : Int, Q (.int i) h
def ct__law_row : Ct := fun ds h X Q => ∃ (ns : List Int) (a m l : Nat), ds = [.fz (ns.map D.int), .int a, .int m, .int l] ∧ ns.length ≤ 63 ∧ m ≤ 1000 ∧ 0 < l ∧ l < 1000000 ∧ ∀ r : List Nat, r.length = m → (∀ x ∈ r, x < l) → Q (.lst (nats r)) h
def ct__law_pairs : Ct := fun ds h X Q => ∃ (dr : List Nat) (n : Nat) (o : List Nat), ds = [.lst (nats dr), .int n, .lst (nats o)] ∧ dr.length ≤ 1000 ∧ o.length = n ∧ n ≤ 39 ∧ (∀ x ∈ o, x < n) ∧ o.Nodup ∧
  ∀ ps : List (Nat × Nat), PrOk n ps → (∀ p ∈ ps, ∃ i j : Nat, i < j ∧ o[i]? = some p.1 ∧ o[j]? = some p.2) → Q (.lst (prs ps)) h
def ct__law_parts : Ct := fun ds h X Q => ∃ ns : List Int, ds = [.fz (ns.map D.int)] ∧ ns.length ≤ 63 ∧ ∀ (n : Nat) (cs fs : List (Nat × Nat)), n ≤ 39 → PrOk n cs → RankedN n cs → PrOk n fs → (∀ p ∈ fs, p.1 < p.2) → Q (.lst [.int n, .lst (prs cs), .lst (prs fs)]) h
/-- closed under the causes, each with itself -/
structure Needs (n : Nat) (cs : List (Nat × Nat)) (ms : List Nat) : Prop where
  len : ms.length = n
  self : ∀ e m : Nat, ms[e]? = some m → m.testBit e = true
  step : ∀ p ∈ cs, ∀ a b k : Nat, ms[p.1]? = some a → ms[p.2]? = some b → a.testBit k = true → b.testBit k = true
  closed : ∀ e m : Nat, ms[e]? = some m → ∀ p ∈ cs, m.testBit p.2 = true → m.testBit p.1 = true
  bd : ∀ e m : Nat, ms[e]? = some m → m < 2 ^ n
def ct__law_needs : Ct := fun ds h X Q => ∃ (n : Nat) (cs : List (Nat × Nat)), ds = [.int n, .lst (prs cs)] ∧ n ≤ 39 ∧ PrOk n cs ∧ RankedN n cs ∧ ∀ ms : List Nat, Needs n cs ms → Q (.lst (nats ms)) h
def ct__law_in : Ct := fun ds h X Q => ∃ n m : Nat, ds = [.int n, .int m] ∧ n ≤ 39 ∧ Q (.tup (nats ((List.range n).filter fun k => m.testBit k))) h
/-! k49's own -/
def bitsN (m : Nat) : List Nat := (List.range 40).filter fun k => m.testBit k
def ct_members_of : Ct := fun ds h X Q => ∃ m : Nat, ds = [.int m] ∧ m < 2 ^ 40 ∧ Q (.tup (nats (bitsN m))) h
/-- in conflict -/
def cfl (fs : List (Nat × Nat)) (x y : Nat) : Bool := fs.any fun p => (p.1 == x && p.2 == y) || (p.1 == y && p.2 == x)
def Again (n : Nat) (fs : List (Nat × Nat)) (as : List Nat) : Prop := as.length = n ∧ ∀ a v : Nat, as[a]? = some v → ∀ b, v.testBit b = cfl fs a b
def ct_against_masks : Ct := fun ds h X Q => ∃ (n : Nat) (cs fs : List (Nat × Nat)), ds = [.obj "Events" (evD n cs fs)] ∧ n ≤ 39 ∧ PrOk n fs ∧ ∀ as : List Nat, Again n fs as → Q (.lst (nats as)) h
/-- the events and two values -/
structure Ev (n : Nat) (cs fs : List (Nat × Nat)) : Prop where
  le : n ≤ 39
  ca : PrOk n cs
  cf : PrOk n fs
  up : ∀ p ∈ fs, p.1 < p.2
def xSt (d : D) : Exc := ⟨"InvalidState", [("value", d)]⟩
def xUn (z : Str) : Exc := ⟨"Undefined", [("what", .str z)]⟩
/-- both looked at -/
def looked (n : Nat) (cs fs : List (Nat × Nat)) (d1 d2 : D) (h : DHp) (X : DX) (P : Prop) : Prop :=
  (okB n cs fs d1 = false → X (xSt d1) h) ∧ (okB n cs fs d1 = true → (okB n cs fs d2 = false → X (xSt d2) h) ∧ (okB n cs fs d2 = true → P))
/-- plain data of any kind, closed, of little depth -/
structure Pv (d : D) : Prop where
  pl : plV d
  ok : OkD 50 d
  few : ∀ l, d = .tup l → l.length ≤ 10000
def ct_look_at_states : Ct := fun ds h X Q => ∃ (n : Nat) (cs fs : List (Nat × Nat)) (d1 d2 : D), ds = [.obj "Events" (evD n cs fs), d1, d2] ∧ Ev n cs fs ∧ Pv d1 ∧ Pv d2 ∧ looked n cs fs d1 d2 h X (Q .non h)
/-- the union of two tuples of numbers -/
def unionN (a b : List Nat) : List Nat := bitsN (maskN a ||| maskN b)
def ct_merged : Ct := fun ds h X Q => ∃ (n : Nat) (cs fs : List (Nat × Nat)) (d1 d2 : D), ds = [.obj "Events" (evD n cs fs), d1, d2] ∧ Ev n cs fs ∧ Pv d1 ∧ Pv d2 ∧
  looked n cs fs d1 d2 h X (∀ a b : List Nat, d1 = .tup (nats a) → d2 = .tup (nats b) → (okB n cs fs (.tup (nats (unionN a b))) = true → Q (.tup (nats (unionN a b))) h) ∧ (okB n cs fs (.tup (nats (unionN a b))) = false → X (xUn "state") h))
/-- the first pair in conflict, by the two tuples' order -/
def firstC (fs : List (Nat × Nat)) (a b : List Nat) : Option (Nat × Nat) := (a.flatMap fun x => (b.filter fun y => cfl fs x y).map fun y => (x, y)).head?
def ct_conflict : Ct := fun ds h X Q => ∃ (n : Nat) (cs fs : List (Nat × Nat)) (d1 d2 : D), ds = [.obj "Events" (evD n cs fs), d1, d2] ∧ Ev n cs fs ∧ Pv d1 ∧ Pv d2 ∧
  looked n cs fs d1 d2 h X (∀ a b : List Nat, d1 = .tup (nats a) → d2 = .tup (nats b) → (∀ p, firstC fs a b = some p → Q (prN p) h) ∧ (firstC fs a b = none → X (xUn "conflict") h))
def ct__law_good : Ct := fun ds h X Q => ∃ (m n : Nat) (fs : List (Nat × Nat)), ds = [.int m, .lst (prs fs)] ∧ Q (.bl (fs.all fun p => !(m.testBit p.1 && m.testBit p.2))) h
/-- the mark of a state -/
structure StM (n : Nat) (cs fs : List (Nat × Nat)) (m : Nat) : Prop where
  bd : m < 2 ^ n
  ca : ∀ p ∈ cs, m.testBit p.2 = true → m.testBit p.1 = true
  cf : ∀ p ∈ fs, ¬ (m.testBit p.1 = true ∧ m.testBit p.2 = true)
def ct__law_state : Ct := fun ds h X Q => ∃ (n : Nat) (cs fs : List (Nat × Nat)) (ms dr : List Nat), ds = [.lst (nats ms), .lst (prs fs), .lst (nats dr)] ∧ n ≤ 39 ∧ PrOk n cs ∧ PrOk n fs ∧ Needs n cs ms ∧ ∀ m : Nat, StM n cs fs m → Q (.int m) h
/-- all crossing pairs, the least first -/
def ct__law_first : Ct := fun ds h X Q => ∃ (fs : List (Nat × Nat)) (a b : List Nat), ds = [.tup (nats a), .tup (nats b), .lst (prs fs)] ∧ a.Pairwise (· < ·) ∧ b.Pairwise (· < ·) ∧ fs.length ≤ 2000 ∧ (∀ p ∈ fs, p.1 < p.2) ∧ fs.Pairwise ltP ∧
  (∀ p, firstC fs a b = some p → Q (.lst [prN p]) h) ∧ (firstC fs a b = none → Q (.lst []) h)
/-- data told alike: due by its kind -/
def sameD : Nat → D → Prop
  | 0, _ => False
  | n + 1, .tup l => l.length ≤ 100000 ∧ ∀ x ∈ l, sameD n x
  | n + 1, .lst l => l.length ≤ 100000 ∧ ∀ x ∈ l, sameD n x
  | _ + 1, .non => True
  | _ + 1, .bl _ => True
  | _ + 1, .int _ => True
  | _ + 1, .str x => PyData.strOk x = true
  | _, _ => False
/-- the same thing is told to be the same -/
def ctS (n : Nat) : Ct := fun ds h X Q => ∃ d, ds = [d, d] ∧ sameD n d ∧ Q (.bl true) h
def ct__law_same : Ct := ctS 4
/-- what is told of two values -/
def toldD (n : Nat) (cs fs : List (Nat × Nat)) (d1 d2 : D) (z : Str) : D :=
  if okB n cs fs d1 = false then .lst [.int 2, d1] else if okB n cs fs d2 = false then .lst [.int 2, d2] else match d1, d2 with
    | .tup l, .tup m => (if z = "state" then (if okB n cs fs (.tup (nats (unionN (l.map fun x => (iOf x).toNat) (m.map fun x => (iOf x).toNat)))) = true then .lst [.int 0, .tup (nats (unionN (l.map fun x => (iOf x).toNat) (m.map fun x => (iOf x).toNat)))] else .lst [.int 1])
      else match firstC fs (l.map fun x => (iOf x).toNat) (m.map fun x => (iOf x).toNat) with
        | some p => .lst [.int 0, prN p]
        | none => .lst [.int 1])
    | _, _ => .non
def ct__law_told : Ct := fun ds h X Q => ∃ (n : Nat) (cs fs : List (Nat × Nat)) (d1 d2 : D) (z : Str), ds = [.obj "Events" (evD n cs fs), d1, d2, .str z] ∧ (z = "state" ∨ z = "conflict") ∧ Ev n cs fs ∧ Pv d1 ∧ Pv d2 ∧ Q (toldD n cs fs d1 d2 z) h
def ct__law_right : Ct := fun ds h X Q => ∃ (n : Nat) (cs fs : List (Nat × Nat)) (a b : List Nat), ds = [.obj "Events" (evD n cs fs), .tup (nats a), .tup (nats b), .lst (prs fs)] ∧ Ev n cs fs ∧ okB n cs fs (.tup (nats a)) = true ∧ okB n cs fs (.tup (nats b)) = true ∧ Q (.bl true) h
def ct__law_refused : Ct := fun ds h X Q => ∃ (n : Nat) (cs fs : List (Nat × Nat)) (d1 d2 due : D), ds = [.obj "Events" (evD n cs fs), d1, d2, due] ∧ Ev n cs fs ∧ Pv d1 ∧ Pv d2 ∧ ((okB n cs fs d1 = false ∧ due = d1) ∨ (okB n cs fs d1 = true ∧ okB n cs fs d2 = false ∧ due = d2)) ∧ sameD 4 due ∧ Q (.bl true) h
structure BadV (n : Nat) (cs fs : List (Nat × Nat)) (d : D) : Prop where
  no : okB n cs fs d = false
  pv : Pv d
  sm : sameD 4 d
def ct__law_bad : Ct := fun ds h X Q => ∃ (n : Nat) (cs fs : List (Nat × Nat)) (m pick : Nat), ds = [.int n, .lst (prs cs), .lst (prs fs), .int m, .int pick] ∧ Ev n cs fs ∧ StM n cs fs m ∧ ∀ vs : List D, 0 < vs.length → vs.length ≤ 1000 → (∀ v ∈ vs, BadV n cs fs v ∧ ∀ k, Bd k v) → Q (.lst vs) h
def ct__law_asked : Ct := fun ds h X Q => ∃ ns : List Int, ds = [.fz (ns.map D.int)] ∧ ns.length ≤ 63 ∧ Q (.bl true) h
def ct_law : Ct := ct__law_asked
def top (i : Nat) : Stmt := PySem.Challenge.pw_middlewebs_k49_merged_or_conflict.main.body.getD i (.Pass ⟨0, 0, 0, 0⟩)
def mem (s : Stmt) (i : Nat) : Stmt := match s with
  | .ClassDef _ _ _ b .. => b.getD i (.Pass ⟨0, 0, 0, 0⟩)
  | s => s
abbrev fc_many : List String := ["Events"]
abbrev fc_causes : List String := ["Events"]
abbrev fc_conflicts : List String := ["Events"]
abbrev xf_InvalidState : List Str := ["value"]
abbrev xf_Undefined : List Str := ["what"]
abbrev xtb : List (String × D × Bool) := [("InvalidState", .cls "InvalidState", true), ("Undefined", .cls "InvalidState", false), ("Undefined", .cls "Undefined", true)]
abbrev xkt : List (String × D × Bool) := [("InvalidState", .cls "InvalidEvents", false), ("InvalidState", .ty "ValueError", true), ("InvalidState", .cls "MiddleError", true), ("Undefined", .cls "TooLarge", false), ("Undefined", .ty "ValueError", true), ("Undefined", .cls "MiddleError", true)]
abbrev kcs : List String := []
structure Gm (K : PySem.W.Frag) (mg : Str → Option Value) : Prop where
  m_ValueError : mg "ValueError" = none
  m_bool : mg "bool" = none
  m_enumerate : mg "enumerate" = none
  m_int : mg "int" = none
  m_isinstance : mg "isinstance" = none
  m_len : mg "len" = none
  m_list : mg "list" = none
  m_max : mg "max" = none
  m_min : mg "min" = none
  m_range : mg "range" = none
  m_reversed : mg "reversed" = none
  m_sorted : mg "sorted" = none
  m_str : mg "str" = none
  m_tuple : mg "tuple" = none
  i_MOST_EVENTS : ∃ t, mg "MOST_EVENTS" = some (.int 39 t)
  f_many : FldOk K fc_many "many"
  f_causes : FldOk K fc_causes "causes"
  f_conflicts : FldOk K fc_conflicts "conflicts"
  exm : ExmF K xtb
  kitE : KitE K xkt
  n_value : XN K (clss xtb) "value"
  n_what : XN K (clss xtb) "what"
  kit : KitF K kcs
  g_InvalidState : mg (Str.ofString "InvalidState") = some (.ref (He.ga K (Str.ofString "InvalidState")))
  g_InvalidEvents : mg (Str.ofString "InvalidEvents") = some (.ref (He.ga K (Str.ofString "InvalidEvents")))
  g_Undefined : mg (Str.ofString "Undefined") = some (.ref (He.ga K (Str.ofString "Undefined")))
  g_TooLarge : mg (Str.ofString "TooLarge") = some (.ref (He.ga K (Str.ofString "TooLarge")))
  g_MiddleError : mg (Str.ofString "MiddleError") = some (.ref (He.ga K (Str.ofString "MiddleError")))
abbrev s_is_integer : Stmt := top 7
abbrev N_is_integer : List Str := ["value"]
abbrev P_is_integer : List Str := ["value"]
theorem sc_is_integer : FnScope N_is_integer P_is_integer (defScope s_is_integer) := ⟨rfl, rfl, rfl, by decide +kernel, rfl, by decide +kernel, by decide +kernel⟩
def tb_is_integer : DS :=
 (sRet (dAndV (dCB (nIsi kcs) (aCons (dVar 0) (aCons (dC (.ty "int")) aNil))) (dNotV (dCB (nIsi kcs) (aCons (dVar 0) (aCons (dC (.ty "bool")) aNil))))))
theorem bd_is_integer {P : Program} {w : World} {K : PySem.W.Frag} {mg : Str → Option Value} {base : Heap} (G : Gm K mg)  : BodyC P w K mg base N_is_integer "is_integer" (defScope s_is_integer) (defBody s_is_integer) 0 tb_is_integer :=
 fun f cd A outer s H E hr tk hp =>
 (ss_one (s1_ret (se_and (se_isi G.kit G.m_isinstance (sa_cons (se_var 0) (sa_cons (se_ty rfl G.m_int (by decide +kernel)) sa_nil))) (se_one (se_not (se_isi G.kit G.m_isinstance (sa_cons (se_var 0) (sa_cons (se_ty rfl G.m_bool (by decide +kernel)) sa_nil))))))))
abbrev s_is_between : Stmt := top 8
abbrev N_is_between : List Str := ["value", "low", "high"]
abbrev P_is_between : List Str := ["value", "low", "high"]
theorem sc_is_between : FnScope N_is_between P_is_between (defScope s_is_between) := ⟨rfl, rfl, rfl, by decide +kernel, rfl, by decide +kernel, by decide +kernel⟩
def tb_is_between : DS :=
 (sRet (dAndV (dCall ct_is_integer 1 (aCons (dVar 0) aNil)) (dChn oLe oLe (dVar 1) (dVar 0) (dVar 2))))
theorem bd_is_between {P : Program} {w : World} {K : PySem.W.Frag} {mg : Str → Option Value} {base : Heap} (G : Gm K mg) (F_is_integer : FnC P w K mg base 1 "is_integer" 1 ct_is_integer) : BodyC P w K mg base N_is_between "is_between" (defScope s_is_between) (defBody s_is_between) 1 tb_is_between :=
 fun f cd A outer s H E hr tk hp =>
 (ss_one (s1_ret (se_and (se_call F_is_integer tk (hr.mono (by decide)) (sa_cons (se_var 0) sa_nil)) (se_one (se_chn op_le L_CI op_le L_CI (se_var 1) (se_var 0) (se_var 2))))))
abbrev s_is_subset : Stmt := top 9
abbrev N_is_subset : List Str := ["value", "size", "last", "vertex"]
abbrev P_is_subset : List Str := ["value", "size"]
theorem sc_is_subset : FnScope N_is_subset P_is_subset (defScope s_is_subset) := ⟨rfl, rfl, rfl, by decide +kernel, rfl, by decide +kernel, by decide +kernel⟩
def tb_is_subset : DS :=
 (sSeq (sIf (dNot (dTru (dCB (nIsi kcs) (aCons (dVar 0) (aCons (dC (.ty "tuple")) aNil)))))
 (sRet (dC (.bl false)))
 sNil)
 (sSeq (sSet 2 (dNeg (dC (.int 1))))
 (sSeq (sFor (iT (dVar 0)) (tgN 3)
 (sSeq (sIf (dNot (dTru (dCall ct_is_between 3 (aCons (dVar 3) (aCons (dOp dAdd (dVar 2) (dC (.int 1))) (aCons (dOp oSub (dVar 1) (dC (.int 1))) aNil))))))
 (sRet (dC (.bl false)))
 sNil)
 (sSet 2 (dVar 3))))
 (sRet (dC (.bl true))))))
theorem bd_is_subset {P : Program} {w : World} {K : PySem.W.Frag} {mg : Str → Option Value} {base : Heap} (G : Gm K mg) (F_is_between : FnC P w K mg base 2 "is_between" 3 ct_is_between) : BodyC P w K mg base N_is_subset "is_subset" (defScope s_is_subset) (defBody s_is_subset) 2 tb_is_subset :=
 fun f cd A outer s H E hr tk hp =>
 (ss_cons (s1_if (st_not (st_tru (se_isi G.kit G.m_isinstance (sa_cons (se_var 0) (sa_cons (se_ty rfl G.m_tuple (by decide +kernel)) sa_nil)))))
 (ss_one (s1_ret se_bl))
 ss_nil)
 (ss_cons (s1_set 2 sc_is_subset.nd (se_neg se_int))
 (ss_cons (s1_for hp rfl (si_tup (se_var 0)) (sg_name sc_is_subset.nd)
 (ss_cons (s1_if (st_not (st_tru (se_call F_is_between tk (hr.mono (by decide)) (sa_cons (se_var 3) (sa_cons (se_add (se_var 2) se_int) (sa_cons (se_sub2 (se_var 1) se_int) sa_nil))))))
 (ss_one (s1_ret se_bl))
 ss_nil)
 (ss_one (s1_set 2 sc_is_subset.nd (se_var 3)))))
 (ss_one (s1_ret se_bl)))))
abbrev s_mask_of : Stmt := top 10
abbrev N_mask_of : List Str := ["subset", "mask", "member"]
abbrev P_mask_of : List Str := ["subset"]
theorem sc_mask_of : FnScope N_mask_of P_mask_of (defScope s_mask_of) := ⟨rfl, rfl, rfl, by decide +kernel, rfl, by decide +kernel, by decide +kernel⟩
def tb_mask_of : DS :=
 (sSeq (sSet 1 (dC (.int 0)))
 (sSeq (sFor (iT (dVar 0)) (tgN 2)
 (sSet 1 (dOp oOr (dVar 1) (dOp oShl (dC (.int 1)) (dVar 2)))))
 (sRet (dVar 1))))
theorem bd_mask_of {P : Program} {w : World} {K : PySem.W.Frag} {mg : Str → Option Value} {base : Heap} (G : Gm K mg)  : BodyC P w K mg base N_mask_of "mask_of" (defScope s_mask_of) (defBody s_mask_of) 0 tb_mask_of :=
 fun f cd A outer s H E hr tk hp =>
 (ss_cons (s1_set 1 sc_mask_of.nd se_int)
 (ss_cons (s1_for hp rfl (si_tup (se_var 0)) (sg_name sc_mask_of.nd)
 (ss_one (s1_set 1 sc_mask_of.nd (se_bor (se_var 1) (se_shl se_int (se_var 2))))))
 (ss_one (s1_ret (se_var 1)))))
abbrev s_members_of : Stmt := top 11
abbrev N_members_of : List Str := ["mask", "place"]
abbrev P_members_of : List Str := ["mask"]
theorem sc_members_of : FnScope N_members_of P_members_of (defScope s_members_of) := ⟨rfl, rfl, rfl, by decide +kernel, rfl, by decide +kernel, by decide +kernel⟩
def tb_members_of : DS :=
 (sRet (dCB nTup (aCons (dLc (iR1 (aCons (dBits (dVar 0)) aNil)) (tgN 1) (dTru (dOp oAnd (dOp oShr (dVar 0) (dVar 1)) (dC (.int 1)))) (dVar 1) [1]) aNil)))
theorem bd_members_of {P : Program} {w : World} {K : PySem.W.Frag} {mg : Str → Option Value} {base : Heap} (G : Gm K mg)  : BodyC P w K mg base N_members_of "members_of" (defScope s_members_of) (defBody s_members_of) 0 tb_members_of :=
 fun f cd A outer s H E hr tk hp =>
 (ss_one (s1_ret (se_tuple G.m_tuple (sa_cons (se_lc (own := [("place", 1)]) rfl sc_members_of.nd (si_range1 G.m_range (sa_cons (se_bits (se_var 0)) sa_nil)) (by show BlkOk N_members_of (defScope s_members_of) _ [("place", 1)]; exact ⟨rfl, by decide +kernel, by decide +kernel, by decide +kernel, by decide +kernel⟩) (fun _ _ _ _ _ => (sg_name sc_members_of.nd)) (fun _ _ _ _ _ => (sp_one (st_tru (se_band (se_shr (se_var 0) (se_var 1)) se_int)))) (fun _ _ _ _ _ => (se_var 1))) sa_nil))))
abbrev s_is_pair : Stmt := top 15
abbrev N_is_pair : List Str := ["value", "many", "rising"]
abbrev P_is_pair : List Str := ["value", "many", "rising"]
theorem sc_is_pair : FnScope N_is_pair P_is_pair (defScope s_is_pair) := ⟨rfl, rfl, rfl, by decide +kernel, rfl, by decide +kernel, by decide +kernel⟩
def tb_is_pair : DS :=
 (sSeq (sIf (dOr (dNot (dTru (dCB (nIsi kcs) (aCons (dVar 0) (aCons (dC (.ty "tuple")) aNil))))) (dTst (dOp dNe (dCB nLen (aCons (dVar 0) aNil)) (dC (.int 2)))))
 (sRet (dC (.bl false)))
 sNil)
 (sSeq (sIf (dOr (dNot (dTru (dCall ct_is_between 3 (aCons (dOp dIx (dVar 0) (dC (.int 0))) (aCons (dC (.int 0)) (aCons (dOp oSub (dVar 1) (dC (.int 1))) aNil)))))) (dNot (dTru (dCall ct_is_between 3 (aCons (dOp dIx (dVar 0) (dC (.int 1))) (aCons (dC (.int 0)) (aCons (dOp oSub (dVar 1) (dC (.int 1))) aNil)))))))
 (sRet (dC (.bl false)))
 sNil)
 (sRet (dOrV (dOp oLt (dOp dIx (dVar 0) (dC (.int 0))) (dOp dIx (dVar 0) (dC (.int 1)))) (dAndV (dOp oGt (dOp dIx (dVar 0) (dC (.int 0))) (dOp dIx (dVar 0) (dC (.int 1)))) (dNotV (dVar 2)))))))
theorem bd_is_pair {P : Program} {w : World} {K : PySem.W.Frag} {mg : Str → Option Value} {base : Heap} (G : Gm K mg) (F_is_between : FnC P w K mg base 2 "is_between" 3 ct_is_between) : BodyC P w K mg base N_is_pair "is_pair" (defScope s_is_pair) (defBody s_is_pair) 2 tb_is_pair :=
 fun f cd A outer s H E hr tk hp =>
 (ss_cons (s1_if (st_w (sw_or (st_not (st_tru (se_isi G.kit G.m_isinstance (sa_cons (se_var 0) (sa_cons (se_ty rfl G.m_tuple (by decide +kernel)) sa_nil))))) (sw_or1 (st_ne (uu hr) (se_len G.m_len (sa_cons (se_var 0) sa_nil)) se_int))))
 (ss_one (s1_ret se_bl))
 ss_nil)
 (ss_cons (s1_if (st_w (sw_or (st_not (st_tru (se_call F_is_between tk (hr.mono (by decide)) (sa_cons (se_sub (se_var 0) se_int) (sa_cons se_int (sa_cons (se_sub2 (se_var 1) se_int) sa_nil)))))) (sw_or1 (st_not (st_tru (se_call F_is_between tk (hr.mono (by decide)) (sa_cons (se_sub (se_var 0) se_int) (sa_cons se_int (sa_cons (se_sub2 (se_var 1) se_int) sa_nil)))))))))
 (ss_one (s1_ret se_bl))
 ss_nil)
 (ss_one (s1_ret (se_or (se_lt (se_sub (se_var 0) se_int) (se_sub (se_var 0) se_int)) (se_one (se_and (se_gt (se_sub (se_var 0) se_int) (se_sub (se_var 0) se_int)) (se_one (se_not (se_var 2))))))))))
abbrev s_first_wrong_pair : Stmt := top 16
abbrev N_first_wrong_pair : List Str := ["pairs", "many", "rising", "place", "pair"]
abbrev P_first_wrong_pair : List Str := ["pairs", "many", "rising"]
theorem sc_first_wrong_pair : FnScope N_first_wrong_pair P_first_wrong_pair (defScope s_first_wrong_pair) := ⟨rfl, rfl, rfl, by decide +kernel, rfl, by decide +kernel, by decide +kernel⟩
def tb_first_wrong_pair : DS :=
 (sSeq (sIf (dNot (dTru (dCB (nIsi kcs) (aCons (dVar 0) (aCons (dTup (aCons (dC (.ty "list")) (aCons (dC (.ty "tuple")) aNil))) aNil)))))
 (sRet (dC (.int 0)))
 sNil)
 (sSeq (sFor (iEnumD (aCons (dVar 0) aNil)) (tgTup 2 (tgsCons (tgN 3) (tgsCons (tgN 4) tgsNil)))
 (sSeq (sIf (dNot (dTru (dCall ct_is_pair 3 (aCons (dVar 4) (aCons (dVar 1) (aCons (dVar 2) aNil))))))
 (sRet (dVar 3))
 sNil)
 (sIf (dAnd (dTst (dOp oGt (dVar 3) (dC (.int 0)))) (dTst (dOp dLeT (dVar 4) (dOp dIx (dVar 0) (dOp oSub (dVar 3) (dC (.int 1)))))))
 (sRet (dVar 3))
 sNil)))
 (sRet (dC .non))))
theorem bd_first_wrong_pair {P : Program} {w : World} {K : PySem.W.Frag} {mg : Str → Option Value} {base : Heap} (G : Gm K mg) (F_is_pair : FnC P w K mg base 3 "is_pair" 3 ct_is_pair) : BodyC P w K mg base N_first_wrong_pair "first_wrong_pair" (defScope s_first_wrong_pair) (defBody s_first_wrong_pair) 3 tb_first_wrong_pair :=
 fun f cd A outer s H E hr tk hp =>
 (ss_cons (s1_if (st_not (st_tru (se_isi G.kit G.m_isinstance (sa_cons (se_var 0) (sa_cons (se_tup (sa_cons (se_ty rfl G.m_list (by decide +kernel)) (sa_cons (se_ty rfl G.m_tuple (by decide +kernel)) sa_nil))) sa_nil)))))
 (ss_one (s1_ret se_int))
 ss_nil)
 (ss_cons (s1_for hp rfl (si_enum G.m_enumerate (sa_cons (se_var 0) sa_nil)) (sg_tup rfl (sgs_cons (sg_name sc_first_wrong_pair.nd) (sgs_cons (sg_name sc_first_wrong_pair.nd) (sgs_nil (T := [])))))
 (ss_cons (s1_if (st_not (st_tru (se_call F_is_pair tk (hr.mono (by decide)) (sa_cons (se_var 4) (sa_cons (se_var 1) (sa_cons (se_var 2) sa_nil))))))
 (ss_one (s1_ret (se_var 3)))
 ss_nil)
 (ss_one (s1_if (st_w (sw_and (st_gt (se_var 3) se_int) (sw_and1 (st_leT (uu0 hr) (se_var 4) (se_sub (se_var 0) (se_sub2 (se_var 3) se_int))))))
 (ss_one (s1_ret (se_var 3)))
 ss_nil))))
 (ss_one (s1_ret se_non))))
abbrev s_leading_masks : Stmt := top 17
abbrev N_leading_masks : List Str := ["many", "causes", "masks", "a", "b", "middle", "event"]
abbrev P_leading_masks : List Str := ["many", "causes"]
theorem sc_leading_masks : FnScope N_leading_masks P_leading_masks (defScope s_leading_masks) := ⟨rfl, rfl, rfl, by decide +kernel, rfl, by decide +kernel, by decide +kernel⟩
def tb_leading_masks : DS :=
 (sSeq (sSet 2 (dOp dMulH (dLst (aCons (dC (.int 0)) aNil)) (dVar 0)))
 (sSeq (sFor (iL (dVar 1)) (tgTup 2 (tgsCons (tgN 3) (tgsCons (tgN 4) tgsNil)))
 (sAugS dIor (dVar 2) (dVar 4) (dOp oShl (dC (.int 1)) (dVar 3))))
 (sSeq (sFor (iR1 (aCons (dVar 0) aNil)) (tgN 5)
 (sFor (iR1 (aCons (dVar 0) aNil)) (tgN 6)
 (sIf (dTru (dOp oAnd (dOp oShr (dOp dIx (dVar 2) (dVar 6)) (dVar 5)) (dC (.int 1))))
 (sAsg (dOp oOr (dOp dIx (dVar 2) (dVar 6)) (dOp dIx (dVar 2) (dVar 5))) (tgSub (dVar 2) (dVar 6)))
 sNil)))
 (sRet (dVar 2)))))
theorem bd_leading_masks {P : Program} {w : World} {K : PySem.W.Frag} {mg : Str → Option Value} {base : Heap} (G : Gm K mg)  : BodyC P w K mg base N_leading_masks "leading_masks" (defScope s_leading_masks) (defBody s_leading_masks) 0 tb_leading_masks :=
 fun f cd A outer s H E hr tk hp =>
 (ss_cons (s1_set 2 sc_leading_masks.nd (se_mulH (se_lst (sa_cons se_int sa_nil)) (se_var 0)))
 (ss_cons (s1_for hp rfl (si_list (se_var 1)) (sg_tup rfl (sgs_cons (sg_name sc_leading_masks.nd) (sgs_cons (sg_name sc_leading_masks.nd) (sgs_nil (T := [])))))
 (ss_one (s1_augSor (se_var 2) (se_var 4) (se_shl se_int (se_var 3)))))
 (ss_cons (s1_for hp rfl (si_range1 G.m_range (sa_cons (se_var 0) sa_nil)) (sg_name sc_leading_masks.nd)
 (ss_one (s1_for hp rfl (si_range1 G.m_range (sa_cons (se_var 0) sa_nil)) (sg_name sc_leading_masks.nd)
 (ss_one (s1_if (st_tru (se_band (se_shr (se_sub (se_var 2) (se_var 6)) (se_var 5)) se_int))
 (ss_one (s1_asg (se_bor (se_sub (se_var 2) (se_var 6)) (se_sub (se_var 2) (se_var 5))) (sg_sub (se_var 2) (se_var 6))))
 ss_nil)))))
 (ss_one (s1_ret (se_var 2))))))
abbrev s_has_cycle : Stmt := top 18
abbrev N_has_cycle : List Str := ["many", "causes", "masks", "event"]
abbrev P_has_cycle : List Str := ["many", "causes"]
theorem sc_has_cycle : FnScope N_has_cycle P_has_cycle (defScope s_has_cycle) := ⟨rfl, rfl, rfl, by decide +kernel, rfl, by decide +kernel, by decide +kernel⟩
def tb_has_cycle : DS :=
 (sSeq (sSet 2 (dCall ct_leading_masks 2 (aCons (dVar 0) (aCons (dVar 1) aNil))))
 (sSeq (sFor (iR1 (aCons (dVar 0) aNil)) (tgN 3)
 (sIf (dTru (dOp oAnd (dOp oShr (dOp dIx (dVar 2) (dVar 3)) (dVar 3)) (dC (.int 1))))
 (sRet (dC (.bl true)))
 sNil))
 (sRet (dC (.bl false)))))
theorem bd_has_cycle {P : Program} {w : World} {K : PySem.W.Frag} {mg : Str → Option Value} {base : Heap} (G : Gm K mg) (F_leading_masks : FnC P w K mg base 1 "leading_masks" 2 ct_leading_masks) : BodyC P w K mg base N_has_cycle "has_cycle" (defScope s_has_cycle) (defBody s_has_cycle) 1 tb_has_cycle :=
 fun f cd A outer s H E hr tk hp =>
 (ss_cons (s1_set 2 sc_has_cycle.nd (se_call F_leading_masks tk (hr.mono (by decide)) (sa_cons (se_var 0) (sa_cons (se_var 1) sa_nil))))
 (ss_cons (s1_for hp rfl (si_range1 G.m_range (sa_cons (se_var 0) sa_nil)) (sg_name sc_has_cycle.nd)
 (ss_one (s1_if (st_tru (se_band (se_shr (se_sub (se_var 2) (se_var 3)) (se_var 3)) se_int))
 (ss_one (s1_ret se_bl))
 ss_nil)))
 (ss_one (s1_ret se_bl))))
abbrev s_Events_init : Stmt := mem (top 14) 0
abbrev N_Events_init : List Str := ["self", "many", "causes", "conflicts", "place"]
abbrev P_Events_init : List Str := ["self", "many", "causes", "conflicts"]
theorem sc_Events_init : FnScope N_Events_init P_Events_init (defScope s_Events_init) := ⟨rfl, rfl, rfl, by decide +kernel, rfl, by decide +kernel, by decide +kernel⟩
def tb_Events_init : DS :=
 (sSeq (sIf (dNot (dTru (dCall ct_is_between 3 (aCons (dVar 1) (aCons (dC (.int 0)) (aCons (dC (.int 39)) aNil))))))
 sNever
 sNil)
 (sSeq (sSet 4 (dCall ct_first_wrong_pair 3 (aCons (dVar 2) (aCons (dVar 1) (aCons (dC (.bl false)) aNil)))))
 (sSeq (sIf (dTst (dOp dNotN (dVar 4) (dC .non)))
 sNever
 sNil)
 (sSeq (sIf (dTru (dCall ct_has_cycle 2 (aCons (dVar 1) (aCons (dVar 2) aNil))))
 sNever
 sNil)
 (sSeq (sSet 4 (dCall ct_first_wrong_pair 3 (aCons (dVar 3) (aCons (dVar 1) (aCons (dC (.bl true)) aNil)))))
 (sSeq (sIf (dTst (dOp dNotN (dVar 4) (dC .non)))
 sNever
 sNil)
 (sSeq (sFldD fc_many "many" (dVar 0) (dVar 1))
 (sSeq (sFldD fc_causes "causes" (dVar 0) (dCB nTup (aCons (dVar 2) aNil)))
 (sFldD fc_conflicts "conflicts" (dVar 0) (dCB nTup (aCons (dVar 3) aNil)))))))))))
theorem bd_Events_init {P : Program} {w : World} {K : PySem.W.Frag} {mg : Str → Option Value} {base : Heap} (G : Gm K mg) (F_first_wrong_pair : FnC P w K mg base 4 "first_wrong_pair" 3 ct_first_wrong_pair) (F_has_cycle : FnC P w K mg base 2 "has_cycle" 2 ct_has_cycle) (F_is_between : FnC P w K mg base 2 "is_between" 3 ct_is_between) : BodyC P w K mg base N_Events_init "Events.__init__" (defScope s_Events_init) (defBody s_Events_init) 4 tb_Events_init :=
 fun f cd A outer s H E hr tk hp =>
 (ss_cons (s1_if (st_not (st_tru (se_call F_is_between tk (hr.mono (by decide)) (sa_cons (se_var 1) (sa_cons se_int (sa_cons (se_gint rfl G.i_MOST_EVENTS) sa_nil))))))
 ss_never
 ss_nil)
 (ss_cons (s1_set 4 sc_Events_init.nd (se_call F_first_wrong_pair tk (hr.mono (by decide)) (sa_cons (se_var 2) (sa_cons (se_var 1) (sa_cons se_bl sa_nil)))))
 (ss_cons (s1_if (st_notN (se_var 4) se_non)
 ss_never
 ss_nil)
 (ss_cons (s1_if (st_tru (se_call F_has_cycle tk (hr.mono (by decide)) (sa_cons (se_var 1) (sa_cons (se_var 2) sa_nil))))
 ss_never
 ss_nil)
 (ss_cons (s1_set 4 sc_Events_init.nd (se_call F_first_wrong_pair tk (hr.mono (by decide)) (sa_cons (se_var 3) (sa_cons (se_var 1) (sa_cons se_bl sa_nil)))))
 (ss_cons (s1_if (st_notN (se_var 4) se_non)
 ss_never
 ss_nil)
 (ss_cons (s1_fld (cs := fc_many) G.f_many (se_var 0) (se_var 1))
 (ss_cons (s1_fld (cs := fc_causes) G.f_causes (se_var 0) (se_tuple G.m_tuple (sa_cons (se_var 2) sa_nil)))
 (ss_one (s1_fld (cs := fc_conflicts) G.f_conflicts (se_var 0) (se_tuple G.m_tuple (sa_cons (se_var 3) sa_nil))))))))))))
abbrev s_against_masks : Stmt := top 19
abbrev N_against_masks : List Str := ["events", "masks", "a", "b"]
abbrev P_against_masks : List Str := ["events"]
theorem sc_against_masks : FnScope N_against_masks P_against_masks (defScope s_against_masks) := ⟨rfl, rfl, rfl, by decide +kernel, rfl, by decide +kernel, by decide +kernel⟩
def tb_against_masks : DS :=
 (sSeq (sSet 1 (dOp dMulH (dLst (aCons (dC (.int 0)) aNil)) (dFldC fc_many "many" (dVar 0))))
 (sSeq (sFor (iT (dFldC fc_conflicts "conflicts" (dVar 0))) (tgTup 2 (tgsCons (tgN 2) (tgsCons (tgN 3) tgsNil)))
 (sSeq (sAugS dIor (dVar 1) (dVar 2) (dOp oShl (dC (.int 1)) (dVar 3)))
 (sAugS dIor (dVar 1) (dVar 3) (dOp oShl (dC (.int 1)) (dVar 2)))))
 (sRet (dVar 1))))
theorem bd_against_masks {P : Program} {w : World} {K : PySem.W.Frag} {mg : Str → Option Value} {base : Heap} (G : Gm K mg)  : BodyC P w K mg base N_against_masks "against_masks" (defScope s_against_masks) (defBody s_against_masks) 0 tb_against_masks :=
 fun f cd A outer s H E hr tk hp =>
 (ss_cons (s1_set 1 sc_against_masks.nd (se_mulH (se_lst (sa_cons se_int sa_nil)) (se_fld (cs := fc_many) G.f_many (se_var 0))))
 (ss_cons (s1_for hp rfl (si_tup (se_fld (cs := fc_conflicts) G.f_conflicts (se_var 0))) (sg_tup rfl (sgs_cons (sg_name sc_against_masks.nd) (sgs_cons (sg_name sc_against_masks.nd) (sgs_nil (T := [])))))
 (ss_cons (s1_augSor (se_var 1) (se_var 2) (se_shl se_int (se_var 3)))
 (ss_one (s1_augSor (se_var 1) (se_var 3) (se_shl se_int (se_var 2))))))
 (ss_one (s1_ret (se_var 1)))))
abbrev s_is_state : Stmt := top 20
abbrev N_is_state : List Str := ["events", "value", "mask", "a", "b"]
abbrev P_is_state : List Str := ["events", "value"]
theorem sc_is_state : FnScope N_is_state P_is_state (defScope s_is_state) := ⟨rfl, rfl, rfl, by decide +kernel, rfl, by decide +kernel, by decide +kernel⟩
def tb_is_state : DS :=
 (sSeq (sIf (dNot (dTru (dCall ct_is_subset 2 (aCons (dVar 1) (aCons (dFldC fc_many "many" (dVar 0)) aNil)))))
 (sRet (dC (.bl false)))
 sNil)
 (sSeq (sSet 2 (dCall ct_mask_of 1 (aCons (dVar 1) aNil)))
 (sSeq (sFor (iT (dFldC fc_causes "causes" (dVar 0))) (tgTup 2 (tgsCons (tgN 3) (tgsCons (tgN 4) tgsNil)))
 (sIf (dAnd (dTru (dOp oAnd (dOp oShr (dVar 2) (dVar 4)) (dC (.int 1)))) (dNot (dTru (dOp oAnd (dOp oShr (dVar 2) (dVar 3)) (dC (.int 1))))))
 (sRet (dC (.bl false)))
 sNil))
 (sSeq (sFor (iT (dFldC fc_conflicts "conflicts" (dVar 0))) (tgTup 2 (tgsCons (tgN 3) (tgsCons (tgN 4) tgsNil)))
 (sIf (dAnd (dTru (dOp oAnd (dOp oShr (dVar 2) (dVar 3)) (dC (.int 1)))) (dTru (dOp oAnd (dOp oShr (dVar 2) (dVar 4)) (dC (.int 1)))))
 (sRet (dC (.bl false)))
 sNil))
 (sRet (dC (.bl true)))))))
theorem bd_is_state {P : Program} {w : World} {K : PySem.W.Frag} {mg : Str → Option Value} {base : Heap} (G : Gm K mg) (F_is_subset : FnC P w K mg base 3 "is_subset" 2 ct_is_subset) (F_mask_of : FnC P w K mg base 1 "mask_of" 1 ct_mask_of) : BodyC P w K mg base N_is_state "is_state" (defScope s_is_state) (defBody s_is_state) 3 tb_is_state :=
 fun f cd A outer s H E hr tk hp =>
 (ss_cons (s1_if (st_not (st_tru (se_call F_is_subset tk (hr.mono (by decide)) (sa_cons (se_var 1) (sa_cons (se_fld (cs := fc_many) G.f_many (se_var 0)) sa_nil)))))
 (ss_one (s1_ret se_bl))
 ss_nil)
 (ss_cons (s1_set 2 sc_is_state.nd (se_call F_mask_of tk (hr.mono (by decide)) (sa_cons (se_var 1) sa_nil)))
 (ss_cons (s1_for hp rfl (si_tup (se_fld (cs := fc_causes) G.f_causes (se_var 0))) (sg_tup rfl (sgs_cons (sg_name sc_is_state.nd) (sgs_cons (sg_name sc_is_state.nd) (sgs_nil (T := [])))))
 (ss_one (s1_if (st_w (sw_and (st_tru (se_band (se_shr (se_var 2) (se_var 4)) se_int)) (sw_and1 (st_not (st_tru (se_band (se_shr (se_var 2) (se_var 3)) se_int))))))
 (ss_one (s1_ret se_bl))
 ss_nil)))
 (ss_cons (s1_for hp rfl (si_tup (se_fld (cs := fc_conflicts) G.f_conflicts (se_var 0))) (sg_tup rfl (sgs_cons (sg_name sc_is_state.nd) (sgs_cons (sg_name sc_is_state.nd) (sgs_nil (T := [])))))
 (ss_one (s1_if (st_w (sw_and (st_tru (se_band (se_shr (se_var 2) (se_var 3)) se_int)) (sw_and1 (st_tru (se_band (se_shr (se_var 2) (se_var 4)) se_int)))))
 (ss_one (s1_ret se_bl))
 ss_nil)))
 (ss_one (s1_ret se_bl))))))
abbrev s_look_at_states : Stmt := top 21
abbrev N_look_at_states : List Str := ["events", "one", "other", "value"]
abbrev P_look_at_states : List Str := ["events", "one", "other"]
theorem sc_look_at_states : FnScope N_look_at_states P_look_at_states (defScope s_look_at_states) := ⟨rfl, rfl, rfl, by decide +kernel, rfl, by decide +kernel, by decide +kernel⟩
def tb_look_at_states : DS :=
 (sFor (iT (dTup (aCons (dVar 1) (aCons (dVar 2) aNil)))) (tgN 3)
 (sIf (dNot (dTru (dCall ct_is_state 2 (aCons (dVar 0) (aCons (dVar 3) aNil)))))
 (sRaise "InvalidState" xf_InvalidState (aCons (dVar 3) aNil))
 sNil))
theorem bd_look_at_states {P : Program} {w : World} {K : PySem.W.Frag} {mg : Str → Option Value} {base : Heap} (G : Gm K mg) (F_is_state : FnC P w K mg base 4 "is_state" 2 ct_is_state) (X_InvalidState : ExK P w K mg base "InvalidState" xf_InvalidState) : BodyC P w K mg base N_look_at_states "look_at_states" (defScope s_look_at_states) (defBody s_look_at_states) 4 tb_look_at_states :=
 fun f cd A outer s H E hr tk hp =>
 (ss_one (s1_for hp rfl (si_tup (se_tup (sa_cons (se_var 1) (sa_cons (se_var 2) sa_nil)))) (sg_name sc_look_at_states.nd)
 (ss_one (s1_if (st_not (st_tru (se_call F_is_state tk (hr.mono (by decide)) (sa_cons (se_var 0) (sa_cons (se_var 3) sa_nil)))))
 (ss_one (s1_raise X_InvalidState rfl tk (hr.mono (by decide)) (sa_cons (se_var 3) sa_nil)))
 ss_nil))))
abbrev s_merged : Stmt := top 22
abbrev N_merged : List Str := ["events", "one", "other", "union"]
abbrev P_merged : List Str := ["events", "one", "other"]
theorem sc_merged : FnScope N_merged P_merged (defScope s_merged) := ⟨rfl, rfl, rfl, by decide +kernel, rfl, by decide +kernel, by decide +kernel⟩
def tb_merged : DS :=
 (sSeq (sExpr (dCall ct_look_at_states 3 (aCons (dVar 0) (aCons (dVar 1) (aCons (dVar 2) aNil)))))
 (sSeq (sSet 3 (dCall ct_members_of 1 (aCons (dOp oOr (dCall ct_mask_of 1 (aCons (dVar 1) aNil)) (dCall ct_mask_of 1 (aCons (dVar 2) aNil))) aNil)))
 (sSeq (sIf (dNot (dTru (dCall ct_is_state 2 (aCons (dVar 0) (aCons (dVar 3) aNil)))))
 (sRaise "Undefined" xf_Undefined (aCons (dC (.str "state")) aNil))
 sNil)
 (sRet (dVar 3)))))
theorem bd_merged {P : Program} {w : World} {K : PySem.W.Frag} {mg : Str → Option Value} {base : Heap} (G : Gm K mg) (F_is_state : FnC P w K mg base 4 "is_state" 2 ct_is_state) (F_look_at_states : FnC P w K mg base 5 "look_at_states" 3 ct_look_at_states) (F_mask_of : FnC P w K mg base 1 "mask_of" 1 ct_mask_of) (F_members_of : FnC P w K mg base 1 "members_of" 1 ct_members_of) (X_Undefined : ExK P w K mg base "Undefined" xf_Undefined) : BodyC P w K mg base N_merged "merged" (defScope s_merged) (defBody s_merged) 5 tb_merged :=
 fun f cd A outer s H E hr tk hp =>
 (ss_cons (s1_expr (se_call F_look_at_states tk (hr.mono (by decide)) (sa_cons (se_var 0) (sa_cons (se_var 1) (sa_cons (se_var 2) sa_nil)))))
 (ss_cons (s1_set 3 sc_merged.nd (se_call F_members_of tk (hr.mono (by decide)) (sa_cons (se_bor (se_call F_mask_of tk (hr.mono (by decide)) (sa_cons (se_var 1) sa_nil)) (se_call F_mask_of tk (hr.mono (by decide)) (sa_cons (se_var 2) sa_nil))) sa_nil)))
 (ss_cons (s1_if (st_not (st_tru (se_call F_is_state tk (hr.mono (by decide)) (sa_cons (se_var 0) (sa_cons (se_var 3) sa_nil)))))
 (ss_one (s1_raise X_Undefined rfl tk (hr.mono (by decide)) (sa_cons se_str sa_nil)))
 ss_nil)
 (ss_one (s1_ret (se_var 3))))))
abbrev s_conflict : Stmt := top 23
abbrev N_conflict : List Str := ["events", "one", "other", "against", "a", "b"]
abbrev P_conflict : List Str := ["events", "one", "other"]
theorem sc_conflict : FnScope N_conflict P_conflict (defScope s_conflict) := ⟨rfl, rfl, rfl, by decide +kernel, rfl, by decide +kernel, by decide +kernel⟩
def tb_conflict : DS :=
 (sSeq (sExpr (dCall ct_look_at_states 3 (aCons (dVar 0) (aCons (dVar 1) (aCons (dVar 2) aNil)))))
 (sSeq (sSet 3 (dCall ct_against_masks 1 (aCons (dVar 0) aNil)))
 (sSeq (sFor (iT (dVar 1)) (tgN 4)
 (sFor (iT (dVar 2)) (tgN 5)
 (sIf (dTru (dOp oAnd (dOp oShr (dOp dIx (dVar 3) (dVar 4)) (dVar 5)) (dC (.int 1))))
 (sRet (dTup (aCons (dVar 4) (aCons (dVar 5) aNil))))
 sNil)))
 (sRaise "Undefined" xf_Undefined (aCons (dC (.str "conflict")) aNil)))))
theorem bd_conflict {P : Program} {w : World} {K : PySem.W.Frag} {mg : Str → Option Value} {base : Heap} (G : Gm K mg) (F_against_masks : FnC P w K mg base 1 "against_masks" 1 ct_against_masks) (F_look_at_states : FnC P w K mg base 5 "look_at_states" 3 ct_look_at_states) (X_Undefined : ExK P w K mg base "Undefined" xf_Undefined) : BodyC P w K mg base N_conflict "conflict" (defScope s_conflict) (defBody s_conflict) 5 tb_conflict :=
 fun f cd A outer s H E hr tk hp =>
 (ss_cons (s1_expr (se_call F_look_at_states tk (hr.mono (by decide)) (sa_cons (se_var 0) (sa_cons (se_var 1) (sa_cons (se_var 2) sa_nil)))))
 (ss_cons (s1_set 3 sc_conflict.nd (se_call F_against_masks tk (hr.mono (by decide)) (sa_cons (se_var 0) sa_nil)))
 (ss_cons (s1_for hp rfl (si_tup (se_var 1)) (sg_name sc_conflict.nd)
 (ss_one (s1_for hp rfl (si_tup (se_var 2)) (sg_name sc_conflict.nd)
 (ss_one (s1_if (st_tru (se_band (se_shr (se_sub (se_var 3) (se_var 4)) (se_var 5)) se_int))
 (ss_one (s1_ret (se_tup (sa_cons (se_var 4) (sa_cons (se_var 5) sa_nil)))))
 ss_nil)))))
 (ss_one (s1_raise X_Undefined rfl tk (hr.mono (by decide)) (sa_cons se_str sa_nil))))))
abbrev s__law_cell : Stmt := top 25
abbrev N__law_cell : List Str := ["script", "k"]
abbrev P__law_cell : List Str := ["script", "k"]
theorem sc__law_cell : FnScope N__law_cell P__law_cell (defScope s__law_cell) := ⟨rfl, rfl, rfl, by decide +kernel, rfl, by decide +kernel, by decide +kernel⟩
def tb__law_cell : DS :=
 (sSeq (sIf (dTst (dOp oLt (dVar 1) (dCB nLen (aCons (dVar 0) aNil))))
 (sRet (dCB nInt (aCons (dOp dIx (dVar 0) (dVar 1)) aNil)))
 sNil)
 (sRet (dC (.int 0))))
theorem bd__law_cell {P : Program} {w : World} {K : PySem.W.Frag} {mg : Str → Option Value} {base : Heap} (G : Gm K mg)  : BodyC P w K mg base N__law_cell "_law_cell" (defScope s__law_cell) (defBody s__law_cell) 0 tb__law_cell :=
 fun f cd A outer s H E hr tk hp =>
 (ss_cons (s1_if (st_lt (se_var 1) (se_len G.m_len (sa_cons (se_var 0) sa_nil)))
 (ss_one (s1_ret (se_intc G.m_int (sa_cons (se_sub (se_var 0) (se_var 1)) sa_nil))))
 ss_nil)
 (ss_one (s1_ret se_int)))
abbrev s__law_row : Stmt := top 26
abbrev N__law_row : List Str := ["script", "at", "many", "limit", "row", "left", "k"]
abbrev P__law_row : List Str := ["script", "at", "many", "limit"]
theorem sc__law_row : FnScope N__law_row P__law_row (defScope s__law_row) := ⟨rfl, rfl, rfl, by decide +kernel, rfl, by decide +kernel, by decide +kernel⟩
def tb__law_row : DS :=
 (sSeq (sSet 4 (dLstH aNil))
 (sSeq (sSet 5 (dCall ct__law_cell 2 (aCons (dVar 0) (aCons (dVar 1) aNil))))
 (sSeq (sIf (dTst (dOp oGe (dVar 5) (dOp oPow (dC (.int 10)) (dC (.int 18)))))
 (sSeq (sSet 5 (dOp oSub (dVar 5) (dOp oPow (dC (.int 10)) (dC (.int 18)))))
 (sSeq (sFor (iR1 (aCons (dVar 2) aNil)) (tgN 6)
 (sSeq (sExpr (dBM "list" mApp (dVar 4) (aCons (dOp oMod (dCB nInt (aCons (dVar 5) aNil)) (dVar 3)) aNil)))
 (sSet 5 (dOp oDiv (dVar 5) (dVar 3)))))
 (sRet (dVar 4))))
 sNil)
 (sSeq (sSet 5 (dOp oMod (dCB nInt (aCons (dVar 5) aNil)) (dC (.int 2147483647))))
 (sSeq (sFor (iR1 (aCons (dVar 2) aNil)) (tgN 6)
 (sSeq (sSet 5 (dOp oMod (dCB nInt (aCons (dOp dMul (dOp dAdd (dOp dAdd (dOp dAdd (dVar 5) (dCall ct__law_cell 2 (aCons (dVar 0) (aCons (dOp dAdd (dOp dAdd (dVar 1) (dC (.int 4))) (dVar 6)) aNil)))) (dVar 6)) (dC (.int 1))) (dC (.int 48271))) aNil)) (dC (.int 2147483647))))
 (sExpr (dBM "list" mApp (dVar 4) (aCons (dOp oMod (dOp oDiv (dOp oMod (dCB nInt (aCons (dOp dAdd (dOp dMul (dVar 5) (dC (.int 69621))) (dOp dMul (dVar 6) (dC (.int 40692)))) aNil)) (dC (.int 1999999973))) (dC (.int 1009))) (dVar 3)) aNil)))))
 (sRet (dVar 4)))))))
theorem bd__law_row {P : Program} {w : World} {K : PySem.W.Frag} {mg : Str → Option Value} {base : Heap} (G : Gm K mg) (F__law_cell : FnC P w K mg base 1 "_law_cell" 2 ct__law_cell) : BodyC P w K mg base N__law_row "_law_row" (defScope s__law_row) (defBody s__law_row) 1 tb__law_row :=
 fun f cd A outer s H E hr tk hp =>
 (ss_cons (s1_set 4 sc__law_row.nd (se_lstH sa_nil))
 (ss_cons (s1_set 5 sc__law_row.nd (se_call F__law_cell tk (hr.mono (by decide)) (sa_cons (se_var 0) (sa_cons (se_var 1) sa_nil))))
 (ss_cons (s1_if (st_ge (se_var 5) (se_pow se_int se_int))
 (ss_cons (s1_set 5 sc__law_row.nd (se_sub2 (se_var 5) (se_pow se_int se_int)))
 (ss_cons (s1_for hp rfl (si_range1 G.m_range (sa_cons (se_var 2) sa_nil)) (sg_name sc__law_row.nd)
 (ss_cons (s1_expr (se_append (se_var 4) (sa_cons (se_mod (se_intc G.m_int (sa_cons (se_var 5) sa_nil)) (se_var 3)) sa_nil)))
 (ss_one (s1_set 5 sc__law_row.nd (se_fdiv (se_var 5) (se_var 3))))))
 (ss_one (s1_ret (se_var 4)))))
 ss_nil)
 (ss_cons (s1_set 5 sc__law_row.nd (se_mod (se_intc G.m_int (sa_cons (se_var 5) sa_nil)) se_int))
 (ss_cons (s1_for hp rfl (si_range1 G.m_range (sa_cons (se_var 2) sa_nil)) (sg_name sc__law_row.nd)
 (ss_cons (s1_set 5 sc__law_row.nd (se_mod (se_intc G.m_int (sa_cons (se_mul (se_add (se_add (se_add (se_var 5) (se_call F__law_cell tk (hr.mono (by decide)) (sa_cons (se_var 0) (sa_cons (se_add (se_add (se_var 1) se_int) (se_var 6)) sa_nil)))) (se_var 6)) se_int) se_int) sa_nil)) se_int))
 (ss_one (s1_expr (se_append (se_var 4) (sa_cons (se_mod (se_fdiv (se_mod (se_intc G.m_int (sa_cons (se_add (se_mul (se_var 5) se_int) (se_mul (se_var 6) se_int)) sa_nil)) se_int) se_int) (se_var 3)) sa_nil))))))
 (ss_one (s1_ret (se_var 4))))))))
abbrev s__law_pairs : Stmt := top 27
abbrev N__law_pairs : List Str := ["draws", "size", "order", "found", "draw", "low", "high"]
abbrev P__law_pairs : List Str := ["draws", "size", "order"]
theorem sc__law_pairs : FnScope N__law_pairs P__law_pairs (defScope s__law_pairs) := ⟨rfl, rfl, rfl, by decide +kernel, rfl, by decide +kernel, by decide +kernel⟩
def tb__law_pairs : DS :=
 (sSeq (sSet 3 (dLstH aNil))
 (sSeq (sFor (iL (dVar 0)) (tgN 4)
 (sIf (dTst (dOp oGt (dVar 1) (dC (.int 1))))
 (sSeq (sSet 5 (dCB nMin2 (aCons (dOp oMod (dVar 4) (dVar 1)) (aCons (dOp oMod (dOp oDiv (dVar 4) (dC (.int 40))) (dVar 1)) aNil))))
 (sSeq (sSet 6 (dCB nMax2 (aCons (dOp oMod (dVar 4) (dVar 1)) (aCons (dOp oMod (dOp oDiv (dVar 4) (dC (.int 40))) (dVar 1)) aNil))))
 (sIf (dAnd (dTst (dOp oLt (dVar 5) (dVar 6))) (dTst (dOp (dIn true) (dTup (aCons (dOp dIx (dVar 2) (dVar 5)) (aCons (dOp dIx (dVar 2) (dVar 6)) aNil))) (dVar 3))))
 (sExpr (dBM "list" mApp (dVar 3) (aCons (dTup (aCons (dOp dIx (dVar 2) (dVar 5)) (aCons (dOp dIx (dVar 2) (dVar 6)) aNil))) aNil)))
 sNil)))
 sNil))
 (sRet (dCB nSrtP (aCons (dVar 3) aNil)))))
theorem bd__law_pairs {P : Program} {w : World} {K : PySem.W.Frag} {mg : Str → Option Value} {base : Heap} (G : Gm K mg)  : BodyC P w K mg base N__law_pairs "_law_pairs" (defScope s__law_pairs) (defBody s__law_pairs) 0 tb__law_pairs :=
 fun f cd A outer s H E hr tk hp =>
 (ss_cons (s1_set 3 sc__law_pairs.nd (se_lstH sa_nil))
 (ss_cons (s1_for hp rfl (si_list (se_var 0)) (sg_name sc__law_pairs.nd)
 (ss_one (s1_if (st_gt (se_var 1) se_int)
 (ss_cons (s1_set 5 sc__law_pairs.nd (se_min2 rfl G.m_min (sa_cons (se_mod (se_var 4) (se_var 1)) (sa_cons (se_mod (se_fdiv (se_var 4) se_int) (se_var 1)) sa_nil))))
 (ss_cons (s1_set 6 sc__law_pairs.nd (se_max2 rfl G.m_max (sa_cons (se_mod (se_var 4) (se_var 1)) (sa_cons (se_mod (se_fdiv (se_var 4) se_int) (se_var 1)) sa_nil))))
 (ss_one (s1_if (st_w (sw_and (st_lt (se_var 5) (se_var 6)) (sw_and1 (st_notIn (uu1 hr) (se_tup (sa_cons (se_sub (se_var 2) (se_var 5)) (sa_cons (se_sub (se_var 2) (se_var 6)) sa_nil))) (se_var 3)))))
 (ss_one (s1_expr (se_append (se_var 3) (sa_cons (se_tup (sa_cons (se_sub (se_var 2) (se_var 5)) (sa_cons (se_sub (se_var 2) (se_var 6)) sa_nil))) sa_nil))))
 ss_nil))))
 ss_nil)))
 (ss_one (s1_ret (se_sortP G.m_sorted (sa_cons (se_var 3) sa_nil))))))
abbrev s__law_parts : Stmt := top 28
abbrev N__law_parts : List Str := ["script", "picks", "size", "keys", "order", "key", "k", "many", "causes"]
abbrev P__law_parts : List Str := ["script"]
theorem sc__law_parts : FnScope N__law_parts P__law_parts (defScope s__law_parts) := ⟨rfl, rfl, rfl, by decide +kernel, rfl, by decide +kernel, by decide +kernel⟩
def tb__law_parts : DS :=
 (sSeq (sSet 1 (dCall ct__law_row 4 (aCons (dVar 0) (aCons (dC (.int 0)) (aCons (dC (.int 6)) (aCons (dC (.int 1009)) aNil))))))
 (sSeq (sSet 2 (dOp dIx (dLst (aCons (dOp oMod (dOp dIx (dVar 1) (dC (.int 0))) (dC (.int 40))) (aCons (dOp dAdd (dC (.int 2)) (dOp oMod (dOp dIx (dVar 1) (dC (.int 0))) (dC (.int 6)))) (aCons (dOp dIx (dLst (aCons (dC (.int 0)) (aCons (dC (.int 1)) (aCons (dC (.int 39)) (aCons (dC (.int 12)) aNil))))) (dOp oMod (dOp dIx (dVar 1) (dC (.int 0))) (dC (.int 4)))) aNil)))) (dOp oMod (dOp dIx (dVar 1) (dC (.int 1))) (dC (.int 3)))))
 (sSeq (sSet 3 (dCall ct__law_row 4 (aCons (dVar 0) (aCons (dC (.int 1)) (aCons (dVar 2) (aCons (dC (.int 1009)) aNil))))))
 (sSeq (sSet 4 (dLc (iL (dCB nSrtI (aCons (dLc (iR1 (aCons (dVar 2) aNil)) (tgN 6) dYes (dOp dAdd (dOp dMul (dOp dIx (dVar 3) (dVar 6)) (dC (.int 64))) (dVar 6)) [6]) aNil))) (tgN 5) dYes (dOp oMod (dCB nInt (aCons (dVar 5) aNil)) (dC (.int 64))) [5]))
 (sSeq (sSet 7 (dOp dIx (dLst (aCons (dOp oMod (dOp dIx (dVar 1) (dC (.int 2))) (dC (.int 10))) (aCons (dOp oMod (dOp dIx (dVar 1) (dC (.int 2))) (dC (.int 64))) aNil))) (dOp oMod (dOp dIx (dVar 1) (dC (.int 3))) (dC (.int 2)))))
 (sSeq (sSet 8 (dCall ct__law_pairs 3 (aCons (dCall ct__law_row 4 (aCons (dVar 0) (aCons (dC (.int 2)) (aCons (dVar 7) (aCons (dC (.int 1600)) aNil))))) (aCons (dVar 2) (aCons (dVar 4) aNil)))))
 (sSeq (sSet 7 (dOp dIx (dLst (aCons (dOp oMod (dOp dIx (dVar 1) (dC (.int 4))) (dC (.int 6))) (aCons (dOp oMod (dOp dIx (dVar 1) (dC (.int 4))) (dC (.int 64))) (aCons (dOp oMod (dOp dIx (dVar 1) (dC (.int 4))) (dC (.int 20))) aNil)))) (dOp oMod (dOp dIx (dVar 1) (dC (.int 5))) (dC (.int 3)))))
 (sRet (dLst (aCons (dVar 2) (aCons (dVar 8) (aCons (dCall ct__law_pairs 3 (aCons (dCall ct__law_row 4 (aCons (dVar 0) (aCons (dC (.int 3)) (aCons (dVar 7) (aCons (dC (.int 1600)) aNil))))) (aCons (dVar 2) (aCons (dLc (iR1 (aCons (dVar 2) aNil)) (tgN 6) dYes (dVar 6) [6]) aNil)))) aNil))))))))))))
theorem bd__law_parts {P : Program} {w : World} {K : PySem.W.Frag} {mg : Str → Option Value} {base : Heap} (G : Gm K mg) (F__law_pairs : FnC P w K mg base 1 "_law_pairs" 3 ct__law_pairs) (F__law_row : FnC P w K mg base 2 "_law_row" 4 ct__law_row) : BodyC P w K mg base N__law_parts "_law_parts" (defScope s__law_parts) (defBody s__law_parts) 2 tb__law_parts :=
 fun f cd A outer s H E hr tk hp =>
 (ss_cons (s1_set 1 sc__law_parts.nd (se_call F__law_row tk (hr.mono (by decide)) (sa_cons (se_var 0) (sa_cons se_int (sa_cons se_int (sa_cons se_int sa_nil))))))
 (ss_cons (s1_set 2 sc__law_parts.nd (se_sub (se_lst (sa_cons (se_mod (se_sub (se_var 1) se_int) se_int) (sa_cons (se_add se_int (se_mod (se_sub (se_var 1) se_int) se_int)) (sa_cons (se_sub (se_lst (sa_cons se_int (sa_cons se_int (sa_cons se_int (sa_cons se_int sa_nil))))) (se_mod (se_sub (se_var 1) se_int) se_int)) sa_nil)))) (se_mod (se_sub (se_var 1) se_int) se_int)))
 (ss_cons (s1_set 3 sc__law_parts.nd (se_call F__law_row tk (hr.mono (by decide)) (sa_cons (se_var 0) (sa_cons se_int (sa_cons (se_var 2) (sa_cons se_int sa_nil))))))
 (ss_cons (s1_setLc 4 (own := [("key", 5)]) rfl sc__law_parts.nd (si_list (se_sortI G.m_sorted (sa_cons (se_lc (own := [("k", 6)]) rfl sc__law_parts.nd (si_range1 G.m_range (sa_cons (se_var 2) sa_nil)) (by show BlkOk N__law_parts (defScope s__law_parts) _ [("k", 6)]; exact ⟨rfl, by decide +kernel, by decide +kernel, by decide +kernel, by decide +kernel⟩) (fun _ _ _ _ _ => (sg_name sc__law_parts.nd)) (fun _ _ _ _ _ => sp_nil) (fun _ _ _ _ _ => (se_add (se_mul (se_sub (se_var 3) (se_var 6)) se_int) (se_var 6)))) sa_nil))) (by show BlkOk N__law_parts (defScope s__law_parts) _ [("key", 5)]; exact ⟨rfl, by decide +kernel, by decide +kernel, by decide +kernel, by decide +kernel⟩) (fun _ _ _ _ _ => (sg_name sc__law_parts.nd)) (fun _ _ _ _ _ => sp_nil) (fun _ _ _ _ _ => (se_mod (se_intc G.m_int (sa_cons (se_var 5) sa_nil)) se_int)))
 (ss_cons (s1_set 7 sc__law_parts.nd (se_sub (se_lst (sa_cons (se_mod (se_sub (se_var 1) se_int) se_int) (sa_cons (se_mod (se_sub (se_var 1) se_int) se_int) sa_nil))) (se_mod (se_sub (se_var 1) se_int) se_int)))
 (ss_cons (s1_set 8 sc__law_parts.nd (se_call F__law_pairs tk (hr.mono (by decide)) (sa_cons (se_call F__law_row tk (hr.mono (by decide)) (sa_cons (se_var 0) (sa_cons se_int (sa_cons (se_var 7) (sa_cons se_int sa_nil))))) (sa_cons (se_var 2) (sa_cons (se_var 4) sa_nil)))))
 (ss_cons (s1_set 7 sc__law_parts.nd (se_sub (se_lst (sa_cons (se_mod (se_sub (se_var 1) se_int) se_int) (sa_cons (se_mod (se_sub (se_var 1) se_int) se_int) (sa_cons (se_mod (se_sub (se_var 1) se_int) se_int) sa_nil)))) (se_mod (se_sub (se_var 1) se_int) se_int)))
 (ss_one (s1_ret (se_lst (sa_cons (se_var 2) (sa_cons (se_var 8) (sa_cons (se_call F__law_pairs tk (hr.mono (by decide)) (sa_cons (se_call F__law_row tk (hr.mono (by decide)) (sa_cons (se_var 0) (sa_cons se_int (sa_cons (se_var 7) (sa_cons se_int sa_nil))))) (sa_cons (se_var 2) (sa_cons (se_lc (own := [("k", 6)]) rfl sc__law_parts.nd (si_range1 G.m_range (sa_cons (se_var 2) sa_nil)) (by show BlkOk N__law_parts (defScope s__law_parts) _ [("k", 6)]; exact ⟨rfl, by decide +kernel, by decide +kernel, by decide +kernel, by decide +kernel⟩) (fun _ _ _ _ _ => (sg_name sc__law_parts.nd)) (fun _ _ _ _ _ => sp_nil) (fun _ _ _ _ _ => (se_var 6))) sa_nil)))) sa_nil)))))))))))))
abbrev s__law_needs : Stmt := top 29
abbrev N__law_needs : List Str := ["size", "causes", "needs", "k", "turn", "again", "pair", "wide"]
abbrev P__law_needs : List Str := ["size", "causes"]
theorem sc__law_needs : FnScope N__law_needs P__law_needs (defScope s__law_needs) := ⟨rfl, rfl, rfl, by decide +kernel, rfl, by decide +kernel, by decide +kernel⟩
def tb__law_needs : DS :=
 (sSeq (sSet 2 (dLcH (iR1 (aCons (dVar 0) aNil)) (tgN 3) dYes (dOp oShl (dC (.int 1)) (dVar 3)) [3]))
 (sSeq (sFor (iR1 (aCons (dVar 0) aNil)) (tgN 4)
 (sSeq (sSet 5 (dC (.bl false)))
 (sSeq (sFor (iL (dVar 1)) (tgN 6)
 (sSeq (sSet 7 (dOp oOr (dOp dIx (dVar 2) (dOp dIx (dVar 6) (dC (.int 1)))) (dOp dIx (dVar 2) (dOp dIx (dVar 6) (dC (.int 0))))))
 (sIf (dTst (dOp dNe (dVar 7) (dOp dIx (dVar 2) (dOp dIx (dVar 6) (dC (.int 1))))))
 (sSeq (sAsg (dVar 7) (tgSub (dVar 2) (dOp dIx (dVar 6) (dC (.int 1)))))
 (sSet 5 (dC (.bl true))))
 sNil)))
 (sIf (dNot (dTru (dVar 5)))
 (sRet (dVar 2))
 sNil))))
 (sRet (dVar 2))))
theorem bd__law_needs {P : Program} {w : World} {K : PySem.W.Frag} {mg : Str → Option Value} {base : Heap} (G : Gm K mg)  : BodyC P w K mg base N__law_needs "_law_needs" (defScope s__law_needs) (defBody s__law_needs) 0 tb__law_needs :=
 fun f cd A outer s H E hr tk hp =>
 (ss_cons (s1_setLcH 2 (own := [("k", 3)]) rfl sc__law_needs.nd (si_range1 G.m_range (sa_cons (se_var 0) sa_nil)) (by show BlkOk N__law_needs (defScope s__law_needs) _ [("k", 3)]; exact ⟨rfl, by decide +kernel, by decide +kernel, by decide +kernel, by decide +kernel⟩) (fun _ _ _ _ _ => (sg_name sc__law_needs.nd)) (fun _ _ _ _ _ => sp_nil) (fun _ _ _ _ _ => (se_shl se_int (se_var 3))))
 (ss_cons (s1_for hp rfl (si_range1 G.m_range (sa_cons (se_var 0) sa_nil)) (sg_name sc__law_needs.nd)
 (ss_cons (s1_set 5 sc__law_needs.nd se_bl)
 (ss_cons (s1_for hp rfl (si_list (se_var 1)) (sg_name sc__law_needs.nd)
 (ss_cons (s1_set 7 sc__law_needs.nd (se_bor (se_sub (se_var 2) (se_sub (se_var 6) se_int)) (se_sub (se_var 2) (se_sub (se_var 6) se_int))))
 (ss_one (s1_if (st_ne (uu hr) (se_var 7) (se_sub (se_var 2) (se_sub (se_var 6) se_int)))
 (ss_cons (s1_asg (se_var 7) (sg_sub (se_var 2) (se_sub (se_var 6) se_int)))
 (ss_one (s1_set 5 sc__law_needs.nd se_bl)))
 ss_nil))))
 (ss_one (s1_if (st_not (st_tru (se_var 5)))
 (ss_one (s1_ret (se_var 2)))
 ss_nil)))))
 (ss_one (s1_ret (se_var 2)))))
abbrev s__law_in : Stmt := top 30
abbrev N__law_in : List Str := ["size", "mark", "k"]
abbrev P__law_in : List Str := ["size", "mark"]
theorem sc__law_in : FnScope N__law_in P__law_in (defScope s__law_in) := ⟨rfl, rfl, rfl, by decide +kernel, rfl, by decide +kernel, by decide +kernel⟩
def tb__law_in : DS :=
 (sRet (dCB nTup (aCons (dLc (iR1 (aCons (dVar 0) aNil)) (tgN 2) (dTst (dOp dEq (dOp oAnd (dOp oShr (dVar 1) (dVar 2)) (dC (.int 1))) (dC (.int 1)))) (dVar 2) [2]) aNil)))
theorem bd__law_in {P : Program} {w : World} {K : PySem.W.Frag} {mg : Str → Option Value} {base : Heap} (G : Gm K mg)  : BodyC P w K mg base N__law_in "_law_in" (defScope s__law_in) (defBody s__law_in) 0 tb__law_in :=
 fun f cd A outer s H E hr tk hp =>
 (ss_one (s1_ret (se_tuple G.m_tuple (sa_cons (se_lc (own := [("k", 2)]) rfl sc__law_in.nd (si_range1 G.m_range (sa_cons (se_var 0) sa_nil)) (by show BlkOk N__law_in (defScope s__law_in) _ [("k", 2)]; exact ⟨rfl, by decide +kernel, by decide +kernel, by decide +kernel, by decide +kernel⟩) (fun _ _ _ _ _ => (sg_name sc__law_in.nd)) (fun _ _ _ _ _ => (sp_one (st_eq (uu hr) (se_band (se_shr (se_var 1) (se_var 2)) se_int) se_int))) (fun _ _ _ _ _ => (se_var 2))) sa_nil))))
abbrev s__law_good : Stmt := top 31
abbrev N__law_good : List Str := ["mark", "conflicts", "pair"]
abbrev P__law_good : List Str := ["mark", "conflicts"]
theorem sc__law_good : FnScope N__law_good P__law_good (defScope s__law_good) := ⟨rfl, rfl, rfl, by decide +kernel, rfl, by decide +kernel, by decide +kernel⟩
def tb__law_good : DS :=
 (sSeq (sFor (iL (dVar 1)) (tgN 2)
 (sIf (dAnd (dTst (dOp dEq (dOp oAnd (dOp oShr (dVar 0) (dOp dIx (dVar 2) (dC (.int 0)))) (dC (.int 1))) (dC (.int 1)))) (dTst (dOp dEq (dOp oAnd (dOp oShr (dVar 0) (dOp dIx (dVar 2) (dC (.int 1)))) (dC (.int 1))) (dC (.int 1)))))
 (sRet (dC (.bl false)))
 sNil))
 (sRet (dC (.bl true))))
theorem bd__law_good {P : Program} {w : World} {K : PySem.W.Frag} {mg : Str → Option Value} {base : Heap} (G : Gm K mg)  : BodyC P w K mg base N__law_good "_law_good" (defScope s__law_good) (defBody s__law_good) 0 tb__law_good :=
 fun f cd A outer s H E hr tk hp =>
 (ss_cons (s1_for hp rfl (si_list (se_var 1)) (sg_name sc__law_good.nd)
 (ss_one (s1_if (st_w (sw_and (st_eq (uu hr) (se_band (se_shr (se_var 0) (se_sub (se_var 2) se_int)) se_int) se_int) (sw_and1 (st_eq (uu hr) (se_band (se_shr (se_var 0) (se_sub (se_var 2) se_int)) se_int) se_int))))
 (ss_one (s1_ret se_bl))
 ss_nil)))
 (ss_one (s1_ret se_bl)))
abbrev s__law_state : Stmt := top 32
abbrev N__law_state : List Str := ["needs", "conflicts", "draws", "mark", "draw"]
abbrev P__law_state : List Str := ["needs", "conflicts", "draws"]
theorem sc__law_state : FnScope N__law_state P__law_state (defScope s__law_state) := ⟨rfl, rfl, rfl, by decide +kernel, rfl, by decide +kernel, by decide +kernel⟩
def tb__law_state : DS :=
 (sSeq (sSet 3 (dC (.int 0)))
 (sSeq (sFor (iL (dVar 2)) (tgN 4)
 (sIf (dAnd (dTst (dOp oGt (dCB nLen (aCons (dVar 0) aNil)) (dC (.int 0)))) (dTru (dCall ct__law_good 2 (aCons (dOp oOr (dVar 3) (dOp dIx (dVar 0) (dOp oMod (dVar 4) (dCB nLen (aCons (dVar 0) aNil))))) (aCons (dVar 1) aNil)))))
 (sSet 3 (dOp oOr (dVar 3) (dOp dIx (dVar 0) (dOp oMod (dVar 4) (dCB nLen (aCons (dVar 0) aNil))))))
 sNil))
 (sRet (dVar 3))))
theorem bd__law_state {P : Program} {w : World} {K : PySem.W.Frag} {mg : Str → Option Value} {base : Heap} (G : Gm K mg) (F__law_good : FnC P w K mg base 1 "_law_good" 2 ct__law_good) : BodyC P w K mg base N__law_state "_law_state" (defScope s__law_state) (defBody s__law_state) 1 tb__law_state :=
 fun f cd A outer s H E hr tk hp =>
 (ss_cons (s1_set 3 sc__law_state.nd se_int)
 (ss_cons (s1_for hp rfl (si_list (se_var 2)) (sg_name sc__law_state.nd)
 (ss_one (s1_if (st_w (sw_and (st_gt (se_len G.m_len (sa_cons (se_var 0) sa_nil)) se_int) (sw_and1 (st_tru (se_call F__law_good tk (hr.mono (by decide)) (sa_cons (se_bor (se_var 3) (se_sub (se_var 0) (se_mod (se_var 4) (se_len G.m_len (sa_cons (se_var 0) sa_nil))))) (sa_cons (se_var 1) sa_nil)))))))
 (ss_one (s1_set 3 sc__law_state.nd (se_bor (se_var 3) (se_sub (se_var 0) (se_mod (se_var 4) (se_len G.m_len (sa_cons (se_var 0) sa_nil)))))))
 ss_nil)))
 (ss_one (s1_ret (se_var 3)))))
abbrev s__law_first : Stmt := top 33
abbrev N__law_first : List Str := ["one", "other", "conflicts", "found", "pair"]
abbrev P__law_first : List Str := ["one", "other", "conflicts"]
theorem sc__law_first : FnScope N__law_first P__law_first (defScope s__law_first) := ⟨rfl, rfl, rfl, by decide +kernel, rfl, by decide +kernel, by decide +kernel⟩
def tb__law_first : DS :=
 (sSeq (sSet 3 (dLstH aNil))
 (sSeq (sFor (iL (dVar 2)) (tgN 4)
 (sSeq (sIf (dAnd (dTst (dOp (dInT false) (dOp dIx (dVar 4) (dC (.int 0))) (dVar 0))) (dTst (dOp (dInT false) (dOp dIx (dVar 4) (dC (.int 1))) (dVar 1))))
 (sExpr (dBM "list" mApp (dVar 3) (aCons (dVar 4) aNil)))
 sNil)
 (sIf (dAnd (dTst (dOp (dInT false) (dOp dIx (dVar 4) (dC (.int 1))) (dVar 0))) (dTst (dOp (dInT false) (dOp dIx (dVar 4) (dC (.int 0))) (dVar 1))))
 (sExpr (dBM "list" mApp (dVar 3) (aCons (dTup (aCons (dOp dIx (dVar 4) (dC (.int 1))) (aCons (dOp dIx (dVar 4) (dC (.int 0))) aNil))) aNil)))
 sNil)))
 (sRet (dSl (dCB nSrtP (aCons (dVar 3) aNil)) oNon (oSome (dC (.int 1)))))))
theorem bd__law_first {P : Program} {w : World} {K : PySem.W.Frag} {mg : Str → Option Value} {base : Heap} (G : Gm K mg)  : BodyC P w K mg base N__law_first "_law_first" (defScope s__law_first) (defBody s__law_first) 0 tb__law_first :=
 fun f cd A outer s H E hr tk hp =>
 (ss_cons (s1_set 3 sc__law_first.nd (se_lstH sa_nil))
 (ss_cons (s1_for hp rfl (si_list (se_var 2)) (sg_name sc__law_first.nd)
 (ss_cons (s1_if (st_w (sw_and (st_inT (se_sub (se_var 4) se_int) (se_var 0)) (sw_and1 (st_inT (se_sub (se_var 4) se_int) (se_var 1)))))
 (ss_one (s1_expr (se_append (se_var 3) (sa_cons (se_var 4) sa_nil))))
 ss_nil)
 (ss_one (s1_if (st_w (sw_and (st_inT (se_sub (se_var 4) se_int) (se_var 0)) (sw_and1 (st_inT (se_sub (se_var 4) se_int) (se_var 1)))))
 (ss_one (s1_expr (se_append (se_var 3) (sa_cons (se_tup (sa_cons (se_sub (se_var 4) se_int) (sa_cons (se_sub (se_var 4) se_int) sa_nil))) sa_nil))))
 ss_nil))))
 (ss_one (s1_ret (se_slice (se_sortP G.m_sorted (sa_cons (se_var 3) sa_nil)) so_none (so_some se_int))))))
abbrev s__law_same : Stmt := top 34
abbrev N__law_same : List Str := ["told", "due", "k"]
abbrev P__law_same : List Str := ["told", "due"]
theorem sc__law_same : FnScope N__law_same P__law_same (defScope s__law_same) := ⟨rfl, rfl, rfl, by decide +kernel, rfl, by decide +kernel, by decide +kernel⟩
def tb__law_same (cr : Ct) : DS :=
 (sSeq (sIf (dTru (dCB (nIsi kcs) (aCons (dVar 1) (aCons (dTup (aCons (dC (.ty "tuple")) (aCons (dC (.ty "list")) aNil))) aNil))))
 (sSeq (sIf (dOr (dNot (dTru (dCB (nIsi kcs) (aCons (dVar 0) (aCons (dTup (aCons (dC (.ty "tuple")) (aCons (dC (.ty "list")) aNil))) aNil))))) (dTst (dOp dNe (dCB (nIsi kcs) (aCons (dVar 0) (aCons (dC (.ty "list")) aNil))) (dCB (nIsi kcs) (aCons (dVar 1) (aCons (dC (.ty "list")) aNil))))))
 (sRet (dC (.bl false)))
 sNil)
 (sSeq (sIf (dTst (dOp dNe (dCB nLen (aCons (dVar 0) aNil)) (dCB nLen (aCons (dVar 1) aNil))))
 (sRet (dC (.bl false)))
 sNil)
 (sSeq (sFor (iR1 (aCons (dCB nLen (aCons (dVar 1) aNil)) aNil)) (tgN 2)
 (sIf (dNot (dTru (dCall cr 2 (aCons (dOp dIx (dVar 0) (dVar 2)) (aCons (dOp dIx (dVar 1) (dVar 2)) aNil)))))
 (sRet (dC (.bl false)))
 sNil))
 (sRet (dC (.bl true))))))
 sNil)
 (sSeq (sIf (dTst (dOp dIsN (dVar 1) (dC .non)))
 (sRet (dOp dIsN (dVar 0) (dC .non)))
 sNil)
 (sSeq (sIf (dTru (dCB (nIsi kcs) (aCons (dVar 1) (aCons (dC (.ty "bool")) aNil))))
 (sRet (dAndV (dCB (nIsi kcs) (aCons (dVar 0) (aCons (dC (.ty "bool")) aNil))) (dOp dEq (dVar 0) (dVar 1))))
 sNil)
 (sSeq (sIf (dTru (dCB (nIsi kcs) (aCons (dVar 1) (aCons (dC (.ty "int")) aNil))))
 (sRet (dAndV (dCB (nIsi kcs) (aCons (dVar 0) (aCons (dC (.ty "int")) aNil))) (dAndV (dNotV (dCB (nIsi kcs) (aCons (dVar 0) (aCons (dC (.ty "bool")) aNil)))) (dOp dEq (dVar 0) (dVar 1)))))
 sNil)
 (sRet (dAndV (dCB (nIsi kcs) (aCons (dVar 0) (aCons (dC (.ty "str")) aNil))) (dOp dEq (dVar 0) (dVar 1))))))))
theorem bd__law_same {P : Program} {w : World} {K : PySem.W.Frag} {mg : Str → Option Value} {base : Heap} {k : Nat} {cr : Ct} (G : Gm K mg) (F_rec : FnC P w K mg base k "_law_same" 2 cr) : BodyC P w K mg base N__law_same "_law_same" (defScope s__law_same) (defBody s__law_same) k (tb__law_same cr) :=
 fun f cd A outer s H E hr tk hp =>
 (ss_cons (s1_if (st_tru (se_isi G.kit G.m_isinstance (sa_cons (se_var 1) (sa_cons (se_tup (sa_cons (se_ty rfl G.m_tuple (by decide +kernel)) (sa_cons (se_ty rfl G.m_list (by decide +kernel)) sa_nil))) sa_nil))))
 (ss_cons (s1_if (st_w (sw_or (st_not (st_tru (se_isi G.kit G.m_isinstance (sa_cons (se_var 0) (sa_cons (se_tup (sa_cons (se_ty rfl G.m_tuple (by decide +kernel)) (sa_cons (se_ty rfl G.m_list (by decide +kernel)) sa_nil))) sa_nil))))) (sw_or1 (st_ne (uu hr) (se_isi G.kit G.m_isinstance (sa_cons (se_var 0) (sa_cons (se_ty rfl G.m_list (by decide +kernel)) sa_nil))) (se_isi G.kit G.m_isinstance (sa_cons (se_var 1) (sa_cons (se_ty rfl G.m_list (by decide +kernel)) sa_nil)))))))
 (ss_one (s1_ret se_bl))
 ss_nil)
 (ss_cons (s1_if (st_ne (uu hr) (se_len G.m_len (sa_cons (se_var 0) sa_nil)) (se_len G.m_len (sa_cons (se_var 1) sa_nil)))
 (ss_one (s1_ret se_bl))
 ss_nil)
 (ss_cons (s1_for hp rfl (si_range1 G.m_range (sa_cons (se_len G.m_len (sa_cons (se_var 1) sa_nil)) sa_nil)) (sg_name sc__law_same.nd)
 (ss_one (s1_if (st_not (st_tru (se_call F_rec tk (hr.mono (Nat.le_refl _)) (sa_cons (se_sub (se_var 0) (se_var 2)) (sa_cons (se_sub (se_var 1) (se_var 2)) sa_nil)))))
 (ss_one (s1_ret se_bl))
 ss_nil)))
 (ss_one (s1_ret se_bl)))))
 ss_nil)
 (ss_cons (s1_if (st_isN (se_var 1) se_non)
 (ss_one (s1_ret (se_isN (se_var 0) se_non)))
 ss_nil)
 (ss_cons (s1_if (st_tru (se_isi G.kit G.m_isinstance (sa_cons (se_var 1) (sa_cons (se_ty rfl G.m_bool (by decide +kernel)) sa_nil))))
 (ss_one (s1_ret (se_and (se_isi G.kit G.m_isinstance (sa_cons (se_var 0) (sa_cons (se_ty rfl G.m_bool (by decide +kernel)) sa_nil))) (se_one (se_eq (uu hr) (se_var 0) (se_var 1))))))
 ss_nil)
 (ss_cons (s1_if (st_tru (se_isi G.kit G.m_isinstance (sa_cons (se_var 1) (sa_cons (se_ty rfl G.m_int (by decide +kernel)) sa_nil))))
 (ss_one (s1_ret (se_and (se_isi G.kit G.m_isinstance (sa_cons (se_var 0) (sa_cons (se_ty rfl G.m_int (by decide +kernel)) sa_nil))) (se_and (se_not (se_isi G.kit G.m_isinstance (sa_cons (se_var 0) (sa_cons (se_ty rfl G.m_bool (by decide +kernel)) sa_nil)))) (se_one (se_eq (uu hr) (se_var 0) (se_var 1)))))))
 ss_nil)
 (ss_one (s1_ret (se_and (se_isi G.kit G.m_isinstance (sa_cons (se_var 0) (sa_cons (se_ty rfl G.m_str (by decide +kernel)) sa_nil))) (se_one (se_eq (uu hr) (se_var 0) (se_var 1))))))))))
abbrev s__law_told : Stmt := top 35
abbrev N__law_told : List Str := ["rule", "one", "other", "wanted", "e", "told"]
abbrev P__law_told : List Str := ["rule", "one", "other", "wanted"]
theorem sc__law_told : FnScope N__law_told P__law_told (defScope s__law_told) := ⟨rfl, rfl, rfl, by decide +kernel, rfl, by decide +kernel, by decide +kernel⟩
def tb__law_told : DS :=
 (sSeq (sTry xtb (sIf (dAnd (dTst (dOp dEq (dVar 3) (dC (.str "state")))) (dTst (dOp dEq (dVar 1) (dVar 2))))
 (sSet 5 (dCallK ct_merged 3 3 [2, 1, 0] (aCons (dVar 2) (aCons (dVar 1) (aCons (dVar 0) aNil)))))
 (sIf (dTst (dOp dEq (dVar 3) (dC (.str "state"))))
 (sSet 5 (dCall ct_merged 3 (aCons (dVar 0) (aCons (dVar 1) (aCons (dVar 2) aNil)))))
 (sIf (dTst (dOp dEq (dVar 1) (dVar 2)))
 (sSet 5 (dCallK ct_conflict 3 3 [2, 1, 0] (aCons (dVar 2) (aCons (dVar 1) (aCons (dVar 0) aNil)))))
 (sSet 5 (dCall ct_conflict 3 (aCons (dVar 0) (aCons (dVar 1) (aCons (dVar 2) aNil))))))))
 [(.cls "InvalidState", some 4, fun a c dd => (sSeq (sIf (dOr (dTru (dCB (nIsE xkt a c dd) (aCons (dVar 4) (aCons (dC (.cls "InvalidEvents")) aNil)))) (dOr (dNot (dTru (dCB (nIsE xkt a c dd) (aCons (dVar 4) (aCons (dC (.ty "ValueError")) aNil))))) (dNot (dTru (dCB (nIsE xkt a c dd) (aCons (dVar 4) (aCons (dC (.cls "MiddleError")) aNil)))))))
 (sRet (dLst (aCons (dC (.int 3)) aNil)))
 sNil)
 (sRet (dLst (aCons (dC (.int 2)) (aCons (dExF a c dd "value" (dVar 4)) aNil)))))),
 (.cls "Undefined", some 4, fun a c dd => (sSeq (sIf (dOr (dTru (dCB (nIsE xkt a c dd) (aCons (dVar 4) (aCons (dC (.cls "TooLarge")) aNil)))) (dOr (dNot (dTru (dCB (nIsE xkt a c dd) (aCons (dVar 4) (aCons (dC (.ty "ValueError")) aNil))))) (dNot (dTru (dCB (nIsE xkt a c dd) (aCons (dVar 4) (aCons (dC (.cls "MiddleError")) aNil)))))))
 (sRet (dLst (aCons (dC (.int 3)) aNil)))
 sNil)
 (sSeq (sIf (dOr (dNot (dTru (dCB (nIsi kcs) (aCons (dExF a c dd "what" (dVar 4)) (aCons (dC (.ty "str")) aNil))))) (dTst (dOp dNe (dExF a c dd "what" (dVar 4)) (dVar 3))))
 (sRet (dLst (aCons (dC (.int 3)) aNil)))
 sNil)
 (sRet (dLst (aCons (dC (.int 1)) aNil)))))),
 (.cls "MiddleError", none, fun a c dd => (sRet (dLst (aCons (dC (.int 3)) aNil))))])
 (sRet (dLst (aCons (dC (.int 0)) (aCons (dVar 5) aNil)))))
theorem bd__law_told {P : Program} {w : World} {K : PySem.W.Frag} {mg : Str → Option Value} {base : Heap} (G : Gm K mg) (F_conflict : FnC P w K mg base 6 "conflict" 3 ct_conflict) (K_conflict : FnK P w K mg base 6 "conflict" 3 ["other", "one", "events"] [2, 1, 0] ct_conflict) (F_merged : FnC P w K mg base 6 "merged" 3 ct_merged) (K_merged : FnK P w K mg base 6 "merged" 3 ["other", "one", "events"] [2, 1, 0] ct_merged) : BodyC P w K mg base N__law_told "_law_told" (defScope s__law_told) (defBody s__law_told) 6 tb__law_told :=
 fun f cd A outer s H E hr tk hp =>
 (ss_cons (s1_try G.exm sc__law_told.nd tk (fun W pn xe tk hp => (ss_one (s1_if (st_w (sw_and (st_eq (uu hr) (se_var 3) se_str) (sw_and1 (st_eq (uu hr) (se_var 1) (se_var 2)))))
 (ss_one (s1_set 5 sc__law_told.nd (se_callK (ks := ["other", "one", "events"]) K_merged tk (hr.mono (by decide)) (sk_cons (se_var 2) (sk_cons (se_var 1) (sk_cons (se_var 0) sk_nil))))))
 (ss_one (s1_if (st_eq (uu hr) (se_var 3) se_str)
 (ss_one (s1_set 5 sc__law_told.nd (se_call F_merged tk (hr.mono (by decide)) (sa_cons (se_var 0) (sa_cons (se_var 1) (sa_cons (se_var 2) sa_nil))))))
 (ss_one (s1_if (st_eq (uu hr) (se_var 1) (se_var 2))
 (ss_one (s1_set 5 sc__law_told.nd (se_callK (ks := ["other", "one", "events"]) K_conflict tk (hr.mono (by decide)) (sk_cons (se_var 2) (sk_cons (se_var 1) (sk_cons (se_var 0) sk_nil))))))
 (ss_one (s1_set 5 sc__law_told.nd (se_call F_conflict tk (hr.mono (by decide)) (sa_cons (se_var 0) (sa_cons (se_var 1) (sa_cons (se_var 2) sa_nil)))))))))))))
 (ClD.named (i := 4) rfl rfl ⟨rfl, by decide, .inl G.g_InvalidState⟩ (fun a oe c dd pn hcs hk hz hf => (ss_cons (s1_if (st_w (sw_or (st_tru (se_isE G.kitE hk hz hf G.m_isinstance (sa_cons (se_var 4) (sa_cons (se_cls G.g_InvalidEvents) sa_nil)))) (sw_or (st_not (st_tru (se_isE G.kitE hk hz hf G.m_isinstance (sa_cons (se_var 4) (sa_cons (se_ty rfl G.m_ValueError (by decide +kernel)) sa_nil))))) (sw_or1 (st_not (st_tru (se_isE G.kitE hk hz hf G.m_isinstance (sa_cons (se_var 4) (sa_cons (se_cls G.g_MiddleError) sa_nil)))))))))
 (ss_one (s1_ret (se_lst (sa_cons se_int sa_nil))))
 ss_nil)
 (ss_one (s1_ret (se_lst (sa_cons se_int (sa_cons (se_exf G.n_value hcs hk hz hf (se_var 4)) sa_nil)))))))
 (ClD.named (i := 4) rfl rfl ⟨rfl, by decide, .inl G.g_Undefined⟩ (fun a oe c dd pn hcs hk hz hf => (ss_cons (s1_if (st_w (sw_or (st_tru (se_isE G.kitE hk hz hf G.m_isinstance (sa_cons (se_var 4) (sa_cons (se_cls G.g_TooLarge) sa_nil)))) (sw_or (st_not (st_tru (se_isE G.kitE hk hz hf G.m_isinstance (sa_cons (se_var 4) (sa_cons (se_ty rfl G.m_ValueError (by decide +kernel)) sa_nil))))) (sw_or1 (st_not (st_tru (se_isE G.kitE hk hz hf G.m_isinstance (sa_cons (se_var 4) (sa_cons (se_cls G.g_MiddleError) sa_nil)))))))))
 (ss_one (s1_ret (se_lst (sa_cons se_int sa_nil))))
 ss_nil)
 (ss_cons (s1_if (st_w (sw_or (st_not (st_tru (se_isi G.kit G.m_isinstance (sa_cons (se_exf G.n_what hcs hk hz hf (se_var 4)) (sa_cons (se_ty rfl G.m_str (by decide +kernel)) sa_nil))))) (sw_or1 (st_ne (uuM hr) (se_exf G.n_what hcs hk hz hf (se_var 4)) (se_var 3)))))
 (ss_one (s1_ret (se_lst (sa_cons se_int sa_nil))))
 ss_nil)
 (ss_one (s1_ret (se_lst (sa_cons se_int sa_nil)))))))
 (ClD.bare ⟨rfl, by decide, .inl G.g_MiddleError⟩ (fun a oe c dd pn hcs hk hz hf => (ss_one (s1_ret (se_lst (sa_cons se_int sa_nil)))))
 ClD.nil))))
 (ss_one (s1_ret (se_lst (sa_cons se_int (sa_cons (se_var 5) sa_nil))))))
abbrev s__law_right : Stmt := top 36
abbrev N__law_right : List Str := ["rule", "one", "other", "conflicts", "pair", "first", "second", "due", "k"]
abbrev P__law_right : List Str := ["rule", "one", "other", "conflicts"]
theorem sc__law_right : FnScope N__law_right P__law_right (defScope s__law_right) := ⟨rfl, rfl, rfl, by decide +kernel, rfl, by decide +kernel, by decide +kernel⟩
def tb__law_right : DS :=
 (sSeq (sSet 4 (dCall ct__law_first 3 (aCons (dVar 1) (aCons (dVar 2) (aCons (dVar 3) aNil)))))
 (sSeq (sSet 5 (dCall ct__law_told 4 (aCons (dVar 0) (aCons (dVar 1) (aCons (dVar 2) (aCons (dC (.str "state")) aNil))))))
 (sSeq (sSet 6 (dCall ct__law_told 4 (aCons (dVar 0) (aCons (dVar 1) (aCons (dVar 2) (aCons (dC (.str "conflict")) aNil))))))
 (sSeq (sIf (dTst (dOp dNe (dVar 4) (dLst aNil)))
 (sRet (dAndV (dOp dEq (dVar 5) (dLst (aCons (dC (.int 1)) aNil))) (dAndV (dOp dEq (dOp dIx (dVar 6) (dC (.int 0))) (dC (.int 0))) (dCall ct__law_same 2 (aCons (dOp dIx (dVar 6) (dC (.int 1))) (aCons (dOp dIx (dVar 4) (dC (.int 0))) aNil))))))
 sNil)
 (sSeq (sSet 7 (dOp dAdd (dCB nLst (aCons (dVar 1) aNil)) (dLc (iT (dVar 2)) (tgN 8) (dTst (dOp (dInT true) (dVar 8) (dVar 1))) (dVar 8) [8])))
 (sRet (dAndV (dOp dEq (dVar 6) (dLst (aCons (dC (.int 1)) aNil))) (dAndV (dOp dEq (dOp dIx (dVar 5) (dC (.int 0))) (dC (.int 0))) (dCall ct__law_same 2 (aCons (dOp dIx (dVar 5) (dC (.int 1))) (aCons (dCB nTup (aCons (dCB nSrtI (aCons (dVar 7) aNil)) aNil)) aNil)))))))))))
theorem bd__law_right {P : Program} {w : World} {K : PySem.W.Frag} {mg : Str → Option Value} {base : Heap} (G : Gm K mg) (F__law_first : FnC P w K mg base 1 "_law_first" 3 ct__law_first) (F__law_same : FnC P w K mg base 4 "_law_same" 2 ct__law_same) (F__law_told : FnC P w K mg base 7 "_law_told" 4 ct__law_told) : BodyC P w K mg base N__law_right "_law_right" (defScope s__law_right) (defBody s__law_right) 7 tb__law_right :=
 fun f cd A outer s H E hr tk hp =>
 (ss_cons (s1_set 4 sc__law_right.nd (se_call F__law_first tk (hr.mono (by decide)) (sa_cons (se_var 1) (sa_cons (se_var 2) (sa_cons (se_var 3) sa_nil)))))
 (ss_cons (s1_set 5 sc__law_right.nd (se_call F__law_told tk (hr.mono (by decide)) (sa_cons (se_var 0) (sa_cons (se_var 1) (sa_cons (se_var 2) (sa_cons se_str sa_nil))))))
 (ss_cons (s1_set 6 sc__law_right.nd (se_call F__law_told tk (hr.mono (by decide)) (sa_cons (se_var 0) (sa_cons (se_var 1) (sa_cons (se_var 2) (sa_cons se_str sa_nil))))))
 (ss_cons (s1_if (st_ne (uu hr) (se_var 4) (se_lst sa_nil))
 (ss_one (s1_ret (se_and (se_eq (uu hr) (se_var 5) (se_lst (sa_cons se_int sa_nil))) (se_and (se_eq (uu hr) (se_sub (se_var 6) se_int) se_int) (se_one (se_call F__law_same tk (hr.mono (by decide)) (sa_cons (se_sub (se_var 6) se_int) (sa_cons (se_sub (se_var 4) se_int) sa_nil))))))))
 ss_nil)
 (ss_cons (s1_set 7 sc__law_right.nd (se_add (se_list G.m_list (sa_cons (se_var 1) sa_nil)) (se_lc (own := [("k", 8)]) rfl sc__law_right.nd (si_tup (se_var 2)) (by show BlkOk N__law_right (defScope s__law_right) _ [("k", 8)]; exact ⟨rfl, by decide +kernel, by decide +kernel, by decide +kernel, by decide +kernel⟩) (fun _ _ _ _ _ => (sg_name sc__law_right.nd)) (fun _ _ _ _ _ => (sp_one (st_notInT (se_var 8) (se_var 1)))) (fun _ _ _ _ _ => (se_var 8)))))
 (ss_one (s1_ret (se_and (se_eq (uu hr) (se_var 6) (se_lst (sa_cons se_int sa_nil))) (se_and (se_eq (uu hr) (se_sub (se_var 5) se_int) se_int) (se_one (se_call F__law_same tk (hr.mono (by decide)) (sa_cons (se_sub (se_var 5) se_int) (sa_cons (se_tuple G.m_tuple (sa_cons (se_sortI G.m_sorted (sa_cons (se_var 7) sa_nil)) sa_nil)) sa_nil)))))))))))))
abbrev s__law_refused : Stmt := top 37
abbrev N__law_refused : List Str := ["rule", "one", "other", "due", "wanted", "told"]
abbrev P__law_refused : List Str := ["rule", "one", "other", "due"]
theorem sc__law_refused : FnScope N__law_refused P__law_refused (defScope s__law_refused) := ⟨rfl, rfl, rfl, by decide +kernel, rfl, by decide +kernel, by decide +kernel⟩
def tb__law_refused : DS :=
 (sSeq (sFor (iL (dLst (aCons (dC (.str "state")) (aCons (dC (.str "conflict")) aNil)))) (tgN 4)
 (sSeq (sSet 5 (dCall ct__law_told 4 (aCons (dVar 0) (aCons (dVar 1) (aCons (dVar 2) (aCons (dVar 4) aNil))))))
 (sIf (dOr (dTst (dOp dNe (dOp dIx (dVar 5) (dC (.int 0))) (dC (.int 2)))) (dNot (dTru (dCall ct__law_same 2 (aCons (dOp dIx (dVar 5) (dC (.int 1))) (aCons (dVar 3) aNil))))))
 (sRet (dC (.bl false)))
 sNil)))
 (sRet (dC (.bl true))))
theorem bd__law_refused {P : Program} {w : World} {K : PySem.W.Frag} {mg : Str → Option Value} {base : Heap} (G : Gm K mg) (F__law_same : FnC P w K mg base 4 "_law_same" 2 ct__law_same) (F__law_told : FnC P w K mg base 7 "_law_told" 4 ct__law_told) : BodyC P w K mg base N__law_refused "_law_refused" (defScope s__law_refused) (defBody s__law_refused) 7 tb__law_refused :=
 fun f cd A outer s H E hr tk hp =>
 (ss_cons (s1_for hp rfl (si_list (se_lst (sa_cons se_str (sa_cons se_str sa_nil)))) (sg_name sc__law_refused.nd)
 (ss_cons (s1_set 5 sc__law_refused.nd (se_call F__law_told tk (hr.mono (by decide)) (sa_cons (se_var 0) (sa_cons (se_var 1) (sa_cons (se_var 2) (sa_cons (se_var 4) sa_nil))))))
 (ss_one (s1_if (st_w (sw_or (st_ne (uu hr) (se_sub (se_var 5) se_int) se_int) (sw_or1 (st_not (st_tru (se_call F__law_same tk (hr.mono (by decide)) (sa_cons (se_sub (se_var 5) se_int) (sa_cons (se_var 3) sa_nil))))))))
 (ss_one (s1_ret se_bl))
 ss_nil))))
 (ss_one (s1_ret se_bl)))
abbrev s__law_bad : Stmt := top 38
abbrev N__law_bad : List Str := ["size", "causes", "conflicts", "mark", "pick", "state", "found", "k", "needed", "pair", "out", "barred"]
abbrev P__law_bad : List Str := ["size", "causes", "conflicts", "mark", "pick"]
theorem sc__law_bad : FnScope N__law_bad P__law_bad (defScope s__law_bad) := ⟨rfl, rfl, rfl, by decide +kernel, rfl, by decide +kernel, by decide +kernel⟩
def tb__law_bad : DS :=
 (sSeq (sSet 5 (dCall ct__law_in 2 (aCons (dVar 0) (aCons (dVar 3) aNil))))
 (sSeq (sSet 6 (dLstH (aCons (dCB nLst (aCons (dVar 5) aNil)) (aCons (dOp dAdd (dVar 5) (dTup (aCons (dVar 0) aNil))) (aCons (dOp dAdd (dTup (aCons (dNeg (dC (.int 1))) aNil)) (dVar 5)) (aCons (dOp dAdd (dVar 5) (dTup (aCons (dC .non) aNil))) (aCons (dC .non) (aCons (dC (.int 0)) (aCons (dC (.bl true)) (aCons (dC (.str "")) (aCons (dTup (aCons (dVar 5) aNil)) (aCons (dOp dAdd (dVar 5) (dTup (aCons (dTup aNil) aNil))) aNil))))))))))))
 (sSeq (sIf (dTst (dOp oGt (dCB nLen (aCons (dVar 5) aNil)) (dC (.int 0))))
 (sSeq (sExpr (dBM "list" mApp (dVar 6) (aCons (dOp dAdd (dVar 5) (dTup (aCons (dOp dIx (dVar 5) (dNeg (dC (.int 1)))) aNil))) aNil)))
 (sIf (dTst (dOp oGt (dCB nLen (aCons (dVar 5) aNil)) (dC (.int 1))))
 (sExpr (dBM "list" mApp (dVar 6) (aCons (dTupRev (dVar 5)) aNil)))
 sNil))
 sNil)
 (sSeq (sIf (dTst (dOp (dInT false) (dC (.int 1)) (dVar 5)))
 (sExpr (dBM "list" mApp (dVar 6) (aCons (dCB nTup (aCons (dLc (iT (dVar 5)) (tgN 7) dYes (dOp dIx (dLst (aCons (dVar 7) (aCons (dC (.bl true)) aNil))) (dCB nInt (aCons (dOp dEq (dVar 7) (dC (.int 1))) aNil))) [7]) aNil)) aNil)))
 sNil)
 (sSeq (sSet 8 (dLc (iL (dVar 1)) (tgN 9) (dAnd (dTst (dOp (dInT false) (dOp dIx (dVar 9) (dC (.int 0))) (dVar 5))) (dTst (dOp (dInT false) (dOp dIx (dVar 9) (dC (.int 1))) (dVar 5)))) (dOp dIx (dVar 9) (dC (.int 0))) [9]))
 (sSeq (sIf (dTst (dOp dNe (dVar 8) (dLst aNil)))
 (sSeq (sSet 10 (dOp dIx (dVar 8) (dOp oMod (dVar 4) (dCB nLen (aCons (dVar 8) aNil)))))
 (sExpr (dBM "list" mApp (dVar 6) (aCons (dCB nTup (aCons (dLc (iT (dVar 5)) (tgN 7) (dTst (dOp dNe (dVar 7) (dVar 10))) (dVar 7) [7]) aNil)) aNil))))
 sNil)
 (sSeq (sSet 11 (dLc (iL (dVar 2)) (tgN 9) (dOr (dTst (dOp (dInT false) (dOp dIx (dVar 9) (dC (.int 0))) (dVar 5))) (dTst (dOp (dInT false) (dOp dIx (dVar 9) (dC (.int 1))) (dVar 5)))) (dVar 9) [9]))
 (sSeq (sIf (dTst (dOp dNe (dVar 11) (dLst aNil)))
 (sSeq (sSet 9 (dOp dIx (dVar 11) (dOp oMod (dVar 4) (dCB nLen (aCons (dVar 11) aNil)))))
 (sExpr (dBM "list" mApp (dVar 6) (aCons (dCall ct__law_in 2 (aCons (dVar 0) (aCons (dOp oOr (dOp oOr (dVar 3) (dOp oShl (dC (.int 1)) (dOp dIx (dVar 9) (dC (.int 0))))) (dOp oShl (dC (.int 1)) (dOp dIx (dVar 9) (dC (.int 1))))) aNil))) aNil))))
 sNil)
 (sRet (dVar 6))))))))))
theorem bd__law_bad {P : Program} {w : World} {K : PySem.W.Frag} {mg : Str → Option Value} {base : Heap} (G : Gm K mg) (F__law_in : FnC P w K mg base 1 "_law_in" 2 ct__law_in) : BodyC P w K mg base N__law_bad "_law_bad" (defScope s__law_bad) (defBody s__law_bad) 1 tb__law_bad :=
 fun f cd A outer s H E hr tk hp =>
 (ss_cons (s1_set 5 sc__law_bad.nd (se_call F__law_in tk (hr.mono (by decide)) (sa_cons (se_var 0) (sa_cons (se_var 3) sa_nil))))
 (ss_cons (s1_set 6 sc__law_bad.nd (se_lstH (sa_cons (se_list G.m_list (sa_cons (se_var 5) sa_nil)) (sa_cons (se_add (se_var 5) (se_tup (sa_cons (se_var 0) sa_nil))) (sa_cons (se_add (se_tup (sa_cons (se_neg se_int) sa_nil)) (se_var 5)) (sa_cons (se_add (se_var 5) (se_tup (sa_cons se_non sa_nil))) (sa_cons se_non (sa_cons se_int (sa_cons se_bl (sa_cons se_str (sa_cons (se_tup (sa_cons (se_var 5) sa_nil)) (sa_cons (se_add (se_var 5) (se_tup (sa_cons (se_tup sa_nil) sa_nil))) sa_nil))))))))))))
 (ss_cons (s1_if (st_gt (se_len G.m_len (sa_cons (se_var 5) sa_nil)) se_int)
 (ss_cons (s1_expr (se_append (se_var 6) (sa_cons (se_add (se_var 5) (se_tup (sa_cons (se_sub (se_var 5) (se_neg se_int)) sa_nil))) sa_nil)))
 (ss_one (s1_if (st_gt (se_len G.m_len (sa_cons (se_var 5) sa_nil)) se_int)
 (ss_one (s1_expr (se_append (se_var 6) (sa_cons (se_tupRev rfl G.m_tuple G.m_reversed (se_var 5)) sa_nil))))
 ss_nil)))
 ss_nil)
 (ss_cons (s1_if (st_inT se_int (se_var 5))
 (ss_one (s1_expr (se_append (se_var 6) (sa_cons (se_tuple G.m_tuple (sa_cons (se_lc (own := [("k", 7)]) rfl sc__law_bad.nd (si_tup (se_var 5)) (by show BlkOk N__law_bad (defScope s__law_bad) _ [("k", 7)]; exact ⟨rfl, by decide +kernel, by decide +kernel, by decide +kernel, by decide +kernel⟩) (fun _ _ _ _ _ => (sg_name sc__law_bad.nd)) (fun _ _ _ _ _ => sp_nil) (fun _ _ _ _ _ => (se_sub (se_lst (sa_cons (se_var 7) (sa_cons se_bl sa_nil))) (se_intc G.m_int (sa_cons (se_eq (uu hr) (se_var 7) se_int) sa_nil))))) sa_nil)) sa_nil))))
 ss_nil)
 (ss_cons (s1_setLc 8 (own := [("pair", 9)]) rfl sc__law_bad.nd (si_list (se_var 1)) (by show BlkOk N__law_bad (defScope s__law_bad) _ [("pair", 9)]; exact ⟨rfl, by decide +kernel, by decide +kernel, by decide +kernel, by decide +kernel⟩) (fun _ _ _ _ _ => (sg_name sc__law_bad.nd)) (fun _ _ _ _ _ => (sp_one (st_w (sw_and (st_inT (se_sub (se_var 9) se_int) (se_var 5)) (sw_and1 (st_inT (se_sub (se_var 9) se_int) (se_var 5))))))) (fun _ _ _ _ _ => (se_sub (se_var 9) se_int)))
 (ss_cons (s1_if (st_ne (uu hr) (se_var 8) (se_lst sa_nil))
 (ss_cons (s1_set 10 sc__law_bad.nd (se_sub (se_var 8) (se_mod (se_var 4) (se_len G.m_len (sa_cons (se_var 8) sa_nil)))))
 (ss_one (s1_expr (se_append (se_var 6) (sa_cons (se_tuple G.m_tuple (sa_cons (se_lc (own := [("k", 7)]) rfl sc__law_bad.nd (si_tup (se_var 5)) (by show BlkOk N__law_bad (defScope s__law_bad) _ [("k", 7)]; exact ⟨rfl, by decide +kernel, by decide +kernel, by decide +kernel, by decide +kernel⟩) (fun _ _ _ _ _ => (sg_name sc__law_bad.nd)) (fun _ _ _ _ _ => (sp_one (st_ne (uu hr) (se_var 7) (se_var 10)))) (fun _ _ _ _ _ => (se_var 7))) sa_nil)) sa_nil)))))
 ss_nil)
 (ss_cons (s1_setLc 11 (own := [("pair", 9)]) rfl sc__law_bad.nd (si_list (se_var 2)) (by show BlkOk N__law_bad (defScope s__law_bad) _ [("pair", 9)]; exact ⟨rfl, by decide +kernel, by decide +kernel, by decide +kernel, by decide +kernel⟩) (fun _ _ _ _ _ => (sg_name sc__law_bad.nd)) (fun _ _ _ _ _ => (sp_one (st_w (sw_or (st_inT (se_sub (se_var 9) se_int) (se_var 5)) (sw_or1 (st_inT (se_sub (se_var 9) se_int) (se_var 5))))))) (fun _ _ _ _ _ => (se_var 9)))
 (ss_cons (s1_if (st_ne (uu hr) (se_var 11) (se_lst sa_nil))
 (ss_cons (s1_set 9 sc__law_bad.nd (se_sub (se_var 11) (se_mod (se_var 4) (se_len G.m_len (sa_cons (se_var 11) sa_nil)))))
 (ss_one (s1_expr (se_append (se_var 6) (sa_cons (se_call F__law_in tk (hr.mono (by decide)) (sa_cons (se_var 0) (sa_cons (se_bor (se_bor (se_var 3) (se_shl se_int (se_sub (se_var 9) se_int))) (se_shl se_int (se_sub (se_var 9) se_int))) sa_nil))) sa_nil)))))
 ss_nil)
 (ss_one (s1_ret (se_var 6)))))))))))
abbrev s__law_asked : Stmt := top 39
abbrev N__law_asked : List Str := ["script", "size", "causes", "conflicts", "draws", "needs", "marks", "good", "rule", "one", "other", "bad", "k"]
abbrev P__law_asked : List Str := ["script"]
theorem sc__law_asked : FnScope N__law_asked P__law_asked (defScope s__law_asked) := ⟨rfl, rfl, rfl, by decide +kernel, rfl, by decide +kernel, by decide +kernel⟩
def tb__law_asked : DS :=
 (sSeq (sAsg (dCall ct__law_parts 1 (aCons (dVar 0) aNil)) (tgLst 3 (tgsCons (tgN 1) (tgsCons (tgN 2) (tgsCons (tgN 3) tgsNil)))))
 (sSeq (sSet 4 (dCall ct__law_row 4 (aCons (dVar 0) (aCons (dC (.int 4)) (aCons (dC (.int 28)) (aCons (dC (.int 1009)) aNil))))))
 (sSeq (sSet 5 (dCall ct__law_needs 2 (aCons (dVar 1) (aCons (dVar 2) aNil))))
 (sSeq (sSet 6 (dLstH (aCons (dCall ct__law_state 3 (aCons (dVar 5) (aCons (dVar 3) (aCons (dSl (dVar 4) (oSome (dC (.int 4))) (oSome (dOp dAdd (dC (.int 4)) (dOp oMod (dOp dIx (dVar 4) (dC (.int 0))) (dC (.int 13)))))) aNil)))) aNil)))
 (sSeq (sExpr (dBM "list" mApp (dVar 6) (aCons (dCall ct__law_state 3 (aCons (dVar 5) (aCons (dVar 3) (aCons (dSl (dVar 4) (oSome (dC (.int 16))) (oSome (dOp dAdd (dC (.int 16)) (dOp oMod (dOp dIx (dVar 4) (dC (.int 1))) (dC (.int 9)))))) aNil)))) aNil)))
 (sSeq (sSet 7 (dLst (aCons (dCall ct__law_in 2 (aCons (dVar 1) (aCons (dOp dIx (dVar 6) (dC (.int 0))) aNil))) (aCons (dCall ct__law_in 2 (aCons (dVar 1) (aCons (dOp dIx (dVar 6) (dC (.int 1))) aNil))) (aCons (dTup aNil) aNil)))))
 (sSeq (sSet 8 (dMake "Events" ct_Events_init 4 (aCons (dVar 1) (aCons (dCB nLst (aCons (dVar 2) aNil)) (aCons (dCB nLst (aCons (dVar 3) aNil)) aNil)))))
 (sSeq (sFor (iL (dVar 7)) (tgN 9)
 (sFor (iL (dVar 7)) (tgN 10)
 (sIf (dNot (dTru (dCall ct__law_right 4 (aCons (dVar 8) (aCons (dVar 9) (aCons (dVar 10) (aCons (dVar 3) aNil)))))))
 (sRet (dC (.bl false)))
 sNil)))
 (sSeq (sSet 11 (dCall ct__law_bad 5 (aCons (dVar 1) (aCons (dVar 2) (aCons (dVar 3) (aCons (dOp dIx (dVar 6) (dC (.int 0))) (aCons (dOp dIx (dVar 4) (dC (.int 2))) aNil)))))))
 (sSeq (sFor (iR1 (aCons (dCB nLen (aCons (dVar 11) aNil)) aNil)) (tgN 12)
 (sSeq (sIf (dNot (dTru (dCall ct__law_refused 4 (aCons (dVar 8) (aCons (dOp dIx (dVar 11) (dVar 12)) (aCons (dOp dIx (dVar 7) (dOp oMod (dOp oDiv (dVar 12) (dC (.int 2))) (dC (.int 3)))) (aCons (dOp dIx (dVar 11) (dVar 12)) aNil)))))))
 (sRet (dC (.bl false)))
 sNil)
 (sSeq (sIf (dNot (dTru (dCall ct__law_refused 4 (aCons (dVar 8) (aCons (dOp dIx (dVar 7) (dOp oMod (dCB nInt (aCons (dVar 12) aNil)) (dC (.int 3)))) (aCons (dOp dIx (dVar 11) (dVar 12)) (aCons (dOp dIx (dVar 11) (dVar 12)) aNil)))))))
 (sRet (dC (.bl false)))
 sNil)
 (sIf (dNot (dTru (dCall ct__law_refused 4 (aCons (dVar 8) (aCons (dOp dIx (dVar 11) (dVar 12)) (aCons (dOp dIx (dVar 11) (dOp oMod (dCB nInt (aCons (dOp dAdd (dVar 12) (dC (.int 1))) aNil)) (dCB nLen (aCons (dVar 11) aNil)))) (aCons (dOp dIx (dVar 11) (dVar 12)) aNil)))))))
 (sRet (dC (.bl false)))
 sNil))))
 (sSeq (sIf (dNot (dTru (dCall ct__law_right 4 (aCons (dVar 8) (aCons (dOp dIx (dVar 7) (dC (.int 0))) (aCons (dOp dIx (dVar 7) (dC (.int 1))) (aCons (dVar 3) aNil)))))))
 (sRet (dC (.bl false)))
 sNil)
 (sSeq (sIf (dOr (dNot (dTru (dCB (nIsi kcs) (aCons (dFldC fc_causes "causes" (dVar 8)) (aCons (dC (.ty "tuple")) aNil))))) (dOr (dNot (dTru (dCB (nIsi kcs) (aCons (dFldC fc_conflicts "conflicts" (dVar 8)) (aCons (dC (.ty "tuple")) aNil))))) (dTst (dOp dNe (dFldC fc_many "many" (dVar 8)) (dVar 1)))))
 (sRet (dC (.bl false)))
 sNil)
 (sRet (dAndV (dOp dEq (dFldC fc_causes "causes" (dVar 8)) (dCB nTup (aCons (dVar 2) aNil))) (dOp dEq (dFldC fc_conflicts "conflicts" (dVar 8)) (dCB nTup (aCons (dVar 3) aNil)))))))))))))))))
theorem bd__law_asked {P : Program} {w : World} {K : PySem.W.Frag} {mg : Str → Option Value} {base : Heap} (G : Gm K mg) (M_Events : MkC P w K mg base 5 "Events" 4 ct_Events_init) (F__law_bad : FnC P w K mg base 2 "_law_bad" 5 ct__law_bad) (F__law_in : FnC P w K mg base 1 "_law_in" 2 ct__law_in) (F__law_needs : FnC P w K mg base 1 "_law_needs" 2 ct__law_needs) (F__law_parts : FnC P w K mg base 3 "_law_parts" 1 ct__law_parts) (F__law_refused : FnC P w K mg base 8 "_law_refused" 4 ct__law_refused) (F__law_right : FnC P w K mg base 8 "_law_right" 4 ct__law_right) (F__law_row : FnC P w K mg base 2 "_law_row" 4 ct__law_row) (F__law_state : FnC P w K mg base 2 "_law_state" 3 ct__law_state) : BodyC P w K mg base N__law_asked "_law_asked" (defScope s__law_asked) (defBody s__law_asked) 8 tb__law_asked :=
 fun f cd A outer s H E hr tk hp =>
 (ss_cons (s1_asg (se_call F__law_parts tk (hr.mono (by decide)) (sa_cons (se_var 0) sa_nil)) (sg_lst rfl (sgs_cons (sg_name sc__law_asked.nd) (sgs_cons (sg_name sc__law_asked.nd) (sgs_cons (sg_name sc__law_asked.nd) (sgs_nil (T := [])))))))
 (ss_cons (s1_set 4 sc__law_asked.nd (se_call F__law_row tk (hr.mono (by decide)) (sa_cons (se_var 0) (sa_cons se_int (sa_cons se_int (sa_cons se_int sa_nil))))))
 (ss_cons (s1_set 5 sc__law_asked.nd (se_call F__law_needs tk (hr.mono (by decide)) (sa_cons (se_var 1) (sa_cons (se_var 2) sa_nil))))
 (ss_cons (s1_set 6 sc__law_asked.nd (se_lstH (sa_cons (se_call F__law_state tk (hr.mono (by decide)) (sa_cons (se_var 5) (sa_cons (se_var 3) (sa_cons (se_slice (se_var 4) (so_some se_int) (so_some (se_add se_int (se_mod (se_sub (se_var 4) se_int) se_int)))) sa_nil)))) sa_nil)))
 (ss_cons (s1_expr (se_append (se_var 6) (sa_cons (se_call F__law_state tk (hr.mono (by decide)) (sa_cons (se_var 5) (sa_cons (se_var 3) (sa_cons (se_slice (se_var 4) (so_some se_int) (so_some (se_add se_int (se_mod (se_sub (se_var 4) se_int) se_int)))) sa_nil)))) sa_nil)))
 (ss_cons (s1_set 7 sc__law_asked.nd (se_lst (sa_cons (se_call F__law_in tk (hr.mono (by decide)) (sa_cons (se_var 1) (sa_cons (se_sub (se_var 6) se_int) sa_nil))) (sa_cons (se_call F__law_in tk (hr.mono (by decide)) (sa_cons (se_var 1) (sa_cons (se_sub (se_var 6) se_int) sa_nil))) (sa_cons (se_tup sa_nil) sa_nil)))))
 (ss_cons (s1_set 8 sc__law_asked.nd (se_make M_Events tk (hr.mono (by decide)) (sa_cons (se_var 1) (sa_cons (se_list G.m_list (sa_cons (se_var 2) sa_nil)) (sa_cons (se_list G.m_list (sa_cons (se_var 3) sa_nil)) sa_nil)))))
 (ss_cons (s1_for hp rfl (si_list (se_var 7)) (sg_name sc__law_asked.nd)
 (ss_one (s1_for hp rfl (si_list (se_var 7)) (sg_name sc__law_asked.nd)
 (ss_one (s1_if (st_not (st_tru (se_call F__law_right tk (hr.mono (by decide)) (sa_cons (se_var 8) (sa_cons (se_var 9) (sa_cons (se_var 10) (sa_cons (se_var 3) sa_nil)))))))
 (ss_one (s1_ret se_bl))
 ss_nil)))))
 (ss_cons (s1_set 11 sc__law_asked.nd (se_call F__law_bad tk (hr.mono (by decide)) (sa_cons (se_var 1) (sa_cons (se_var 2) (sa_cons (se_var 3) (sa_cons (se_sub (se_var 6) se_int) (sa_cons (se_sub (se_var 4) se_int) sa_nil)))))))
 (ss_cons (s1_for hp rfl (si_range1 G.m_range (sa_cons (se_len G.m_len (sa_cons (se_var 11) sa_nil)) sa_nil)) (sg_name sc__law_asked.nd)
 (ss_cons (s1_if (st_not (st_tru (se_call F__law_refused tk (hr.mono (by decide)) (sa_cons (se_var 8) (sa_cons (se_sub (se_var 11) (se_var 12)) (sa_cons (se_sub (se_var 7) (se_mod (se_fdiv (se_var 12) se_int) se_int)) (sa_cons (se_sub (se_var 11) (se_var 12)) sa_nil)))))))
 (ss_one (s1_ret se_bl))
 ss_nil)
 (ss_cons (s1_if (st_not (st_tru (se_call F__law_refused tk (hr.mono (by decide)) (sa_cons (se_var 8) (sa_cons (se_sub (se_var 7) (se_mod (se_intc G.m_int (sa_cons (se_var 12) sa_nil)) se_int)) (sa_cons (se_sub (se_var 11) (se_var 12)) (sa_cons (se_sub (se_var 11) (se_var 12)) sa_nil)))))))
 (ss_one (s1_ret se_bl))
 ss_nil)
 (ss_one (s1_if (st_not (st_tru (se_call F__law_refused tk (hr.mono (by decide)) (sa_cons (se_var 8) (sa_cons (se_sub (se_var 11) (se_var 12)) (sa_cons (se_sub (se_var 11) (se_mod (se_intc G.m_int (sa_cons (se_add (se_var 12) se_int) sa_nil)) (se_len G.m_len (sa_cons (se_var 11) sa_nil)))) (sa_cons (se_sub (se_var 11) (se_var 12)) sa_nil)))))))
 (ss_one (s1_ret se_bl))
 ss_nil)))))
 (ss_cons (s1_if (st_not (st_tru (se_call F__law_right tk (hr.mono (by decide)) (sa_cons (se_var 8) (sa_cons (se_sub (se_var 7) se_int) (sa_cons (se_sub (se_var 7) se_int) (sa_cons (se_var 3) sa_nil)))))))
 (ss_one (s1_ret se_bl))
 ss_nil)
 (ss_cons (s1_if (st_w (sw_or (st_not (st_tru (se_isi G.kit G.m_isinstance (sa_cons (se_fld (cs := fc_causes) G.f_causes (se_var 8)) (sa_cons (se_ty rfl G.m_tuple (by decide +kernel)) sa_nil))))) (sw_or (st_not (st_tru (se_isi G.kit G.m_isinstance (sa_cons (se_fld (cs := fc_conflicts) G.f_conflicts (se_var 8)) (sa_cons (se_ty rfl G.m_tuple (by decide +kernel)) sa_nil))))) (sw_or1 (st_ne (uu hr) (se_fld (cs := fc_many) G.f_many (se_var 8)) (se_var 1))))))
 (ss_one (s1_ret se_bl))
 ss_nil)
 (ss_one (s1_ret (se_and (se_eq (uu hr) (se_fld (cs := fc_causes) G.f_causes (se_var 8)) (se_tuple G.m_tuple (sa_cons (se_var 2) sa_nil))) (se_one (se_eq (uu hr) (se_fld (cs := fc_conflicts) G.f_conflicts (se_var 8)) (se_tuple G.m_tuple (sa_cons (se_var 3) sa_nil)))))))))))))))))))
abbrev s_law : Stmt := top 40
abbrev N_law : List Str := ["script"]
abbrev P_law : List Str := ["script"]
theorem sc_law : FnScope N_law P_law (defScope s_law) := ⟨rfl, rfl, rfl, by decide +kernel, rfl, by decide +kernel, by decide +kernel⟩
def tb_law : DS :=
 (sNox (sRet (dCall ct__law_asked 1 (aCons (dVar 0) aNil))))
theorem bd_law {P : Program} {w : World} {K : PySem.W.Frag} {mg : Str → Option Value} {base : Heap} (G : Gm K mg) (F__law_asked : FnC P w K mg base 9 "_law_asked" 1 ct__law_asked) : BodyC P w K mg base N_law "law" (defScope s_law) (defBody s_law) 9 tb_law :=
 fun f cd A outer s H E hr tk hp =>
 (ss_one (s1_try0 (ss_one (s1_ret (se_call F__law_asked takes00 (hr.mono (by decide)) (sa_cons (se_var 0) sa_nil))))))

end L2.MW.K49

namespace L2.MW.K49
open PySem PySem.Spec PyProof.Rows L2 L2.MW
def isT (d : D) (n : String) : Bool := match tyD [] d with
  | some (.ty a) => (a == n || (a == "bool" && n == "int"))
  | _ => false
theorem tyD_pl {d : D} (p : plB d = true) (h : DHp) : ∃ a, tyD h d = some (.ty a) ∧ tyD [] d = some (.ty a) ∧ a ∈ tys := by
  cases d <;> first | exact ⟨_, rfl, rfl, by decide⟩ | cases p
theorem isi_eq {d : D} {n : String} {h : DHp} {Q : DK} (p : plB d = true) (hn : n ∈ tys) : nIsi kcs [d, .ty n] h Q ↔ Q (.bl (isT d n)) h := by
  obtain ⟨a, e1, e2, ha⟩ := tyD_pl p h
  have e3 : isT d n = (a == n || (a == "bool" && n == "int")) := by unfold isT; rw [e2]
  have e4 : isaD kcs (.ty a) (.ty n) = some (a == n || (a == "bool" && n == "int")) := if_pos ⟨ha, hn⟩
  constructor
  · rintro ⟨x, c, t, b, e, ht, _, hb, q⟩
    cases e
    rw [e1] at ht
    cases ht
    have hb' : isaD kcs (.ty a) (.ty n) = some b := hb
    rw [e4] at hb'
    cases hb'
    rw [e3]; exact q
  · intro q
    rw [e3] at q
    exact ⟨_, _, _, _, rfl, e1, trivial, e4, q⟩
theorem isi_lt {d : D} {h : DHp} {Q : DK} (p : plB d = true) : nIsi kcs [d, .tup [.ty "list", .ty "tuple"]] h Q ↔ Q (.bl (isT d "list" || isT d "tuple")) h := by
  cases d <;> first
    | cases p; done
    | (constructor
       · rintro ⟨x, c, t, b, e, ht, _, hb, q⟩
         cases e; cases ht; cases hb.2
         exact q
       · intro q
         exact ⟨_, _, _, _, rfl, rfl, trivial, ⟨by intro y hy; simp at hy; rcases hy with rfl | rfl <;> trivial, rfl⟩, q⟩)
theorem isi_i {d : D} {h : DHp} {Q : DK} (p : plB d = true) : nIsi kcs [d, .ty "int"] h Q ↔ Q (.bl (isT d "int")) h := isi_eq p (by decide)
theorem isi_b {d : D} {h : DHp} {Q : DK} (p : plB d = true) : nIsi kcs [d, .ty "bool"] h Q ↔ Q (.bl (isT d "bool")) h := isi_eq p (by decide)
theorem isi_t {d : D} {h : DHp} {Q : DK} (p : plB d = true) : nIsi kcs [d, .ty "tuple"] h Q ↔ Q (.bl (isT d "tuple")) h := isi_eq p (by decide)
theorem isT_tup {d : D} (p : plB d = true) : isT d "tuple" = tupB d := by cases d <;> first | rfl | cases p
theorem rd_is_integer (ds : List D) (h : DHp) (X : DX) (Q : DK) (hn : ds.length = 1) (c : ct_is_integer ds h X Q) : tb_is_integer (endsD h X Q) (startD 1 ds) h := by
  obtain ⟨d, rfl, p, q⟩ := c
  have q' := rt_of (h0 := h) (X := X) q
  simp [tb_is_integer, startD, sSeq, sNil, sIf, sRet, sRetN, sSet, sAsg, sExpr, sNever, sFor, sNox, sBrk, sCont, sFldD, sAug, sAugS, dVar, dC, dOp, dI0, dII, dNeg, dInv, dAndV, dOrV, dNotV, dTst, dTru, dAnd, dOr, dNot, dIfE, dChn, dCall, dCallK, dMake, aNil, aCons, dTup, dLst, dLstH, dFldC, dCB, dBM, tgN, tgSub, iL, iT, iR1, iR2, DEnds.xx, dLc, dLcH, dYes, dSl, oNon, oSome, nI2, nTup, nLst, nLstH, mApp, wipeD, dIn, dIsN, dNotN, dAddH, dMulH, isi_i p, isi_b p]
  cases d <;> first | cases p; done | simp_all [isT, tyD, numB]
theorem rd_is_between (ds : List D) (h : DHp) (X : DX) (Q : DK) (hn : ds.length = 3) (c : ct_is_between ds h X Q) : tb_is_between (endsD h X Q) (startD 3 ds) h := by
  obtain ⟨d, lo, hi, rfl, p, q⟩ := c
  have q' := rt_of (h0 := h) (X := X) q
  simp [tb_is_between, startD, sSeq, sNil, sIf, sRet, sRetN, sSet, sAsg, sExpr, sNever, sFor, sNox, sBrk, sCont, sFldD, sAug, sAugS, dVar, dC, dOp, dI0, dII, dNeg, dInv, dAndV, dOrV, dNotV, dTst, dTru, dAnd, dOr, dNot, dIfE, dChn, dCall, dCallK, dMake, aNil, aCons, dTup, dLst, dLstH, dFldC, dCB, dBM, tgN, tgSub, iL, iT, iR1, iR2, DEnds.xx, dLc, dLcH, dYes, dSl, oNon, oSome, nI2, nTup, nLst, nLstH, mApp, wipeD, dIn, dIsN, dNotN, dAddH, dMulH, ct_is_integer, p]
  cases d with
  | int i =>
    simp [numB, btw] at q' ⊢
    by_cases h1 : lo ≤ i
    · exact .inr ⟨h1, by simpa [h1] using q'⟩
    · exact .inl ⟨by omega, by simpa [h1] using q'⟩
  | _ => simpa [numB, btw] using q'
theorem subs_step {n last : Int} {x : D} {r : List D} : subs n last (x :: r) = (btw x (last + 1) (n - 1) && subs n (iOf x) r) := rfl
theorem rd_is_subset (ds : List D) (h : DHp) (X : DX) (Q : DK) (hn : ds.length = 2) (c : ct_is_subset ds h X Q) : tb_is_subset (endsD h X Q) (startD 4 ds) h := by
  obtain ⟨d, n, rfl, ⟨p, p2⟩, q⟩ := c
  have q' := rt_of (h0 := h) (X := X) q
  simp [tb_is_subset, startD, sSeq, sNil, sIf, sRet, sRetN, sSet, sAsg, sExpr, sNever, sFor, sNox, sBrk, sCont, sFldD, sAug, sAugS, dVar, dC, dOp, dI0, dII, dNeg, dInv, dAndV, dOrV, dNotV, dTst, dTru, dAnd, dOr, dNot, dIfE, dChn, dCall, dCallK, dMake, aNil, aCons, dTup, dLst, dLstH, dFldC, dCB, dBM, tgN, tgSub, iL, iT, iR1, iR2, DEnds.xx, dLc, dLcH, dYes, dSl, oNon, oSome, nI2, nTup, nLst, nLstH, mApp, wipeD, dIn, dIsN, dNotN, dAddH, dMulH, isi_t p, tru_bl, tru_int, add_int, add_tup, mul_int, len_tup, len_lst, len_fz, ne_int, eq_int, ne_bl, eq_bl, int_int, int_bl, ty_end, asL_lst, asL_fz, asS_tup, asS_lst, asS_fz, tgs_cons_eq, tgs_nil_eq, tg_tup_eq, tg_lst_eq, at_end, set_end, asS_end, asL_end, at_pre, set_pre, ty_pre, dTupRev, isT_tup p]
  cases d with
  | tup l =>
    refine .inr ⟨rfl, l, rfl, ?_⟩
    have p2' := p2 l rfl
    refine forW_inv l (fun i σ h' => h' = h ∧ ∃ last o, σ = [some (.tup l), some (.int n), some (.int last), o] ∧ subs n (-1) l = subs n last (l.drop i)) ⟨rfl, -1, none, rfl, rfl⟩ (fun _ _ _ _ _ => trivial) ?_ ?_
    · rintro i x σ h' N hx ⟨rfl, last, o, rfl, e⟩ hN
      have hl : i < l.length := (List.getElem?_eq_some_iff.mp hx).1
      have hd : l.drop i = x :: l.drop (i + 1) := by
        rw [List.drop_eq_getElem_cons hl]
        rw [List.getElem?_eq_getElem hl] at hx
        cases hx; rfl
      rw [hd, subs_step] at e
      have px := p2' x (List.mem_of_getElem? hx)
      simp [sSeq, sNil, sIf, sRet, sRetN, sSet, sAsg, sExpr, sNever, sFor, sNox, sBrk, sCont, sFldD, sAug, sAugS, dVar, dC, dOp, dI0, dII, dNeg, dInv, dAndV, dOrV, dNotV, dTst, dTru, dAnd, dOr, dNot, dIfE, dChn, dCall, dCallK, dMake, aNil, aCons, dTup, dLst, dLstH, dFldC, dCB, dBM, tgN, tgSub, iL, iT, iR1, iR2, DEnds.xx, dLc, dLcH, dYes, dSl, oNon, oSome, nI2, nTup, nLst, nLstH, mApp, wipeD, dIn, dIsN, dNotN, dAddH, dMulH, ct_is_between, px, tru_bl, tru_int, add_int, add_tup, mul_int, len_tup, len_lst, len_fz, ne_int, eq_int, ne_bl, eq_bl, int_int, int_bl, ty_end, asL_lst, asL_fz, asS_tup, asS_lst, asS_fz, tgs_cons_eq, tgs_nil_eq, tg_tup_eq, tg_lst_eq, at_end, set_end, asS_end, asL_end, at_pre, set_pre, ty_pre, dTupRev]
      refine ⟨x, _, _, ⟨rfl, rfl, rfl⟩, px, fun hb => ?_, fun hb => ?_⟩
      · have : subB (.tup l) n = false := by show subs n (-1) l = false; rw [e, hb]; rfl
        rw [this] at q'; exact q'
      · refine hN _ _ ⟨rfl, iOf x, some x, ?_, ?_⟩
        · cases x <;> first | rfl | (simp [btw] at hb)
        · rw [e, hb]; simp
    · rintro σ h' ⟨rfl, last, o, rfl, e⟩
      have : subB (.tup l) n = true := by show subs n (-1) l = true; rw [e]; simp [subs]
      rw [this] at q'
      simpa [sSeq, sNil, sIf, sRet, sRetN, sSet, sAsg, sExpr, sNever, sFor, sNox, sBrk, sCont, sFldD, sAug, sAugS, dVar, dC, dOp, dI0, dII, dNeg, dInv, dAndV, dOrV, dNotV, dTst, dTru, dAnd, dOr, dNot, dIfE, dChn, dCall, dCallK, dMake, aNil, aCons, dTup, dLst, dLstH, dFldC, dCB, dBM, tgN, tgSub, iL, iT, iR1, iR2, DEnds.xx, dLc, dLcH, dYes, dSl, oNon, oSome, nI2, nTup, nLst, nLstH, mApp, wipeD, dIn, dIsN, dNotN, dAddH, dMulH] using q'
  | _ => simpa [tupB, subB] using q'
end L2.MW.K49

namespace L2.MW.K49
open PySem PySem.Spec PyProof.Rows L2 L2.MW
theorem maskN_app (a : List Nat) (x : Nat) : maskN (a ++ [x]) = maskN a ||| 2 ^ x := by unfold maskN; rw [List.foldl_append]; rfl
theorem maskN_bit : ∀ (ns : List Nat) (k : Nat), (maskN ns).testBit k = ns.any fun x => x == k := by
  have gen : ∀ (ns : List Nat) (m k : Nat), (ns.foldl (fun m x => m ||| 2 ^ x) m).testBit k = (m.testBit k || ns.any fun x => x == k) := by
    intro ns
    induction ns with
    | nil => intro m k; simp
    | cons x r ih =>
      intro m k
      rw [List.foldl_cons, ih, Nat.testBit_or, Nat.testBit_two_pow, List.any_cons, Bool.or_assoc]
      simp [Bool.beq_eq_decide_eq]
  intro ns k
  unfold maskN
  rw [gen]; simp
theorem rd_mask_of (ds : List D) (h : DHp) (X : DX) (Q : DK) (hn : ds.length = 1) (c : ct_mask_of ds h X Q) : tb_mask_of (endsD h X Q) (startD 3 ds) h := by
  obtain ⟨ns, rfl, hb, q⟩ := c
  have q' := rt_of (h0 := h) (X := X) q
  simp [tb_mask_of, startD, sSeq, sNil, sIf, sRet, sRetN, sSet, sAsg, sExpr, sNever, sFor, sNox, sBrk, sCont, sFldD, sAug, sAugS, dVar, dC, dOp, dI0, dII, dNeg, dInv, dAndV, dOrV, dNotV, dTst, dTru, dAnd, dOr, dNot, dIfE, dChn, dCall, dCallK, dMake, aNil, aCons, dTup, dLst, dLstH, dFldC, dCB, dBM, tgN, tgSub, iL, iT, iR1, iR2, DEnds.xx, dLc, dLcH, dYes, dSl, oNon, oSome, nI2, nTup, nLst, nLstH, mApp, wipeD, dIn, dIsN, dNotN, dAddH, dMulH, tru_bl, tru_int, add_int, add_tup, mul_int, len_tup, len_lst, len_fz, ne_int, eq_int, ne_bl, eq_bl, int_int, int_bl, ty_end, asL_lst, asL_fz, asS_tup, asS_lst, asS_fz, tgs_cons_eq, tgs_nil_eq, tg_tup_eq, tg_lst_eq, at_end, set_end, asS_end, asL_end, at_pre, set_pre, ty_pre, dTupRev]
  refine forW_inv (nats ns) (fun i σ h' => h' = h ∧ ∃ o, σ = [some (.tup (nats ns)), some (.int (maskN (ns.take i) : Nat)), o]) ⟨rfl, none, rfl⟩ (fun _ _ _ _ _ => trivial) ?_ ?_
  · rintro i x σ h' N hx ⟨rfl, o, rfl⟩ hN
    obtain ⟨a, ha, rfl, ht, hd, hm⟩ := get_map hx
    have hb' := hb a hm
    simp [sSeq, sNil, sIf, sRet, sRetN, sSet, sAsg, sExpr, sNever, sFor, sNox, sBrk, sCont, sFldD, sAug, sAugS, dVar, dC, dOp, dI0, dII, dNeg, dInv, dAndV, dOrV, dNotV, dTst, dTru, dAnd, dOr, dNot, dIfE, dChn, dCall, dCallK, dMake, aNil, aCons, dTup, dLst, dLstH, dFldC, dCB, dBM, tgN, tgSub, iL, iT, iR1, iR2, DEnds.xx, dLc, dLcH, dYes, dSl, oNon, oSome, nI2, nTup, nLst, nLstH, mApp, wipeD, dIn, dIsN, dNotN, dAddH, dMulH, tru_bl, tru_int, add_int, add_tup, mul_int, len_tup, len_lst, len_fz, ne_int, eq_int, ne_bl, eq_bl, int_int, int_bl, ty_end, asL_lst, asL_fz, asS_tup, asS_lst, asS_fz, tgs_cons_eq, tgs_nil_eq, tg_tup_eq, tg_lst_eq, at_end, set_end, asS_end, asL_end, at_pre, set_pre, ty_pre, dTupRev]
    refine ⟨⟨by omega, by omega, by decide⟩, hN _ _ ⟨rfl, some (.int a), ?_⟩⟩
    rw [ht, maskN_app, show ((2 : Int) ^ a) = ((2 ^ a : Nat) : Int) by push_cast; rfl, bOr]
  · rintro σ h' ⟨rfl, o, rfl⟩
    have e : ns.take (nats ns).length = ns := by unfold nats; rw [List.length_map, List.take_length]
    rw [e]
    simpa [sSeq, sNil, sIf, sRet, sRetN, sSet, sAsg, sExpr, sNever, sFor, sNox, sBrk, sCont, sFldD, sAug, sAugS, dVar, dC, dOp, dI0, dII, dNeg, dInv, dAndV, dOrV, dNotV, dTst, dTru, dAnd, dOr, dNot, dIfE, dChn, dCall, dCallK, dMake, aNil, aCons, dTup, dLst, dLstH, dFldC, dCB, dBM, tgN, tgSub, iL, iT, iR1, iR2, DEnds.xx, dLc, dLcH, dYes, dSl, oNon, oSome, nI2, nTup, nLst, nLstH, mApp, wipeD, dIn, dIsN, dNotN, dAddH, dMulH] using q'
theorem rd_is_pair (ds : List D) (h : DHp) (X : DX) (Q : DK) (hn : ds.length = 3) (c : ct_is_pair ds h X Q) : tb_is_pair (endsD h X Q) (startD 3 ds) h := by
  obtain ⟨⟨a, b⟩, n, r, rfl, h1, h2, h3, h4, q⟩ := c
  have q' := rt_of (h0 := h) (X := X) q
  have i1 : isT (.tup [.int (a : Int), .int (b : Int)]) "tuple" = true := rfl
  have x1 : btw (.int (a : Int)) 0 ((n : Int) - 1) = true := by simp [btw]; omega
  have x2 : btw (.int (b : Int)) 0 ((n : Int) - 1) = true := by simp [btw]; omega
  simp [tb_is_pair, startD, sSeq, sNil, sIf, sRet, sRetN, sSet, sAsg, sExpr, sNever, sFor, sNox, sBrk, sCont, sFldD, sAug, sAugS, dVar, dC, dOp, dI0, dII, dNeg, dInv, dAndV, dOrV, dNotV, dTst, dTru, dAnd, dOr, dNot, dIfE, dChn, dCall, dCallK, dMake, aNil, aCons, dTup, dLst, dLstH, dFldC, dCB, dBM, tgN, tgSub, iL, iT, iR1, iR2, DEnds.xx, dLc, dLcH, dYes, dSl, oNon, oSome, nI2, nTup, nLst, nLstH, mApp, wipeD, dIn, dIsN, dNotN, dAddH, dMulH, tru_bl, tru_int, add_int, add_tup, mul_int, len_tup, len_lst, len_fz, ne_int, eq_int, ne_bl, eq_bl, int_int, int_bl, ty_end, asL_lst, asL_fz, asS_tup, asS_lst, asS_fz, tgs_cons_eq, tgs_nil_eq, tg_tup_eq, tg_lst_eq, at_end, set_end, asS_end, asL_end, at_pre, set_pre, ty_pre, dTupRev, isi_t (d := prN (a, b)) rfl, show isT (prN (a, b)) "tuple" = true from rfl]
  simp [prN, sSeq, sNil, sIf, sRet, sRetN, sSet, sAsg, sExpr, sNever, sFor, sNox, sBrk, sCont, sFldD, sAug, sAugS, dVar, dC, dOp, dI0, dII, dNeg, dInv, dAndV, dOrV, dNotV, dTst, dTru, dAnd, dOr, dNot, dIfE, dChn, dCall, dCallK, dMake, aNil, aCons, dTup, dLst, dLstH, dFldC, dCB, dBM, tgN, tgSub, iL, iT, iR1, iR2, DEnds.xx, dLc, dLcH, dYes, dSl, oNon, oSome, nI2, nTup, nLst, nLstH, mApp, wipeD, dIn, dIsN, dNotN, dAddH, dMulH, tru_bl, tru_int, add_int, add_tup, mul_int, len_tup, len_lst, len_fz, ne_int, eq_int, ne_bl, eq_bl, int_int, int_bl, ty_end, asL_lst, asL_fz, asS_tup, asS_lst, asS_fz, tgs_cons_eq, tgs_nil_eq, tg_tup_eq, tg_lst_eq, at_end, set_end, asS_end, asL_end, at_pre, set_pre, ty_pre, dTupRev, ix_tup atI_0, ix_tup atI_1, ct_is_between]
  refine ⟨.int a, _, _, ⟨rfl, rfl, rfl⟩, rfl, .inr ⟨x1, .int b, _, _, ⟨rfl, rfl, rfl⟩, rfl, .inr ⟨x2, ?_⟩⟩⟩
  by_cases hab : a < b
  · exact .inr ⟨hab, q'⟩
  · refine .inl ⟨by omega, .inr ⟨by simp at h3; omega, .inl ⟨?_, q'⟩⟩⟩
    cases r with
    | false => rfl
    | true => exact absurd (h4 rfl) hab
theorem le_pair {a b : Nat × Nat} (h : ltP b a) : leNs [(a.1 : Int), (a.2 : Int)] [(b.1 : Int), (b.2 : Int)] = false := by
  unfold leNs ltP at *
  have e1 : min [(a.1 : Int), (a.2 : Int)].length [(b.1 : Int), (b.2 : Int)].length = 2 := rfl
  rw [e1]
  simp [Ob.lexAt]
  split <;> omega
theorem prN_ints (p : Nat × Nat) : prN p = .tup (([(p.1 : Int), (p.2 : Int)] : List Int).map D.int) := rfl
theorem rd_first_wrong_pair (ds : List D) (h : DHp) (X : DX) (Q : DK) (hn : ds.length = 3) (c : ct_first_wrong_pair ds h X Q) : tb_first_wrong_pair (endsD h X Q) (startD 5 ds) h := by
  obtain ⟨ps, n, r, rfl, ok, h4, q⟩ := c
  have q' := rt_of (h0 := h) (X := X) q
  simp [tb_first_wrong_pair, startD, sSeq, sNil, sIf, sRet, sRetN, sSet, sAsg, sExpr, sNever, sFor, sNox, sBrk, sCont, sFldD, sAug, sAugS, dVar, dC, dOp, dI0, dII, dNeg, dInv, dAndV, dOrV, dNotV, dTst, dTru, dAnd, dOr, dNot, dIfE, dChn, dCall, dCallK, dMake, aNil, aCons, dTup, dLst, dLstH, dFldC, dCB, dBM, tgN, tgSub, iL, iT, iR1, iR2, DEnds.xx, dLc, dLcH, dYes, dSl, oNon, oSome, nI2, nTup, nLst, nLstH, mApp, wipeD, dIn, dIsN, dNotN, dAddH, dMulH, tru_bl, tru_int, add_int, add_tup, mul_int, len_tup, len_lst, len_fz, ne_int, eq_int, ne_bl, eq_bl, int_int, int_bl, ty_end, asL_lst, asL_fz, asS_tup, asS_lst, asS_fz, tgs_cons_eq, tgs_nil_eq, tg_tup_eq, tg_lst_eq, at_end, set_end, asS_end, asL_end, at_pre, set_pre, ty_pre, dTupRev, isi_lt (d := .lst (prs ps)) rfl, show isT (.lst (prs ps)) "list" = true from rfl]
  refine ⟨small (by decide), ?_⟩
  have hlen : (enD 0 (prs ps)).length = ps.length := by rw [enD_length]; unfold prs; rw [List.length_map]
  refine forW_inv (enD 0 (prs ps)) (fun i σ h' => h' = h ∧ ∃ o o2, σ = [some (.lst (prs ps)), some (.int n), some (.bl r), o, o2]) ⟨rfl, none, none, rfl⟩ (fun _ _ _ _ _ => rfl) ?_ ?_
  · rintro i x σ h' N hx ⟨rfl, o, o2, rfl⟩ hN
    obtain ⟨y, hy, rfl⟩ := enD_get 0 _ i x hx
    obtain ⟨p, hp, rfl, ht, hd, hm⟩ := get_map hy
    obtain ⟨b1, b2, b3⟩ := ok.bd p hm
    have hN' := hN [some (.lst (prs ps)), some (.int n), some (.bl r), some (.int ((0 + i : Nat) : Int)), some (prN p)] h' ⟨rfl, _, _, rfl⟩
    simp only [sSeq, sNil, sIf, sRet, sRetN, sSet, sAsg, sExpr, sNever, sFor, sNox, sBrk, sCont, sFldD, sAug, sAugS, dVar, dC, dOp, dI0, dII, dNeg, dInv, dAndV, dOrV, dNotV, dTst, dTru, dAnd, dOr, dNot, dIfE, dChn, dCall, dCallK, dMake, aNil, aCons, dTup, dLst, dLstH, dFldC, dCB, dBM, tgN, tgSub, iL, iT, iR1, iR2, DEnds.xx, dLc, dLcH, dYes, dSl, oNon, oSome, nI2, nTup, nLst, nLstH, mApp, wipeD, dIn, dIsN, dNotN, dAddH, dMulH, tru_bl, tru_int, add_int, add_tup, mul_int, len_tup, len_lst, len_fz, ne_int, eq_int, ne_bl, eq_bl, int_int, int_bl, ty_end, asL_lst, asL_fz, asS_tup, asS_lst, asS_fz, tgs_cons_eq, tgs_nil_eq, tg_tup_eq, tg_lst_eq, at_end, set_end, asS_end, asL_end, at_pre, set_pre, ty_pre, dTupRev, List.getElem?_cons_zero, List.getElem?_cons_succ, Option.some.injEq, exists_eq_left', exists_eq_left, exists_and_left, exists_and_right, and_assoc, D.int.injEq, D.bl.injEq, D.str.injEq, D.tup.injEq, D.lst.injEq, D.fz.injEq, D.ref.injEq, HB.lst.injEq, List.cons.injEq, and_true, true_and, List.set_cons_zero, List.set_cons_succ, List.map_cons, List.map_nil, List.length_cons, List.length_nil, Nat.reduceAdd, Nat.reduceSub, Nat.sub_self, Nat.zero_add, List.replicate_zero, List.replicate_succ, List.append_nil, List.cons_append, List.nil_append, decide_eq_true_eq, decide_eq_false_iff_not, Bool.not_eq_true', Bool.not_eq_false', Bool.true_eq_false, Bool.false_eq_true, false_implies, forall_const, true_implies, reduceCtorEq, and_false, false_and, Bool.not_true, Bool.not_false, if_true, if_false]
    rw [Nat.zero_add] at hN'
    refine ⟨p, n, r, rfl, b1, b2, b3, fun hr => h4 hr p hm, true, rfl, (fun z => nomatch z), fun _ => ⟨fun hi => ?_, fun _ => hN'⟩⟩
    obtain ⟨k, rfl⟩ : ∃ k, i = k + 1 := ⟨i - 1, by omega⟩
    have hk : k < ps.length := by have := (List.getElem?_eq_some_iff.mp hp).1; omega
    have hk2 : ps[k]? = some ps[k] := List.getElem?_eq_getElem hk
    have hlt : ltP ps[k] p := by
      obtain ⟨hk1, e1⟩ := List.getElem?_eq_some_iff.mp hp
      rw [← e1]
      exact List.pairwise_iff_getElem.mp ok.up k (k + 1) hk hk1 (Nat.lt_succ_self _)
    have e2 : atI (prs ps) (((k + 1 : Nat) : Int) - 1) = some (prN ps[k]) := by
      have e3 : ((k + 1 : Nat) : Int) - 1 = (k : Int) := by omega
      rw [e3]
      refine atI_nat ?_
      unfold prs
      rw [List.getElem?_map, hk2]; rfl
    refine ix_of rfl e2 ⟨_, _, prN_ints p, prN_ints ps[k], _, rfl, fun z => ?_, fun _ => hN'⟩
    rw [le_pair hlt] at z
    cases z
  · rintro σ h' ⟨rfl, o, o2, rfl⟩
    simpa [sSeq, sNil, sIf, sRet, sRetN, sSet, sAsg, sExpr, sNever, sFor, sNox, sBrk, sCont, sFldD, sAug, sAugS, dVar, dC, dOp, dI0, dII, dNeg, dInv, dAndV, dOrV, dNotV, dTst, dTru, dAnd, dOr, dNot, dIfE, dChn, dCall, dCallK, dMake, aNil, aCons, dTup, dLst, dLstH, dFldC, dCB, dBM, tgN, tgSub, iL, iT, iR1, iR2, DEnds.xx, dLc, dLcH, dYes, dSl, oNon, oSome, nI2, nTup, nLst, nLstH, mApp, wipeD, dIn, dIsN, dNotN, dAddH, dMulH] using q'
/-! ### leading masks -/
/-- the order of a rank: bit m of e only below -/
def Below (r : Nat → Nat) (ms : List Nat) : Prop := ∀ e m k : Nat, ms[e]? = some m → m.testBit k = true → r k < r e
theorem Below.set {r : Nat → Nat} {ms : List Nat} {e v : Nat} (b : Below r ms) (h : ∀ k, v.testBit k = true → r k < r e) : Below r (ms.set e v) := by
  intro e' m k hm hk
  by_cases q : e = e'
  · subst q
    have hl : e < ms.length := by have := (List.getElem?_eq_some_iff.mp hm).1; rwa [List.length_set] at this
    rw [List.getElem?_set_self hl] at hm
    cases hm
    exact h k hk
  · rw [List.getElem?_set_ne q] at hm
    exact b e' m k hm hk
theorem nats_set {ms : List Nat} {e v : Nat} : (nats ms).set e (.int (v : Int)) = nats (ms.set e v) := by unfold nats; rw [List.map_set]
theorem nats_at {ms : List Nat} {e v : Nat} (h : ms[e]? = some v) : atI (nats ms) (e : Int) = some (.int (v : Int)) := by
  refine atI_nat ?_
  unfold nats
  rw [List.getElem?_map, h]; rfl
theorem nats_len {ms : List Nat} : (nats ms).length = ms.length := by unfold nats; rw [List.length_map]
theorem Bds_nats {m : Nat} {l : List Nat} : Bds m (nats l) := Bds_all fun x hx => by
  obtain ⟨a, _, rfl⟩ := List.mem_map.mp hx
  trivial
theorem get_lt {α : Type} {l : List α} {i : Nat} (h : i < l.length) : ∃ a, l[i]? = some a := ⟨_, List.getElem?_eq_getElem h⟩
theorem rd_leading_masks (ds : List D) (h : DHp) (X : DX) (Q : DK) (hds : ds.length = 2) (c : ct_leading_masks ds h X Q) : tb_leading_masks (endsD h X Q) (startD 7 ds) h := by
  obtain ⟨ps, n, rfl, hn, ok, ⟨r, hr⟩, q⟩ := c
  simp only [tb_leading_masks, startD, sSeq, sNil, sIf, sRet, sRetN, sSet, sAsg, sExpr, sNever, sFor, sNox, sBrk, sCont, sFldD, sAug, sAugS, dVar, dC, dOp, dI0, dII, dNeg, dInv, dAndV, dOrV, dNotV, dTst, dTru, dAnd, dOr, dNot, dIfE, dChn, dCall, dCallK, dMake, aNil, aCons, dTup, dLst, dLstH, dFldC, dCB, dBM, tgN, tgSub, iL, iT, iR1, iR2, DEnds.xx, dLc, dLcH, dYes, dSl, oNon, oSome, nI2, nTup, nLst, nLstH, mApp, wipeD, dIn, dIsN, dNotN, dAddH, dMulH, tru_bl, tru_int, add_int, add_tup, mul_int, len_tup, len_lst, len_fz, ne_int, eq_int, ne_bl, eq_bl, int_int, int_bl, ty_end, asL_lst, asL_fz, asS_tup, asS_lst, asS_fz, tgs_cons_eq, tgs_nil_eq, tg_tup_eq, tg_lst_eq, at_end, set_end, asS_end, asL_end, at_pre, set_pre, ty_pre, dTupRev, List.getElem?_cons_zero, List.getElem?_cons_succ, Option.some.injEq, exists_eq_left', exists_eq_left, exists_and_left, exists_and_right, and_assoc, D.int.injEq, D.bl.injEq, D.str.injEq, D.tup.injEq, D.lst.injEq, D.fz.injEq, D.ref.injEq, HB.lst.injEq, List.cons.injEq, and_true, true_and, List.set_cons_zero, List.set_cons_succ, List.map_cons, List.map_nil, List.length_cons, List.length_nil, Nat.reduceAdd, Nat.reduceSub, Nat.sub_self, Nat.zero_add, List.replicate_zero, List.replicate_succ, List.append_nil, List.cons_append, List.nil_append, decide_eq_true_eq, decide_eq_false_iff_not, Bool.not_eq_true', Bool.not_eq_false', Bool.true_eq_false, Bool.false_eq_true, false_implies, forall_const, true_implies, reduceCtorEq, and_false, false_and, Bool.not_true, Bool.not_false, if_true, if_false]
  have e0 : (List.replicate ((n : Nat) : Int).toNat [D.int 0]).flatten = nats (List.replicate n 0) := by
    rw [Int.toNat_natCast]
    unfold nats
    rw [List.map_replicate]
    clear q hn hr ok hds
    induction n with
    | zero => rfl
    | succ n ih => rw [List.replicate_succ, List.flatten_cons, ih, List.replicate_succ]; rfl
  refine ⟨small (by decide), [.int 0], rfl, by omega, by omega, by rw [Int.toNat_natCast]; exact small (by show 1 * n ≤ _; omega), ?_⟩
  rw [e0]
  let J : DSt → DHp → Prop := fun σ h' => ∃ o3 o4 o5 o6 ms, σ = [some (.int n), some (.lst (prs ps)), some (.ref h.length), o3, o4, o5, o6] ∧ h' = h ++ [.lst (nats ms)] ∧ ms.length = n ∧ Below r ms
  refine forW_inv (prs ps) (fun i σ h' => J σ h') ⟨none, none, none, none, _, rfl, rfl, by simp, ?_⟩ (fun _ _ _ _ _ => rfl) ?_ ?_
  · intro e m k hm hk
    have : m = 0 := by
      have := List.mem_of_getElem? hm
      exact (List.mem_replicate.mp this).2
    subst this
    simp at hk
  · rintro i x σ h' N hx ⟨o3, o4, o5, o6, ms, rfl, rfl, hl, hB⟩ hN
    obtain ⟨p, hp, rfl, ht, hd, hm⟩ := get_map hx
    obtain ⟨b1, b2, b3⟩ := ok.bd p hm
    obtain ⟨v, hv⟩ := get_lt (l := ms) (i := p.2) (by omega)
    simp only [prN, sSeq, sNil, sIf, sRet, sRetN, sSet, sAsg, sExpr, sNever, sFor, sNox, sBrk, sCont, sFldD, sAug, sAugS, dVar, dC, dOp, dI0, dII, dNeg, dInv, dAndV, dOrV, dNotV, dTst, dTru, dAnd, dOr, dNot, dIfE, dChn, dCall, dCallK, dMake, aNil, aCons, dTup, dLst, dLstH, dFldC, dCB, dBM, tgN, tgSub, iL, iT, iR1, iR2, DEnds.xx, dLc, dLcH, dYes, dSl, oNon, oSome, nI2, nTup, nLst, nLstH, mApp, wipeD, dIn, dIsN, dNotN, dAddH, dMulH, tru_bl, tru_int, add_int, add_tup, mul_int, len_tup, len_lst, len_fz, ne_int, eq_int, ne_bl, eq_bl, int_int, int_bl, ty_end, asL_lst, asL_fz, asS_tup, asS_lst, asS_fz, tgs_cons_eq, tgs_nil_eq, tg_tup_eq, tg_lst_eq, at_end, set_end, asS_end, asL_end, at_pre, set_pre, ty_pre, dTupRev, List.getElem?_cons_zero, List.getElem?_cons_succ, Option.some.injEq, exists_eq_left', exists_eq_left, exists_and_left, exists_and_right, and_assoc, D.int.injEq, D.bl.injEq, D.str.injEq, D.tup.injEq, D.lst.injEq, D.fz.injEq, D.ref.injEq, HB.lst.injEq, List.cons.injEq, and_true, true_and, List.set_cons_zero, List.set_cons_succ, List.map_cons, List.map_nil, List.length_cons, List.length_nil, Nat.reduceAdd, Nat.reduceSub, Nat.sub_self, Nat.zero_add, List.replicate_zero, List.replicate_succ, List.append_nil, List.cons_append, List.nil_append, decide_eq_true_eq, decide_eq_false_iff_not, Bool.not_eq_true', Bool.not_eq_false', Bool.true_eq_false, Bool.false_eq_true, false_implies, forall_const, true_implies, reduceCtorEq, and_false, false_and, Bool.not_true, Bool.not_false, if_true, if_false]
    have ix : ixN (nats ms).length (p.2 : Int) = some p.2 := by rw [nats_len]; exact ixN_nat (by omega)
    refine ⟨_, ix, .int v, by unfold nats; rw [List.getElem?_map, hv]; rfl, ⟨by omega, by omega, by decide⟩, _, rfl, ix, ?_⟩
    refine hN _ _ ⟨_, _, _, _, ms.set p.2 (v ||| 2 ^ p.1), rfl, ?_, by rw [List.length_set]; exact hl, hB.set fun k hk => ?_⟩
    · rw [bShl, Int.toNat_natCast, bOr, nats_set]
    · rw [Nat.testBit_or, Nat.testBit_two_pow] at hk
      rcases Bool.or_eq_true_iff.mp hk with hk | hk
      · exact hB _ _ _ hv hk
      · have := of_decide_eq_true hk
        subst this
        exact hr p hm
  · rintro σ h' ⟨o3, o4, o5, o6, ms, rfl, rfl, hl, hB⟩
    simp only [sSeq, sNil, sIf, sRet, sRetN, sSet, sAsg, sExpr, sNever, sFor, sNox, sBrk, sCont, sFldD, sAug, sAugS, dVar, dC, dOp, dI0, dII, dNeg, dInv, dAndV, dOrV, dNotV, dTst, dTru, dAnd, dOr, dNot, dIfE, dChn, dCall, dCallK, dMake, aNil, aCons, dTup, dLst, dLstH, dFldC, dCB, dBM, tgN, tgSub, iL, iT, iR1, iR2, DEnds.xx, dLc, dLcH, dYes, dSl, oNon, oSome, nI2, nTup, nLst, nLstH, mApp, wipeD, dIn, dIsN, dNotN, dAddH, dMulH, tru_bl, tru_int, add_int, add_tup, mul_int, len_tup, len_lst, len_fz, ne_int, eq_int, ne_bl, eq_bl, int_int, int_bl, ty_end, asL_lst, asL_fz, asS_tup, asS_lst, asS_fz, tgs_cons_eq, tgs_nil_eq, tg_tup_eq, tg_lst_eq, at_end, set_end, asS_end, asL_end, at_pre, set_pre, ty_pre, dTupRev, List.getElem?_cons_zero, List.getElem?_cons_succ, Option.some.injEq, exists_eq_left', exists_eq_left, exists_and_left, exists_and_right, and_assoc, D.int.injEq, D.bl.injEq, D.str.injEq, D.tup.injEq, D.lst.injEq, D.fz.injEq, D.ref.injEq, HB.lst.injEq, List.cons.injEq, and_true, true_and, List.set_cons_zero, List.set_cons_succ, List.map_cons, List.map_nil, List.length_cons, List.length_nil, Nat.reduceAdd, Nat.reduceSub, Nat.sub_self, Nat.zero_add, List.replicate_zero, List.replicate_succ, List.append_nil, List.cons_append, List.nil_append, decide_eq_true_eq, decide_eq_false_iff_not, Bool.not_eq_true', Bool.not_eq_false', Bool.true_eq_false, Bool.false_eq_true, false_implies, forall_const, true_implies, reduceCtorEq, and_false, false_and, Bool.not_true, Bool.not_false, if_true, if_false]
    refine ⟨rgOk (by omega), ?_⟩
    rw [Int.toNat_natCast]
    refine forW_inv (rgD 0 n) (fun i σ h' => J σ h') ⟨_, _, _, _, ms, rfl, rfl, hl, hB⟩ (fun _ _ _ _ _ => trivial) ?_ ?_
    · rintro i x σ h' N hx ⟨o3, o4, o5, o6, ms, rfl, rfl, hl, hB⟩ hN
      obtain ⟨rfl, hi⟩ := rg_get hx
      simp only [sSeq, sNil, sIf, sRet, sRetN, sSet, sAsg, sExpr, sNever, sFor, sNox, sBrk, sCont, sFldD, sAug, sAugS, dVar, dC, dOp, dI0, dII, dNeg, dInv, dAndV, dOrV, dNotV, dTst, dTru, dAnd, dOr, dNot, dIfE, dChn, dCall, dCallK, dMake, aNil, aCons, dTup, dLst, dLstH, dFldC, dCB, dBM, tgN, tgSub, iL, iT, iR1, iR2, DEnds.xx, dLc, dLcH, dYes, dSl, oNon, oSome, nI2, nTup, nLst, nLstH, mApp, wipeD, dIn, dIsN, dNotN, dAddH, dMulH, tru_bl, tru_int, add_int, add_tup, mul_int, len_tup, len_lst, len_fz, ne_int, eq_int, ne_bl, eq_bl, int_int, int_bl, ty_end, asL_lst, asL_fz, asS_tup, asS_lst, asS_fz, tgs_cons_eq, tgs_nil_eq, tg_tup_eq, tg_lst_eq, at_end, set_end, asS_end, asL_end, at_pre, set_pre, ty_pre, dTupRev, List.getElem?_cons_zero, List.getElem?_cons_succ, Option.some.injEq, exists_eq_left', exists_eq_left, exists_and_left, exists_and_right, and_assoc, D.int.injEq, D.bl.injEq, D.str.injEq, D.tup.injEq, D.lst.injEq, D.fz.injEq, D.ref.injEq, HB.lst.injEq, List.cons.injEq, and_true, true_and, List.set_cons_zero, List.set_cons_succ, List.map_cons, List.map_nil, List.length_cons, List.length_nil, Nat.reduceAdd, Nat.reduceSub, Nat.sub_self, Nat.zero_add, List.replicate_zero, List.replicate_succ, List.append_nil, List.cons_append, List.nil_append, decide_eq_true_eq, decide_eq_false_iff_not, Bool.not_eq_true', Bool.not_eq_false', Bool.true_eq_false, Bool.false_eq_true, false_implies, forall_const, true_implies, reduceCtorEq, and_false, false_and, Bool.not_true, Bool.not_false, if_true, if_false]
      refine ⟨rgOk (by omega), ?_⟩
      rw [Int.toNat_natCast]
      refine forW_inv (rgD 0 n) (fun _ σ h' => ∃ o3 o4 o6 ms, σ = [some (.int n), some (.lst (prs ps)), some (.ref h.length), o3, o4, some (.int i), o6] ∧ h' = h ++ [.lst (nats ms)] ∧ ms.length = n ∧ Below r ms) ⟨_, _, _, ms, rfl, rfl, hl, hB⟩ (fun _ _ _ _ _ => trivial) ?_ ?_
      · rintro e x σ h' N hx ⟨o3, o4, o6, ms, rfl, rfl, hl, hB⟩ hN
        obtain ⟨rfl, he⟩ := rg_get hx
        obtain ⟨v, hv⟩ := get_lt (l := ms) (i := e) (by omega)
        obtain ⟨u, hu⟩ := get_lt (l := ms) (i := i) (by omega)
        simp only [sSeq, sNil, sIf, sRet, sRetN, sSet, sAsg, sExpr, sNever, sFor, sNox, sBrk, sCont, sFldD, sAug, sAugS, dVar, dC, dOp, dI0, dII, dNeg, dInv, dAndV, dOrV, dNotV, dTst, dTru, dAnd, dOr, dNot, dIfE, dChn, dCall, dCallK, dMake, aNil, aCons, dTup, dLst, dLstH, dFldC, dCB, dBM, tgN, tgSub, iL, iT, iR1, iR2, DEnds.xx, dLc, dLcH, dYes, dSl, oNon, oSome, nI2, nTup, nLst, nLstH, mApp, wipeD, dIn, dIsN, dNotN, dAddH, dMulH, tru_bl, tru_int, add_int, add_tup, mul_int, len_tup, len_lst, len_fz, ne_int, eq_int, ne_bl, eq_bl, int_int, int_bl, ty_end, asL_lst, asL_fz, asS_tup, asS_lst, asS_fz, tgs_cons_eq, tgs_nil_eq, tg_tup_eq, tg_lst_eq, at_end, set_end, asS_end, asL_end, at_pre, set_pre, ty_pre, dTupRev, List.getElem?_cons_zero, List.getElem?_cons_succ, Option.some.injEq, exists_eq_left', exists_eq_left, exists_and_left, exists_and_right, and_assoc, D.int.injEq, D.bl.injEq, D.str.injEq, D.tup.injEq, D.lst.injEq, D.fz.injEq, D.ref.injEq, HB.lst.injEq, List.cons.injEq, and_true, true_and, List.set_cons_zero, List.set_cons_succ, List.map_cons, List.map_nil, List.length_cons, List.length_nil, Nat.reduceAdd, Nat.reduceSub, Nat.sub_self, Nat.zero_add, List.replicate_zero, List.replicate_succ, List.append_nil, List.cons_append, List.nil_append, decide_eq_true_eq, decide_eq_false_iff_not, Bool.not_eq_true', Bool.not_eq_false', Bool.true_eq_false, Bool.false_eq_true, false_implies, forall_const, true_implies, reduceCtorEq, and_false, false_and, Bool.not_true, Bool.not_false, if_true, if_false, ix_ref at_end (nats_at hv), ix_ref at_end (nats_at hu)]
        refine ⟨by omega, ?_⟩
        rw [Int.toNat_natCast, bBit]
        have ix : ixN (nats ms).length (e : Int) = some e := by rw [nats_len]; exact ixN_nat (by omega)
        refine ⟨fun z => ⟨_, ix, hN _ _ ⟨_, _, _, ms.set e (v ||| u), rfl, by rw [bOr, nats_set], by rw [List.length_set]; exact hl, hB.set fun k hk => ?_⟩⟩, fun _ => hN _ _ ⟨_, _, _, ms, rfl, rfl, hl, hB⟩⟩
        have hvi : v.testBit i = true := by
          cases q : v.testBit i with
          | true => rfl
          | false => rw [q] at z; cases z
        rw [Nat.testBit_or] at hk
        rcases Bool.or_eq_true_iff.mp hk with hk | hk
        · exact hB _ _ _ hv hk
        · exact Nat.lt_trans (hB _ _ _ hu hk) (hB _ _ _ hv hvi)
      · rintro σ h' ⟨o3, o4, o6, ms, rfl, rfl, hl, hB⟩
        exact hN _ _ ⟨_, _, _, _, ms, rfl, rfl, hl, hB⟩
    · rintro σ h' ⟨o3, o4, o5, o6, ms, rfl, rfl, hl, hB⟩
      simp only [sSeq, sNil, sIf, sRet, sRetN, sSet, sAsg, sExpr, sNever, sFor, sNox, sBrk, sCont, sFldD, sAug, sAugS, dVar, dC, dOp, dI0, dII, dNeg, dInv, dAndV, dOrV, dNotV, dTst, dTru, dAnd, dOr, dNot, dIfE, dChn, dCall, dCallK, dMake, aNil, aCons, dTup, dLst, dLstH, dFldC, dCB, dBM, tgN, tgSub, iL, iT, iR1, iR2, DEnds.xx, dLc, dLcH, dYes, dSl, oNon, oSome, nI2, nTup, nLst, nLstH, mApp, wipeD, dIn, dIsN, dNotN, dAddH, dMulH, tru_bl, tru_int, add_int, add_tup, mul_int, len_tup, len_lst, len_fz, ne_int, eq_int, ne_bl, eq_bl, int_int, int_bl, ty_end, asL_lst, asL_fz, asS_tup, asS_lst, asS_fz, tgs_cons_eq, tgs_nil_eq, tg_tup_eq, tg_lst_eq, at_end, set_end, asS_end, asL_end, at_pre, set_pre, ty_pre, dTupRev, List.getElem?_cons_zero, List.getElem?_cons_succ, Option.some.injEq, exists_eq_left', exists_eq_left, exists_and_left, exists_and_right, and_assoc, D.int.injEq, D.bl.injEq, D.str.injEq, D.tup.injEq, D.lst.injEq, D.fz.injEq, D.ref.injEq, HB.lst.injEq, List.cons.injEq, and_true, true_and, List.set_cons_zero, List.set_cons_succ, List.map_cons, List.map_nil, List.length_cons, List.length_nil, Nat.reduceAdd, Nat.reduceSub, Nat.sub_self, Nat.zero_add, List.replicate_zero, List.replicate_succ, List.append_nil, List.cons_append, List.nil_append, decide_eq_true_eq, decide_eq_false_iff_not, Bool.not_eq_true', Bool.not_eq_false', Bool.true_eq_false, Bool.false_eq_true, false_implies, forall_const, true_implies, reduceCtorEq, and_false, false_and, Bool.not_true, Bool.not_false, if_true, if_false]
      refine rt_lst Bds_nats (q ms hl fun e m hm => ?_)
      cases z : m.testBit e with
      | false => rfl
      | true => exact absurd (hB _ _ _ hm z) (Nat.lt_irrefl _)
theorem rd_has_cycle (ds : List D) (h : DHp) (X : DX) (Q : DK) (hds : ds.length = 2) (c : ct_has_cycle ds h X Q) : tb_has_cycle (endsD h X Q) (startD 4 ds) h := by
  obtain ⟨ps, n, rfl, hn, ok, hr, q⟩ := c
  have q' := rt_of (h0 := h) (X := X) q
  simp only [tb_has_cycle, startD, sSeq, sNil, sIf, sRet, sRetN, sSet, sAsg, sExpr, sNever, sFor, sNox, sBrk, sCont, sFldD, sAug, sAugS, dVar, dC, dOp, dI0, dII, dNeg, dInv, dAndV, dOrV, dNotV, dTst, dTru, dAnd, dOr, dNot, dIfE, dChn, dCall, dCallK, dMake, aNil, aCons, dTup, dLst, dLstH, dFldC, dCB, dBM, tgN, tgSub, iL, iT, iR1, iR2, DEnds.xx, dLc, dLcH, dYes, dSl, oNon, oSome, nI2, nTup, nLst, nLstH, mApp, wipeD, dIn, dIsN, dNotN, dAddH, dMulH, tru_bl, tru_int, add_int, add_tup, mul_int, len_tup, len_lst, len_fz, ne_int, eq_int, ne_bl, eq_bl, int_int, int_bl, ty_end, asL_lst, asL_fz, asS_tup, asS_lst, asS_fz, tgs_cons_eq, tgs_nil_eq, tg_tup_eq, tg_lst_eq, at_end, set_end, asS_end, asL_end, at_pre, set_pre, ty_pre, dTupRev, List.getElem?_cons_zero, List.getElem?_cons_succ, Option.some.injEq, exists_eq_left', exists_eq_left, exists_and_left, exists_and_right, and_assoc, D.int.injEq, D.bl.injEq, D.str.injEq, D.tup.injEq, D.lst.injEq, D.fz.injEq, D.ref.injEq, HB.lst.injEq, List.cons.injEq, and_true, true_and, List.set_cons_zero, List.set_cons_succ, List.map_cons, List.map_nil, List.length_cons, List.length_nil, Nat.reduceAdd, Nat.reduceSub, Nat.sub_self, Nat.zero_add, List.replicate_zero, List.replicate_succ, List.append_nil, List.cons_append, List.nil_append, decide_eq_true_eq, decide_eq_false_iff_not, Bool.not_eq_true', Bool.not_eq_false', Bool.true_eq_false, Bool.false_eq_true, false_implies, forall_const, true_implies, reduceCtorEq, and_false, false_and, Bool.not_true, Bool.not_false, if_true, if_false]
  refine ⟨ps, n, rfl, hn, ok, hr, fun ms hl hB => ?_⟩
  refine ⟨rgOk (by omega), ?_⟩
  rw [Int.toNat_natCast]
  refine forW_inv (rgD 0 n) (fun _ σ h' => h' = h ∧ ∃ o, σ = [some (.int n), some (.lst (prs ps)), some (.lst (nats ms)), o]) ⟨rfl, none, rfl⟩ (fun _ _ _ _ _ => trivial) ?_ ?_
  · rintro i x σ h' N hx ⟨rfl, o, rfl⟩ hN
    obtain ⟨rfl, hi⟩ := rg_get hx
    obtain ⟨v, hv⟩ := get_lt (l := ms) (i := i) (by omega)
    simp only [sSeq, sNil, sIf, sRet, sRetN, sSet, sAsg, sExpr, sNever, sFor, sNox, sBrk, sCont, sFldD, sAug, sAugS, dVar, dC, dOp, dI0, dII, dNeg, dInv, dAndV, dOrV, dNotV, dTst, dTru, dAnd, dOr, dNot, dIfE, dChn, dCall, dCallK, dMake, aNil, aCons, dTup, dLst, dLstH, dFldC, dCB, dBM, tgN, tgSub, iL, iT, iR1, iR2, DEnds.xx, dLc, dLcH, dYes, dSl, oNon, oSome, nI2, nTup, nLst, nLstH, mApp, wipeD, dIn, dIsN, dNotN, dAddH, dMulH, tru_bl, tru_int, add_int, add_tup, mul_int, len_tup, len_lst, len_fz, ne_int, eq_int, ne_bl, eq_bl, int_int, int_bl, ty_end, asL_lst, asL_fz, asS_tup, asS_lst, asS_fz, tgs_cons_eq, tgs_nil_eq, tg_tup_eq, tg_lst_eq, at_end, set_end, asS_end, asL_end, at_pre, set_pre, ty_pre, dTupRev, List.getElem?_cons_zero, List.getElem?_cons_succ, Option.some.injEq, exists_eq_left', exists_eq_left, exists_and_left, exists_and_right, and_assoc, D.int.injEq, D.bl.injEq, D.str.injEq, D.tup.injEq, D.lst.injEq, D.fz.injEq, D.ref.injEq, HB.lst.injEq, List.cons.injEq, and_true, true_and, List.set_cons_zero, List.set_cons_succ, List.map_cons, List.map_nil, List.length_cons, List.length_nil, Nat.reduceAdd, Nat.reduceSub, Nat.sub_self, Nat.zero_add, List.replicate_zero, List.replicate_succ, List.append_nil, List.cons_append, List.nil_append, decide_eq_true_eq, decide_eq_false_iff_not, Bool.not_eq_true', Bool.not_eq_false', Bool.true_eq_false, Bool.false_eq_true, false_implies, forall_const, true_implies, reduceCtorEq, and_false, false_and, Bool.not_true, Bool.not_false, if_true, if_false, ix_lst (nats_at hv)]
    refine ⟨by omega, ?_⟩
    rw [Int.toNat_natCast, bBit, hB i v hv]
    exact ⟨(fun z => nomatch z), fun _ => hN _ _ ⟨rfl, _, rfl⟩⟩
  · rintro σ h' ⟨rfl, o, rfl⟩
    simpa only [sSeq, sNil, sIf, sRet, sRetN, sSet, sAsg, sExpr, sNever, sFor, sNox, sBrk, sCont, sFldD, sAug, sAugS, dVar, dC, dOp, dI0, dII, dNeg, dInv, dAndV, dOrV, dNotV, dTst, dTru, dAnd, dOr, dNot, dIfE, dChn, dCall, dCallK, dMake, aNil, aCons, dTup, dLst, dLstH, dFldC, dCB, dBM, tgN, tgSub, iL, iT, iR1, iR2, DEnds.xx, dLc, dLcH, dYes, dSl, oNon, oSome, nI2, nTup, nLst, nLstH, mApp, wipeD, dIn, dIsN, dNotN, dAddH, dMulH, tru_bl, tru_int, add_int, add_tup, mul_int, len_tup, len_lst, len_fz, ne_int, eq_int, ne_bl, eq_bl, int_int, int_bl, ty_end, asL_lst, asL_fz, asS_tup, asS_lst, asS_fz, tgs_cons_eq, tgs_nil_eq, tg_tup_eq, tg_lst_eq, at_end, set_end, asS_end, asL_end, at_pre, set_pre, ty_pre, dTupRev, List.getElem?_cons_zero, List.getElem?_cons_succ, Option.some.injEq, exists_eq_left', exists_eq_left, exists_and_left, exists_and_right, and_assoc, D.int.injEq, D.bl.injEq, D.str.injEq, D.tup.injEq, D.lst.injEq, D.fz.injEq, D.ref.injEq, HB.lst.injEq, List.cons.injEq, and_true, true_and, List.set_cons_zero, List.set_cons_succ, List.map_cons, List.map_nil, List.length_cons, List.length_nil, Nat.reduceAdd, Nat.reduceSub, Nat.sub_self, Nat.zero_add, List.replicate_zero, List.replicate_succ, List.append_nil, List.cons_append, List.nil_append, decide_eq_true_eq, decide_eq_false_iff_not, Bool.not_eq_true', Bool.not_eq_false', Bool.true_eq_false, Bool.false_eq_true, false_implies, forall_const, true_implies, reduceCtorEq, and_false, false_and, Bool.not_true, Bool.not_false, if_true, if_false] using q'
end L2.MW.K49

namespace L2.MW.K49
open PySem PySem.Spec PyProof.Rows L2 L2.MW
theorem list3 : asS ([] : DHp) (.lst []) = some [] := rfl
theorem rd_Events_init (ds : List D) (h : DHp) (X : DX) (Q : DK) (hds : ds.length = 4) (c : ct_Events_init ds h X Q) : tb_Events_init (endsD h X Q) (startD 5 ds) h := by
  obtain ⟨i, n, cs, fs, rfl, hi, hn, ok1, rk, ok2, hf, q⟩ := c
  have hil : i < h.length := (List.getElem?_eq_some_iff.mp hi).1
  have x1 : btw (.int (n : Int)) 0 39 = true := by simp [btw]; omega
  simp only [tb_Events_init, startD, sSeq, sNil, sIf, sRet, sRetN, sSet, sAsg, sExpr, sNever, sFor, sNox, sBrk, sCont, sFldD, sAug, sAugS, dVar, dC, dOp, dI0, dII, dNeg, dInv, dAndV, dOrV, dNotV, dTst, dTru, dAnd, dOr, dNot, dIfE, dChn, dCall, dCallK, dMake, aNil, aCons, dTup, dLst, dLstH, dFldC, dCB, dBM, tgN, tgSub, iL, iT, iR1, iR2, DEnds.xx, dLc, dLcH, dYes, dSl, oNon, oSome, nI2, nTup, nLst, nLstH, mApp, wipeD, dIn, dIsN, dNotN, dAddH, dMulH, tru_bl, tru_int, add_int, add_tup, mul_int, len_tup, len_lst, len_fz, ne_int, eq_int, ne_bl, eq_bl, int_int, int_bl, ty_end, asL_lst, asL_fz, asS_tup, asS_lst, asS_fz, tgs_cons_eq, tgs_nil_eq, tg_tup_eq, tg_lst_eq, at_end, set_end, asS_end, asL_end, at_pre, set_pre, ty_pre, dTupRev, List.getElem?_cons_zero, List.getElem?_cons_succ, Option.some.injEq, exists_eq_left', exists_eq_left, exists_and_left, exists_and_right, and_assoc, D.int.injEq, D.bl.injEq, D.str.injEq, D.tup.injEq, D.lst.injEq, D.fz.injEq, D.ref.injEq, HB.lst.injEq, List.cons.injEq, and_true, true_and, List.set_cons_zero, List.set_cons_succ, List.map_cons, List.map_nil, List.length_cons, List.length_nil, Nat.reduceAdd, Nat.reduceSub, Nat.sub_self, Nat.zero_add, List.replicate_zero, List.replicate_succ, List.append_nil, List.cons_append, List.nil_append, decide_eq_true_eq, decide_eq_false_iff_not, Bool.not_eq_true', Bool.not_eq_false', Bool.true_eq_false, Bool.false_eq_true, false_implies, forall_const, true_implies, reduceCtorEq, and_false, false_and, Bool.not_true, Bool.not_false, if_true, if_false]
  refine ⟨.int n, _, _, rfl, rfl, _, rfl, fun z => (by rw [x1] at z; cases z), fun _ => ?_⟩
  refine ⟨cs, n, false, rfl, ok1, (fun z => nomatch z), ?_⟩
  refine ⟨(fun z => nomatch z), fun _ => ?_⟩
  refine ⟨cs, n, rfl, by omega, ok1, rk, _, rfl, (fun z => nomatch z), fun _ => ?_⟩
  refine ⟨fs, n, true, rfl, ok2, fun _ => hf, ?_⟩
  refine ⟨(fun z => nomatch z), fun _ => ?_⟩
  have l1 : ∀ b : HB, (h.set i b)[i]? = some b := fun b => List.getElem?_set_self hil
  refine ⟨i, "Events", List.mem_cons_self, rfl, [], hi, Nat.zero_lt_succ _, rfl, i, "Events", List.mem_cons_self, rfl, [("many", .int n)], l1 _, (by show 1 < 1000; decide), rfl, i, "Events", List.mem_cons_self, rfl, [("many", .int n), ("causes", .tup (prs cs))], ?_, (by show 2 < 1000; decide), rfl, ?_⟩
  · rw [List.set_set]
    exact l1 _
  · rw [List.set_set, List.set_set]
    exact rt_keep q
theorem subs_nats {n : Nat} : ∀ (l : List D) (last : Int), -1 ≤ last → subs n last l = true → ∃ ns : List Nat, l = nats ns ∧ ∀ x ∈ ns, x < n
  | [], _, _, _ => ⟨[], rfl, by simp⟩
  | d :: r, last, hl, h => by
    rw [subs_step, Bool.and_eq_true] at h
    cases d with
    | int i =>
      have h1 : last + 1 ≤ i ∧ i ≤ (n : Int) - 1 := by simpa [btw] using h.1
      obtain ⟨ns, e, hb⟩ := subs_nats r i (by omega) h.2
      refine ⟨i.toNat :: ns, ?_, fun x hx => ?_⟩
      · rw [e]
        show _ = D.int ((i.toNat : Nat) : Int) :: nats ns
        rw [show ((i.toNat : Nat) : Int) = i by omega]
      · rcases List.mem_cons.mp hx with rfl | hx
        · omega
        · exact hb x hx
    | _ => simp [btw] at h
theorem any_nats (ns : List Nat) (k : Nat) : ((nats ns).any fun x => iOf x == (k : Int)) = (maskN ns).testBit k := by
  rw [maskN_bit]
  unfold nats
  rw [List.any_map]
  congr 1
  funext x
  show ((x : Int) == (k : Int)) = (x == k)
  rw [Bool.eq_iff_iff]; simp; omega
def gdC (m : Nat) (p : Nat × Nat) : Bool := !(m.testBit p.2) || m.testBit p.1
def gdF (m : Nat) (p : Nat × Nat) : Bool := !(m.testBit p.1 && m.testBit p.2)
theorem okB_nats {n : Nat} {cs fs : List (Nat × Nat)} {ns : List Nat} (h : subs n (-1) (nats ns) = true) : okB n cs fs (.tup (nats ns)) = (cs.all (gdC (maskN ns)) && fs.all (gdF (maskN ns))) := by
  show (subs n (-1) (nats ns) && _) = _
  rw [h, Bool.true_and]
  congr 1
  · congr 1; funext p; rw [any_nats, any_nats]; rfl
  · congr 1; funext p; rw [any_nats, any_nats]; rfl
theorem bit_tru {b : Bool} : ((if b = true then (1 : Int) else 0) != 0) = b := by cases b <;> rfl
theorem all_bad {α : Type} {l : List α} {f : α → Bool} {a : α} (h : a ∈ l) (hf : f a = false) : l.all f = false := by
  cases q : l.all f with
  | false => rfl
  | true => rw [List.all_eq_true.mp q a h] at hf; cases hf
theorem all_take {α : Type} {l : List α} {f : α → Bool} {i : Nat} {a : α} (h : (l.take i).all f = true) (ht : l.take (i + 1) = l.take i ++ [a]) (hf : f a = true) : (l.take (i + 1)).all f = true := by
  rw [ht, List.all_append, h]; simp [hf]
theorem prs_len {ps : List (Nat × Nat)} : (prs ps).length = ps.length := by unfold prs; rw [List.length_map]
theorem rd_is_state (ds : List D) (h : DHp) (X : DX) (Q : DK) (hds : ds.length = 2) (c : ct_is_state ds h X Q) : tb_is_state (endsD h X Q) (startD 5 ds) h := by
  obtain ⟨n, cs, fs, d, rfl, hn, ok1, ok2, pl, q⟩ := c
  have q' := rt_of (h0 := h) (X := X) q
  have f1 : ∀ {Q : DK} {h : DHp}, nFld fc_many "many" (.obj "Events" (evD n cs fs)) h Q ↔ Q (.int n) h := fld_eq (by decide) rfl
  have f2 : ∀ {Q : DK} {h : DHp}, nFld fc_causes "causes" (.obj "Events" (evD n cs fs)) h Q ↔ Q (.tup (prs cs)) h := fld_eq (by decide) rfl
  have f3 : ∀ {Q : DK} {h : DHp}, nFld fc_conflicts "conflicts" (.obj "Events" (evD n cs fs)) h Q ↔ Q (.tup (prs fs)) h := fld_eq (by decide) rfl
  simp only [tb_is_state, startD, sSeq, sNil, sIf, sRet, sRetN, sSet, sAsg, sExpr, sNever, sFor, sNox, sBrk, sCont, sFldD, sAug, sAugS, dVar, dC, dOp, dI0, dII, dNeg, dInv, dAndV, dOrV, dNotV, dTst, dTru, dAnd, dOr, dNot, dIfE, dChn, dCall, dCallK, dMake, aNil, aCons, dTup, dLst, dLstH, dFldC, dCB, dBM, tgN, tgSub, iL, iT, iR1, iR2, DEnds.xx, dLc, dLcH, dYes, dSl, oNon, oSome, nI2, nTup, nLst, nLstH, mApp, wipeD, dIn, dIsN, dNotN, dAddH, dMulH, tru_bl, tru_int, add_int, add_tup, mul_int, len_tup, len_lst, len_fz, ne_int, eq_int, ne_bl, eq_bl, int_int, int_bl, ty_end, asL_lst, asL_fz, asS_tup, asS_lst, asS_fz, tgs_cons_eq, tgs_nil_eq, tg_tup_eq, tg_lst_eq, at_end, set_end, asS_end, asL_end, at_pre, set_pre, ty_pre, dTupRev, List.getElem?_cons_zero, List.getElem?_cons_succ, Option.some.injEq, exists_eq_left', exists_eq_left, exists_and_left, exists_and_right, and_assoc, D.int.injEq, D.bl.injEq, D.str.injEq, D.tup.injEq, D.lst.injEq, D.fz.injEq, D.ref.injEq, HB.lst.injEq, List.cons.injEq, and_true, true_and, List.set_cons_zero, List.set_cons_succ, List.map_cons, List.map_nil, List.length_cons, List.length_nil, Nat.reduceAdd, Nat.reduceSub, Nat.sub_self, Nat.zero_add, List.replicate_zero, List.replicate_succ, List.append_nil, List.cons_append, List.nil_append, decide_eq_true_eq, decide_eq_false_iff_not, Bool.not_eq_true', Bool.not_eq_false', Bool.true_eq_false, Bool.false_eq_true, false_implies, forall_const, true_implies, reduceCtorEq, and_false, false_and, Bool.not_true, Bool.not_false, if_true, if_false, f1, f2, f3]
  refine ⟨d, n, rfl, pl, _, rfl, fun hb => ?_, fun hb => ?_⟩
  · have : okB n cs fs d = false := by
      cases d <;> first | rfl | (show (subs _ _ _ && _) = false; rw [show subs _ _ _ = false from hb]; rfl)
    rw [this] at q'; exact q'
  · cases d with
    | tup l =>
      obtain ⟨ns, rfl, hb2⟩ := subs_nats l (-1) (by omega) hb
      have hok := okB_nats (cs := cs) (fs := fs) hb
      refine ⟨ns, rfl, fun x hx => by have := hb2 x hx; omega, ?_⟩
      refine forW_inv (prs cs) (fun i σ h' => h' = h ∧ (cs.take i).all (gdC (maskN ns)) = true ∧ ∃ o o2, σ = [some (.obj "Events" (evD n cs fs)), some (.tup (nats ns)), some (.int (maskN ns : Nat)), o, o2]) ⟨rfl, rfl, none, none, rfl⟩ (fun _ _ _ _ _ => trivial) ?_ ?_
      · rintro i x σ h' N hx ⟨rfl, ha, o, o2, rfl⟩ hN
        obtain ⟨p, hp, rfl, ht, hd, hm⟩ := get_map hx
        simp only [prN, sSeq, sNil, sIf, sRet, sRetN, sSet, sAsg, sExpr, sNever, sFor, sNox, sBrk, sCont, sFldD, sAug, sAugS, dVar, dC, dOp, dI0, dII, dNeg, dInv, dAndV, dOrV, dNotV, dTst, dTru, dAnd, dOr, dNot, dIfE, dChn, dCall, dCallK, dMake, aNil, aCons, dTup, dLst, dLstH, dFldC, dCB, dBM, tgN, tgSub, iL, iT, iR1, iR2, DEnds.xx, dLc, dLcH, dYes, dSl, oNon, oSome, nI2, nTup, nLst, nLstH, mApp, wipeD, dIn, dIsN, dNotN, dAddH, dMulH, tru_bl, tru_int, add_int, add_tup, mul_int, len_tup, len_lst, len_fz, ne_int, eq_int, ne_bl, eq_bl, int_int, int_bl, ty_end, asL_lst, asL_fz, asS_tup, asS_lst, asS_fz, tgs_cons_eq, tgs_nil_eq, tg_tup_eq, tg_lst_eq, at_end, set_end, asS_end, asL_end, at_pre, set_pre, ty_pre, dTupRev, List.getElem?_cons_zero, List.getElem?_cons_succ, Option.some.injEq, exists_eq_left', exists_eq_left, exists_and_left, exists_and_right, and_assoc, D.int.injEq, D.bl.injEq, D.str.injEq, D.tup.injEq, D.lst.injEq, D.fz.injEq, D.ref.injEq, HB.lst.injEq, List.cons.injEq, and_true, true_and, List.set_cons_zero, List.set_cons_succ, List.map_cons, List.map_nil, List.length_cons, List.length_nil, Nat.reduceAdd, Nat.reduceSub, Nat.sub_self, Nat.zero_add, List.replicate_zero, List.replicate_succ, List.append_nil, List.cons_append, List.nil_append, decide_eq_true_eq, decide_eq_false_iff_not, Bool.not_eq_true', Bool.not_eq_false', Bool.true_eq_false, Bool.false_eq_true, false_implies, forall_const, true_implies, reduceCtorEq, and_false, false_and, Bool.not_true, Bool.not_false, if_true, if_false]
        simp only [Int.toNat_natCast, bBit, bit_tru]
        have good : gdC (maskN ns) p = true → N [some (.obj "Events" (evD n cs fs)), some (.tup (nats ns)), some (.int (maskN ns : Nat)), some (.int (p.1 : Int)), some (.int (p.2 : Int))] h' := fun g => hN _ _ ⟨rfl, all_take ha ht g, _, _, rfl⟩
        refine ⟨by omega, fun t2 => ⟨by omega, fun t1 => ?_, fun t1 => good (by simp [gdC, t1])⟩, fun t2 => good (by simp [gdC, t2])⟩
        rw [hok, all_bad hm (by simp [gdC, t1, t2])] at q'
        exact q'
      · rintro σ h' ⟨rfl, ha, o, o2, rfl⟩
        have ha' : cs.all (gdC (maskN ns)) = true := by rw [prs_len, List.take_length] at ha; exact ha
        rw [ha', Bool.true_and] at hok
        simp only [sSeq, sNil, sIf, sRet, sRetN, sSet, sAsg, sExpr, sNever, sFor, sNox, sBrk, sCont, sFldD, sAug, sAugS, dVar, dC, dOp, dI0, dII, dNeg, dInv, dAndV, dOrV, dNotV, dTst, dTru, dAnd, dOr, dNot, dIfE, dChn, dCall, dCallK, dMake, aNil, aCons, dTup, dLst, dLstH, dFldC, dCB, dBM, tgN, tgSub, iL, iT, iR1, iR2, DEnds.xx, dLc, dLcH, dYes, dSl, oNon, oSome, nI2, nTup, nLst, nLstH, mApp, wipeD, dIn, dIsN, dNotN, dAddH, dMulH, tru_bl, tru_int, add_int, add_tup, mul_int, len_tup, len_lst, len_fz, ne_int, eq_int, ne_bl, eq_bl, int_int, int_bl, ty_end, asL_lst, asL_fz, asS_tup, asS_lst, asS_fz, tgs_cons_eq, tgs_nil_eq, tg_tup_eq, tg_lst_eq, at_end, set_end, asS_end, asL_end, at_pre, set_pre, ty_pre, dTupRev, List.getElem?_cons_zero, List.getElem?_cons_succ, Option.some.injEq, exists_eq_left', exists_eq_left, exists_and_left, exists_and_right, and_assoc, D.int.injEq, D.bl.injEq, D.str.injEq, D.tup.injEq, D.lst.injEq, D.fz.injEq, D.ref.injEq, HB.lst.injEq, List.cons.injEq, and_true, true_and, List.set_cons_zero, List.set_cons_succ, List.map_cons, List.map_nil, List.length_cons, List.length_nil, Nat.reduceAdd, Nat.reduceSub, Nat.sub_self, Nat.zero_add, List.replicate_zero, List.replicate_succ, List.append_nil, List.cons_append, List.nil_append, decide_eq_true_eq, decide_eq_false_iff_not, Bool.not_eq_true', Bool.not_eq_false', Bool.true_eq_false, Bool.false_eq_true, false_implies, forall_const, true_implies, reduceCtorEq, and_false, false_and, Bool.not_true, Bool.not_false, if_true, if_false, f3]
        refine forW_inv (prs fs) (fun i σ h'' => h'' = h' ∧ (fs.take i).all (gdF (maskN ns)) = true ∧ ∃ o o2, σ = [some (.obj "Events" (evD n cs fs)), some (.tup (nats ns)), some (.int (maskN ns : Nat)), o, o2]) ⟨rfl, rfl, _, _, rfl⟩ (fun _ _ _ _ _ => trivial) ?_ ?_
        · rintro i x σ h' N hx ⟨rfl, ha, o, o2, rfl⟩ hN
          obtain ⟨p, hp, rfl, ht, hd, hm⟩ := get_map hx
          simp only [prN, sSeq, sNil, sIf, sRet, sRetN, sSet, sAsg, sExpr, sNever, sFor, sNox, sBrk, sCont, sFldD, sAug, sAugS, dVar, dC, dOp, dI0, dII, dNeg, dInv, dAndV, dOrV, dNotV, dTst, dTru, dAnd, dOr, dNot, dIfE, dChn, dCall, dCallK, dMake, aNil, aCons, dTup, dLst, dLstH, dFldC, dCB, dBM, tgN, tgSub, iL, iT, iR1, iR2, DEnds.xx, dLc, dLcH, dYes, dSl, oNon, oSome, nI2, nTup, nLst, nLstH, mApp, wipeD, dIn, dIsN, dNotN, dAddH, dMulH, tru_bl, tru_int, add_int, add_tup, mul_int, len_tup, len_lst, len_fz, ne_int, eq_int, ne_bl, eq_bl, int_int, int_bl, ty_end, asL_lst, asL_fz, asS_tup, asS_lst, asS_fz, tgs_cons_eq, tgs_nil_eq, tg_tup_eq, tg_lst_eq, at_end, set_end, asS_end, asL_end, at_pre, set_pre, ty_pre, dTupRev, List.getElem?_cons_zero, List.getElem?_cons_succ, Option.some.injEq, exists_eq_left', exists_eq_left, exists_and_left, exists_and_right, and_assoc, D.int.injEq, D.bl.injEq, D.str.injEq, D.tup.injEq, D.lst.injEq, D.fz.injEq, D.ref.injEq, HB.lst.injEq, List.cons.injEq, and_true, true_and, List.set_cons_zero, List.set_cons_succ, List.map_cons, List.map_nil, List.length_cons, List.length_nil, Nat.reduceAdd, Nat.reduceSub, Nat.sub_self, Nat.zero_add, List.replicate_zero, List.replicate_succ, List.append_nil, List.cons_append, List.nil_append, decide_eq_true_eq, decide_eq_false_iff_not, Bool.not_eq_true', Bool.not_eq_false', Bool.true_eq_false, Bool.false_eq_true, false_implies, forall_const, true_implies, reduceCtorEq, and_false, false_and, Bool.not_true, Bool.not_false, if_true, if_false]
          simp only [Int.toNat_natCast, bBit, bit_tru]
          have good : gdF (maskN ns) p = true → N [some (.obj "Events" (evD n cs fs)), some (.tup (nats ns)), some (.int (maskN ns : Nat)), some (.int (p.1 : Int)), some (.int (p.2 : Int))] h' := fun g => hN _ _ ⟨rfl, all_take ha ht g, _, _, rfl⟩
          refine ⟨by omega, fun t2 => ⟨by omega, fun t1 => ?_, fun t1 => good (by simp [gdF, t1])⟩, fun t2 => good (by simp [gdF, t2])⟩
          rw [hok, all_bad hm (by simp [gdF, t1, t2])] at q'
          exact q'
        · rintro σ h' ⟨rfl, ha, o, o2, rfl⟩
          have ha2 : fs.all (gdF (maskN ns)) = true := by rw [prs_len, List.take_length] at ha; exact ha
          rw [hok, ha2] at q'
          simpa only [sSeq, sNil, sIf, sRet, sRetN, sSet, sAsg, sExpr, sNever, sFor, sNox, sBrk, sCont, sFldD, sAug, sAugS, dVar, dC, dOp, dI0, dII, dNeg, dInv, dAndV, dOrV, dNotV, dTst, dTru, dAnd, dOr, dNot, dIfE, dChn, dCall, dCallK, dMake, aNil, aCons, dTup, dLst, dLstH, dFldC, dCB, dBM, tgN, tgSub, iL, iT, iR1, iR2, DEnds.xx, dLc, dLcH, dYes, dSl, oNon, oSome, nI2, nTup, nLst, nLstH, mApp, wipeD, dIn, dIsN, dNotN, dAddH, dMulH, tru_bl, tru_int, add_int, add_tup, mul_int, len_tup, len_lst, len_fz, ne_int, eq_int, ne_bl, eq_bl, int_int, int_bl, ty_end, asL_lst, asL_fz, asS_tup, asS_lst, asS_fz, tgs_cons_eq, tgs_nil_eq, tg_tup_eq, tg_lst_eq, at_end, set_end, asS_end, asL_end, at_pre, set_pre, ty_pre, dTupRev, List.getElem?_cons_zero, List.getElem?_cons_succ, Option.some.injEq, exists_eq_left', exists_eq_left, exists_and_left, exists_and_right, and_assoc, D.int.injEq, D.bl.injEq, D.str.injEq, D.tup.injEq, D.lst.injEq, D.fz.injEq, D.ref.injEq, HB.lst.injEq, List.cons.injEq, and_true, true_and, List.set_cons_zero, List.set_cons_succ, List.map_cons, List.map_nil, List.length_cons, List.length_nil, Nat.reduceAdd, Nat.reduceSub, Nat.sub_self, Nat.zero_add, List.replicate_zero, List.replicate_succ, List.append_nil, List.cons_append, List.nil_append, decide_eq_true_eq, decide_eq_false_iff_not, Bool.not_eq_true', Bool.not_eq_false', Bool.true_eq_false, Bool.false_eq_true, false_implies, forall_const, true_implies, reduceCtorEq, and_false, false_and, Bool.not_true, Bool.not_false, if_true, if_false] using q'
    | _ => cases hb
end L2.MW.K49

namespace L2.MW.K49
open PySem PySem.Spec PyProof.Rows L2 L2.MW
theorem b2D_nat (b : Bool) : b2D b = if b then 1 else 0 := rfl
theorem rd_law_cell (ds : List D) (h : DHp) (X : DX) (Q : DK) (hds : ds.length = 2) (c : ct__law_cell ds h X Q) : tb__law_cell (endsD h X Q) (startD 2 ds) h := by
  obtain ⟨ns, k, rfl, hk, hl, q⟩ := c
  simp only [tb__law_cell, startD, sSeq, sNil, sIf, sRet, sRetN, sSet, sAsg, sExpr, sNever, sFor, sNox, sBrk, sCont, sFldD, sAug, sAugS, dVar, dC, dOp, dI0, dII, dNeg, dInv, dAndV, dOrV, dNotV, dTst, dTru, dAnd, dOr, dNot, dIfE, dChn, dCall, dCallK, dMake, aNil, aCons, dTup, dLst, dLstH, dFldC, dCB, dBM, tgN, tgSub, iL, iT, iR1, iR2, DEnds.xx, dLc, dLcH, dYes, dSl, oNon, oSome, nI2, nTup, nLst, nLstH, mApp, wipeD, dIn, dIsN, dNotN, dAddH, dMulH, tru_bl, tru_int, add_int, add_tup, mul_int, len_tup, len_lst, len_fz, ne_int, eq_int, ne_bl, eq_bl, int_int, int_bl, ty_end, asL_lst, asL_fz, asS_tup, asS_lst, asS_fz, tgs_cons_eq, tgs_nil_eq, tg_tup_eq, tg_lst_eq, at_end, set_end, asS_end, asL_end, at_pre, set_pre, ty_pre, dTupRev, List.getElem?_cons_zero, List.getElem?_cons_succ, Option.some.injEq, exists_eq_left', exists_eq_left, exists_and_left, exists_and_right, and_assoc, D.int.injEq, D.bl.injEq, D.str.injEq, D.tup.injEq, D.lst.injEq, D.fz.injEq, D.ref.injEq, HB.lst.injEq, List.cons.injEq, and_true, true_and, List.set_cons_zero, List.set_cons_succ, List.map_cons, List.map_nil, List.length_cons, List.length_nil, Nat.reduceAdd, Nat.reduceSub, Nat.sub_self, Nat.zero_add, List.replicate_zero, List.replicate_succ, List.append_nil, List.cons_append, List.nil_append, decide_eq_true_eq, decide_eq_false_iff_not, Bool.not_eq_true', Bool.not_eq_false', Bool.true_eq_false, Bool.false_eq_true, false_implies, forall_const, true_implies, reduceCtorEq, and_false, false_and, Bool.not_true, Bool.not_false, if_true, if_false]
  refine ⟨fun hlt => ?_, fun _ => rt_keep (q 0)⟩
  obtain ⟨j, rfl⟩ := Int.eq_ofNat_of_zero_le hk
  have hj : j < ns.length := by rw [List.length_map] at hlt; omega
  have e : atI (ns.map D.int) ((j : Nat) : Int) = some (.int ns[j]) := by
    refine atI_nat ?_
    rw [List.getElem?_map, List.getElem?_eq_getElem hj]; rfl
  refine ix_of rfl e ?_
  simp only [sSeq, sNil, sIf, sRet, sRetN, sSet, sAsg, sExpr, sNever, sFor, sNox, sBrk, sCont, sFldD, sAug, sAugS, dVar, dC, dOp, dI0, dII, dNeg, dInv, dAndV, dOrV, dNotV, dTst, dTru, dAnd, dOr, dNot, dIfE, dChn, dCall, dCallK, dMake, aNil, aCons, dTup, dLst, dLstH, dFldC, dCB, dBM, tgN, tgSub, iL, iT, iR1, iR2, DEnds.xx, dLc, dLcH, dYes, dSl, oNon, oSome, nI2, nTup, nLst, nLstH, mApp, wipeD, dIn, dIsN, dNotN, dAddH, dMulH, tru_bl, tru_int, add_int, add_tup, mul_int, len_tup, len_lst, len_fz, ne_int, eq_int, ne_bl, eq_bl, int_int, int_bl, ty_end, asL_lst, asL_fz, asS_tup, asS_lst, asS_fz, tgs_cons_eq, tgs_nil_eq, tg_tup_eq, tg_lst_eq, at_end, set_end, asS_end, asL_end, at_pre, set_pre, ty_pre, dTupRev, List.getElem?_cons_zero, List.getElem?_cons_succ, Option.some.injEq, exists_eq_left', exists_eq_left, exists_and_left, exists_and_right, and_assoc, D.int.injEq, D.bl.injEq, D.str.injEq, D.tup.injEq, D.lst.injEq, D.fz.injEq, D.ref.injEq, HB.lst.injEq, List.cons.injEq, and_true, true_and, List.set_cons_zero, List.set_cons_succ, List.map_cons, List.map_nil, List.length_cons, List.length_nil, Nat.reduceAdd, Nat.reduceSub, Nat.sub_self, Nat.zero_add, List.replicate_zero, List.replicate_succ, List.append_nil, List.cons_append, List.nil_append, decide_eq_true_eq, decide_eq_false_iff_not, Bool.not_eq_true', Bool.not_eq_false', Bool.true_eq_false, Bool.false_eq_true, false_implies, forall_const, true_implies, reduceCtorEq, and_false, false_and, Bool.not_true, Bool.not_false, if_true, if_false]
  exact rt_keep (q _)
theorem nats_app {r : List Nat} {v : Int} (h : 0 ≤ v) : nats r ++ [.int v] = nats (r ++ [v.toNat]) := by
  unfold nats
  rw [List.map_append]
  show _ = _ ++ [D.int ((v.toNat : Nat) : Int)]
  rw [Int.toNat_of_nonneg h]
structure RowI (m l : Nat) (r : List Nat) (i : Nat) : Prop where
  len : r.length = i
  bd : ∀ x ∈ r, x < l
theorem RowI.app {m l : Nat} {r : List Nat} {i : Nat} (R : RowI m l r i) {v : Int} (h0 : 0 ≤ v) (h1 : v < l) : RowI m l (r ++ [v.toNat]) (i + 1) := by
  refine ⟨by rw [List.length_append, R.len]; rfl, fun x hx => ?_⟩
  rcases List.mem_append.mp hx with hx | hx
  · exact R.bd x hx
  · rw [List.mem_singleton.mp hx]; omega
theorem rd_law_row (ds : List D) (h : DHp) (X : DX) (Q : DK) (hds : ds.length = 4) (c : ct__law_row ds h X Q) : tb__law_row (endsD h X Q) (startD 7 ds) h := by
  obtain ⟨ns, a, m, l, rfl, hl, hm, l0, l1, q⟩ := c
  have cp : CPow 10 18 := ⟨by decide, by decide, by decide⟩
  simp only [tb__law_row, startD, sSeq, sNil, sIf, sRet, sRetN, sSet, sAsg, sExpr, sNever, sFor, sNox, sBrk, sCont, sFldD, sAug, sAugS, dVar, dC, dOp, dI0, dII, dNeg, dInv, dAndV, dOrV, dNotV, dTst, dTru, dAnd, dOr, dNot, dIfE, dChn, dCall, dCallK, dMake, aNil, aCons, dTup, dLst, dLstH, dFldC, dCB, dBM, tgN, tgSub, iL, iT, iR1, iR2, DEnds.xx, dLc, dLcH, dYes, dSl, oNon, oSome, nI2, nTup, nLst, nLstH, mApp, wipeD, dIn, dIsN, dNotN, dAddH, dMulH, tru_bl, tru_int, add_int, add_tup, mul_int, len_tup, len_lst, len_fz, ne_int, eq_int, ne_bl, eq_bl, int_int, int_bl, ty_end, asL_lst, asL_fz, asS_tup, asS_lst, asS_fz, tgs_cons_eq, tgs_nil_eq, tg_tup_eq, tg_lst_eq, at_end, set_end, asS_end, asL_end, at_pre, set_pre, ty_pre, dTupRev, List.getElem?_cons_zero, List.getElem?_cons_succ, Option.some.injEq, exists_eq_left', exists_eq_left, exists_and_left, exists_and_right, and_assoc, D.int.injEq, D.bl.injEq, D.str.injEq, D.tup.injEq, D.lst.injEq, D.fz.injEq, D.ref.injEq, HB.lst.injEq, List.cons.injEq, and_true, true_and, List.set_cons_zero, List.set_cons_succ, List.map_cons, List.map_nil, List.length_cons, List.length_nil, Nat.reduceAdd, Nat.reduceSub, Nat.sub_self, Nat.zero_add, List.replicate_zero, List.replicate_succ, List.append_nil, List.cons_append, List.nil_append, decide_eq_true_eq, decide_eq_false_iff_not, Bool.not_eq_true', Bool.not_eq_false', Bool.true_eq_false, Bool.false_eq_true, false_implies, forall_const, true_implies, reduceCtorEq, and_false, false_and, Bool.not_true, Bool.not_false, if_true, if_false]
  refine ⟨small (by decide), ns, a, rfl, by omega, hl, fun left => ?_⟩
  have fin : ∀ {r : List Nat}, RowI m l r m → (endsD h X Q).rt (.ref h.length) (h ++ [.lst (nats r)]) := fun R => rt_lst Bds_nats (q _ R.len R.bd)
  simp only [tru_bl, tru_int, add_int, add_tup, mul_int, len_tup, len_lst, len_fz, ne_int, eq_int, ne_bl, eq_bl, int_int, int_bl, ty_end, asL_lst, asL_fz, asS_tup, asS_lst, asS_fz, tgs_cons_eq, tgs_nil_eq, tg_tup_eq, tg_lst_eq, at_end, set_end, asS_end, asL_end, at_pre, set_pre, ty_pre, dTupRev, List.getElem?_cons_zero, List.getElem?_cons_succ, Option.some.injEq, exists_eq_left', exists_eq_left, exists_and_left, exists_and_right, and_assoc, D.int.injEq, D.bl.injEq, D.str.injEq, D.tup.injEq, D.lst.injEq, D.fz.injEq, D.ref.injEq, HB.lst.injEq, List.cons.injEq, and_true, true_and, List.set_cons_zero, List.set_cons_succ, List.map_cons, List.map_nil, List.length_cons, List.length_nil, Nat.reduceAdd, Nat.reduceSub, Nat.sub_self, Nat.zero_add, List.replicate_zero, List.replicate_succ, List.append_nil, List.cons_append, List.nil_append, decide_eq_true_eq, decide_eq_false_iff_not, Bool.not_eq_true', Bool.not_eq_false', Bool.true_eq_false, Bool.false_eq_true, false_implies, forall_const, true_implies, reduceCtorEq, and_false, false_and, Bool.not_true, Bool.not_false, if_true, if_false]
  refine ⟨cp, fun _ => ⟨cp, rgOk (by omega), ?_⟩, fun _ => ⟨by decide, rgOk (by omega), ?_⟩⟩
  · rw [Int.toNat_natCast]
    refine forW_inv (rgD 0 m) (fun i σ h' => ∃ lf o r, RowI m l r i ∧ h' = h ++ [.lst (nats r)] ∧ σ = [some (.fz (ns.map D.int)), some (.int a), some (.int m), some (.int l), some (.ref h.length), some (.int lf), o]) ⟨_, _, [], ⟨rfl, fun x hx => nomatch hx⟩, rfl, rfl⟩ (fun _ _ _ _ _ => trivial) ?_ ?_
    · rintro i x σ h' N hx ⟨lf, o, r, R, rfl, rfl⟩ hN
      obtain ⟨rfl, hi⟩ := rg_get hx
      simp only [sSeq, sNil, sIf, sRet, sRetN, sSet, sAsg, sExpr, sNever, sFor, sNox, sBrk, sCont, sFldD, sAug, sAugS, dVar, dC, dOp, dI0, dII, dNeg, dInv, dAndV, dOrV, dNotV, dTst, dTru, dAnd, dOr, dNot, dIfE, dChn, dCall, dCallK, dMake, aNil, aCons, dTup, dLst, dLstH, dFldC, dCB, dBM, tgN, tgSub, iL, iT, iR1, iR2, DEnds.xx, dLc, dLcH, dYes, dSl, oNon, oSome, nI2, nTup, nLst, nLstH, mApp, wipeD, dIn, dIsN, dNotN, dAddH, dMulH, tru_bl, tru_int, add_int, add_tup, mul_int, len_tup, len_lst, len_fz, ne_int, eq_int, ne_bl, eq_bl, int_int, int_bl, ty_end, asL_lst, asL_fz, asS_tup, asS_lst, asS_fz, tgs_cons_eq, tgs_nil_eq, tg_tup_eq, tg_lst_eq, at_end, set_end, asS_end, asL_end, at_pre, set_pre, ty_pre, dTupRev, List.getElem?_cons_zero, List.getElem?_cons_succ, Option.some.injEq, exists_eq_left', exists_eq_left, exists_and_left, exists_and_right, and_assoc, D.int.injEq, D.bl.injEq, D.str.injEq, D.tup.injEq, D.lst.injEq, D.fz.injEq, D.ref.injEq, HB.lst.injEq, List.cons.injEq, and_true, true_and, List.set_cons_zero, List.set_cons_succ, List.map_cons, List.map_nil, List.length_cons, List.length_nil, Nat.reduceAdd, Nat.reduceSub, Nat.sub_self, Nat.zero_add, List.replicate_zero, List.replicate_succ, List.append_nil, List.cons_append, List.nil_append, decide_eq_true_eq, decide_eq_false_iff_not, Bool.not_eq_true', Bool.not_eq_false', Bool.true_eq_false, Bool.false_eq_true, false_implies, forall_const, true_implies, reduceCtorEq, and_false, false_and, Bool.not_true, Bool.not_false, if_true, if_false]
      have z0 : 0 ≤ lf % (l : Int) := Int.emod_nonneg _ (by omega)
      have z1 : lf % (l : Int) < l := Int.emod_lt_of_pos _ (by omega)
      refine ⟨by omega, smallL (by rw [nats_len, R.len]; omega), ⟨by omega, by omega⟩, hN _ _ ⟨_, _, _, R.app z0 z1, ?_, rfl⟩⟩
      rw [nats_app z0]
    · rintro σ h' ⟨lf, o, r, R, rfl, rfl⟩
      simp only [sSeq, sNil, sIf, sRet, sRetN, sSet, sAsg, sExpr, sNever, sFor, sNox, sBrk, sCont, sFldD, sAug, sAugS, dVar, dC, dOp, dI0, dII, dNeg, dInv, dAndV, dOrV, dNotV, dTst, dTru, dAnd, dOr, dNot, dIfE, dChn, dCall, dCallK, dMake, aNil, aCons, dTup, dLst, dLstH, dFldC, dCB, dBM, tgN, tgSub, iL, iT, iR1, iR2, DEnds.xx, dLc, dLcH, dYes, dSl, oNon, oSome, nI2, nTup, nLst, nLstH, mApp, wipeD, dIn, dIsN, dNotN, dAddH, dMulH, tru_bl, tru_int, add_int, add_tup, mul_int, len_tup, len_lst, len_fz, ne_int, eq_int, ne_bl, eq_bl, int_int, int_bl, ty_end, asL_lst, asL_fz, asS_tup, asS_lst, asS_fz, tgs_cons_eq, tgs_nil_eq, tg_tup_eq, tg_lst_eq, at_end, set_end, asS_end, asL_end, at_pre, set_pre, ty_pre, dTupRev, List.getElem?_cons_zero, List.getElem?_cons_succ, Option.some.injEq, exists_eq_left', exists_eq_left, exists_and_left, exists_and_right, and_assoc, D.int.injEq, D.bl.injEq, D.str.injEq, D.tup.injEq, D.lst.injEq, D.fz.injEq, D.ref.injEq, HB.lst.injEq, List.cons.injEq, and_true, true_and, List.set_cons_zero, List.set_cons_succ, List.map_cons, List.map_nil, List.length_cons, List.length_nil, Nat.reduceAdd, Nat.reduceSub, Nat.sub_self, Nat.zero_add, List.replicate_zero, List.replicate_succ, List.append_nil, List.cons_append, List.nil_append, decide_eq_true_eq, decide_eq_false_iff_not, Bool.not_eq_true', Bool.not_eq_false', Bool.true_eq_false, Bool.false_eq_true, false_implies, forall_const, true_implies, reduceCtorEq, and_false, false_and, Bool.not_true, Bool.not_false, if_true, if_false]
      rw [rg_len] at R
      exact fin R
  · rw [Int.toNat_natCast]
    refine forW_inv (rgD 0 m) (fun i σ h' => ∃ lf o r, RowI m l r i ∧ h' = h ++ [.lst (nats r)] ∧ σ = [some (.fz (ns.map D.int)), some (.int a), some (.int m), some (.int l), some (.ref h.length), some (.int lf), o]) ⟨_, _, [], ⟨rfl, fun x hx => nomatch hx⟩, rfl, rfl⟩ (fun _ _ _ _ _ => trivial) ?_ ?_
    · rintro i x σ h' N hx ⟨lf, o, r, R, rfl, rfl⟩ hN
      obtain ⟨rfl, hi⟩ := rg_get hx
      simp only [sSeq, sNil, sIf, sRet, sRetN, sSet, sAsg, sExpr, sNever, sFor, sNox, sBrk, sCont, sFldD, sAug, sAugS, dVar, dC, dOp, dI0, dII, dNeg, dInv, dAndV, dOrV, dNotV, dTst, dTru, dAnd, dOr, dNot, dIfE, dChn, dCall, dCallK, dMake, aNil, aCons, dTup, dLst, dLstH, dFldC, dCB, dBM, tgN, tgSub, iL, iT, iR1, iR2, DEnds.xx, dLc, dLcH, dYes, dSl, oNon, oSome, nI2, nTup, nLst, nLstH, mApp, wipeD, dIn, dIsN, dNotN, dAddH, dMulH, tru_bl, tru_int, add_int, add_tup, mul_int, len_tup, len_lst, len_fz, ne_int, eq_int, ne_bl, eq_bl, int_int, int_bl, ty_end, asL_lst, asL_fz, asS_tup, asS_lst, asS_fz, tgs_cons_eq, tgs_nil_eq, tg_tup_eq, tg_lst_eq, at_end, set_end, asS_end, asL_end, at_pre, set_pre, ty_pre, dTupRev, List.getElem?_cons_zero, List.getElem?_cons_succ, Option.some.injEq, exists_eq_left', exists_eq_left, exists_and_left, exists_and_right, and_assoc, D.int.injEq, D.bl.injEq, D.str.injEq, D.tup.injEq, D.lst.injEq, D.fz.injEq, D.ref.injEq, HB.lst.injEq, List.cons.injEq, and_true, true_and, List.set_cons_zero, List.set_cons_succ, List.map_cons, List.map_nil, List.length_cons, List.length_nil, Nat.reduceAdd, Nat.reduceSub, Nat.sub_self, Nat.zero_add, List.replicate_zero, List.replicate_succ, List.append_nil, List.cons_append, List.nil_append, decide_eq_true_eq, decide_eq_false_iff_not, Bool.not_eq_true', Bool.not_eq_false', Bool.true_eq_false, Bool.false_eq_true, false_implies, forall_const, true_implies, reduceCtorEq, and_false, false_and, Bool.not_true, Bool.not_false, if_true, if_false]
      refine ⟨ns, _, rfl, by omega, hl, fun j => ?_⟩
      simp only [sSeq, sNil, sIf, sRet, sRetN, sSet, sAsg, sExpr, sNever, sFor, sNox, sBrk, sCont, sFldD, sAug, sAugS, dVar, dC, dOp, dI0, dII, dNeg, dInv, dAndV, dOrV, dNotV, dTst, dTru, dAnd, dOr, dNot, dIfE, dChn, dCall, dCallK, dMake, aNil, aCons, dTup, dLst, dLstH, dFldC, dCB, dBM, tgN, tgSub, iL, iT, iR1, iR2, DEnds.xx, dLc, dLcH, dYes, dSl, oNon, oSome, nI2, nTup, nLst, nLstH, mApp, wipeD, dIn, dIsN, dNotN, dAddH, dMulH, tru_bl, tru_int, add_int, add_tup, mul_int, len_tup, len_lst, len_fz, ne_int, eq_int, ne_bl, eq_bl, int_int, int_bl, ty_end, asL_lst, asL_fz, asS_tup, asS_lst, asS_fz, tgs_cons_eq, tgs_nil_eq, tg_tup_eq, tg_lst_eq, at_end, set_end, asS_end, asL_end, at_pre, set_pre, ty_pre, dTupRev, List.getElem?_cons_zero, List.getElem?_cons_succ, Option.some.injEq, exists_eq_left', exists_eq_left, exists_and_left, exists_and_right, and_assoc, D.int.injEq, D.bl.injEq, D.str.injEq, D.tup.injEq, D.lst.injEq, D.fz.injEq, D.ref.injEq, HB.lst.injEq, List.cons.injEq, and_true, true_and, List.set_cons_zero, List.set_cons_succ, List.map_cons, List.map_nil, List.length_cons, List.length_nil, Nat.reduceAdd, Nat.reduceSub, Nat.sub_self, Nat.zero_add, List.replicate_zero, List.replicate_succ, List.append_nil, List.cons_append, List.nil_append, decide_eq_true_eq, decide_eq_false_iff_not, Bool.not_eq_true', Bool.not_eq_false', Bool.true_eq_false, Bool.false_eq_true, false_implies, forall_const, true_implies, reduceCtorEq, and_false, false_and, Bool.not_true, Bool.not_false, if_true, if_false]
      have z0 : ∀ y : Int, 0 ≤ y % (l : Int) := fun y => Int.emod_nonneg _ (by omega)
      have z1 : ∀ y : Int, y % (l : Int) < l := fun y => Int.emod_lt_of_pos _ (by omega)
      refine ⟨.inr ⟨by decide, by decide⟩, by decide, ?_⟩
      refine ⟨.inr ⟨by decide, by decide⟩, .inr ⟨by decide, by decide⟩, by decide, ⟨by decide, by decide⟩, by omega, smallL (by rw [nats_len, R.len]; omega), hN _ _ ⟨_, _, _, ?_, congrArg (fun z => h ++ [HB.lst z]) (nats_app (z0 _)), rfl⟩⟩
      exact R.app (z0 _) (z1 _)
    · rintro σ h' ⟨lf, o, r, R, rfl, rfl⟩
      simp only [sSeq, sNil, sIf, sRet, sRetN, sSet, sAsg, sExpr, sNever, sFor, sNox, sBrk, sCont, sFldD, sAug, sAugS, dVar, dC, dOp, dI0, dII, dNeg, dInv, dAndV, dOrV, dNotV, dTst, dTru, dAnd, dOr, dNot, dIfE, dChn, dCall, dCallK, dMake, aNil, aCons, dTup, dLst, dLstH, dFldC, dCB, dBM, tgN, tgSub, iL, iT, iR1, iR2, DEnds.xx, dLc, dLcH, dYes, dSl, oNon, oSome, nI2, nTup, nLst, nLstH, mApp, wipeD, dIn, dIsN, dNotN, dAddH, dMulH, tru_bl, tru_int, add_int, add_tup, mul_int, len_tup, len_lst, len_fz, ne_int, eq_int, ne_bl, eq_bl, int_int, int_bl, ty_end, asL_lst, asL_fz, asS_tup, asS_lst, asS_fz, tgs_cons_eq, tgs_nil_eq, tg_tup_eq, tg_lst_eq, at_end, set_end, asS_end, asL_end, at_pre, set_pre, ty_pre, dTupRev, List.getElem?_cons_zero, List.getElem?_cons_succ, Option.some.injEq, exists_eq_left', exists_eq_left, exists_and_left, exists_and_right, and_assoc, D.int.injEq, D.bl.injEq, D.str.injEq, D.tup.injEq, D.lst.injEq, D.fz.injEq, D.ref.injEq, HB.lst.injEq, List.cons.injEq, and_true, true_and, List.set_cons_zero, List.set_cons_succ, List.map_cons, List.map_nil, List.length_cons, List.length_nil, Nat.reduceAdd, Nat.reduceSub, Nat.sub_self, Nat.zero_add, List.replicate_zero, List.replicate_succ, List.append_nil, List.cons_append, List.nil_append, decide_eq_true_eq, decide_eq_false_iff_not, Bool.not_eq_true', Bool.not_eq_false', Bool.true_eq_false, Bool.false_eq_true, false_implies, forall_const, true_implies, reduceCtorEq, and_false, false_and, Bool.not_true, Bool.not_false, if_true, if_false]
      rw [rg_len] at R
      exact fin R
def cst (p : Nat × Nat) : Int × Int := ((p.1 : Int), (p.2 : Int))
theorem prs_cst (ps : List (Nat × Nat)) : prs ps = (ps.map cst).map prD := by unfold prs; rw [List.map_map]; rfl
theorem deq_pr (p q : Nat × Nat) : deq (prN p) (prN q) = decide (p = q) := by
  obtain ⟨a, b⟩ := p
  obtain ⟨c, d⟩ := q
  show PyData.eqv (.tuple [.int a, .int b]) (.tuple [.int c, .int d]) = _
  simp [PyData.eqv, PyData.eqvAll]
  congr 1 <;> (rw [Bool.eq_iff_iff]; simp; omega)
theorem sorted_prs {ps : List (Nat × Nat)} {qs : List (Int × Int)} (hp : qs.Perm (ps.map cst)) (hs : qs.Pairwise prLe) (nd : ps.Nodup) : ∃ rs : List (Nat × Nat), qs = rs.map cst ∧ rs.Perm ps ∧ rs.Pairwise ltP := by
  let un : Int × Int → Nat × Nat := fun q => (q.1.toNat, q.2.toNat)
  have un_cst : ∀ p, un (cst p) = p := fun p => by show ((p.1 : Int).toNat, (p.2 : Int).toNat) = p; simp
  have e : qs = (qs.map un).map cst := by
    rw [List.map_map]
    have : ∀ q ∈ qs, q = (cst ∘ un) q := fun q hq => by
      obtain ⟨p, _, rfl⟩ := List.mem_map.mp (hp.mem_iff.mp hq)
      show cst p = cst (un (cst p))
      rw [un_cst]
    conv => lhs; rw [← List.map_id qs]
    exact List.map_congr_left fun q hq => this q hq
  have p2 : (qs.map un).Perm ps := by
    have := hp.map un
    rw [List.map_map] at this
    have e2 : ps.map (un ∘ cst) = ps := by
      conv => rhs; rw [← List.map_id ps]
      exact List.map_congr_left fun p _ => un_cst p
    rwa [e2] at this
  refine ⟨qs.map un, e, p2, ?_⟩
  have nd2 : (qs.map un).Nodup := p2.nodup_iff.mpr nd
  rw [e, List.pairwise_map] at hs
  have both := List.Pairwise.and hs nd2
  refine both.imp fun {a b} hab => ?_
  obtain ⟨h1, h2⟩ := hab
  unfold prLe cst at h1
  unfold ltP
  have : a.1 = b.1 → a.2 ≠ b.2 := fun h h' => h2 (Prod.ext h h')
  omega
theorem mod_nat (x n : Nat) : ((x : Int) % (n : Int)) = ((x % n : Nat) : Int) := (Int.natCast_emod x n).symm
theorem div_nat (x n : Nat) : ((x : Int) / (n : Int)) = ((x / n : Nat) : Int) := (Int.natCast_ediv x n).symm
theorem div40 (x : Nat) : ((x : Int) / 40) = ((x / 40 : Nat) : Int) := div_nat x 40
theorem min_nat (a b : Nat) : (if (b : Int) < (a : Int) then (b : Int) else (a : Int)) = ((min a b : Nat) : Int) := by split <;> omega
theorem max_nat (a b : Nat) : (if (b : Int) > (a : Int) then (b : Int) else (a : Int)) = ((max a b : Nat) : Int) := by split <;> omega
theorem rd_law_pairs (ds : List D) (h : DHp) (X : DX) (Q : DK) (hds : ds.length = 3) (c : ct__law_pairs ds h X Q) : tb__law_pairs (endsD h X Q) (startD 7 ds) h := by
  obtain ⟨dr, n, o, rfl, hd, ho, hn, hb, nd, q⟩ := c
  simp only [tb__law_pairs, startD, sSeq, sNil, sIf, sRet, sRetN, sSet, sAsg, sExpr, sNever, sFor, sNox, sBrk, sCont, sFldD, sAug, sAugS, dVar, dC, dOp, dI0, dII, dNeg, dInv, dAndV, dOrV, dNotV, dTst, dTru, dAnd, dOr, dNot, dIfE, dChn, dCall, dCallK, dMake, aNil, aCons, dTup, dLst, dLstH, dFldC, dCB, dBM, tgN, tgSub, iL, iT, iR1, iR2, DEnds.xx, dLc, dLcH, dYes, dSl, oNon, oSome, nI2, nTup, nLst, nLstH, mApp, wipeD, dIn, dIsN, dNotN, dAddH, dMulH, tru_bl, tru_int, add_int, add_tup, mul_int, len_tup, len_lst, len_fz, ne_int, eq_int, ne_bl, eq_bl, int_int, int_bl, ty_end, asL_lst, asL_fz, asS_tup, asS_lst, asS_fz, tgs_cons_eq, tgs_nil_eq, tg_tup_eq, tg_lst_eq, at_end, set_end, asS_end, asL_end, at_pre, set_pre, ty_pre, dTupRev, List.getElem?_cons_zero, List.getElem?_cons_succ, Option.some.injEq, exists_eq_left', exists_eq_left, exists_and_left, exists_and_right, and_assoc, D.int.injEq, D.bl.injEq, D.str.injEq, D.tup.injEq, D.lst.injEq, D.fz.injEq, D.ref.injEq, HB.lst.injEq, List.cons.injEq, and_true, true_and, List.set_cons_zero, List.set_cons_succ, List.map_cons, List.map_nil, List.length_cons, List.length_nil, Nat.reduceAdd, Nat.reduceSub, Nat.sub_self, Nat.zero_add, List.replicate_zero, List.replicate_succ, List.append_nil, List.cons_append, List.nil_append, decide_eq_true_eq, decide_eq_false_iff_not, Bool.not_eq_true', Bool.not_eq_false', Bool.true_eq_false, Bool.false_eq_true, false_implies, forall_const, true_implies, reduceCtorEq, and_false, false_and, Bool.not_true, Bool.not_false, if_true, if_false]
  refine ⟨small (by decide), ?_⟩
  let good : Nat × Nat → Prop := fun p => ∃ i j : Nat, i < j ∧ o[i]? = some p.1 ∧ o[j]? = some p.2
  refine forW_inv (nats dr) (fun k σ h' => ∃ a b c ps, σ = [some (.lst (nats dr)), some (.int n), some (.lst (nats o)), some (.ref h.length), a, b, c] ∧ h' = h ++ [.lst (prs ps)] ∧ ps.Nodup ∧ ps.length ≤ k ∧ ∀ p ∈ ps, good p) ⟨none, none, none, [], rfl, rfl, List.nodup_nil, Nat.le_refl _, fun p hp => nomatch hp⟩ (fun _ _ _ _ _ => rfl) ?_ ?_
  · rintro k x σ h' N hx ⟨a, b, c, ps, rfl, rfl, pnd, pl, pg⟩ hN
    obtain ⟨v, hv, rfl, _, _, hm⟩ := get_map hx
    have hk : k < dr.length := (List.getElem?_eq_some_iff.mp hv).1
    simp only [sSeq, sNil, sIf, sRet, sRetN, sSet, sAsg, sExpr, sNever, sFor, sNox, sBrk, sCont, sFldD, sAug, sAugS, dVar, dC, dOp, dI0, dII, dNeg, dInv, dAndV, dOrV, dNotV, dTst, dTru, dAnd, dOr, dNot, dIfE, dChn, dCall, dCallK, dMake, aNil, aCons, dTup, dLst, dLstH, dFldC, dCB, dBM, tgN, tgSub, iL, iT, iR1, iR2, DEnds.xx, dLc, dLcH, dYes, dSl, oNon, oSome, nI2, nTup, nLst, nLstH, mApp, wipeD, dIn, dIsN, dNotN, dAddH, dMulH, tru_bl, tru_int, add_int, add_tup, mul_int, len_tup, len_lst, len_fz, ne_int, eq_int, ne_bl, eq_bl, int_int, int_bl, ty_end, asL_lst, asL_fz, asS_tup, asS_lst, asS_fz, tgs_cons_eq, tgs_nil_eq, tg_tup_eq, tg_lst_eq, at_end, set_end, asS_end, asL_end, at_pre, set_pre, ty_pre, dTupRev, List.getElem?_cons_zero, List.getElem?_cons_succ, Option.some.injEq, exists_eq_left', exists_eq_left, exists_and_left, exists_and_right, and_assoc, D.int.injEq, D.bl.injEq, D.str.injEq, D.tup.injEq, D.lst.injEq, D.fz.injEq, D.ref.injEq, HB.lst.injEq, List.cons.injEq, and_true, true_and, List.set_cons_zero, List.set_cons_succ, List.map_cons, List.map_nil, List.length_cons, List.length_nil, Nat.reduceAdd, Nat.reduceSub, Nat.sub_self, Nat.zero_add, List.replicate_zero, List.replicate_succ, List.append_nil, List.cons_append, List.nil_append, decide_eq_true_eq, decide_eq_false_iff_not, Bool.not_eq_true', Bool.not_eq_false', Bool.true_eq_false, Bool.false_eq_true, false_implies, forall_const, true_implies, reduceCtorEq, and_false, false_and, Bool.not_true, Bool.not_false, if_true, if_false]
    refine ⟨fun h1 => ?_, fun _ => hN _ _ ⟨_, _, _, ps, rfl, rfl, pnd, by omega, pg⟩⟩
    simp only [mod_nat, div40, min_nat, max_nat]
    have hn0 : 0 < n := by omega
    have ha1 : v % n < n := Nat.mod_lt _ hn0
    have hb1 : v / 40 % n < n := Nat.mod_lt _ hn0
    obtain ⟨x, hx1⟩ := get_lt (l := o) (i := min (v % n) (v / 40 % n)) (by omega)
    obtain ⟨y, hy1⟩ := get_lt (l := o) (i := max (v % n) (v / 40 % n)) (by omega)
    have cd : CDiv (v : Int) 40 := ⟨by decide, by decide⟩
    refine ⟨by omega, cd, by omega, by omega, cd, by omega, fun hlt => ?_, fun _ => hN _ _ ⟨_, _, _, ps, rfl, rfl, pnd, by omega, pg⟩⟩
    simp only [ix_lst (nats_at hx1), ix_lst (nats_at hy1), dIn, rz, at_end, List.getElem?_cons_zero, List.getElem?_cons_succ, Option.some.injEq, exists_eq_left', exists_eq_left, exists_and_left, exists_and_right, and_assoc, D.int.injEq, D.bl.injEq, D.str.injEq, D.tup.injEq, D.lst.injEq, D.fz.injEq, D.ref.injEq, HB.lst.injEq, List.cons.injEq, and_true, true_and, List.set_cons_zero, List.set_cons_succ, List.map_cons, List.map_nil, List.length_cons, List.length_nil, Nat.reduceAdd, Nat.reduceSub, Nat.sub_self, Nat.zero_add, List.replicate_zero, List.replicate_succ, List.append_nil, List.cons_append, List.nil_append, decide_eq_true_eq, decide_eq_false_iff_not, Bool.not_eq_true', Bool.not_eq_false', Bool.true_eq_false, Bool.false_eq_true, false_implies, forall_const, true_implies, reduceCtorEq, and_false, false_and, Bool.not_true, Bool.not_false, if_true, if_false]
    have ok : ∀ p : Nat × Nat, OkD 59 (prN p) := fun p => OkD.ints (n := 58) (l := [(p.1 : Int), (p.2 : Int)])
    refine ⟨small (by decide), OkD.ints (n := 59) (l := [(x : Int), (y : Int)]), fun z hz => ?_, fun hnot => ?_, fun _ => hN _ _ ⟨_, _, _, ps, rfl, rfl, pnd, by omega, pg⟩⟩
    · obtain ⟨p, _, rfl⟩ := List.mem_map.mp hz
      exact ok p
    · have hnew : (x, y) ∉ ps := fun hin => by
        have : (prs ps).any (fun z => deq z (D.tup [D.int (x : Int), D.int (y : Int)])) = true := by
          rw [List.any_eq_true]
          refine ⟨prN (x, y), List.mem_map_of_mem hin, ?_⟩
          show deq (prN (x, y)) (prN (x, y)) = true
          rw [deq_pr]; simp
        rw [this] at hnot
        cases hnot
      refine ⟨.inl ⟨rfl, _, asL_ref at_end⟩, small (by decide), smallL (by rw [prs_len]; omega), hN _ _ ⟨_, _, _, ps ++ [(x, y)], rfl, ?_, ?_, by rw [List.length_append]; simpa using pl, fun p hp => ?_⟩⟩
      · rw [set_end]
        unfold prs
        rw [List.map_append]; rfl
      · rw [List.nodup_append]
        refine ⟨pnd, by simp, fun a ha b hb => ?_⟩
        rw [List.mem_singleton.mp hb]
        rintro rfl
        exact hnew ha
      · rcases List.mem_append.mp hp with hp | hp
        · exact pg p hp
        · rw [List.mem_singleton.mp hp]
          exact ⟨_, _, by omega, hx1, hy1⟩
  · rintro σ h' ⟨a, b, c, ps, rfl, rfl, pnd, pl, pg⟩
    simp only [sSeq, sNil, sIf, sRet, sRetN, sSet, sAsg, sExpr, sNever, sFor, sNox, sBrk, sCont, sFldD, sAug, sAugS, dVar, dC, dOp, dI0, dII, dNeg, dInv, dAndV, dOrV, dNotV, dTst, dTru, dAnd, dOr, dNot, dIfE, dChn, dCall, dCallK, dMake, aNil, aCons, dTup, dLst, dLstH, dFldC, dCB, dBM, tgN, tgSub, iL, iT, iR1, iR2, DEnds.xx, dLc, dLcH, dYes, dSl, oNon, oSome, nI2, nTup, nLst, nLstH, mApp, wipeD, dIn, dIsN, dNotN, dAddH, dMulH, tru_bl, tru_int, add_int, add_tup, mul_int, len_tup, len_lst, len_fz, ne_int, eq_int, ne_bl, eq_bl, int_int, int_bl, ty_end, asL_lst, asL_fz, asS_tup, asS_lst, asS_fz, tgs_cons_eq, tgs_nil_eq, tg_tup_eq, tg_lst_eq, at_end, set_end, asS_end, asL_end, at_pre, set_pre, ty_pre, dTupRev, List.getElem?_cons_zero, List.getElem?_cons_succ, Option.some.injEq, exists_eq_left', exists_eq_left, exists_and_left, exists_and_right, and_assoc, D.int.injEq, D.bl.injEq, D.str.injEq, D.tup.injEq, D.lst.injEq, D.fz.injEq, D.ref.injEq, HB.lst.injEq, List.cons.injEq, and_true, true_and, List.set_cons_zero, List.set_cons_succ, List.map_cons, List.map_nil, List.length_cons, List.length_nil, Nat.reduceAdd, Nat.reduceSub, Nat.sub_self, Nat.zero_add, List.replicate_zero, List.replicate_succ, List.append_nil, List.cons_append, List.nil_append, decide_eq_true_eq, decide_eq_false_iff_not, Bool.not_eq_true', Bool.not_eq_false', Bool.true_eq_false, Bool.false_eq_true, false_implies, forall_const, true_implies, reduceCtorEq, and_false, false_and, Bool.not_true, Bool.not_false, if_true, if_false]
    refine ⟨_, ps.map cst, rfl, by rw [← prs_cst]; exact asL_ref at_end, fun qs hp hs => ?_⟩
    obtain ⟨rs, rfl, rp, ru⟩ := sorted_prs hp hs pnd
    rw [← prs_cst]
    refine rt_back (Bds_all fun x hx => ?_) (q rs ⟨fun p hp => ?_, ru, ?_⟩ fun p hp => pg p (rp.mem_iff.mp hp))
    · obtain ⟨p, _, rfl⟩ := List.mem_map.mp hx
      exact ⟨trivial, trivial, trivial⟩
    · obtain ⟨i, j, hij, h1, h2⟩ := pg p (rp.mem_iff.mp hp)
      refine ⟨hb _ (List.mem_of_getElem? h1), hb _ (List.mem_of_getElem? h2), fun e => ?_⟩
      obtain ⟨hi, e1⟩ := List.getElem?_eq_some_iff.mp h1
      obtain ⟨hj, e2⟩ := List.getElem?_eq_some_iff.mp h2
      have := (List.getElem_inj nd).mp (e1.trans (e.trans e2.symm))
      omega
    · rw [rp.length_eq]
      rw [nats_len] at pl
      omega
end L2.MW.K49

namespace L2.MW.K49
open PySem PySem.Spec PyProof.Rows L2 L2.MW
theorem rg_nats (n : Nat) : rgD 0 n = nats (List.range n) := by
  unfold rgD nats
  refine List.map_congr_left fun i _ => ?_
  rw [Int.zero_add]
theorem bit_eq1 {b : Bool} : ((if b = true then (1 : Int) else 0) == 1) = b := by cases b <;> rfl
theorem iOf_int {i : Int} : iOf (.int i) = i := rfl
theorem rd_law_in (ds : List D) (h : DHp) (X : DX) (Q : DK) (hds : ds.length = 2) (c : ct__law_in ds h X Q) : tb__law_in (endsD h X Q) (startD 3 ds) h := by
  obtain ⟨n, m, rfl, hn, q⟩ := c
  simp only [tb__law_in, startD, sSeq, sNil, sIf, sRet, sRetN, sSet, sAsg, sExpr, sNever, sFor, sNox, sBrk, sCont, sFldD, sAug, sAugS, dVar, dC, dOp, dI0, dII, dNeg, dInv, dAndV, dOrV, dNotV, dTst, dTru, dAnd, dOr, dNot, dIfE, dChn, dCall, dCallK, dMake, aNil, aCons, dTup, dLst, dLstH, dFldC, dCB, dBM, tgN, tgSub, iL, iT, iR1, iR2, DEnds.xx, dLc, dLcH, dYes, dSl, oNon, oSome, nI2, nTup, nLst, nLstH, mApp, wipeD, dIn, dIsN, dNotN, dAddH, dMulH, tru_bl, tru_int, add_int, add_tup, mul_int, len_tup, len_lst, len_fz, ne_int, eq_int, ne_bl, eq_bl, int_int, int_bl, ty_end, asL_lst, asL_fz, asS_tup, asS_lst, asS_fz, tgs_cons_eq, tgs_nil_eq, tg_tup_eq, tg_lst_eq, at_end, set_end, asS_end, asL_end, at_pre, set_pre, ty_pre, dTupRev, List.getElem?_cons_zero, List.getElem?_cons_succ, Option.some.injEq, exists_eq_left', exists_eq_left, exists_and_left, exists_and_right, and_assoc, D.int.injEq, D.bl.injEq, D.str.injEq, D.tup.injEq, D.lst.injEq, D.fz.injEq, D.ref.injEq, HB.lst.injEq, List.cons.injEq, and_true, true_and, List.set_cons_zero, List.set_cons_succ, List.map_cons, List.map_nil, List.length_cons, List.length_nil, Nat.reduceAdd, Nat.reduceSub, Nat.sub_self, Nat.zero_add, List.replicate_zero, List.replicate_succ, List.append_nil, List.cons_append, List.nil_append, decide_eq_true_eq, decide_eq_false_iff_not, Bool.not_eq_true', Bool.not_eq_false', Bool.true_eq_false, Bool.false_eq_true, false_implies, forall_const, true_implies, reduceCtorEq, and_false, false_and, Bool.not_true, Bool.not_false, if_true, if_false]
  refine ⟨rgOk (by omega), ?_⟩
  rw [Int.toNat_natCast]
  refine lc_map (fun d => d) (fun d => m.testBit (iOf d).toNat) (rgD 0 n) (fun _ => trivial) (small (by rw [rg_len]; omega)) ?_ ?_
  · intro x hx acc R hl hA hB
    obtain ⟨i, hi, rfl⟩ := rg_mem hx
    rw [iOf_int, Int.toNat_natCast] at hA hB
    simp only [sSeq, sNil, sIf, sRet, sRetN, sSet, sAsg, sExpr, sNever, sFor, sNox, sBrk, sCont, sFldD, sAug, sAugS, dVar, dC, dOp, dI0, dII, dNeg, dInv, dAndV, dOrV, dNotV, dTst, dTru, dAnd, dOr, dNot, dIfE, dChn, dCall, dCallK, dMake, aNil, aCons, dTup, dLst, dLstH, dFldC, dCB, dBM, tgN, tgSub, iL, iT, iR1, iR2, DEnds.xx, dLc, dLcH, dYes, dSl, oNon, oSome, nI2, nTup, nLst, nLstH, mApp, wipeD, dIn, dIsN, dNotN, dAddH, dMulH, tru_bl, tru_int, add_int, add_tup, mul_int, len_tup, len_lst, len_fz, ne_int, eq_int, ne_bl, eq_bl, int_int, int_bl, ty_end, asL_lst, asL_fz, asS_tup, asS_lst, asS_fz, tgs_cons_eq, tgs_nil_eq, tg_tup_eq, tg_lst_eq, at_end, set_end, asS_end, asL_end, at_pre, set_pre, ty_pre, dTupRev, List.getElem?_cons_zero, List.getElem?_cons_succ, Option.some.injEq, exists_eq_left', exists_eq_left, exists_and_left, exists_and_right, and_assoc, D.int.injEq, D.bl.injEq, D.str.injEq, D.tup.injEq, D.lst.injEq, D.fz.injEq, D.ref.injEq, HB.lst.injEq, List.cons.injEq, and_true, true_and, List.set_cons_zero, List.set_cons_succ, List.map_cons, List.map_nil, List.length_cons, List.length_nil, Nat.reduceAdd, Nat.reduceSub, Nat.sub_self, Nat.zero_add, List.replicate_zero, List.replicate_succ, List.append_nil, List.cons_append, List.nil_append, decide_eq_true_eq, decide_eq_false_iff_not, Bool.not_eq_true', Bool.not_eq_false', Bool.true_eq_false, Bool.false_eq_true, false_implies, forall_const, true_implies, reduceCtorEq, and_false, false_and, Bool.not_true, Bool.not_false, if_true, if_false]
    rw [Int.toNat_natCast, bBit, bit_eq1]
    exact ⟨by omega, fun z => ⟨hl, hA z⟩, hB⟩
  · have e : lcF (fun d => d) (fun d => m.testBit (iOf d).toNat) (rgD 0 n) = nats ((List.range n).filter fun k => m.testBit k) := by
      rw [rg_nats]
      unfold lcF nats
      rw [List.filter_map, List.map_map]
      rfl
    rw [e]
    exact ⟨_, rfl, Bds_nats, rt_keep q⟩
theorem prD_at {p : Nat × Nat} {h : DHp} {Q : DK} : (dIx (prN p) (.int 0) h Q ↔ Q (.int (p.1 : Int)) h) ∧ (dIx (prN p) (.int 1) h Q ↔ Q (.int (p.2 : Int)) h) := ⟨ix_tup atI_0, ix_tup atI_1⟩
theorem nats_ixN {ms : List Nat} {e : Nat} (h : e < ms.length) : ixN (nats ms).length (e : Int) = some e := by rw [nats_len]; exact ixN_nat h

/-! ### needs, closed -/
/-- k leads to e in l steps -/
inductive Pth (cs : List (Nat × Nat)) : Nat → Nat → Nat → Prop
  | nil (e : Nat) : Pth cs 0 e e
  | snoc {l k a b : Nat} : Pth cs l k a → (a, b) ∈ cs → Pth cs (l + 1) k b
theorem Pth.rank {cs : List (Nat × Nat)} {r : Nat → Nat} (h : ∀ p ∈ cs, r p.1 < r p.2) {l k e : Nat} (p : Pth cs l k e) : r k + l ≤ r e := by
  induction p with
  | nil => omega
  | snoc q hm ih => have := h _ hm; simp at this; omega
theorem Pth.le {n : Nat} {cs : List (Nat × Nat)} (rk : RankedN n cs) {l k e : Nat} (p : Pth cs l k e) : l ≤ n := by
  obtain ⟨r, h1, h2⟩ := rk
  have h3 := p.rank h1
  cases p with
  | nil => omega
  | snoc q hm => have := h2 _ hm; simp at this; omega
/-- sound: only what leads there -/
def Snd (cs : List (Nat × Nat)) (ms : List Nat) : Prop := ∀ e m k : Nat, ms[e]? = some m → m.testBit k = true → ∃ l, Pth cs l k e
/-- complete up to t steps -/
def Cpl (cs : List (Nat × Nat)) (n t : Nat) (ms : List Nat) : Prop := ∀ l k e m : Nat, l ≤ t → e < n → ms[e]? = some m → Pth cs l k e → m.testBit k = true
theorem needs_of {n : Nat} {cs : List (Nat × Nat)} {ms : List Nat} (rk : RankedN n cs) (ok : PrOk n cs) (hl : ms.length = n) (s : Snd cs ms) (c : Cpl cs n n ms) : Needs n cs ms := by
  have lt : ∀ {e m : Nat}, ms[e]? = some m → e < n := fun h => by have := (List.getElem?_eq_some_iff.mp h).1; omega
  have iff : ∀ {e m : Nat}, ms[e]? = some m → ∀ k, m.testBit k = true ↔ ∃ l, Pth cs l k e := fun {e m} h k => ⟨s e m k h, fun ⟨l, p⟩ => c l k e m (p.le rk) (lt h) h p⟩
  refine ⟨hl, fun e m h => (iff h e).mpr ⟨0, .nil e⟩, fun p hp a b k ha hb hk => ?_, fun e m h p hp hk => ?_, fun e m h => ?_⟩
  · obtain ⟨l, q⟩ := (iff ha k).mp hk
    exact (iff hb k).mpr ⟨l + 1, .snoc q hp⟩
  · obtain ⟨l, q⟩ := (iff h p.2).mp hk
    -- p.1 leads to p.2 leads to e
    have pre : ∀ {l e : Nat}, Pth cs l p.2 e → ∃ l', Pth cs l' p.1 e := fun {l e} q => by
      generalize hx : p.2 = x at q
      induction q with
      | nil => exact ⟨1, .snoc (.nil _) (by rw [← hx]; exact hp)⟩
      | snoc q hm ih => obtain ⟨l', q'⟩ := ih hx; exact ⟨l' + 1, .snoc q' hm⟩
    obtain ⟨l', q'⟩ := pre q
    exact (iff h p.1).mpr ⟨l', q'⟩
  · refine Nat.lt_pow_two_of_testBit _ fun k hk => ?_
    cases z : m.testBit k with
    | false => rfl
    | true =>
      obtain ⟨l, q⟩ := (iff h k).mp z
      have : k < n := by
        have st : ∀ {l k e : Nat}, Pth cs l k e → k = e ∨ k < n := fun q => by
          induction q with
          | nil => exact .inl rfl
          | snoc q hm ih =>
            rcases ih with rfl | ih
            · exact .inr (ok.bd _ hm).1
            · exact .inr ih
        rcases st q with rfl | z
        · exact lt h
        · exact z
      omega

theorem set_cases {ms : List Nat} {j e v m : Nat} (h : (ms.set j v)[e]? = some m) : (e = j ∧ m = v ∧ j < ms.length) ∨ (e ≠ j ∧ ms[e]? = some m) := by
  by_cases q : j = e
  · subst q
    have hl : j < ms.length := by have := (List.getElem?_eq_some_iff.mp h).1; rwa [List.length_set] at this
    rw [List.getElem?_set_self hl] at h
    cases h
    exact .inl ⟨rfl, rfl, hl⟩
  · rw [List.getElem?_set_ne q] at h
    exact .inr ⟨fun z => q z.symm, h⟩
/-- within a turn -/
structure Turn (n : Nat) (cs : List (Nat × Nat)) (ms0 ms : List Nat) (j : Nat) (b : Bool) : Prop where
  len : ms.length = n
  snd : Snd cs ms
  mono : ∀ e m0 m k : Nat, ms0[e]? = some m0 → ms[e]? = some m → m0.testBit k = true → m.testBit k = true
  done : ∀ p ∈ cs.take j, ∀ m0 m k : Nat, ms0[p.1]? = some m0 → ms[p.2]? = some m → m0.testBit k = true → m.testBit k = true
  same : b = false → ms = ms0
theorem rd_law_needs (ds : List D) (h : DHp) (X : DX) (Q : DK) (hds : ds.length = 2) (c : ct__law_needs ds h X Q) : tb__law_needs (endsD h X Q) (startD N__law_needs.length ds) h := by
  obtain ⟨n, cs, rfl, hn, ok, rk, q⟩ := c
  simp only [tb__law_needs, startD, sSeq, sNil, sIf, sRet, sRetN, sSet, sAsg, sExpr, sNever, sFor, sNox, sBrk, sCont, sFldD, sAug, sAugS, dVar, dC, dOp, dI0, dII, dNeg, dInv, dAndV, dOrV, dNotV, dTst, dTru, dAnd, dOr, dNot, dIfE, dChn, dCall, dCallK, dMake, aNil, aCons, dTup, dLst, dLstH, dFldC, dCB, dBM, tgN, tgSub, iL, iT, iR1, iR2, DEnds.xx, dLc, dLcH, dYes, dSl, oNon, oSome, nI2, nTup, nLst, nLstH, mApp, wipeD, dIn, dIsN, dNotN, dAddH, dMulH, tru_bl, tru_int, add_int, add_tup, mul_int, len_tup, len_lst, len_fz, ne_int, eq_int, ne_bl, eq_bl, int_int, int_bl, ty_end, asL_lst, asL_fz, asS_tup, asS_lst, asS_fz, tgs_cons_eq, tgs_nil_eq, tg_tup_eq, tg_lst_eq, at_end, set_end, asS_end, asL_end, at_pre, set_pre, ty_pre, dTupRev, List.getElem?_cons_zero, List.getElem?_cons_succ, Option.some.injEq, exists_eq_left', exists_eq_left, exists_and_left, exists_and_right, and_assoc, D.int.injEq, D.bl.injEq, D.str.injEq, D.tup.injEq, D.lst.injEq, D.fz.injEq, D.ref.injEq, HB.lst.injEq, List.cons.injEq, and_true, true_and, List.set_cons_zero, List.set_cons_succ, List.map_cons, List.map_nil, List.length_cons, List.length_nil, Nat.reduceAdd, Nat.reduceSub, Nat.sub_self, Nat.zero_add, List.replicate_zero, List.replicate_succ, List.append_nil, List.cons_append, List.nil_append, decide_eq_true_eq, decide_eq_false_iff_not, Bool.not_eq_true', Bool.not_eq_false', Bool.true_eq_false, Bool.false_eq_true, false_implies, forall_const, true_implies, reduceCtorEq, and_false, false_and, Bool.not_true, Bool.not_false, if_true, if_false]
  refine ⟨rgOk (by omega), ?_⟩
  rw [Int.toNat_natCast]
  have fin : ∀ {ms : List Nat}, Needs n cs ms → (endsD h X Q).rt (.ref h.length) (h ++ [.lst (nats ms)]) := fun e => rt_lst Bds_nats (q _ e)
  refine lc_map (fun d => .int ((2 ^ (iOf d).toNat : Nat) : Int)) (fun _ => true) (rgD 0 n) (fun _ => trivial) (small (by rw [rg_len]; omega)) ?_ ?_
  · intro x hx acc R hl hA hB
    obtain ⟨i, hi, rfl⟩ := rg_mem hx
    rw [iOf_int, Int.toNat_natCast] at hA
    simp only [sSeq, sNil, sIf, sRet, sRetN, sSet, sAsg, sExpr, sNever, sFor, sNox, sBrk, sCont, sFldD, sAug, sAugS, dVar, dC, dOp, dI0, dII, dNeg, dInv, dAndV, dOrV, dNotV, dTst, dTru, dAnd, dOr, dNot, dIfE, dChn, dCall, dCallK, dMake, aNil, aCons, dTup, dLst, dLstH, dFldC, dCB, dBM, tgN, tgSub, iL, iT, iR1, iR2, DEnds.xx, dLc, dLcH, dYes, dSl, oNon, oSome, nI2, nTup, nLst, nLstH, mApp, wipeD, dIn, dIsN, dNotN, dAddH, dMulH, tru_bl, tru_int, add_int, add_tup, mul_int, len_tup, len_lst, len_fz, ne_int, eq_int, ne_bl, eq_bl, int_int, int_bl, ty_end, asL_lst, asL_fz, asS_tup, asS_lst, asS_fz, tgs_cons_eq, tgs_nil_eq, tg_tup_eq, tg_lst_eq, at_end, set_end, asS_end, asL_end, at_pre, set_pre, ty_pre, dTupRev, List.getElem?_cons_zero, List.getElem?_cons_succ, Option.some.injEq, exists_eq_left', exists_eq_left, exists_and_left, exists_and_right, and_assoc, D.int.injEq, D.bl.injEq, D.str.injEq, D.tup.injEq, D.lst.injEq, D.fz.injEq, D.ref.injEq, HB.lst.injEq, List.cons.injEq, and_true, true_and, List.set_cons_zero, List.set_cons_succ, List.map_cons, List.map_nil, List.length_cons, List.length_nil, Nat.reduceAdd, Nat.reduceSub, Nat.sub_self, Nat.zero_add, List.replicate_zero, List.replicate_succ, List.append_nil, List.cons_append, List.nil_append, decide_eq_true_eq, decide_eq_false_iff_not, Bool.not_eq_true', Bool.not_eq_false', Bool.true_eq_false, Bool.false_eq_true, false_implies, forall_const, true_implies, reduceCtorEq, and_false, false_and, Bool.not_true, Bool.not_false, if_true, if_false]
    refine ⟨⟨by omega, by omega, by decide⟩, hl, ?_⟩
    rw [Int.toNat_natCast, bShl]
    exact hA rfl
  · have e : lcF (fun d => D.int ((2 ^ (iOf d).toNat : Nat) : Int)) (fun _ => true) (rgD 0 n) = nats ((List.range n).map fun k => 2 ^ k) := by
      rw [rg_nats]
      unfold lcF nats
      rw [List.filter_eq_self.mpr (fun _ _ => rfl), List.map_map, List.map_map]
      rfl
    rw [e]
    have at0 : ∀ {e m : Nat}, ((List.range n).map fun k => 2 ^ k)[e]? = some m → m = 2 ^ e := fun {e m} he => by
      rw [List.getElem?_map] at he
      by_cases hh : e < n
      · rw [List.getElem?_range hh] at he
        exact (Option.some.inj he).symm
      · rw [List.getElem?_eq_none (by rw [List.length_range]; omega)] at he; cases he
    refine ⟨rgOk (by omega), ?_⟩
    refine forW_inv (rgD 0 n) (fun t σ h' => ∃ ms o3 o4 o5 o6 o7, σ = [some (.int n), some (.lst (prs cs)), some (.ref h.length), o3, o4, o5, o6, o7] ∧ h' = h ++ [.lst (nats ms)] ∧ ms.length = n ∧ Snd cs ms ∧ Cpl cs n t ms)
      ⟨_, _, _, _, _, _, rfl, rfl, by rw [List.length_map, List.length_range], fun e m k he hk => ?_, fun l k e m hl he hm p => ?_⟩ (fun _ _ _ _ _ => trivial) ?_ ?_
    · rw [at0 he, Nat.testBit_two_pow] at hk
      have := of_decide_eq_true hk
      subst this
      exact ⟨0, .nil _⟩
    · have : l = 0 := by omega
      subst this
      cases p
      rw [at0 hm, Nat.testBit_two_pow]
      exact decide_eq_true rfl
    · rintro t x σ h' N hx ⟨ms0, o3, o4, o5, o6, o7, rfl, rfl, hl0, s0, c0⟩ hN
      obtain ⟨rfl, hi⟩ := rg_get hx
      simp only [sSeq, sNil, sIf, sRet, sRetN, sSet, sAsg, sExpr, sNever, sFor, sNox, sBrk, sCont, sFldD, sAug, sAugS, dVar, dC, dOp, dI0, dII, dNeg, dInv, dAndV, dOrV, dNotV, dTst, dTru, dAnd, dOr, dNot, dIfE, dChn, dCall, dCallK, dMake, aNil, aCons, dTup, dLst, dLstH, dFldC, dCB, dBM, tgN, tgSub, iL, iT, iR1, iR2, DEnds.xx, dLc, dLcH, dYes, dSl, oNon, oSome, nI2, nTup, nLst, nLstH, mApp, wipeD, dIn, dIsN, dNotN, dAddH, dMulH, tru_bl, tru_int, add_int, add_tup, mul_int, len_tup, len_lst, len_fz, ne_int, eq_int, ne_bl, eq_bl, int_int, int_bl, ty_end, asL_lst, asL_fz, asS_tup, asS_lst, asS_fz, tgs_cons_eq, tgs_nil_eq, tg_tup_eq, tg_lst_eq, at_end, set_end, asS_end, asL_end, at_pre, set_pre, ty_pre, dTupRev, List.getElem?_cons_zero, List.getElem?_cons_succ, Option.some.injEq, exists_eq_left', exists_eq_left, exists_and_left, exists_and_right, and_assoc, D.int.injEq, D.bl.injEq, D.str.injEq, D.tup.injEq, D.lst.injEq, D.fz.injEq, D.ref.injEq, HB.lst.injEq, List.cons.injEq, and_true, true_and, List.set_cons_zero, List.set_cons_succ, List.map_cons, List.map_nil, List.length_cons, List.length_nil, Nat.reduceAdd, Nat.reduceSub, Nat.sub_self, Nat.zero_add, List.replicate_zero, List.replicate_succ, List.append_nil, List.cons_append, List.nil_append, decide_eq_true_eq, decide_eq_false_iff_not, Bool.not_eq_true', Bool.not_eq_false', Bool.true_eq_false, Bool.false_eq_true, false_implies, forall_const, true_implies, reduceCtorEq, and_false, false_and, Bool.not_true, Bool.not_false, if_true, if_false]
      refine forW_inv (prs cs) (fun j σ h' => ∃ ms o3 o4 b o6 o7, σ = [some (.int n), some (.lst (prs cs)), some (.ref h.length), o3, o4, some (.bl b), o6, o7] ∧ h' = h ++ [.lst (nats ms)] ∧ Turn n cs ms0 ms j b)
        ⟨ms0, _, _, _, _, _, rfl, rfl, hl0, s0, fun e m0 m k h1 h2 hk => by rw [h1] at h2; cases h2; exact hk, (fun p hp => nomatch hp), fun _ => rfl⟩ (fun _ _ _ _ _ => rfl) ?_ ?_
      · rintro j x σ h' N hx ⟨ms, o3, o4, b, o6, o7, rfl, rfl, T⟩ hN
        obtain ⟨p, hp, rfl, ht, _, hm⟩ := get_map hx
        obtain ⟨b1, b2, b3⟩ := ok.bd p hm
        have hl := T.len
        obtain ⟨v, hv⟩ := get_lt (l := ms) (i := p.2) (by omega)
        obtain ⟨u, hu⟩ := get_lt (l := ms) (i := p.1) (by omega)
        simp only [sSeq, sNil, sIf, sRet, sRetN, sSet, sAsg, sExpr, sNever, sFor, sNox, sBrk, sCont, sFldD, sAug, sAugS, dVar, dC, dOp, dI0, dII, dNeg, dInv, dAndV, dOrV, dNotV, dTst, dTru, dAnd, dOr, dNot, dIfE, dChn, dCall, dCallK, dMake, aNil, aCons, dTup, dLst, dLstH, dFldC, dCB, dBM, tgN, tgSub, iL, iT, iR1, iR2, DEnds.xx, dLc, dLcH, dYes, dSl, oNon, oSome, nI2, nTup, nLst, nLstH, mApp, wipeD, dIn, dIsN, dNotN, dAddH, dMulH, tru_bl, tru_int, add_int, add_tup, mul_int, len_tup, len_lst, len_fz, ne_int, eq_int, ne_bl, eq_bl, int_int, int_bl, ty_end, asL_lst, asL_fz, asS_tup, asS_lst, asS_fz, tgs_cons_eq, tgs_nil_eq, tg_tup_eq, tg_lst_eq, at_end, set_end, asS_end, asL_end, at_pre, set_pre, ty_pre, dTupRev, List.getElem?_cons_zero, List.getElem?_cons_succ, Option.some.injEq, exists_eq_left', exists_eq_left, exists_and_left, exists_and_right, and_assoc, D.int.injEq, D.bl.injEq, D.str.injEq, D.tup.injEq, D.lst.injEq, D.fz.injEq, D.ref.injEq, HB.lst.injEq, List.cons.injEq, and_true, true_and, List.set_cons_zero, List.set_cons_succ, List.map_cons, List.map_nil, List.length_cons, List.length_nil, Nat.reduceAdd, Nat.reduceSub, Nat.sub_self, Nat.zero_add, List.replicate_zero, List.replicate_succ, List.append_nil, List.cons_append, List.nil_append, decide_eq_true_eq, decide_eq_false_iff_not, Bool.not_eq_true', Bool.not_eq_false', Bool.true_eq_false, Bool.false_eq_true, false_implies, forall_const, true_implies, reduceCtorEq, and_false, false_and, Bool.not_true, Bool.not_false, if_true, if_false, prD_at, ix_ref at_end (nats_at hv), ix_ref at_end (nats_at hu)]
        simp only [bOr]
        refine ⟨fun hne => ⟨_, nats_ixN (by omega), hN _ _ ⟨ms.set p.2 (v ||| u), _, _, _, _, _, rfl, by rw [nats_set], ?_⟩⟩, fun heq => hN _ _ ⟨ms, _, _, _, _, _, rfl, rfl, ?_⟩⟩
        · refine ⟨by rw [List.length_set]; exact hl, fun e m k he hk => ?_, fun e m0 m k h0 h1 hk => ?_, fun p' hp' m0 m k h0 h1 hk => ?_, fun z => nomatch z⟩
          · rcases set_cases he with ⟨rfl, rfl, _⟩ | ⟨_, he⟩
            · rw [Nat.testBit_or] at hk
              rcases Bool.or_eq_true_iff.mp hk with hk | hk
              · exact T.snd _ _ _ hv hk
              · obtain ⟨l, q⟩ := T.snd _ _ _ hu hk
                exact ⟨l + 1, .snoc q hm⟩
            · exact T.snd _ _ _ he hk
          · rcases set_cases h1 with ⟨rfl, rfl, _⟩ | ⟨_, h1⟩
            · rw [Nat.testBit_or, T.mono _ _ _ k h0 hv hk]; rfl
            · exact T.mono _ _ _ k h0 h1 hk
          · rw [ht] at hp'
            rcases List.mem_append.mp hp' with hp' | hp'
            · rcases set_cases h1 with ⟨e1, rfl, _⟩ | ⟨_, h1⟩
              · rw [Nat.testBit_or, T.done p' hp' m0 v k h0 (by rw [e1]; exact hv) hk]; rfl
              · exact T.done p' hp' m0 m k h0 h1 hk
            · rw [List.mem_singleton.mp hp'] at h0 h1
              rcases set_cases h1 with ⟨_, rfl, _⟩ | ⟨z, _⟩
              · rw [Nat.testBit_or, T.mono _ _ _ k h0 hu hk, Bool.or_true]
              · exact absurd rfl z
        · have hvu : v ||| u = v := by
            have : (((v ||| u : Nat) : Int) == (v : Int)) = true := by simpa using heq
            have := beq_iff_eq.mp this
            omega
          refine ⟨hl, T.snd, T.mono, fun p' hp' m0 m k h0 h1 hk => ?_, T.same⟩
          rw [ht] at hp'
          rcases List.mem_append.mp hp' with hp' | hp'
          · exact T.done p' hp' m0 m k h0 h1 hk
          · rw [List.mem_singleton.mp hp'] at h0 h1
            rw [hv] at h1
            cases h1
            rw [← hvu, Nat.testBit_or, T.mono _ _ _ k h0 hu hk, Bool.or_true]
      · rintro σ h' ⟨ms, o3, o4, b, o6, o7, rfl, rfl, T⟩
        rw [prs_len] at T
        have td := T.done
        rw [List.take_length] at td
        simp only [sSeq, sNil, sIf, sRet, sRetN, sSet, sAsg, sExpr, sNever, sFor, sNox, sBrk, sCont, sFldD, sAug, sAugS, dVar, dC, dOp, dI0, dII, dNeg, dInv, dAndV, dOrV, dNotV, dTst, dTru, dAnd, dOr, dNot, dIfE, dChn, dCall, dCallK, dMake, aNil, aCons, dTup, dLst, dLstH, dFldC, dCB, dBM, tgN, tgSub, iL, iT, iR1, iR2, DEnds.xx, dLc, dLcH, dYes, dSl, oNon, oSome, nI2, nTup, nLst, nLstH, mApp, wipeD, dIn, dIsN, dNotN, dAddH, dMulH, tru_bl, tru_int, add_int, add_tup, mul_int, len_tup, len_lst, len_fz, ne_int, eq_int, ne_bl, eq_bl, int_int, int_bl, ty_end, asL_lst, asL_fz, asS_tup, asS_lst, asS_fz, tgs_cons_eq, tgs_nil_eq, tg_tup_eq, tg_lst_eq, at_end, set_end, asS_end, asL_end, at_pre, set_pre, ty_pre, dTupRev, List.getElem?_cons_zero, List.getElem?_cons_succ, Option.some.injEq, exists_eq_left', exists_eq_left, exists_and_left, exists_and_right, and_assoc, D.int.injEq, D.bl.injEq, D.str.injEq, D.tup.injEq, D.lst.injEq, D.fz.injEq, D.ref.injEq, HB.lst.injEq, List.cons.injEq, and_true, true_and, List.set_cons_zero, List.set_cons_succ, List.map_cons, List.map_nil, List.length_cons, List.length_nil, Nat.reduceAdd, Nat.reduceSub, Nat.sub_self, Nat.zero_add, List.replicate_zero, List.replicate_succ, List.append_nil, List.cons_append, List.nil_append, decide_eq_true_eq, decide_eq_false_iff_not, Bool.not_eq_true', Bool.not_eq_false', Bool.true_eq_false, Bool.false_eq_true, false_implies, forall_const, true_implies, reduceCtorEq, and_false, false_and, Bool.not_true, Bool.not_false, if_true, if_false]
        refine ⟨fun hb => ?_, fun _ => hN _ _ ⟨ms, _, _, _, _, _, rfl, rfl, T.len, T.snd, fun l k e m hl he hm p => ?_⟩⟩
        · have es := T.same hb
          subst es
          refine fin (needs_of rk ok T.len T.snd fun l k e m _ he hm p => ?_)
          clear hx hN
          induction p generalizing m with
          | nil => exact c0 0 _ _ m (Nat.zero_le _) he hm (.nil _)
          | @snoc l k a b q hmem ih =>
            have ha := (ok.bd _ hmem).1
            obtain ⟨ma, hma⟩ := get_lt (l := ms) (i := a) (by have := T.len; simp at ha; omega)
            exact td _ hmem ma m k hma hm (ih ma (by omega) (by simpa using ha) hma)
        · cases p with
          | nil =>
            obtain ⟨m0, hm0⟩ := get_lt (l := ms0) (i := k) (by omega)
            exact T.mono k m0 m k hm0 hm (c0 0 k k m0 (Nat.zero_le _) he hm0 (.nil _))
          | @snoc l k a b q hmem =>
            have ha := (ok.bd _ hmem).1
            obtain ⟨m0, hm0⟩ := get_lt (l := ms0) (i := a) (by simp at ha; omega)
            exact td _ hmem m0 m k hm0 hm (c0 l k a m0 (by omega) (by simpa using ha) hm0 q)
    · rintro σ h' ⟨ms, o3, o4, o5, o6, o7, rfl, rfl, hl, s, c⟩
      rw [rg_len] at c
      simp only [sSeq, sNil, sIf, sRet, sRetN, sSet, sAsg, sExpr, sNever, sFor, sNox, sBrk, sCont, sFldD, sAug, sAugS, dVar, dC, dOp, dI0, dII, dNeg, dInv, dAndV, dOrV, dNotV, dTst, dTru, dAnd, dOr, dNot, dIfE, dChn, dCall, dCallK, dMake, aNil, aCons, dTup, dLst, dLstH, dFldC, dCB, dBM, tgN, tgSub, iL, iT, iR1, iR2, DEnds.xx, dLc, dLcH, dYes, dSl, oNon, oSome, nI2, nTup, nLst, nLstH, mApp, wipeD, dIn, dIsN, dNotN, dAddH, dMulH, tru_bl, tru_int, add_int, add_tup, mul_int, len_tup, len_lst, len_fz, ne_int, eq_int, ne_bl, eq_bl, int_int, int_bl, ty_end, asL_lst, asL_fz, asS_tup, asS_lst, asS_fz, tgs_cons_eq, tgs_nil_eq, tg_tup_eq, tg_lst_eq, at_end, set_end, asS_end, asL_end, at_pre, set_pre, ty_pre, dTupRev, List.getElem?_cons_zero, List.getElem?_cons_succ, Option.some.injEq, exists_eq_left', exists_eq_left, exists_and_left, exists_and_right, and_assoc, D.int.injEq, D.bl.injEq, D.str.injEq, D.tup.injEq, D.lst.injEq, D.fz.injEq, D.ref.injEq, HB.lst.injEq, List.cons.injEq, and_true, true_and, List.set_cons_zero, List.set_cons_succ, List.map_cons, List.map_nil, List.length_cons, List.length_nil, Nat.reduceAdd, Nat.reduceSub, Nat.sub_self, Nat.zero_add, List.replicate_zero, List.replicate_succ, List.append_nil, List.cons_append, List.nil_append, decide_eq_true_eq, decide_eq_false_iff_not, Bool.not_eq_true', Bool.not_eq_false', Bool.true_eq_false, Bool.false_eq_true, false_implies, forall_const, true_implies, reduceCtorEq, and_false, false_and, Bool.not_true, Bool.not_false, if_true, if_false]
      exact fin (needs_of rk ok hl s c)
theorem rd_law_good (ds : List D) (h : DHp) (X : DX) (Q : DK) (hds : ds.length = 2) (c : ct__law_good ds h X Q) : tb__law_good (endsD h X Q) (startD N__law_good.length ds) h := by
  obtain ⟨m, n, fs, rfl, q⟩ := c
  have q' := rt_of (h0 := h) (X := X) q
  simp only [tb__law_good, startD, sSeq, sNil, sIf, sRet, sRetN, sSet, sAsg, sExpr, sNever, sFor, sNox, sBrk, sCont, sFldD, sAug, sAugS, dVar, dC, dOp, dI0, dII, dNeg, dInv, dAndV, dOrV, dNotV, dTst, dTru, dAnd, dOr, dNot, dIfE, dChn, dCall, dCallK, dMake, aNil, aCons, dTup, dLst, dLstH, dFldC, dCB, dBM, tgN, tgSub, iL, iT, iR1, iR2, DEnds.xx, dLc, dLcH, dYes, dSl, oNon, oSome, nI2, nTup, nLst, nLstH, mApp, wipeD, dIn, dIsN, dNotN, dAddH, dMulH, tru_bl, tru_int, add_int, add_tup, mul_int, len_tup, len_lst, len_fz, ne_int, eq_int, ne_bl, eq_bl, int_int, int_bl, ty_end, asL_lst, asL_fz, asS_tup, asS_lst, asS_fz, tgs_cons_eq, tgs_nil_eq, tg_tup_eq, tg_lst_eq, at_end, set_end, asS_end, asL_end, at_pre, set_pre, ty_pre, dTupRev, List.getElem?_cons_zero, List.getElem?_cons_succ, Option.some.injEq, exists_eq_left', exists_eq_left, exists_and_left, exists_and_right, and_assoc, D.int.injEq, D.bl.injEq, D.str.injEq, D.tup.injEq, D.lst.injEq, D.fz.injEq, D.ref.injEq, HB.lst.injEq, List.cons.injEq, and_true, true_and, List.set_cons_zero, List.set_cons_succ, List.map_cons, List.map_nil, List.length_cons, List.length_nil, Nat.reduceAdd, Nat.reduceSub, Nat.sub_self, Nat.zero_add, List.replicate_zero, List.replicate_succ, List.append_nil, List.cons_append, List.nil_append, decide_eq_true_eq, decide_eq_false_iff_not, Bool.not_eq_true', Bool.not_eq_false', Bool.true_eq_false, Bool.false_eq_true, false_implies, forall_const, true_implies, reduceCtorEq, and_false, false_and, Bool.not_true, Bool.not_false, if_true, if_false]
  refine forW_inv (prs fs) (fun i σ h' => h' = h ∧ (fs.take i).all (fun p => !(m.testBit p.1 && m.testBit p.2)) = true ∧ ∃ o, σ = [some (.int m), some (.lst (prs fs)), o]) ⟨rfl, rfl, _, rfl⟩ (fun _ _ _ _ _ => rfl) ?_ ?_
  · rintro i x σ h' N hx ⟨rfl, ha, o, rfl⟩ hN
    obtain ⟨p, hp, rfl, ht, _, hm⟩ := get_map hx
    simp only [sSeq, sNil, sIf, sRet, sRetN, sSet, sAsg, sExpr, sNever, sFor, sNox, sBrk, sCont, sFldD, sAug, sAugS, dVar, dC, dOp, dI0, dII, dNeg, dInv, dAndV, dOrV, dNotV, dTst, dTru, dAnd, dOr, dNot, dIfE, dChn, dCall, dCallK, dMake, aNil, aCons, dTup, dLst, dLstH, dFldC, dCB, dBM, tgN, tgSub, iL, iT, iR1, iR2, DEnds.xx, dLc, dLcH, dYes, dSl, oNon, oSome, nI2, nTup, nLst, nLstH, mApp, wipeD, dIn, dIsN, dNotN, dAddH, dMulH, tru_bl, tru_int, add_int, add_tup, mul_int, len_tup, len_lst, len_fz, ne_int, eq_int, ne_bl, eq_bl, int_int, int_bl, ty_end, asL_lst, asL_fz, asS_tup, asS_lst, asS_fz, tgs_cons_eq, tgs_nil_eq, tg_tup_eq, tg_lst_eq, at_end, set_end, asS_end, asL_end, at_pre, set_pre, ty_pre, dTupRev, List.getElem?_cons_zero, List.getElem?_cons_succ, Option.some.injEq, exists_eq_left', exists_eq_left, exists_and_left, exists_and_right, and_assoc, D.int.injEq, D.bl.injEq, D.str.injEq, D.tup.injEq, D.lst.injEq, D.fz.injEq, D.ref.injEq, HB.lst.injEq, List.cons.injEq, and_true, true_and, List.set_cons_zero, List.set_cons_succ, List.map_cons, List.map_nil, List.length_cons, List.length_nil, Nat.reduceAdd, Nat.reduceSub, Nat.sub_self, Nat.zero_add, List.replicate_zero, List.replicate_succ, List.append_nil, List.cons_append, List.nil_append, decide_eq_true_eq, decide_eq_false_iff_not, Bool.not_eq_true', Bool.not_eq_false', Bool.true_eq_false, Bool.false_eq_true, false_implies, forall_const, true_implies, reduceCtorEq, and_false, false_and, Bool.not_true, Bool.not_false, if_true, if_false, prD_at]
    simp only [Int.toNat_natCast, bBit, bit_eq1]
    have good : (!(m.testBit p.1 && m.testBit p.2)) = true → N [some (.int m), some (.lst (prs fs)), some (prN p)] h' := fun g => hN _ _ ⟨rfl, all_take ha ht g, _, rfl⟩
    refine ⟨by omega, fun t1 => ⟨by omega, fun t2 => ?_, fun t2 => good (by simp [t1, t2])⟩, fun t1 => good (by simp [t1])⟩
    rw [all_bad (l := fs) hm (by simp [t1, t2])] at q'
    exact q'
  · rintro σ h' ⟨rfl, ha, o, rfl⟩
    rw [prs_len, List.take_length] at ha
    rw [ha] at q'
    simpa only [sSeq, sNil, sIf, sRet, sRetN, sSet, sAsg, sExpr, sNever, sFor, sNox, sBrk, sCont, sFldD, sAug, sAugS, dVar, dC, dOp, dI0, dII, dNeg, dInv, dAndV, dOrV, dNotV, dTst, dTru, dAnd, dOr, dNot, dIfE, dChn, dCall, dCallK, dMake, aNil, aCons, dTup, dLst, dLstH, dFldC, dCB, dBM, tgN, tgSub, iL, iT, iR1, iR2, DEnds.xx, dLc, dLcH, dYes, dSl, oNon, oSome, nI2, nTup, nLst, nLstH, mApp, wipeD, dIn, dIsN, dNotN, dAddH, dMulH, tru_bl, tru_int, add_int, add_tup, mul_int, len_tup, len_lst, len_fz, ne_int, eq_int, ne_bl, eq_bl, int_int, int_bl, ty_end, asL_lst, asL_fz, asS_tup, asS_lst, asS_fz, tgs_cons_eq, tgs_nil_eq, tg_tup_eq, tg_lst_eq, at_end, set_end, asS_end, asL_end, at_pre, set_pre, ty_pre, dTupRev, List.getElem?_cons_zero, List.getElem?_cons_succ, Option.some.injEq, exists_eq_left', exists_eq_left, exists_and_left, exists_and_right, and_assoc, D.int.injEq, D.bl.injEq, D.str.injEq, D.tup.injEq, D.lst.injEq, D.fz.injEq, D.ref.injEq, HB.lst.injEq, List.cons.injEq, and_true, true_and, List.set_cons_zero, List.set_cons_succ, List.map_cons, List.map_nil, List.length_cons, List.length_nil, Nat.reduceAdd, Nat.reduceSub, Nat.sub_self, Nat.zero_add, List.replicate_zero, List.replicate_succ, List.append_nil, List.cons_append, List.nil_append, decide_eq_true_eq, decide_eq_false_iff_not, Bool.not_eq_true', Bool.not_eq_false', Bool.true_eq_false, Bool.false_eq_true, false_implies, forall_const, true_implies, reduceCtorEq, and_false, false_and, Bool.not_true, Bool.not_false, if_true, if_false] using q'
theorem rd_law_state (ds : List D) (h : DHp) (X : DX) (Q : DK) (hds : ds.length = 3) (c : ct__law_state ds h X Q) : tb__law_state (endsD h X Q) (startD N__law_state.length ds) h := by
  obtain ⟨n, cs, fs, ms, dr, rfl, hn, ok1, ok2, nd, q⟩ := c
  simp only [tb__law_state, startD, sSeq, sNil, sIf, sRet, sRetN, sSet, sAsg, sExpr, sNever, sFor, sNox, sBrk, sCont, sFldD, sAug, sAugS, dVar, dC, dOp, dI0, dII, dNeg, dInv, dAndV, dOrV, dNotV, dTst, dTru, dAnd, dOr, dNot, dIfE, dChn, dCall, dCallK, dMake, aNil, aCons, dTup, dLst, dLstH, dFldC, dCB, dBM, tgN, tgSub, iL, iT, iR1, iR2, DEnds.xx, dLc, dLcH, dYes, dSl, oNon, oSome, nI2, nTup, nLst, nLstH, mApp, wipeD, dIn, dIsN, dNotN, dAddH, dMulH, tru_bl, tru_int, add_int, add_tup, mul_int, len_tup, len_lst, len_fz, ne_int, eq_int, ne_bl, eq_bl, int_int, int_bl, ty_end, asL_lst, asL_fz, asS_tup, asS_lst, asS_fz, tgs_cons_eq, tgs_nil_eq, tg_tup_eq, tg_lst_eq, at_end, set_end, asS_end, asL_end, at_pre, set_pre, ty_pre, dTupRev, List.getElem?_cons_zero, List.getElem?_cons_succ, Option.some.injEq, exists_eq_left', exists_eq_left, exists_and_left, exists_and_right, and_assoc, D.int.injEq, D.bl.injEq, D.str.injEq, D.tup.injEq, D.lst.injEq, D.fz.injEq, D.ref.injEq, HB.lst.injEq, List.cons.injEq, and_true, true_and, List.set_cons_zero, List.set_cons_succ, List.map_cons, List.map_nil, List.length_cons, List.length_nil, Nat.reduceAdd, Nat.reduceSub, Nat.sub_self, Nat.zero_add, List.replicate_zero, List.replicate_succ, List.append_nil, List.cons_append, List.nil_append, decide_eq_true_eq, decide_eq_false_iff_not, Bool.not_eq_true', Bool.not_eq_false', Bool.true_eq_false, Bool.false_eq_true, false_implies, forall_const, true_implies, reduceCtorEq, and_false, false_and, Bool.not_true, Bool.not_false, if_true, if_false]
  have hl := nd.len
  refine forW_inv (nats dr) (fun _ σ h' => h' = h ∧ ∃ (m : Nat) (o : Option D), StM n cs fs m ∧ σ = [some (.lst (nats ms)), some (.lst (prs fs)), some (.lst (nats dr)), some (.int m), o]) ⟨rfl, 0, _, ⟨Nat.pow_pos (by decide), fun p _ z => by simp at z, fun p _ z => by simp at z⟩, rfl⟩ (fun _ _ _ _ _ => rfl) ?_ ?_
  · rintro i x σ h' N hx ⟨rfl, m, o, st, rfl⟩ hN
    obtain ⟨v, hv, rfl, _, _, hm⟩ := get_map hx
    simp only [sSeq, sNil, sIf, sRet, sRetN, sSet, sAsg, sExpr, sNever, sFor, sNox, sBrk, sCont, sFldD, sAug, sAugS, dVar, dC, dOp, dI0, dII, dNeg, dInv, dAndV, dOrV, dNotV, dTst, dTru, dAnd, dOr, dNot, dIfE, dChn, dCall, dCallK, dMake, aNil, aCons, dTup, dLst, dLstH, dFldC, dCB, dBM, tgN, tgSub, iL, iT, iR1, iR2, DEnds.xx, dLc, dLcH, dYes, dSl, oNon, oSome, nI2, nTup, nLst, nLstH, mApp, wipeD, dIn, dIsN, dNotN, dAddH, dMulH, tru_bl, tru_int, add_int, add_tup, mul_int, len_tup, len_lst, len_fz, ne_int, eq_int, ne_bl, eq_bl, int_int, int_bl, ty_end, asL_lst, asL_fz, asS_tup, asS_lst, asS_fz, tgs_cons_eq, tgs_nil_eq, tg_tup_eq, tg_lst_eq, at_end, set_end, asS_end, asL_end, at_pre, set_pre, ty_pre, dTupRev, List.getElem?_cons_zero, List.getElem?_cons_succ, Option.some.injEq, exists_eq_left', exists_eq_left, exists_and_left, exists_and_right, and_assoc, D.int.injEq, D.bl.injEq, D.str.injEq, D.tup.injEq, D.lst.injEq, D.fz.injEq, D.ref.injEq, HB.lst.injEq, List.cons.injEq, and_true, true_and, List.set_cons_zero, List.set_cons_succ, List.map_cons, List.map_nil, List.length_cons, List.length_nil, Nat.reduceAdd, Nat.reduceSub, Nat.sub_self, Nat.zero_add, List.replicate_zero, List.replicate_succ, List.append_nil, List.cons_append, List.nil_append, decide_eq_true_eq, decide_eq_false_iff_not, Bool.not_eq_true', Bool.not_eq_false', Bool.true_eq_false, Bool.false_eq_true, false_implies, forall_const, true_implies, reduceCtorEq, and_false, false_and, Bool.not_true, Bool.not_false, if_true, if_false, nats_len, mod_nat]
    refine ⟨fun hpos => ?_, fun _ => hN _ _ ⟨rfl, m, _, st, rfl⟩⟩
    have hp : 0 < ms.length := by omega
    obtain ⟨u, hu⟩ := get_lt (l := ms) (i := v % ms.length) (Nat.mod_lt _ hp)
    simp only [sSeq, sNil, sIf, sRet, sRetN, sSet, sAsg, sExpr, sNever, sFor, sNox, sBrk, sCont, sFldD, sAug, sAugS, dVar, dC, dOp, dI0, dII, dNeg, dInv, dAndV, dOrV, dNotV, dTst, dTru, dAnd, dOr, dNot, dIfE, dChn, dCall, dCallK, dMake, aNil, aCons, dTup, dLst, dLstH, dFldC, dCB, dBM, tgN, tgSub, iL, iT, iR1, iR2, DEnds.xx, dLc, dLcH, dYes, dSl, oNon, oSome, nI2, nTup, nLst, nLstH, mApp, wipeD, dIn, dIsN, dNotN, dAddH, dMulH, tru_bl, tru_int, add_int, add_tup, mul_int, len_tup, len_lst, len_fz, ne_int, eq_int, ne_bl, eq_bl, int_int, int_bl, ty_end, asL_lst, asL_fz, asS_tup, asS_lst, asS_fz, tgs_cons_eq, tgs_nil_eq, tg_tup_eq, tg_lst_eq, at_end, set_end, asS_end, asL_end, at_pre, set_pre, ty_pre, dTupRev, List.getElem?_cons_zero, List.getElem?_cons_succ, Option.some.injEq, exists_eq_left', exists_eq_left, exists_and_left, exists_and_right, and_assoc, D.int.injEq, D.bl.injEq, D.str.injEq, D.tup.injEq, D.lst.injEq, D.fz.injEq, D.ref.injEq, HB.lst.injEq, List.cons.injEq, and_true, true_and, List.set_cons_zero, List.set_cons_succ, List.map_cons, List.map_nil, List.length_cons, List.length_nil, Nat.reduceAdd, Nat.reduceSub, Nat.sub_self, Nat.zero_add, List.replicate_zero, List.replicate_succ, List.append_nil, List.cons_append, List.nil_append, decide_eq_true_eq, decide_eq_false_iff_not, Bool.not_eq_true', Bool.not_eq_false', Bool.true_eq_false, Bool.false_eq_true, false_implies, forall_const, true_implies, reduceCtorEq, and_false, false_and, Bool.not_true, Bool.not_false, if_true, if_false, ix_lst (nats_at hu)]
    simp only [bOr]
    refine ⟨by omega, m ||| u, n, fs, rfl, _, rfl, fun g => ⟨by omega, hN _ _ ⟨rfl, m ||| u, _, ?_, rfl⟩⟩, fun _ => hN _ _ ⟨rfl, m, _, st, rfl⟩⟩
    refine ⟨Nat.or_lt_two_pow st.bd (nd.bd _ _ hu), fun p hp hk => ?_, fun p hp hk => ?_⟩
    · rw [Nat.testBit_or] at hk ⊢
      rcases Bool.or_eq_true_iff.mp hk with hk | hk
      · rw [st.ca p hp hk]; rfl
      · rw [nd.closed _ _ hu p hp hk, Bool.or_true]
    · have := List.all_eq_true.mp g p hp
      rw [hk.1, hk.2] at this
      cases this
  · rintro σ h' ⟨rfl, m, o, st, rfl⟩
    simp only [sSeq, sNil, sIf, sRet, sRetN, sSet, sAsg, sExpr, sNever, sFor, sNox, sBrk, sCont, sFldD, sAug, sAugS, dVar, dC, dOp, dI0, dII, dNeg, dInv, dAndV, dOrV, dNotV, dTst, dTru, dAnd, dOr, dNot, dIfE, dChn, dCall, dCallK, dMake, aNil, aCons, dTup, dLst, dLstH, dFldC, dCB, dBM, tgN, tgSub, iL, iT, iR1, iR2, DEnds.xx, dLc, dLcH, dYes, dSl, oNon, oSome, nI2, nTup, nLst, nLstH, mApp, wipeD, dIn, dIsN, dNotN, dAddH, dMulH, tru_bl, tru_int, add_int, add_tup, mul_int, len_tup, len_lst, len_fz, ne_int, eq_int, ne_bl, eq_bl, int_int, int_bl, ty_end, asL_lst, asL_fz, asS_tup, asS_lst, asS_fz, tgs_cons_eq, tgs_nil_eq, tg_tup_eq, tg_lst_eq, at_end, set_end, asS_end, asL_end, at_pre, set_pre, ty_pre, dTupRev, List.getElem?_cons_zero, List.getElem?_cons_succ, Option.some.injEq, exists_eq_left', exists_eq_left, exists_and_left, exists_and_right, and_assoc, D.int.injEq, D.bl.injEq, D.str.injEq, D.tup.injEq, D.lst.injEq, D.fz.injEq, D.ref.injEq, HB.lst.injEq, List.cons.injEq, and_true, true_and, List.set_cons_zero, List.set_cons_succ, List.map_cons, List.map_nil, List.length_cons, List.length_nil, Nat.reduceAdd, Nat.reduceSub, Nat.sub_self, Nat.zero_add, List.replicate_zero, List.replicate_succ, List.append_nil, List.cons_append, List.nil_append, decide_eq_true_eq, decide_eq_false_iff_not, Bool.not_eq_true', Bool.not_eq_false', Bool.true_eq_false, Bool.false_eq_true, false_implies, forall_const, true_implies, reduceCtorEq, and_false, false_and, Bool.not_true, Bool.not_false, if_true, if_false]
    exact rt_keep (q m st)
end L2.MW.K49

namespace L2.MW.K49
open PySem PySem.Spec PyProof.Rows L2 L2.MW
theorem rd_members_of (ds : List D) (h : DHp) (X : DX) (Q : DK) (hds : ds.length = 1) (c : ct_members_of ds h X Q) : tb_members_of (endsD h X Q) (startD N_members_of.length ds) h := by
  obtain ⟨m, rfl, hm, q⟩ := c
  simp only [tb_members_of, startD, dBits, sSeq, sNil, sIf, sRet, sRetN, sSet, sAsg, sExpr, sNever, sFor, sNox, sBrk, sCont, sFldD, sAug, sAugS, dVar, dC, dOp, dI0, dII, dNeg, dInv, dAndV, dOrV, dNotV, dTst, dTru, dAnd, dOr, dNot, dIfE, dChn, dCall, dCallK, dMake, aNil, aCons, dTup, dLst, dLstH, dFldC, dCB, dBM, tgN, tgSub, iL, iT, iR1, iR2, DEnds.xx, dLc, dLcH, dYes, dSl, oNon, oSome, nI2, nTup, nLst, nLstH, mApp, wipeD, dIn, dIsN, dNotN, dAddH, dMulH, tru_bl, tru_int, add_int, add_tup, mul_int, len_tup, len_lst, len_fz, ne_int, eq_int, ne_bl, eq_bl, int_int, int_bl, ty_end, asL_lst, asL_fz, asS_tup, asS_lst, asS_fz, tgs_cons_eq, tgs_nil_eq, tg_tup_eq, tg_lst_eq, at_end, set_end, asS_end, asL_end, at_pre, set_pre, ty_pre, dTupRev, List.getElem?_cons_zero, List.getElem?_cons_succ, Option.some.injEq, exists_eq_left', exists_eq_left, exists_and_left, exists_and_right, and_assoc, D.int.injEq, D.bl.injEq, D.str.injEq, D.tup.injEq, D.lst.injEq, D.fz.injEq, D.ref.injEq, HB.lst.injEq, List.cons.injEq, and_true, true_and, List.set_cons_zero, List.set_cons_succ, List.map_cons, List.map_nil, List.length_cons, List.length_nil, Nat.reduceAdd, Nat.reduceSub, Nat.sub_self, Nat.zero_add, List.replicate_zero, List.replicate_succ, List.append_nil, List.cons_append, List.nil_append, decide_eq_true_eq, decide_eq_false_iff_not, Bool.not_eq_true', Bool.not_eq_false', Bool.true_eq_false, Bool.false_eq_true, false_implies, forall_const, true_implies, reduceCtorEq, and_false, false_and, Bool.not_true, Bool.not_false, if_true, if_false]
  have hb : Builtin.Int.intBits (m : Int) ≤ 40 := PySem.intBits_le_iff.mpr (by simpa using hm)
  have hb2 : m < 2 ^ Builtin.Int.intBits (m : Int) := by
    have := PySem.intBits_le_iff.mp (Nat.le_refl (Builtin.Int.intBits (m : Int)))
    simpa using this
  generalize Builtin.Int.intBits (m : Int) = B at hb hb2
  refine ⟨rgOk (by omega), ?_⟩
  rw [Int.toNat_natCast]
  refine lc_map (fun d => d) (fun d => m.testBit (iOf d).toNat) (rgD 0 B) (fun _ => trivial) (small (by rw [rg_len]; omega)) ?_ ?_
  · intro x hx acc R hl hA hB
    obtain ⟨i, hi, rfl⟩ := rg_mem hx
    rw [iOf_int, Int.toNat_natCast] at hA hB
    simp only [sSeq, sNil, sIf, sRet, sRetN, sSet, sAsg, sExpr, sNever, sFor, sNox, sBrk, sCont, sFldD, sAug, sAugS, dVar, dC, dOp, dI0, dII, dNeg, dInv, dAndV, dOrV, dNotV, dTst, dTru, dAnd, dOr, dNot, dIfE, dChn, dCall, dCallK, dMake, aNil, aCons, dTup, dLst, dLstH, dFldC, dCB, dBM, tgN, tgSub, iL, iT, iR1, iR2, DEnds.xx, dLc, dLcH, dYes, dSl, oNon, oSome, nI2, nTup, nLst, nLstH, mApp, wipeD, dIn, dIsN, dNotN, dAddH, dMulH, tru_bl, tru_int, add_int, add_tup, mul_int, len_tup, len_lst, len_fz, ne_int, eq_int, ne_bl, eq_bl, int_int, int_bl, ty_end, asL_lst, asL_fz, asS_tup, asS_lst, asS_fz, tgs_cons_eq, tgs_nil_eq, tg_tup_eq, tg_lst_eq, at_end, set_end, asS_end, asL_end, at_pre, set_pre, ty_pre, dTupRev, List.getElem?_cons_zero, List.getElem?_cons_succ, Option.some.injEq, exists_eq_left', exists_eq_left, exists_and_left, exists_and_right, and_assoc, D.int.injEq, D.bl.injEq, D.str.injEq, D.tup.injEq, D.lst.injEq, D.fz.injEq, D.ref.injEq, HB.lst.injEq, List.cons.injEq, and_true, true_and, List.set_cons_zero, List.set_cons_succ, List.map_cons, List.map_nil, List.length_cons, List.length_nil, Nat.reduceAdd, Nat.reduceSub, Nat.sub_self, Nat.zero_add, List.replicate_zero, List.replicate_succ, List.append_nil, List.cons_append, List.nil_append, decide_eq_true_eq, decide_eq_false_iff_not, Bool.not_eq_true', Bool.not_eq_false', Bool.true_eq_false, Bool.false_eq_true, false_implies, forall_const, true_implies, reduceCtorEq, and_false, false_and, Bool.not_true, Bool.not_false, if_true, if_false]
    rw [Int.toNat_natCast, bBit, bit_tru]
    exact ⟨by omega, fun z => ⟨hl, hA z⟩, hB⟩
  · have e : lcF (fun d => d) (fun d => m.testBit (iOf d).toNat) (rgD 0 B) = nats (bitsN m) := by
      have e1 : lcF (fun d => d) (fun d => m.testBit (iOf d).toNat) (rgD 0 B) = nats ((List.range B).filter fun k => m.testBit k) := by
        rw [rg_nats]
        unfold lcF nats
        rw [List.filter_map, List.map_map]
        rfl
      rw [e1]
      congr 1
      unfold bitsN
      have e40 : (40 : Nat) = B + (40 - B) := by omega
      rw [e40, List.range_add, List.filter_append]
      have : ((List.range (40 - B)).map (B + ·)).filter (fun k => m.testBit k) = [] := by
        rw [List.filter_eq_nil_iff]
        intro k hk
        obtain ⟨j, _, rfl⟩ := List.mem_map.mp hk
        rw [Nat.testBit_lt_two_pow (Nat.lt_of_lt_of_le hb2 (Nat.pow_le_pow_right (by decide) (Nat.le_add_right _ _)))]
        decide
      rw [this, List.append_nil]
    rw [e]
    exact ⟨_, rfl, Bds_nats, rt_keep q⟩
theorem rep0 (n : Nat) : (List.replicate ((n : Nat) : Int).toNat [D.int 0]).flatten = nats (List.replicate n 0) := by
  rw [Int.toNat_natCast]
  unfold nats
  rw [List.map_replicate]
  induction n with
  | zero => rfl
  | succ n ih => rw [List.replicate_succ, List.flatten_cons, ih, List.replicate_succ]; rfl
theorem cfl_app {l : List (Nat × Nat)} {p : Nat × Nat} {x y : Nat} : cfl (l ++ [p]) x y = (cfl l x y || ((p.1 == x && p.2 == y) || (p.1 == y && p.2 == x))) := by
  unfold cfl
  rw [List.any_append]
  simp
theorem rd_against_masks (ds : List D) (h : DHp) (X : DX) (Q : DK) (hds : ds.length = 1) (c : ct_against_masks ds h X Q) : tb_against_masks (endsD h X Q) (startD N_against_masks.length ds) h := by
  obtain ⟨n, cs, fs, rfl, hn, ok, q⟩ := c
  have f1 : ∀ {Q : DK} {h : DHp}, nFld fc_many "many" (.obj "Events" (evD n cs fs)) h Q ↔ Q (.int n) h := fld_eq (by decide) rfl
  have f3 : ∀ {Q : DK} {h : DHp}, nFld fc_conflicts "conflicts" (.obj "Events" (evD n cs fs)) h Q ↔ Q (.tup (prs fs)) h := fld_eq (by decide) rfl
  simp only [tb_against_masks, startD, sSeq, sNil, sIf, sRet, sRetN, sSet, sAsg, sExpr, sNever, sFor, sNox, sBrk, sCont, sFldD, sAug, sAugS, dVar, dC, dOp, dI0, dII, dNeg, dInv, dAndV, dOrV, dNotV, dTst, dTru, dAnd, dOr, dNot, dIfE, dChn, dCall, dCallK, dMake, aNil, aCons, dTup, dLst, dLstH, dFldC, dCB, dBM, tgN, tgSub, iL, iT, iR1, iR2, DEnds.xx, dLc, dLcH, dYes, dSl, oNon, oSome, nI2, nTup, nLst, nLstH, mApp, wipeD, dIn, dIsN, dNotN, dAddH, dMulH, tru_bl, tru_int, add_int, add_tup, mul_int, len_tup, len_lst, len_fz, ne_int, eq_int, ne_bl, eq_bl, int_int, int_bl, ty_end, asL_lst, asL_fz, asS_tup, asS_lst, asS_fz, tgs_cons_eq, tgs_nil_eq, tg_tup_eq, tg_lst_eq, at_end, set_end, asS_end, asL_end, at_pre, set_pre, ty_pre, dTupRev, List.getElem?_cons_zero, List.getElem?_cons_succ, Option.some.injEq, exists_eq_left', exists_eq_left, exists_and_left, exists_and_right, and_assoc, D.int.injEq, D.bl.injEq, D.str.injEq, D.tup.injEq, D.lst.injEq, D.fz.injEq, D.ref.injEq, HB.lst.injEq, List.cons.injEq, and_true, true_and, List.set_cons_zero, List.set_cons_succ, List.map_cons, List.map_nil, List.length_cons, List.length_nil, Nat.reduceAdd, Nat.reduceSub, Nat.sub_self, Nat.zero_add, List.replicate_zero, List.replicate_succ, List.append_nil, List.cons_append, List.nil_append, decide_eq_true_eq, decide_eq_false_iff_not, Bool.not_eq_true', Bool.not_eq_false', Bool.true_eq_false, Bool.false_eq_true, false_implies, forall_const, true_implies, reduceCtorEq, and_false, false_and, Bool.not_true, Bool.not_false, if_true, if_false, f1, f3]
  refine ⟨small (by decide), [.int 0], rfl, by omega, by omega, by rw [Int.toNat_natCast]; exact small (by show 1 * n ≤ _; omega), ?_⟩
  rw [rep0]
  refine forW_inv (prs fs) (fun i σ h' => ∃ o2 o3 ms, σ = [some (.obj "Events" (evD n cs fs)), some (.ref h.length), o2, o3] ∧ h' = h ++ [.lst (nats ms)] ∧ Again n (fs.take i) ms) ⟨_, _, _, rfl, rfl, by simp, fun a v ha b => ?_⟩ (fun _ _ _ _ _ => trivial) ?_ ?_
  · have : v = 0 := (List.mem_replicate.mp (List.mem_of_getElem? ha)).2
    subst this
    simp [cfl]
  · rintro i x σ h' N hx ⟨o2, o3, ms, rfl, rfl, hl, hA⟩ hN
    obtain ⟨p, hp, rfl, ht, _, hm⟩ := get_map hx
    obtain ⟨b1, b2, b3⟩ := ok.bd p hm
    obtain ⟨u, hu⟩ := get_lt (l := ms) (i := p.1) (by omega)
    obtain ⟨v, hv⟩ := get_lt (l := ms) (i := p.2) (by omega)
    have hv2 : (ms.set p.1 (u ||| 2 ^ p.2))[p.2]? = some v := by rw [List.getElem?_set_ne b3]; exact hv
    have cp : ∀ k : Nat, k < n → CPow 1 (k : Int) := fun k hk => ⟨by omega, by omega, by decide⟩
    simp only [prN, sSeq, sNil, sIf, sRet, sRetN, sSet, sAsg, sExpr, sNever, sFor, sNox, sBrk, sCont, sFldD, sAug, sAugS, dVar, dC, dOp, dI0, dII, dNeg, dInv, dAndV, dOrV, dNotV, dTst, dTru, dAnd, dOr, dNot, dIfE, dChn, dCall, dCallK, dMake, aNil, aCons, dTup, dLst, dLstH, dFldC, dCB, dBM, tgN, tgSub, iL, iT, iR1, iR2, DEnds.xx, dLc, dLcH, dYes, dSl, oNon, oSome, nI2, nTup, nLst, nLstH, mApp, wipeD, dIn, dIsN, dNotN, dAddH, dMulH, tru_bl, tru_int, add_int, add_tup, mul_int, len_tup, len_lst, len_fz, ne_int, eq_int, ne_bl, eq_bl, int_int, int_bl, ty_end, asL_lst, asL_fz, asS_tup, asS_lst, asS_fz, tgs_cons_eq, tgs_nil_eq, tg_tup_eq, tg_lst_eq, at_end, set_end, asS_end, asL_end, at_pre, set_pre, ty_pre, dTupRev, List.getElem?_cons_zero, List.getElem?_cons_succ, Option.some.injEq, exists_eq_left', exists_eq_left, exists_and_left, exists_and_right, and_assoc, D.int.injEq, D.bl.injEq, D.str.injEq, D.tup.injEq, D.lst.injEq, D.fz.injEq, D.ref.injEq, HB.lst.injEq, List.cons.injEq, and_true, true_and, List.set_cons_zero, List.set_cons_succ, List.map_cons, List.map_nil, List.length_cons, List.length_nil, Nat.reduceAdd, Nat.reduceSub, Nat.sub_self, Nat.zero_add, List.replicate_zero, List.replicate_succ, List.append_nil, List.cons_append, List.nil_append, decide_eq_true_eq, decide_eq_false_iff_not, Bool.not_eq_true', Bool.not_eq_false', Bool.true_eq_false, Bool.false_eq_true, false_implies, forall_const, true_implies, reduceCtorEq, and_false, false_and, Bool.not_true, Bool.not_false, if_true, if_false]
    refine ⟨_, nats_ixN (by omega), .int u, by unfold nats; rw [List.getElem?_map, hu]; rfl, cp _ b2, _, rfl, nats_ixN (by omega), ?_⟩
    simp only [bShl, Int.toNat_natCast, bOr, nats_set]
    refine ⟨_, nats_ixN (by rw [List.length_set]; omega), .int v, by unfold nats; rw [List.getElem?_map, hv2]; rfl, cp _ b1, _, rfl, nats_ixN (by rw [List.length_set]; omega), ?_⟩
    simp only [bShl, Int.toNat_natCast, bOr, nats_set]
    refine hN _ _ ⟨_, _, _, rfl, rfl, by rw [List.length_set, List.length_set]; exact hl, fun a w ha b => ?_⟩
    rw [ht, cfl_app]
    rcases set_cases ha with ⟨rfl, rfl, _⟩ | ⟨na, ha⟩
    · rw [Nat.testBit_or, hA _ _ hv b, Nat.testBit_two_pow]
      congr 1
      have : (p.1 == p.2) = false := by simpa using b3
      rw [this, Bool.false_and, Bool.false_or]
      simp [Bool.beq_eq_decide_eq]
    · rcases set_cases ha with ⟨rfl, rfl, _⟩ | ⟨na2, ha⟩
      · rw [Nat.testBit_or, hA _ _ hu b, Nat.testBit_two_pow]
        congr 1
        have : (p.2 == p.1) = false := by simpa using Ne.symm b3
        rw [this, Bool.and_false, Bool.or_false]
        simp [Bool.beq_eq_decide_eq]
      · rw [hA _ _ ha b]
        have e1 : (p.1 == a) = false := by simpa using Ne.symm na2
        have e2 : (p.2 == a) = false := by simpa using Ne.symm na
        rw [e1, e2, Bool.false_and, Bool.and_false, Bool.or_self, Bool.or_false]
  · rintro σ h' ⟨o2, o3, ms, rfl, rfl, hA⟩
    rw [prs_len, List.take_length] at hA
    simp only [sSeq, sNil, sIf, sRet, sRetN, sSet, sAsg, sExpr, sNever, sFor, sNox, sBrk, sCont, sFldD, sAug, sAugS, dVar, dC, dOp, dI0, dII, dNeg, dInv, dAndV, dOrV, dNotV, dTst, dTru, dAnd, dOr, dNot, dIfE, dChn, dCall, dCallK, dMake, aNil, aCons, dTup, dLst, dLstH, dFldC, dCB, dBM, tgN, tgSub, iL, iT, iR1, iR2, DEnds.xx, dLc, dLcH, dYes, dSl, oNon, oSome, nI2, nTup, nLst, nLstH, mApp, wipeD, dIn, dIsN, dNotN, dAddH, dMulH, tru_bl, tru_int, add_int, add_tup, mul_int, len_tup, len_lst, len_fz, ne_int, eq_int, ne_bl, eq_bl, int_int, int_bl, ty_end, asL_lst, asL_fz, asS_tup, asS_lst, asS_fz, tgs_cons_eq, tgs_nil_eq, tg_tup_eq, tg_lst_eq, at_end, set_end, asS_end, asL_end, at_pre, set_pre, ty_pre, dTupRev, List.getElem?_cons_zero, List.getElem?_cons_succ, Option.some.injEq, exists_eq_left', exists_eq_left, exists_and_left, exists_and_right, and_assoc, D.int.injEq, D.bl.injEq, D.str.injEq, D.tup.injEq, D.lst.injEq, D.fz.injEq, D.ref.injEq, HB.lst.injEq, List.cons.injEq, and_true, true_and, List.set_cons_zero, List.set_cons_succ, List.map_cons, List.map_nil, List.length_cons, List.length_nil, Nat.reduceAdd, Nat.reduceSub, Nat.sub_self, Nat.zero_add, List.replicate_zero, List.replicate_succ, List.append_nil, List.cons_append, List.nil_append, decide_eq_true_eq, decide_eq_false_iff_not, Bool.not_eq_true', Bool.not_eq_false', Bool.true_eq_false, Bool.false_eq_true, false_implies, forall_const, true_implies, reduceCtorEq, and_false, false_and, Bool.not_true, Bool.not_false, if_true, if_false]
    exact rt_lst Bds_nats (q ms hA)
theorem rd_look_at_states (ds : List D) (h : DHp) (X : DX) (Q : DK) (hds : ds.length = 3) (c : ct_look_at_states ds h X Q) : tb_look_at_states (endsD h X Q) (startD N_look_at_states.length ds) h := by
  obtain ⟨n, cs, fs, d1, d2, rfl, ev, p1, p2, q1, q2⟩ := c
  simp only [tb_look_at_states, startD, sSeq, sNil, sIf, sRet, sRetN, sSet, sAsg, sExpr, sNever, sFor, sNox, sBrk, sCont, sFldD, sAug, sAugS, dVar, dC, dOp, dI0, dII, dNeg, dInv, dAndV, dOrV, dNotV, dTst, dTru, dAnd, dOr, dNot, dIfE, dChn, dCall, dCallK, dMake, aNil, aCons, dTup, dLst, dLstH, dFldC, dCB, dBM, tgN, tgSub, iL, iT, iR1, iR2, DEnds.xx, dLc, dLcH, dYes, dSl, oNon, oSome, nI2, nTup, nLst, nLstH, mApp, wipeD, dIn, dIsN, dNotN, dAddH, dMulH, tru_bl, tru_int, add_int, add_tup, mul_int, len_tup, len_lst, len_fz, ne_int, eq_int, ne_bl, eq_bl, int_int, int_bl, ty_end, asL_lst, asL_fz, asS_tup, asS_lst, asS_fz, tgs_cons_eq, tgs_nil_eq, tg_tup_eq, tg_lst_eq, at_end, set_end, asS_end, asL_end, at_pre, set_pre, ty_pre, dTupRev, List.getElem?_cons_zero, List.getElem?_cons_succ, Option.some.injEq, exists_eq_left', exists_eq_left, exists_and_left, exists_and_right, and_assoc, D.int.injEq, D.bl.injEq, D.str.injEq, D.tup.injEq, D.lst.injEq, D.fz.injEq, D.ref.injEq, HB.lst.injEq, List.cons.injEq, and_true, true_and, List.set_cons_zero, List.set_cons_succ, List.map_cons, List.map_nil, List.length_cons, List.length_nil, Nat.reduceAdd, Nat.reduceSub, Nat.sub_self, Nat.zero_add, List.replicate_zero, List.replicate_succ, List.append_nil, List.cons_append, List.nil_append, decide_eq_true_eq, decide_eq_false_iff_not, Bool.not_eq_true', Bool.not_eq_false', Bool.true_eq_false, Bool.false_eq_true, false_implies, forall_const, true_implies, reduceCtorEq, and_false, false_and, Bool.not_true, Bool.not_false, if_true, if_false]
  refine ⟨small (by decide), ?_⟩
  refine forW_inv [d1, d2] (fun i σ h' => h' = h ∧ (0 < i → okB n cs fs d1 = true) ∧ (1 < i → okB n cs fs d2 = true) ∧ ∃ o, σ = [some (.obj "Events" (evD n cs fs)), some d1, some d2, o]) ⟨rfl, fun z => by omega, fun z => by omega, _, rfl⟩ (fun _ _ _ _ _ => trivial) ?_ ?_
  · rintro i x σ h' N hx ⟨rfl, g1, g2, o, rfl⟩ hN
    have two : (i = 0 ∧ x = d1) ∨ (i = 1 ∧ x = d2) := by
      match i, hx with
      | 0, hx => exact .inl ⟨rfl, (Option.some.inj hx).symm⟩
      | 1, hx => exact .inr ⟨rfl, (Option.some.inj hx).symm⟩
      | i + 2, hx => simp at hx
    simp only [sSeq, sNil, sIf, sRet, sRetN, sSet, sAsg, sExpr, sNever, sFor, sNox, sBrk, sCont, sFldD, sAug, sAugS, dVar, dC, dOp, dI0, dII, dNeg, dInv, dAndV, dOrV, dNotV, dTst, dTru, dAnd, dOr, dNot, dIfE, dChn, dCall, dCallK, dMake, aNil, aCons, dTup, dLst, dLstH, dFldC, dCB, dBM, tgN, tgSub, iL, iT, iR1, iR2, DEnds.xx, dLc, dLcH, dYes, dSl, oNon, oSome, nI2, nTup, nLst, nLstH, mApp, wipeD, dIn, dIsN, dNotN, dAddH, dMulH, tru_bl, tru_int, add_int, add_tup, mul_int, len_tup, len_lst, len_fz, ne_int, eq_int, ne_bl, eq_bl, int_int, int_bl, ty_end, asL_lst, asL_fz, asS_tup, asS_lst, asS_fz, tgs_cons_eq, tgs_nil_eq, tg_tup_eq, tg_lst_eq, at_end, set_end, asS_end, asL_end, at_pre, set_pre, ty_pre, dTupRev, List.getElem?_cons_zero, List.getElem?_cons_succ, Option.some.injEq, exists_eq_left', exists_eq_left, exists_and_left, exists_and_right, and_assoc, D.int.injEq, D.bl.injEq, D.str.injEq, D.tup.injEq, D.lst.injEq, D.fz.injEq, D.ref.injEq, HB.lst.injEq, List.cons.injEq, and_true, true_and, List.set_cons_zero, List.set_cons_succ, List.map_cons, List.map_nil, List.length_cons, List.length_nil, Nat.reduceAdd, Nat.reduceSub, Nat.sub_self, Nat.zero_add, List.replicate_zero, List.replicate_succ, List.append_nil, List.cons_append, List.nil_append, decide_eq_true_eq, decide_eq_false_iff_not, Bool.not_eq_true', Bool.not_eq_false', Bool.true_eq_false, Bool.false_eq_true, false_implies, forall_const, true_implies, reduceCtorEq, and_false, false_and, Bool.not_true, Bool.not_false, if_true, if_false, sRaise]
    rcases two with ⟨rfl, rfl⟩ | ⟨rfl, rfl⟩
    · exact ⟨n, cs, fs, x, rfl, ev.le, ev.ca, ev.cf, p1.pl, _, rfl, fun z => ⟨by decide, .inl (q1 z)⟩, fun z => hN _ _ ⟨rfl, fun _ => z, fun z => by omega, _, rfl⟩⟩
    · have y1 := g1 (by omega)
      exact ⟨n, cs, fs, x, rfl, ev.le, ev.ca, ev.cf, p2.pl, _, rfl, fun z => ⟨by decide, .inl ((q2 y1).1 z)⟩, fun z => hN _ _ ⟨rfl, fun _ => y1, fun _ => z, _, rfl⟩⟩
  · rintro σ h' ⟨rfl, g1, g2, o, rfl⟩
    exact rt_keep ((q2 (g1 (by show 0 < 2; decide))).2 (g2 (by show 1 < 2; decide)))
theorem okB_tup {n : Nat} {cs fs : List (Nat × Nat)} {d : D} (h : okB n cs fs d = true) : ∃ ns : List Nat, d = .tup (nats ns) ∧ (∀ x ∈ ns, x < n) ∧ subs n (-1) (nats ns) = true := by
  cases d with
  | tup l =>
    have h1 : subs n (-1) l = true := by
      have h' : (subs n (-1) l && _) = true := h
      exact (Bool.and_eq_true_iff.mp h').1
    obtain ⟨ns, rfl, hb⟩ := subs_nats l (-1) (by omega) h1
    exact ⟨ns, rfl, hb, h1⟩
  | _ => cases h
theorem maskN_bd {n : Nat} : ∀ {ns : List Nat}, (∀ x ∈ ns, x < n) → maskN ns < 2 ^ n := fun {ns} h => by
  refine Nat.lt_pow_two_of_testBit _ fun k hk => ?_
  rw [maskN_bit]
  cases z : ns.any fun x => x == k with
  | false => rfl
  | true =>
    obtain ⟨x, hx, e⟩ := List.any_eq_true.mp z
    have := h x hx
    have : x = k := by simpa using e
    omega
theorem bits_lt {m k : Nat} (h : k ∈ bitsN m) : k < 40 := List.mem_range.mp (List.mem_filter.mp h).1
theorem flI : ∀ {ns : List Nat} {k : Nat}, ∀ x ∈ nats ns, OkD k x := fun {ns k} x hx => by
  obtain ⟨a, _, rfl⟩ := List.mem_map.mp hx
  cases k <;> trivial
theorem pv_nats {ns : List Nat} (h : ns.length ≤ 10000) : Pv (.tup (nats ns)) := ⟨⟨rfl, fun l e x hx => by
  cases e
  obtain ⟨a, _, rfl⟩ := List.mem_map.mp hx
  rfl⟩, flI, fun l e => by cases e; rw [nats_len]; exact h⟩
theorem bits_few {m : Nat} : (bitsN m).length ≤ 40 := by
  unfold bitsN
  have := List.length_filter_le (fun k => m.testBit k) (List.range 40)
  rwa [List.length_range] at this
theorem rd_merged (ds : List D) (h : DHp) (X : DX) (Q : DK) (hds : ds.length = 3) (c : ct_merged ds h X Q) : tb_merged (endsD h X Q) (startD N_merged.length ds) h := by
  obtain ⟨n, cs, fs, d1, d2, rfl, ev, p1, p2, q1, q2⟩ := c
  simp only [tb_merged, startD, sSeq, sNil, sIf, sRet, sRetN, sSet, sAsg, sExpr, sNever, sFor, sNox, sBrk, sCont, sFldD, sAug, sAugS, dVar, dC, dOp, dI0, dII, dNeg, dInv, dAndV, dOrV, dNotV, dTst, dTru, dAnd, dOr, dNot, dIfE, dChn, dCall, dCallK, dMake, aNil, aCons, dTup, dLst, dLstH, dFldC, dCB, dBM, tgN, tgSub, iL, iT, iR1, iR2, DEnds.xx, dLc, dLcH, dYes, dSl, oNon, oSome, nI2, nTup, nLst, nLstH, mApp, wipeD, dIn, dIsN, dNotN, dAddH, dMulH, tru_bl, tru_int, add_int, add_tup, mul_int, len_tup, len_lst, len_fz, ne_int, eq_int, ne_bl, eq_bl, int_int, int_bl, ty_end, asL_lst, asL_fz, asS_tup, asS_lst, asS_fz, tgs_cons_eq, tgs_nil_eq, tg_tup_eq, tg_lst_eq, at_end, set_end, asS_end, asL_end, at_pre, set_pre, ty_pre, dTupRev, List.getElem?_cons_zero, List.getElem?_cons_succ, Option.some.injEq, exists_eq_left', exists_eq_left, exists_and_left, exists_and_right, and_assoc, D.int.injEq, D.bl.injEq, D.str.injEq, D.tup.injEq, D.lst.injEq, D.fz.injEq, D.ref.injEq, HB.lst.injEq, List.cons.injEq, and_true, true_and, List.set_cons_zero, List.set_cons_succ, List.map_cons, List.map_nil, List.length_cons, List.length_nil, Nat.reduceAdd, Nat.reduceSub, Nat.sub_self, Nat.zero_add, List.replicate_zero, List.replicate_succ, List.append_nil, List.cons_append, List.nil_append, decide_eq_true_eq, decide_eq_false_iff_not, Bool.not_eq_true', Bool.not_eq_false', Bool.true_eq_false, Bool.false_eq_true, false_implies, forall_const, true_implies, reduceCtorEq, and_false, false_and, Bool.not_true, Bool.not_false, if_true, if_false]
  refine ⟨n, cs, fs, d1, d2, rfl, ev, p1, p2, fun z => .inl (q1 z), fun y1 => ⟨fun z => .inl ((q2 y1).1 z), fun y2 => ?_⟩⟩
  obtain ⟨a, rfl, ab, _⟩ := okB_tup y1
  obtain ⟨b, rfl, bb, _⟩ := okB_tup y2
  have q3 := (q2 y1).2 y2 a b rfl rfl
  have le := ev.le
  refine ⟨a, rfl, fun x hx => by have := ab x hx; omega, b, rfl, fun x hx => by have := bb x hx; omega, ?_⟩
  simp only [List.getElem?_cons_zero, List.getElem?_cons_succ, Option.some.injEq, exists_eq_left', exists_eq_left, exists_and_left, exists_and_right, and_assoc, D.int.injEq, D.bl.injEq, D.str.injEq, D.tup.injEq, D.lst.injEq, D.fz.injEq, D.ref.injEq, HB.lst.injEq, List.cons.injEq, and_true, true_and, List.set_cons_zero, List.set_cons_succ, List.map_cons, List.map_nil, List.length_cons, List.length_nil, Nat.reduceAdd, Nat.reduceSub, Nat.sub_self, Nat.zero_add, List.replicate_zero, List.replicate_succ, List.append_nil, List.cons_append, List.nil_append, decide_eq_true_eq, decide_eq_false_iff_not, Bool.not_eq_true', Bool.not_eq_false', Bool.true_eq_false, Bool.false_eq_true, false_implies, forall_const, true_implies, reduceCtorEq, and_false, false_and, Bool.not_true, Bool.not_false, if_true, if_false, bOr]
  have mb : maskN a ||| maskN b < 2 ^ 40 := Nat.lt_of_lt_of_le (Nat.or_lt_two_pow (maskN_bd ab) (maskN_bd bb)) (Nat.pow_le_pow_right (by decide) (by omega))
  refine ⟨_, rfl, mb, ?_⟩
  simp only [sSeq, sNil, sIf, sRet, sRetN, sSet, sAsg, sExpr, sNever, sFor, sNox, sBrk, sCont, sFldD, sAug, sAugS, dVar, dC, dOp, dI0, dII, dNeg, dInv, dAndV, dOrV, dNotV, dTst, dTru, dAnd, dOr, dNot, dIfE, dChn, dCall, dCallK, dMake, aNil, aCons, dTup, dLst, dLstH, dFldC, dCB, dBM, tgN, tgSub, iL, iT, iR1, iR2, DEnds.xx, dLc, dLcH, dYes, dSl, oNon, oSome, nI2, nTup, nLst, nLstH, mApp, wipeD, dIn, dIsN, dNotN, dAddH, dMulH, tru_bl, tru_int, add_int, add_tup, mul_int, len_tup, len_lst, len_fz, ne_int, eq_int, ne_bl, eq_bl, int_int, int_bl, ty_end, asL_lst, asL_fz, asS_tup, asS_lst, asS_fz, tgs_cons_eq, tgs_nil_eq, tg_tup_eq, tg_lst_eq, at_end, set_end, asS_end, asL_end, at_pre, set_pre, ty_pre, dTupRev, List.getElem?_cons_zero, List.getElem?_cons_succ, Option.some.injEq, exists_eq_left', exists_eq_left, exists_and_left, exists_and_right, and_assoc, D.int.injEq, D.bl.injEq, D.str.injEq, D.tup.injEq, D.lst.injEq, D.fz.injEq, D.ref.injEq, HB.lst.injEq, List.cons.injEq, and_true, true_and, List.set_cons_zero, List.set_cons_succ, List.map_cons, List.map_nil, List.length_cons, List.length_nil, Nat.reduceAdd, Nat.reduceSub, Nat.sub_self, Nat.zero_add, List.replicate_zero, List.replicate_succ, List.append_nil, List.cons_append, List.nil_append, decide_eq_true_eq, decide_eq_false_iff_not, Bool.not_eq_true', Bool.not_eq_false', Bool.true_eq_false, Bool.false_eq_true, false_implies, forall_const, true_implies, reduceCtorEq, and_false, false_and, Bool.not_true, Bool.not_false, if_true, if_false, sRaise]
  refine ⟨n, cs, fs, .tup (nats (bitsN (maskN a ||| maskN b))), rfl, le, ev.ca, ev.cf, (pv_nats (by have := @bits_few (maskN a ||| maskN b); omega)).pl, _, rfl, fun z => ⟨by decide, .inl (q3.2 z)⟩, fun z => rt_keep (q3.1 z)⟩
/-- the rows of the double loop -/
def rowsC (fs : List (Nat × Nat)) (a b : List Nat) : List (Nat × Nat) := a.flatMap fun x => (b.filter fun y => cfl fs x y).map fun y => (x, y)
theorem rows_app {fs : List (Nat × Nat)} {a b : List Nat} {x : Nat} : rowsC fs (a ++ [x]) b = rowsC fs a b ++ (b.filter fun y => cfl fs x y).map fun y => (x, y) := by
  unfold rowsC
  rw [List.flatMap_append]
  simp
theorem rd_conflict (ds : List D) (h : DHp) (X : DX) (Q : DK) (hds : ds.length = 3) (c : ct_conflict ds h X Q) : tb_conflict (endsD h X Q) (startD N_conflict.length ds) h := by
  obtain ⟨n, cs, fs, d1, d2, rfl, ev, p1, p2, q1, q2⟩ := c
  simp only [tb_conflict, startD, sSeq, sNil, sIf, sRet, sRetN, sSet, sAsg, sExpr, sNever, sFor, sNox, sBrk, sCont, sFldD, sAug, sAugS, dVar, dC, dOp, dI0, dII, dNeg, dInv, dAndV, dOrV, dNotV, dTst, dTru, dAnd, dOr, dNot, dIfE, dChn, dCall, dCallK, dMake, aNil, aCons, dTup, dLst, dLstH, dFldC, dCB, dBM, tgN, tgSub, iL, iT, iR1, iR2, DEnds.xx, dLc, dLcH, dYes, dSl, oNon, oSome, nI2, nTup, nLst, nLstH, mApp, wipeD, dIn, dIsN, dNotN, dAddH, dMulH, tru_bl, tru_int, add_int, add_tup, mul_int, len_tup, len_lst, len_fz, ne_int, eq_int, ne_bl, eq_bl, int_int, int_bl, ty_end, asL_lst, asL_fz, asS_tup, asS_lst, asS_fz, tgs_cons_eq, tgs_nil_eq, tg_tup_eq, tg_lst_eq, at_end, set_end, asS_end, asL_end, at_pre, set_pre, ty_pre, dTupRev, List.getElem?_cons_zero, List.getElem?_cons_succ, Option.some.injEq, exists_eq_left', exists_eq_left, exists_and_left, exists_and_right, and_assoc, D.int.injEq, D.bl.injEq, D.str.injEq, D.tup.injEq, D.lst.injEq, D.fz.injEq, D.ref.injEq, HB.lst.injEq, List.cons.injEq, and_true, true_and, List.set_cons_zero, List.set_cons_succ, List.map_cons, List.map_nil, List.length_cons, List.length_nil, Nat.reduceAdd, Nat.reduceSub, Nat.sub_self, Nat.zero_add, List.replicate_zero, List.replicate_succ, List.append_nil, List.cons_append, List.nil_append, decide_eq_true_eq, decide_eq_false_iff_not, Bool.not_eq_true', Bool.not_eq_false', Bool.true_eq_false, Bool.false_eq_true, false_implies, forall_const, true_implies, reduceCtorEq, and_false, false_and, Bool.not_true, Bool.not_false, if_true, if_false]
  refine ⟨n, cs, fs, d1, d2, rfl, ev, p1, p2, fun z => .inl (q1 z), fun y1 => ⟨fun z => .inl ((q2 y1).1 z), fun y2 => ?_⟩⟩
  obtain ⟨a, rfl, ab, _⟩ := okB_tup y1
  obtain ⟨b, rfl, bb, _⟩ := okB_tup y2
  have q3 := (q2 y1).2 y2 a b rfl rfl
  have le := ev.le
  refine ⟨n, cs, fs, rfl, le, ev.cf, fun as hA => ⟨_, rfl, ?_⟩⟩
  refine forW_inv (nats a) (fun i σ h' => h' = h ∧ rowsC fs (a.take i) b = [] ∧ ∃ o4 o5, σ = [some (.obj "Events" (evD n cs fs)), some (.tup (nats a)), some (.tup (nats b)), some (.lst (nats as)), o4, o5]) ⟨rfl, rfl, _, _, rfl⟩ (fun _ _ _ _ _ => trivial) ?_ ?_
  · rintro i x σ h' N hx ⟨rfl, hr, o4, o5, rfl⟩ hN
    obtain ⟨u, hu, rfl, ht, hd, hm⟩ := get_map hx
    obtain ⟨v, hv⟩ := get_lt (l := as) (i := u) (by have := ab u hm; rw [hA.1]; exact this)
    simp only [sSeq, sNil, sIf, sRet, sRetN, sSet, sAsg, sExpr, sNever, sFor, sNox, sBrk, sCont, sFldD, sAug, sAugS, dVar, dC, dOp, dI0, dII, dNeg, dInv, dAndV, dOrV, dNotV, dTst, dTru, dAnd, dOr, dNot, dIfE, dChn, dCall, dCallK, dMake, aNil, aCons, dTup, dLst, dLstH, dFldC, dCB, dBM, tgN, tgSub, iL, iT, iR1, iR2, DEnds.xx, dLc, dLcH, dYes, dSl, oNon, oSome, nI2, nTup, nLst, nLstH, mApp, wipeD, dIn, dIsN, dNotN, dAddH, dMulH, tru_bl, tru_int, add_int, add_tup, mul_int, len_tup, len_lst, len_fz, ne_int, eq_int, ne_bl, eq_bl, int_int, int_bl, ty_end, asL_lst, asL_fz, asS_tup, asS_lst, asS_fz, tgs_cons_eq, tgs_nil_eq, tg_tup_eq, tg_lst_eq, at_end, set_end, asS_end, asL_end, at_pre, set_pre, ty_pre, dTupRev, List.getElem?_cons_zero, List.getElem?_cons_succ, Option.some.injEq, exists_eq_left', exists_eq_left, exists_and_left, exists_and_right, and_assoc, D.int.injEq, D.bl.injEq, D.str.injEq, D.tup.injEq, D.lst.injEq, D.fz.injEq, D.ref.injEq, HB.lst.injEq, List.cons.injEq, and_true, true_and, List.set_cons_zero, List.set_cons_succ, List.map_cons, List.map_nil, List.length_cons, List.length_nil, Nat.reduceAdd, Nat.reduceSub, Nat.sub_self, Nat.zero_add, List.replicate_zero, List.replicate_succ, List.append_nil, List.cons_append, List.nil_append, decide_eq_true_eq, decide_eq_false_iff_not, Bool.not_eq_true', Bool.not_eq_false', Bool.true_eq_false, Bool.false_eq_true, false_implies, forall_const, true_implies, reduceCtorEq, and_false, false_and, Bool.not_true, Bool.not_false, if_true, if_false]
    refine forW_inv (nats b) (fun j σ h'' => h'' = h' ∧ ((b.take j).filter fun y => cfl fs u y) = [] ∧ ∃ o5, σ = [some (.obj "Events" (evD n cs fs)), some (.tup (nats a)), some (.tup (nats b)), some (.lst (nats as)), some (.int (u : Int)), o5]) ⟨rfl, rfl, _, rfl⟩ (fun _ _ _ _ _ => trivial) ?_ ?_
    · rintro j x σ h' N hx ⟨rfl, hf, o5, rfl⟩ hN
      obtain ⟨y, hy, rfl, ht2, hd2, hm2⟩ := get_map hx
      simp only [sSeq, sNil, sIf, sRet, sRetN, sSet, sAsg, sExpr, sNever, sFor, sNox, sBrk, sCont, sFldD, sAug, sAugS, dVar, dC, dOp, dI0, dII, dNeg, dInv, dAndV, dOrV, dNotV, dTst, dTru, dAnd, dOr, dNot, dIfE, dChn, dCall, dCallK, dMake, aNil, aCons, dTup, dLst, dLstH, dFldC, dCB, dBM, tgN, tgSub, iL, iT, iR1, iR2, DEnds.xx, dLc, dLcH, dYes, dSl, oNon, oSome, nI2, nTup, nLst, nLstH, mApp, wipeD, dIn, dIsN, dNotN, dAddH, dMulH, tru_bl, tru_int, add_int, add_tup, mul_int, len_tup, len_lst, len_fz, ne_int, eq_int, ne_bl, eq_bl, int_int, int_bl, ty_end, asL_lst, asL_fz, asS_tup, asS_lst, asS_fz, tgs_cons_eq, tgs_nil_eq, tg_tup_eq, tg_lst_eq, at_end, set_end, asS_end, asL_end, at_pre, set_pre, ty_pre, dTupRev, List.getElem?_cons_zero, List.getElem?_cons_succ, Option.some.injEq, exists_eq_left', exists_eq_left, exists_and_left, exists_and_right, and_assoc, D.int.injEq, D.bl.injEq, D.str.injEq, D.tup.injEq, D.lst.injEq, D.fz.injEq, D.ref.injEq, HB.lst.injEq, List.cons.injEq, and_true, true_and, List.set_cons_zero, List.set_cons_succ, List.map_cons, List.map_nil, List.length_cons, List.length_nil, Nat.reduceAdd, Nat.reduceSub, Nat.sub_self, Nat.zero_add, List.replicate_zero, List.replicate_succ, List.append_nil, List.cons_append, List.nil_append, decide_eq_true_eq, decide_eq_false_iff_not, Bool.not_eq_true', Bool.not_eq_false', Bool.true_eq_false, Bool.false_eq_true, false_implies, forall_const, true_implies, reduceCtorEq, and_false, false_and, Bool.not_true, Bool.not_false, if_true, if_false, ix_lst (nats_at hv)]
      simp only [Int.toNat_natCast, bBit, bit_tru, hA.2 u v hv]
      refine ⟨by omega, fun z => ⟨small (by decide), rt_keep (q3.1 (u, y) ?_)⟩, fun z => hN _ _ ⟨rfl, ?_, _, rfl⟩⟩
      · show (rowsC fs a b).head? = _
        have ea : a = a.take i ++ u :: a.drop (i + 1) := by rw [← hd, List.take_append_drop]
        have eb : b = b.take j ++ y :: b.drop (j + 1) := by rw [← hd2, List.take_append_drop]
        have e1 : rowsC fs a b = rowsC fs (a.take i) b ++ rowsC fs (u :: a.drop (i + 1)) b := by
          conv => lhs; rw [ea]
          unfold rowsC
          rw [List.flatMap_append]
        rw [e1, hr, List.nil_append]
        unfold rowsC
        rw [List.flatMap_cons]
        have e2 : (b.filter fun y => cfl fs u y) = y :: ((b.drop (j + 1)).filter fun y => cfl fs u y) := by
          conv => lhs; rw [eb]
          rw [List.filter_append, hf, List.nil_append, List.filter_cons, if_pos z]
        rw [e2]
        rfl
      · rw [ht2, List.filter_append, hf]
        simp [z]
    · rintro σ h' ⟨rfl, hf, o5, rfl⟩
      rw [nats_len, List.take_length] at hf
      refine hN _ _ ⟨rfl, ?_, _, _, rfl⟩
      rw [ht, rows_app, hr, hf]; rfl
  · rintro σ h' ⟨rfl, hr, o4, o5, rfl⟩
    rw [nats_len, List.take_length] at hr
    simp only [sSeq, sNil, sIf, sRet, sRetN, sSet, sAsg, sExpr, sNever, sFor, sNox, sBrk, sCont, sFldD, sAug, sAugS, dVar, dC, dOp, dI0, dII, dNeg, dInv, dAndV, dOrV, dNotV, dTst, dTru, dAnd, dOr, dNot, dIfE, dChn, dCall, dCallK, dMake, aNil, aCons, dTup, dLst, dLstH, dFldC, dCB, dBM, tgN, tgSub, iL, iT, iR1, iR2, DEnds.xx, dLc, dLcH, dYes, dSl, oNon, oSome, nI2, nTup, nLst, nLstH, mApp, wipeD, dIn, dIsN, dNotN, dAddH, dMulH, tru_bl, tru_int, add_int, add_tup, mul_int, len_tup, len_lst, len_fz, ne_int, eq_int, ne_bl, eq_bl, int_int, int_bl, ty_end, asL_lst, asL_fz, asS_tup, asS_lst, asS_fz, tgs_cons_eq, tgs_nil_eq, tg_tup_eq, tg_lst_eq, at_end, set_end, asS_end, asL_end, at_pre, set_pre, ty_pre, dTupRev, List.getElem?_cons_zero, List.getElem?_cons_succ, Option.some.injEq, exists_eq_left', exists_eq_left, exists_and_left, exists_and_right, and_assoc, D.int.injEq, D.bl.injEq, D.str.injEq, D.tup.injEq, D.lst.injEq, D.fz.injEq, D.ref.injEq, HB.lst.injEq, List.cons.injEq, and_true, true_and, List.set_cons_zero, List.set_cons_succ, List.map_cons, List.map_nil, List.length_cons, List.length_nil, Nat.reduceAdd, Nat.reduceSub, Nat.sub_self, Nat.zero_add, List.replicate_zero, List.replicate_succ, List.append_nil, List.cons_append, List.nil_append, decide_eq_true_eq, decide_eq_false_iff_not, Bool.not_eq_true', Bool.not_eq_false', Bool.true_eq_false, Bool.false_eq_true, false_implies, forall_const, true_implies, reduceCtorEq, and_false, false_and, Bool.not_true, Bool.not_false, if_true, if_false, sRaise]
    refine ⟨by decide, .inl (q3.2 ?_)⟩
    show (rowsC fs a b).head? = none
    rw [hr]; rfl
end L2.MW.K49

namespace L2.MW.K49
open PySem PySem.Spec PyProof.Rows L2 L2.MW
theorem inT_nats {neg : Bool} {i : Int} {ns : List Nat} {h : DHp} {Q : DK} : dInT neg (.int i) (.tup (nats ns)) h Q ↔ Q (.bl (if neg then !(ns.any fun z => (z : Int) == i) else ns.any fun z => (z : Int) == i)) h := by
  have en : nats ns = (ns.map fun (k : Nat) => (k : Int)).map D.int := by unfold nats; rw [List.map_map]; rfl
  have ea : ((ns.map fun (k : Nat) => (k : Int)).any fun z => z == i) = ns.any fun z => (z : Int) == i := by rw [List.any_map]; rfl
  constructor
  · rintro ⟨i', ns', e1, e2, q⟩
    cases e1
    rw [en] at e2
    have e3 : ns.map (fun (k : Nat) => (k : Int)) = ns' := by
      have := D.tup.inj e2
      exact (List.map_inj_right (fun a b h => D.int.inj h)).mp this
    rw [← e3, ea] at q
    exact q
  · intro q
    refine ⟨i, _, rfl, by rw [en], ?_⟩
    rw [ea]; exact q
theorem isi_tl {d : D} {h : DHp} {Q : DK} (p : plB d = true) : nIsi kcs [d, .tup [.ty "tuple", .ty "list"]] h Q ↔ Q (.bl (isT d "tuple" || isT d "list")) h := by
  cases d <;> first
    | cases p; done
    | (constructor
       · rintro ⟨x, c, t, b, e, ht, _, hb, q⟩
         cases e; cases ht; cases hb.2
         exact q
       · intro q
         exact ⟨_, _, _, _, rfl, rfl, trivial, ⟨by intro y hy; simp at hy; rcases hy with rfl | rfl <;> trivial, rfl⟩, q⟩)
theorem isi_l {d : D} {h : DHp} {Q : DK} (p : plB d = true) : nIsi kcs [d, .ty "list"] h Q ↔ Q (.bl (isT d "list")) h := isi_eq p (by decide)
theorem isi_s {d : D} {h : DHp} {Q : DK} (p : plB d = true) : nIsi kcs [d, .ty "str"] h Q ↔ Q (.bl (isT d "str")) h := isi_eq p (by decide)
/-- alike with itself -/
theorem rd_same (n : Nat) (ds : List D) (h : DHp) (X : DX) (Q : DK) (hds : ds.length = 2) (c : ctS (n + 1) ds h X Q) : tb__law_same (ctS n) (endsD h X Q) (startD N__law_same.length ds) h := by
  obtain ⟨d, rfl, sm, q⟩ := c
  have q' := rt_of (h0 := h) (X := X) q
  have pl : plB d = true := by cases d <;> first | rfl | exact sm.elim
  simp only [tb__law_same, startD, sSeq, sNil, sIf, sRet, sRetN, sSet, sAsg, sExpr, sNever, sFor, sNox, sBrk, sCont, sFldD, sAug, sAugS, dVar, dC, dOp, dI0, dII, dNeg, dInv, dAndV, dOrV, dNotV, dTst, dTru, dAnd, dOr, dNot, dIfE, dChn, dCall, dCallK, dMake, aNil, aCons, dTup, dLst, dLstH, dFldC, dCB, dBM, tgN, tgSub, iL, iT, iR1, iR2, DEnds.xx, dLc, dLcH, dYes, dSl, oNon, oSome, nI2, nTup, nLst, nLstH, mApp, wipeD, dIn, dIsN, dNotN, dAddH, dMulH, tru_bl, tru_int, add_int, add_tup, mul_int, len_tup, len_lst, len_fz, ne_int, eq_int, ne_bl, eq_bl, int_int, int_bl, ty_end, asL_lst, asL_fz, asS_tup, asS_lst, asS_fz, tgs_cons_eq, tgs_nil_eq, tg_tup_eq, tg_lst_eq, at_end, set_end, asS_end, asL_end, at_pre, set_pre, ty_pre, dTupRev, List.getElem?_cons_zero, List.getElem?_cons_succ, Option.some.injEq, exists_eq_left', exists_eq_left, exists_and_left, exists_and_right, and_assoc, D.int.injEq, D.bl.injEq, D.str.injEq, D.tup.injEq, D.lst.injEq, D.fz.injEq, D.ref.injEq, HB.lst.injEq, List.cons.injEq, and_true, true_and, List.set_cons_zero, List.set_cons_succ, List.map_cons, List.map_nil, List.length_cons, List.length_nil, Nat.reduceAdd, Nat.reduceSub, Nat.sub_self, Nat.zero_add, List.replicate_zero, List.replicate_succ, List.append_nil, List.cons_append, List.nil_append, decide_eq_true_eq, decide_eq_false_iff_not, Bool.not_eq_true', Bool.not_eq_false', Bool.true_eq_false, Bool.false_eq_true, false_implies, forall_const, true_implies, reduceCtorEq, and_false, false_and, Bool.not_true, Bool.not_false, if_true, if_false, isi_tl pl, isi_l pl, isi_b pl, isi_i pl, isi_s pl]
  have z2 : (2 : Nat) ≤ sizeLine := small (by decide)
  have tf : ∀ {P : Prop}, true = false → P := fun z => nomatch z
  have ft : ∀ {P : Prop}, false = true → P := fun z => nomatch z
  have loop : ∀ (l : List D) (E : DEnds), asS h d = some l → l.length ≤ 100000 → (∀ x ∈ l, sameD n x) → (∀ σ, E.nx σ h) → forW (sIf (dNot (dTru (dCall (ctS n) 2 (aCons (dOp dIx (dVar 0) (dVar 2)) (aCons (dOp dIx (dVar 1) (dVar 2)) aNil))))) (sRet (dC (D.bl false))) sNil) (tgN 2) (fun x => True) E (rgD 0 l.length) [some d, some d, none] h := by
    intro l E el hl hs hE
    refine forW_inv (rgD 0 l.length) (fun i σ h' => h' = h ∧ ∃ o, σ = [some d, some d, o]) ⟨rfl, _, rfl⟩ (fun _ _ _ _ _ => trivial) ?_ ?_
    · rintro i x σ h' N hx ⟨rfl, o, rfl⟩ hN
      obtain ⟨rfl, hi⟩ := rg_get hx
      obtain ⟨y, hy⟩ := get_lt hi
      simp only [sSeq, sNil, sIf, sRet, sRetN, sSet, sAsg, sExpr, sNever, sFor, sNox, sBrk, sCont, sFldD, sAug, sAugS, dVar, dC, dOp, dI0, dII, dNeg, dInv, dAndV, dOrV, dNotV, dTst, dTru, dAnd, dOr, dNot, dIfE, dChn, dCall, dCallK, dMake, aNil, aCons, dTup, dLst, dLstH, dFldC, dCB, dBM, tgN, tgSub, iL, iT, iR1, iR2, DEnds.xx, dLc, dLcH, dYes, dSl, oNon, oSome, nI2, nTup, nLst, nLstH, mApp, wipeD, dIn, dIsN, dNotN, dAddH, dMulH, tru_bl, tru_int, add_int, add_tup, mul_int, len_tup, len_lst, len_fz, ne_int, eq_int, ne_bl, eq_bl, int_int, int_bl, ty_end, asL_lst, asL_fz, asS_tup, asS_lst, asS_fz, tgs_cons_eq, tgs_nil_eq, tg_tup_eq, tg_lst_eq, at_end, set_end, asS_end, asL_end, at_pre, set_pre, ty_pre, dTupRev, List.getElem?_cons_zero, List.getElem?_cons_succ, Option.some.injEq, exists_eq_left', exists_eq_left, exists_and_left, exists_and_right, and_assoc, D.int.injEq, D.bl.injEq, D.str.injEq, D.tup.injEq, D.lst.injEq, D.fz.injEq, D.ref.injEq, HB.lst.injEq, List.cons.injEq, and_true, true_and, List.set_cons_zero, List.set_cons_succ, List.map_cons, List.map_nil, List.length_cons, List.length_nil, Nat.reduceAdd, Nat.reduceSub, Nat.sub_self, Nat.zero_add, List.replicate_zero, List.replicate_succ, List.append_nil, List.cons_append, List.nil_append, decide_eq_true_eq, decide_eq_false_iff_not, Bool.not_eq_true', Bool.not_eq_false', Bool.true_eq_false, Bool.false_eq_true, false_implies, forall_const, true_implies, reduceCtorEq, and_false, false_and, Bool.not_true, Bool.not_false, if_true, if_false, ix_eq el (atI_nat hy)]
      exact ⟨y, rfl, hs y (List.mem_of_getElem? hy), _, rfl, (fun z => nomatch z), fun _ => hN _ _ ⟨rfl, _, rfl⟩⟩
    · rintro σ h' ⟨rfl, o, rfl⟩
      exact hE _
  cases d with
  | tup l =>
    refine ⟨z2, fun _ => ⟨z2, fun z => tf z, fun _ => ⟨fun z => tf z, fun _ => len_of rfl (len_of rfl (ne_int.mpr ⟨_, rfl, fun z => by simp at z, fun _ => len_of rfl ⟨_, rfl, rgOk (by have := sm.1; omega), ?_⟩⟩))⟩⟩, fun z => tf z⟩
    rw [Int.toNat_natCast]
    exact loop l _ rfl sm.1 sm.2 fun σ => by simpa only [sSeq, sNil, sIf, sRet, sRetN, sSet, sAsg, sExpr, sNever, sFor, sNox, sBrk, sCont, sFldD, sAug, sAugS, dVar, dC, dOp, dI0, dII, dNeg, dInv, dAndV, dOrV, dNotV, dTst, dTru, dAnd, dOr, dNot, dIfE, dChn, dCall, dCallK, dMake, aNil, aCons, dTup, dLst, dLstH, dFldC, dCB, dBM, tgN, tgSub, iL, iT, iR1, iR2, DEnds.xx, dLc, dLcH, dYes, dSl, oNon, oSome, nI2, nTup, nLst, nLstH, mApp, wipeD, dIn, dIsN, dNotN, dAddH, dMulH, tru_bl, tru_int, add_int, add_tup, mul_int, len_tup, len_lst, len_fz, ne_int, eq_int, ne_bl, eq_bl, int_int, int_bl, ty_end, asL_lst, asL_fz, asS_tup, asS_lst, asS_fz, tgs_cons_eq, tgs_nil_eq, tg_tup_eq, tg_lst_eq, at_end, set_end, asS_end, asL_end, at_pre, set_pre, ty_pre, dTupRev, List.getElem?_cons_zero, List.getElem?_cons_succ, Option.some.injEq, exists_eq_left', exists_eq_left, exists_and_left, exists_and_right, and_assoc, D.int.injEq, D.bl.injEq, D.str.injEq, D.tup.injEq, D.lst.injEq, D.fz.injEq, D.ref.injEq, HB.lst.injEq, List.cons.injEq, and_true, true_and, List.set_cons_zero, List.set_cons_succ, List.map_cons, List.map_nil, List.length_cons, List.length_nil, Nat.reduceAdd, Nat.reduceSub, Nat.sub_self, Nat.zero_add, List.replicate_zero, List.replicate_succ, List.append_nil, List.cons_append, List.nil_append, decide_eq_true_eq, decide_eq_false_iff_not, Bool.not_eq_true', Bool.not_eq_false', Bool.true_eq_false, Bool.false_eq_true, false_implies, forall_const, true_implies, reduceCtorEq, and_false, false_and, Bool.not_true, Bool.not_false, if_true, if_false] using q'
  | lst l =>
    refine ⟨z2, fun _ => ⟨z2, fun z => tf z, fun _ => ⟨fun z => tf z, fun _ => len_of rfl (len_of rfl (ne_int.mpr ⟨_, rfl, fun z => by simp at z, fun _ => len_of rfl ⟨_, rfl, rgOk (by have := sm.1; omega), ?_⟩⟩))⟩⟩, fun z => tf z⟩
    rw [Int.toNat_natCast]
    exact loop l _ rfl sm.1 sm.2 fun σ => by simpa only [sSeq, sNil, sIf, sRet, sRetN, sSet, sAsg, sExpr, sNever, sFor, sNox, sBrk, sCont, sFldD, sAug, sAugS, dVar, dC, dOp, dI0, dII, dNeg, dInv, dAndV, dOrV, dNotV, dTst, dTru, dAnd, dOr, dNot, dIfE, dChn, dCall, dCallK, dMake, aNil, aCons, dTup, dLst, dLstH, dFldC, dCB, dBM, tgN, tgSub, iL, iT, iR1, iR2, DEnds.xx, dLc, dLcH, dYes, dSl, oNon, oSome, nI2, nTup, nLst, nLstH, mApp, wipeD, dIn, dIsN, dNotN, dAddH, dMulH, tru_bl, tru_int, add_int, add_tup, mul_int, len_tup, len_lst, len_fz, ne_int, eq_int, ne_bl, eq_bl, int_int, int_bl, ty_end, asL_lst, asL_fz, asS_tup, asS_lst, asS_fz, tgs_cons_eq, tgs_nil_eq, tg_tup_eq, tg_lst_eq, at_end, set_end, asS_end, asL_end, at_pre, set_pre, ty_pre, dTupRev, List.getElem?_cons_zero, List.getElem?_cons_succ, Option.some.injEq, exists_eq_left', exists_eq_left, exists_and_left, exists_and_right, and_assoc, D.int.injEq, D.bl.injEq, D.str.injEq, D.tup.injEq, D.lst.injEq, D.fz.injEq, D.ref.injEq, HB.lst.injEq, List.cons.injEq, and_true, true_and, List.set_cons_zero, List.set_cons_succ, List.map_cons, List.map_nil, List.length_cons, List.length_nil, Nat.reduceAdd, Nat.reduceSub, Nat.sub_self, Nat.zero_add, List.replicate_zero, List.replicate_succ, List.append_nil, List.cons_append, List.nil_append, decide_eq_true_eq, decide_eq_false_iff_not, Bool.not_eq_true', Bool.not_eq_false', Bool.true_eq_false, Bool.false_eq_true, false_implies, forall_const, true_implies, reduceCtorEq, and_false, false_and, Bool.not_true, Bool.not_false, if_true, if_false] using q'
  | non => exact ⟨z2, fun z => ft z, fun _ => ⟨fun _ => q', fun z => tf z⟩⟩
  | bl b => exact ⟨z2, fun z => ft z, fun _ => ⟨fun z => ft z, fun _ => ⟨fun _ => ⟨fun _ => eq_bl.mpr (by simpa using q'), fun z => tf z⟩, fun z => tf z⟩⟩⟩
  | int i => exact ⟨z2, fun z => ft z, fun _ => ⟨fun z => ft z, fun _ => ⟨fun z => ft z, fun _ => ⟨fun _ => ⟨fun _ => ⟨fun _ => eq_int.mpr (by simpa using q'), fun z => ft z⟩, fun z => tf z⟩, fun z => tf z⟩⟩⟩⟩
  | str x =>
    have e : deq (.str x) (.str x) = true := by show PyData.eqv (.str x) (.str x) = true; simp [PyData.eqv]
    refine ⟨z2, fun z => ft z, fun _ => ⟨fun z => ft z, fun _ => ⟨fun z => ft z, fun _ => ⟨fun z => ft z, fun _ => ⟨fun _ => ⟨sm, sm, ?_⟩, fun z => tf z⟩⟩⟩⟩⟩
    show (endsD h X Q).rt (.bl (deq (.str x) (.str x))) h
    rw [e]; exact q'
  | _ => exact sm.elim
/-! ### the first crossing pair -/
theorem rows_mem {fs : List (Nat × Nat)} {a b : List Nat} {p : Nat × Nat} : p ∈ rowsC fs a b ↔ p.1 ∈ a ∧ p.2 ∈ b ∧ cfl fs p.1 p.2 = true := by
  unfold rowsC
  rw [List.mem_flatMap]
  constructor
  · rintro ⟨x, hx, hp⟩
    obtain ⟨y, hy, rfl⟩ := List.mem_map.mp hp
    rw [List.mem_filter] at hy
    exact ⟨hx, hy.1, hy.2⟩
  · rintro ⟨h1, h2, h3⟩
    exact ⟨p.1, h1, List.mem_map.mpr ⟨p.2, List.mem_filter.mpr ⟨h2, h3⟩, rfl⟩⟩
theorem rows_up {fs : List (Nat × Nat)} {b : List Nat} (hb : b.Pairwise (· < ·)) : ∀ {a : List Nat}, a.Pairwise (· < ·) → (rowsC fs a b).Pairwise ltP
  | [], _ => .nil
  | x :: a, ha => by
    rw [List.pairwise_cons] at ha
    have e : rowsC fs (x :: a) b = ((b.filter fun y => cfl fs x y).map fun y => (x, y)) ++ rowsC fs a b := by unfold rowsC; rw [List.flatMap_cons]
    rw [e, List.pairwise_append]
    refine ⟨?_, rows_up hb ha.2, fun p hp q hq => ?_⟩
    · rw [List.pairwise_map]
      exact (hb.filter _).imp fun h => .inr ⟨rfl, h⟩
    · obtain ⟨y, _, rfl⟩ := List.mem_map.mp hp
      exact .inl (ha.1 _ (rows_mem.mp hq).1)
/-- a strictly rising row's head is the least of its members -/
theorem head_least {l m : List (Nat × Nat)} (hl : l.Pairwise ltP) (hm : m.Pairwise ltP) (same : ∀ p, p ∈ l ↔ p ∈ m) : l.head? = m.head? := by
  cases l with
  | nil =>
    cases m with
    | nil => rfl
    | cons q r => exact absurd ((same q).mpr List.mem_cons_self) (by simp)
  | cons p l =>
    cases m with
    | nil => exact absurd ((same p).mp List.mem_cons_self) (by simp)
    | cons q m =>
      rw [List.pairwise_cons] at hl hm
      show some p = some q
      congr 1
      rcases List.mem_cons.mp ((same p).mp List.mem_cons_self) with h | h
      · exact h
      · rcases List.mem_cons.mp ((same q).mpr List.mem_cons_self) with h' | h'
        · exact h'.symm
        · have h1 := hm.1 p h
          have h2 := hl.1 q h'
          unfold ltP at h1 h2
          omega
theorem cut1 {α : Type} {l : List α} {f : α → D} : cutD (l.map f) none (some 1) = (l.take 1).map f := by
  unfold cutD HT.sIx
  cases l with
  | nil => simp
  | cons x r => simp [HT.sIx]
theorem take1 {α : Type} {l : List α} : l.take 1 = match l.head? with | some x => [x] | none => [] := by cases l <;> rfl
theorem any_mem {ns : List Nat} {k : Nat} : (ns.any fun z => (z : Int) == (k : Int)) = true ↔ k ∈ ns := by
  rw [List.any_eq_true]
  constructor
  · rintro ⟨x, hx, e⟩
    have : x = k := by have e2 := beq_iff_eq.mp e; omega
    exact this ▸ hx
  · intro h; exact ⟨k, h, beq_iff_eq.mpr rfl⟩
/-- what has been found -/
structure FoundC (fs : List (Nat × Nat)) (a b : List Nat) (F : List (Nat × Nat)) : Prop where
  iff : ∀ p, p ∈ F ↔ p.1 ∈ a ∧ p.2 ∈ b ∧ cfl fs p.1 p.2 = true
  nd : F.Nodup
theorem cfl_iff {fs : List (Nat × Nat)} {x y : Nat} : cfl fs x y = true ↔ (x, y) ∈ fs ∨ (y, x) ∈ fs := by
  unfold cfl
  rw [List.any_eq_true]
  constructor
  · rintro ⟨⟨u, v⟩, hp, e⟩
    simp at e
    rcases e with ⟨rfl, rfl⟩ | ⟨rfl, rfl⟩
    · exact .inl hp
    · exact .inr hp
  · rintro (h | h)
    · exact ⟨_, h, by simp⟩
    · exact ⟨_, h, by simp⟩
theorem rd_law_first (ds : List D) (h : DHp) (X : DX) (Q : DK) (hds : ds.length = 3) (c : ct__law_first ds h X Q) : tb__law_first (endsD h X Q) (startD N__law_first.length ds) h := by
  obtain ⟨fs, a, b, rfl, ha, hb, fl, fup, fpw, q1, q2⟩ := c
  simp only [tb__law_first, startD, sSeq, sNil, sIf, sRet, sRetN, sSet, sAsg, sExpr, sNever, sFor, sNox, sBrk, sCont, sFldD, sAug, sAugS, dVar, dC, dOp, dI0, dII, dNeg, dInv, dAndV, dOrV, dNotV, dTst, dTru, dAnd, dOr, dNot, dIfE, dChn, dCall, dCallK, dMake, aNil, aCons, dTup, dLst, dLstH, dFldC, dCB, dBM, tgN, tgSub, iL, iT, iR1, iR2, DEnds.xx, dLc, dLcH, dYes, dSl, oNon, oSome, nI2, nTup, nLst, nLstH, mApp, wipeD, dIn, dIsN, dNotN, dAddH, dMulH, tru_bl, tru_int, add_int, add_tup, mul_int, len_tup, len_lst, len_fz, ne_int, eq_int, ne_bl, eq_bl, int_int, int_bl, ty_end, asL_lst, asL_fz, asS_tup, asS_lst, asS_fz, tgs_cons_eq, tgs_nil_eq, tg_tup_eq, tg_lst_eq, at_end, set_end, asS_end, asL_end, at_pre, set_pre, ty_pre, dTupRev, List.getElem?_cons_zero, List.getElem?_cons_succ, Option.some.injEq, exists_eq_left', exists_eq_left, exists_and_left, exists_and_right, and_assoc, D.int.injEq, D.bl.injEq, D.str.injEq, D.tup.injEq, D.lst.injEq, D.fz.injEq, D.ref.injEq, HB.lst.injEq, List.cons.injEq, and_true, true_and, List.set_cons_zero, List.set_cons_succ, List.map_cons, List.map_nil, List.length_cons, List.length_nil, Nat.reduceAdd, Nat.reduceSub, Nat.sub_self, Nat.zero_add, List.replicate_zero, List.replicate_succ, List.append_nil, List.cons_append, List.nil_append, decide_eq_true_eq, decide_eq_false_iff_not, Bool.not_eq_true', Bool.not_eq_false', Bool.true_eq_false, Bool.false_eq_true, false_implies, forall_const, true_implies, reduceCtorEq, and_false, false_and, Bool.not_true, Bool.not_false, if_true, if_false]
  refine ⟨small (by decide), ?_⟩
  refine forW_inv (prs fs) (fun i σ h' => ∃ o F, σ = [some (.tup (nats a)), some (.tup (nats b)), some (.lst (prs fs)), some (.ref h.length), o] ∧ h' = h ++ [.lst (prs F)] ∧ FoundC (fs.take i) a b F ∧ F.length ≤ 2 * i) ⟨_, [], rfl, rfl, ⟨fun p => by simp [cfl], List.nodup_nil⟩, Nat.le_refl _⟩ (fun _ _ _ _ _ => rfl) ?_ ?_
  · rintro i x σ h' N hx ⟨o, F, rfl, rfl, fc, lF⟩ hN
    obtain ⟨p, hp, rfl, ht, hd, hm⟩ := get_map hx
    have hi : i < fs.length := (List.getElem?_eq_some_iff.mp hp).1
    have plt := fup p hm
    simp only [sSeq, sNil, sIf, sRet, sRetN, sSet, sAsg, sExpr, sNever, sFor, sNox, sBrk, sCont, sFldD, sAug, sAugS, dVar, dC, dOp, dI0, dII, dNeg, dInv, dAndV, dOrV, dNotV, dTst, dTru, dAnd, dOr, dNot, dIfE, dChn, dCall, dCallK, dMake, aNil, aCons, dTup, dLst, dLstH, dFldC, dCB, dBM, tgN, tgSub, iL, iT, iR1, iR2, DEnds.xx, dLc, dLcH, dYes, dSl, oNon, oSome, nI2, nTup, nLst, nLstH, mApp, wipeD, dIn, dIsN, dNotN, dAddH, dMulH, tru_bl, tru_int, add_int, add_tup, mul_int, len_tup, len_lst, len_fz, ne_int, eq_int, ne_bl, eq_bl, int_int, int_bl, ty_end, asL_lst, asL_fz, asS_tup, asS_lst, asS_fz, tgs_cons_eq, tgs_nil_eq, tg_tup_eq, tg_lst_eq, at_end, set_end, asS_end, asL_end, at_pre, set_pre, ty_pre, dTupRev, List.getElem?_cons_zero, List.getElem?_cons_succ, Option.some.injEq, exists_eq_left', exists_eq_left, exists_and_left, exists_and_right, and_assoc, D.int.injEq, D.bl.injEq, D.str.injEq, D.tup.injEq, D.lst.injEq, D.fz.injEq, D.ref.injEq, HB.lst.injEq, List.cons.injEq, and_true, true_and, List.set_cons_zero, List.set_cons_succ, List.map_cons, List.map_nil, List.length_cons, List.length_nil, Nat.reduceAdd, Nat.reduceSub, Nat.sub_self, Nat.zero_add, List.replicate_zero, List.replicate_succ, List.append_nil, List.cons_append, List.nil_append, decide_eq_true_eq, decide_eq_false_iff_not, Bool.not_eq_true', Bool.not_eq_false', Bool.true_eq_false, Bool.false_eq_true, false_implies, forall_const, true_implies, reduceCtorEq, and_false, false_and, Bool.not_true, Bool.not_false, if_true, if_false, prD_at, inT_nats]
    have nw : p ∉ fs.take i ∧ (p.2, p.1) ∉ fs.take i := by
      have e : fs = fs.take i ++ p :: fs.drop (i + 1) := by rw [← hd, List.take_append_drop]
      rw [e, List.pairwise_append] at fpw
      refine ⟨fun z => ?_, fun z => ?_⟩
      · have := fpw.2.2 p z p List.mem_cons_self
        unfold ltP at this; omega
      · have := fup _ (List.mem_of_mem_take z)
        simp at this; omega
    -- the first kind, the second kind
    have step2 : ∀ F : List (Nat × Nat), F.length ≤ 2 * i + 1 → ((∀ r, r ∈ F ↔ r.1 ∈ a ∧ r.2 ∈ b ∧ (cfl (fs.take i) r.1 r.2 = true ∨ r = p)) ∧ F.Nodup) →
        (((a.any fun z => (z : Int) == (p.2 : Int)) = true → ((b.any fun z => (z : Int) == (p.1 : Int)) = true → 2 ≤ sizeLine ∧ (prs F).length < sizeLine ∧ N [some (.tup (nats a)), some (.tup (nats b)), some (.lst (prs fs)), some (.ref h.length), some (prN p)] (h ++ [.lst (prs F ++ [D.tup [D.int (p.2 : Int), D.int (p.1 : Int)]])])) ∧
          ((b.any fun z => (z : Int) == (p.1 : Int)) = false → N [some (.tup (nats a)), some (.tup (nats b)), some (.lst (prs fs)), some (.ref h.length), some (prN p)] (h ++ [.lst (prs F)]))) ∧
        ((a.any fun z => (z : Int) == (p.2 : Int)) = false → N [some (.tup (nats a)), some (.tup (nats b)), some (.lst (prs fs)), some (.ref h.length), some (prN p)] (h ++ [.lst (prs F)]))) := by
      rintro F lF ⟨hF, nF⟩
      have no : ¬ (p.2 ∈ a ∧ p.1 ∈ b) → N [some (.tup (nats a)), some (.tup (nats b)), some (.lst (prs fs)), some (.ref h.length), some (prN p)] (h ++ [.lst (prs F)]) := fun z => hN _ _ ⟨_, F, rfl, rfl, ⟨fun r => ?_, nF⟩, by omega⟩
      · refine ⟨fun z1 => ⟨fun z2 => ⟨small (by decide), smallL (by rw [prs_len]; omega), hN _ _ ⟨_, F ++ [(p.2, p.1)], rfl, ?_, ⟨fun r => ?_, ?_⟩, by rw [List.length_append]; simp; omega⟩⟩, fun z2 => no fun z => ?_⟩, fun z1 => no fun z => ?_⟩
        · unfold prs; rw [List.map_append]; rfl
        · rw [List.mem_append, hF, ht, cfl_app, List.mem_singleton]
          have y1 := any_mem.mp z1
          have y2 := any_mem.mp z2
          obtain ⟨r1, r2⟩ := r
          obtain ⟨p1, p2⟩ := p
          simp at y1 y2 ⊢
          constructor
          · rintro (⟨h1, h2, h3 | ⟨rfl, rfl⟩⟩ | ⟨rfl, rfl⟩)
            · exact ⟨h1, h2, .inl h3⟩
            · exact ⟨h1, h2, .inr (.inl ⟨rfl, rfl⟩)⟩
            · exact ⟨y1, y2, .inr (.inr ⟨rfl, rfl⟩)⟩
          · rintro ⟨h1, h2, h3 | ⟨rfl, rfl⟩ | ⟨rfl, rfl⟩⟩
            · exact .inl ⟨h1, h2, .inl h3⟩
            · exact .inl ⟨h1, h2, .inr ⟨rfl, rfl⟩⟩
            · exact .inr ⟨rfl, rfl⟩
        · rw [List.nodup_append]
          refine ⟨nF, by simp, fun r hr s hs => ?_⟩
          rw [List.mem_singleton.mp hs]
          rintro rfl
          have := (hF _).mp hr
          rcases this.2.2 with z | z
          · rcases cfl_iff.mp z with z | z
            · exact nw.2 z
            · exact nw.1 z
          · have := congrArg Prod.fst z
            simp at this; omega
        · have := any_mem.mpr z.2
          rw [z2] at this; cases this
        · have := any_mem.mpr z.1
          rw [z1] at this; cases this
      · rw [hF, ht, cfl_app]
        obtain ⟨r1, r2⟩ := r
        obtain ⟨p1, p2⟩ := p
        simp at z ⊢
        intro h1 h2
        constructor
        · rintro (h3 | ⟨rfl, rfl⟩)
          · exact .inl h3
          · exact .inr (.inl ⟨rfl, rfl⟩)
        · rintro (h3 | ⟨rfl, rfl⟩ | ⟨rfl, rfl⟩)
          · exact .inl h3
          · exact .inr ⟨rfl, rfl⟩
          · exact absurd h2 (z h1)
    have same : ¬ (p.1 ∈ a ∧ p.2 ∈ b) → (∀ r, r ∈ F ↔ r.1 ∈ a ∧ r.2 ∈ b ∧ (cfl (fs.take i) r.1 r.2 = true ∨ r = p)) := fun z r => by
      rw [fc.iff]
      constructor
      · rintro ⟨h1, h2, h3⟩; exact ⟨h1, h2, .inl h3⟩
      · rintro ⟨h1, h2, h3 | rfl⟩
        · exact ⟨h1, h2, h3⟩
        · exact absurd ⟨h1, h2⟩ z
    refine ⟨fun z1 => ⟨fun z2 => ⟨smallL (by rw [prs_len]; omega), ?_⟩, fun z2 => ?_⟩, fun z1 => ?_⟩
    · have e : prs F ++ [prN p] = prs (F ++ [p]) := by unfold prs; rw [List.map_append]; rfl
      rw [e]
      refine step2 (F ++ [p]) (by rw [List.length_append]; simp; omega) ⟨fun r => ?_, ?_⟩
      · rw [List.mem_append, fc.iff, List.mem_singleton]
        have y1 := any_mem.mp z1
        have y2 := any_mem.mp z2
        constructor
        · rintro (⟨h1, h2, h3⟩ | rfl)
          · exact ⟨h1, h2, .inl h3⟩
          · exact ⟨y1, y2, .inr rfl⟩
        · rintro ⟨h1, h2, h3 | rfl⟩
          · exact .inl ⟨h1, h2, h3⟩
          · exact .inr rfl
      · rw [List.nodup_append]
        refine ⟨fc.nd, by simp, fun r hr s hs => ?_⟩
        rw [List.mem_singleton.mp hs]
        rintro rfl
        rcases cfl_iff.mp ((fc.iff _).mp hr).2.2 with z | z
        · exact nw.1 z
        · exact nw.2 z
    · exact step2 F (by omega) ⟨same (fun z => by have := any_mem.mpr z.2; rw [z2] at this; cases this), fc.nd⟩
    · exact step2 F (by omega) ⟨same (fun z => by have := any_mem.mpr z.1; rw [z1] at this; cases this), fc.nd⟩
  · rintro σ h' ⟨o, F, rfl, rfl, fc, lF⟩
    rw [prs_len, List.take_length] at fc
    simp only [sSeq, sNil, sIf, sRet, sRetN, sSet, sAsg, sExpr, sNever, sFor, sNox, sBrk, sCont, sFldD, sAug, sAugS, dVar, dC, dOp, dI0, dII, dNeg, dInv, dAndV, dOrV, dNotV, dTst, dTru, dAnd, dOr, dNot, dIfE, dChn, dCall, dCallK, dMake, aNil, aCons, dTup, dLst, dLstH, dFldC, dCB, dBM, tgN, tgSub, iL, iT, iR1, iR2, DEnds.xx, dLc, dLcH, dYes, dSl, oNon, oSome, nI2, nTup, nLst, nLstH, mApp, wipeD, dIn, dIsN, dNotN, dAddH, dMulH, tru_bl, tru_int, add_int, add_tup, mul_int, len_tup, len_lst, len_fz, ne_int, eq_int, ne_bl, eq_bl, int_int, int_bl, ty_end, asL_lst, asL_fz, asS_tup, asS_lst, asS_fz, tgs_cons_eq, tgs_nil_eq, tg_tup_eq, tg_lst_eq, at_end, set_end, asS_end, asL_end, at_pre, set_pre, ty_pre, dTupRev, List.getElem?_cons_zero, List.getElem?_cons_succ, Option.some.injEq, exists_eq_left', exists_eq_left, exists_and_left, exists_and_right, and_assoc, D.int.injEq, D.bl.injEq, D.str.injEq, D.tup.injEq, D.lst.injEq, D.fz.injEq, D.ref.injEq, HB.lst.injEq, List.cons.injEq, and_true, true_and, List.set_cons_zero, List.set_cons_succ, List.map_cons, List.map_nil, List.length_cons, List.length_nil, Nat.reduceAdd, Nat.reduceSub, Nat.sub_self, Nat.zero_add, List.replicate_zero, List.replicate_succ, List.append_nil, List.cons_append, List.nil_append, decide_eq_true_eq, decide_eq_false_iff_not, Bool.not_eq_true', Bool.not_eq_false', Bool.true_eq_false, Bool.false_eq_true, false_implies, forall_const, true_implies, reduceCtorEq, and_false, false_and, Bool.not_true, Bool.not_false, if_true, if_false]
    refine ⟨_, F.map cst, rfl, by rw [← prs_cst]; exact asL_ref at_end, fun qs hp hs => ?_⟩
    obtain ⟨rs, rfl, rp, ru⟩ := sorted_prs hp hs fc.nd
    rw [← prs_cst]
    have e : rs.head? = firstC fs a b := head_least ru (rows_up hb ha) fun p => (by rw [rp.mem_iff, fc.iff]; exact rows_mem.symm)
    refine ⟨prs rs, rfl, ?_⟩
    have e2 : cutD (prs rs) none (some 1) = prs (rs.take 1) := cut1
    rw [e2, take1, e]
    cases z : firstC fs a b with
    | none => exact rt_back trivial (q2 z)
    | some p => exact rt_back ⟨⟨trivial, trivial, trivial⟩, trivial⟩ (q1 p z)
end L2.MW.K49

namespace L2.MW.K49
open PySem PySem.Spec PyProof.Rows L2 L2.MW
theorem okd_up : ∀ {n : Nat} {d : D}, OkD n d → OkD (n + 1) d := fun {n} => by
  induction n with
  | zero => intro d h; cases d <;> first | trivial | exact h.elim | exact h
  | succ n ih => intro d h; cases d <;> first | trivial | exact h.elim | exact h | exact fun x hx => ih (h x hx)
theorem okd_le {n m : Nat} {d : D} (l : n ≤ m) (h : OkD n d) : OkD m d := by
  induction l with
  | refl => exact h
  | step _ ih => exact okd_up ih
theorem rz_pl {h : DHp} {d : D} (p : plB d = true) : rz h d = d := by cases d <;> first | rfl | cases p
theorem eq_pv {d1 d2 : D} {h : DHp} {Q : DK} (p1 : Pv d1) (p2 : Pv d2) (q : ∀ b, Q (.bl b) h) : dEq d1 d2 h Q := ⟨by rw [rz_pl p1.pl.1]; exact okd_le (by decide) p1.ok, by rw [rz_pl p2.pl.1]; exact okd_le (by decide) p2.ok, q _⟩
theorem nat_back {ns : List Nat} : (nats ns).map (fun x => (iOf x).toNat) = ns := by
  unfold nats
  rw [List.map_map]
  conv => rhs; rw [← List.map_id ns]
  exact List.map_congr_left fun x _ => rfl
theorem told_1 {n : Nat} {cs fs : List (Nat × Nat)} {d1 d2 : D} {z : Str} (y : okB n cs fs d1 = false) : toldD n cs fs d1 d2 z = .lst [.int 2, d1] := if_pos y
theorem told_2 {n : Nat} {cs fs : List (Nat × Nat)} {d1 d2 : D} {z : Str} (y1 : okB n cs fs d1 = true) (y2 : okB n cs fs d2 = false) : toldD n cs fs d1 d2 z = .lst [.int 2, d2] := by
  unfold toldD
  rw [y1, if_neg (by decide), if_pos y2]
theorem told_s {n : Nat} {cs fs : List (Nat × Nat)} {a b : List Nat} (y1 : okB n cs fs (.tup (nats a)) = true) (y2 : okB n cs fs (.tup (nats b)) = true) : toldD n cs fs (.tup (nats a)) (.tup (nats b)) "state" = (if okB n cs fs (.tup (nats (unionN a b))) = true then .lst [.int 0, .tup (nats (unionN a b))] else .lst [.int 1]) := by
  unfold toldD
  rw [y1, y2, if_neg (by decide), if_neg (by decide)]
  simp only [nat_back, if_true]
theorem told_c {n : Nat} {cs fs : List (Nat × Nat)} {a b : List Nat} (y1 : okB n cs fs (.tup (nats a)) = true) (y2 : okB n cs fs (.tup (nats b)) = true) : toldD n cs fs (.tup (nats a)) (.tup (nats b)) "conflict" = (match firstC fs a b with
        | some p => .lst [.int 0, prN p]
        | none => .lst [.int 1]) := by
  unfold toldD
  rw [y1, y2, if_neg (by decide), if_neg (by decide)]
  have e : (("conflict" : Str) = "state") = False := by simpa using (by decide : ("conflict" : Str) ≠ "state")
  simp only [nat_back, e, if_false]
  try rfl
theorem eq_strs {x y : Str} {h : DHp} {Q : DK} (hx : PyData.strOk x = true) (hy : PyData.strOk y = true) : dEq (.str x) (.str y) h Q ↔ Q (.bl (deq (.str x) (.str y))) h := ⟨fun w => w.2.2, fun q => ⟨hx, hy, q⟩⟩
theorem eS {h : DHp} {Q : DK} : dEq (.str "state") (.str "state") h Q ↔ Q (.bl true) h := by
  rw [eq_strs (by decide +kernel) (by decide +kernel)]
  have : deq (.str "state") (.str "state") = true := by decide +kernel
  rw [this]
theorem eC {h : DHp} {Q : DK} : dEq (.str "conflict") (.str "state") h Q ↔ Q (.bl false) h := by
  rw [eq_strs (by decide +kernel) (by decide +kernel)]
  have : deq (.str "conflict") (.str "state") = false := by decide +kernel
  rw [this]
theorem nS {h : DHp} {Q : DK} : dNe (.str "state") (.str "state") h Q ↔ Q (.bl false) h := by
  have : deq (.str "state") (.str "state") = true := by decide +kernel
  show _ ∧ _ ∧ Q (.bl (!deq (.str "state") (.str "state"))) h ↔ _
  rw [this]
  exact ⟨fun w => w.2.2, fun q => ⟨by show PyData.strOk _ = true; decide +kernel, by show PyData.strOk _ = true; decide +kernel, q⟩⟩
theorem nC {h : DHp} {Q : DK} : dNe (.str "conflict") (.str "conflict") h Q ↔ Q (.bl false) h := by
  have : deq (.str "conflict") (.str "conflict") = true := by decide +kernel
  show _ ∧ _ ∧ Q (.bl (!deq (.str "conflict") (.str "conflict"))) h ↔ _
  rw [this]
  exact ⟨fun w => w.2.2, fun q => ⟨by show PyData.strOk _ = true; decide +kernel, by show PyData.strOk _ = true; decide +kernel, q⟩⟩
theorem both2 {P : Prop} {b : Bool} (p : P) : (b = true → P) ∧ (b = false → P) := ⟨fun _ => p, fun _ => p⟩
theorem perm3 {a b c : D} : perm [2, 1, 0] [a, b, c] = [c, b, a] := rfl
theorem isE_iff {a dd : Addr} {c : String} {fs : List (Str × D)} {t : D} {b : Bool} {h : DHp} {Q : DK} (ht : isClsD t) (hb : (c, t, b) ∈ xkt) (hu : ∀ b', (c, t, b') ∈ xkt → b' = b) : nIsE xkt a c dd [.exn a c dd fs, t] h Q ↔ Q (.bl b) h := by
  constructor
  · rintro ⟨fs', t', b', e, _, hb', q⟩
    cases e
    rw [hu b' hb'] at q
    exact q
  · exact isE_eq ht hb
theorem i1 {a dd : Addr} {fs : List (Str × D)} {h : DHp} {Q : DK} : nIsE xkt a "InvalidState" dd [.exn a "InvalidState" dd fs, .cls "InvalidEvents"] h Q ↔ Q (.bl false) h := isE_iff trivial (by simp [xkt]) (by simp [xkt])
theorem i2 {a dd : Addr} {fs : List (Str × D)} {h : DHp} {Q : DK} : nIsE xkt a "InvalidState" dd [.exn a "InvalidState" dd fs, .ty "ValueError"] h Q ↔ Q (.bl true) h := isE_iff trivial (by simp [xkt]) (by simp [xkt])
theorem i3 {a dd : Addr} {fs : List (Str × D)} {h : DHp} {Q : DK} : nIsE xkt a "InvalidState" dd [.exn a "InvalidState" dd fs, .cls "MiddleError"] h Q ↔ Q (.bl true) h := isE_iff trivial (by simp [xkt]) (by simp [xkt])
theorem i4 {a dd : Addr} {fs : List (Str × D)} {h : DHp} {Q : DK} : nIsE xkt a "Undefined" dd [.exn a "Undefined" dd fs, .cls "TooLarge"] h Q ↔ Q (.bl false) h := isE_iff trivial (by simp [xkt]) (by simp [xkt])
theorem i5 {a dd : Addr} {fs : List (Str × D)} {h : DHp} {Q : DK} : nIsE xkt a "Undefined" dd [.exn a "Undefined" dd fs, .ty "ValueError"] h Q ↔ Q (.bl true) h := isE_iff trivial (by simp [xkt]) (by simp [xkt])
theorem i6 {a dd : Addr} {fs : List (Str × D)} {h : DHp} {Q : DK} : nIsE xkt a "Undefined" dd [.exn a "Undefined" dd fs, .cls "MiddleError"] h Q ↔ Q (.bl true) h := isE_iff trivial (by simp [xkt]) (by simp [xkt])
theorem isi_str {s : Str} {h : DHp} {Q : DK} : nIsi kcs [.str s, .ty "str"] h Q ↔ Q (.bl true) h := isi_s rfl
theorem xv {a dd : Addr} {d : D} {h : DHp} {Q : DK} : nExF a "InvalidState" dd "value" (.exn a "InvalidState" dd [("value", d)]) h Q ↔ Q d h := exF_eq rfl
theorem xw {a dd : Addr} {d : D} {h : DHp} {Q : DK} : nExF a "Undefined" dd "what" (.exn a "Undefined" dd [("what", d)]) h Q ↔ Q d h := exF_eq rfl
theorem rd_law_told (ds : List D) (h : DHp) (X : DX) (Q : DK) (hds : ds.length = 4) (c : ct__law_told ds h X Q) : tb__law_told (endsD h X Q) (startD N__law_told.length ds) h := by
  obtain ⟨n, cs, fs, d1, d2, z, rfl, hz, ev, p1, p2, q⟩ := c
  have q' := rt_of (h0 := h) (X := X) q
  simp only [tb__law_told, startD, sTry, sSeq, sNil, sIf, sRet, sRetN, sSet, sAsg, sExpr, sNever, sFor, sNox, sBrk, sCont, sFldD, sAug, sAugS, dVar, dC, dOp, dI0, dII, dNeg, dInv, dAndV, dOrV, dNotV, dTst, dTru, dAnd, dOr, dNot, dIfE, dChn, dCall, dCallK, dMake, aNil, aCons, dTup, dLst, dLstH, dFldC, dCB, dBM, tgN, tgSub, iL, iT, iR1, iR2, DEnds.xx, dLc, dLcH, dYes, dSl, oNon, oSome, nI2, nTup, nLst, nLstH, mApp, wipeD, dIn, dIsN, dNotN, dAddH, dMulH, tru_bl, tru_int, add_int, add_tup, mul_int, len_tup, len_lst, len_fz, ne_int, eq_int, ne_bl, eq_bl, int_int, int_bl, ty_end, asL_lst, asL_fz, asS_tup, asS_lst, asS_fz, tgs_cons_eq, tgs_nil_eq, tg_tup_eq, tg_lst_eq, at_end, set_end, asS_end, asL_end, at_pre, set_pre, ty_pre, dTupRev, List.getElem?_cons_zero, List.getElem?_cons_succ, Option.some.injEq, exists_eq_left', exists_eq_left, exists_and_left, exists_and_right, and_assoc, D.int.injEq, D.bl.injEq, D.str.injEq, D.tup.injEq, D.lst.injEq, D.fz.injEq, D.ref.injEq, HB.lst.injEq, List.cons.injEq, and_true, true_and, List.set_cons_zero, List.set_cons_succ, List.map_cons, List.map_nil, List.length_cons, List.length_nil, Nat.reduceAdd, Nat.reduceSub, Nat.sub_self, Nat.zero_add, List.replicate_zero, List.replicate_succ, List.append_nil, List.cons_append, List.nil_append, decide_eq_true_eq, decide_eq_false_iff_not, Bool.not_eq_true', Bool.not_eq_false', Bool.true_eq_false, Bool.false_eq_true, false_implies, forall_const, true_implies, reduceCtorEq, and_false, false_and, Bool.not_true, Bool.not_false, if_true, if_false]
  have d1S : ∀ {d : D} {σ : DSt} {g : DHp} {t : Addr → String → Addr → DS} {E : DEnds} {r : List DCl}, runD (some 4) t E (xSt d) σ g → dispD xtb E (xSt d) σ g ((.cls "InvalidState", some 4, t) :: r) := fun q => disp_yes (List.mem_cons_self) q
  have d1U : ∀ {z : Str} {σ : DSt} {g : DHp} {t1 t2 : Addr → String → Addr → DS} {E : DEnds} {r : List DCl}, runD (some 4) t2 E (xUn z) σ g → dispD xtb E (xUn z) σ g ((.cls "InvalidState", some 4, t1) :: (.cls "Undefined", some 4, t2) :: r) := fun q => disp_no (.tail _ (.head _)) (disp_yes (.tail _ (.tail _ (.head _))) q)
  have z2 : (2 : Nat) ≤ sizeLine := small (by decide)
  have z1 : (1 : Nat) ≤ sizeLine := small (by decide)
  have tf : ∀ {P : Prop}, true = false → P := fun z => nomatch z
  have ft : ∀ {P : Prop}, false = true → P := fun z => nomatch z
  rcases hz with rfl | rfl
  · simp only [eS, sSeq, sNil, sIf, sRet, sRetN, sSet, sAsg, sExpr, sNever, sFor, sNox, sBrk, sCont, sFldD, sAug, sAugS, dVar, dC, dOp, dI0, dII, dNeg, dInv, dAndV, dOrV, dNotV, dTst, dTru, dAnd, dOr, dNot, dIfE, dChn, dCall, dCallK, dMake, aNil, aCons, dTup, dLst, dLstH, dFldC, dCB, dBM, tgN, tgSub, iL, iT, iR1, iR2, DEnds.xx, dLc, dLcH, dYes, dSl, oNon, oSome, nI2, nTup, nLst, nLstH, mApp, wipeD, dIn, dIsN, dNotN, dAddH, dMulH, tru_bl, tru_int, add_int, add_tup, mul_int, len_tup, len_lst, len_fz, ne_int, eq_int, ne_bl, eq_bl, int_int, int_bl, ty_end, asL_lst, asL_fz, asS_tup, asS_lst, asS_fz, tgs_cons_eq, tgs_nil_eq, tg_tup_eq, tg_lst_eq, at_end, set_end, asS_end, asL_end, at_pre, set_pre, ty_pre, dTupRev, List.getElem?_cons_zero, List.getElem?_cons_succ, Option.some.injEq, exists_eq_left', exists_eq_left, exists_and_left, exists_and_right, and_assoc, D.int.injEq, D.bl.injEq, D.str.injEq, D.tup.injEq, D.lst.injEq, D.fz.injEq, D.ref.injEq, HB.lst.injEq, List.cons.injEq, and_true, true_and, List.set_cons_zero, List.set_cons_succ, List.map_cons, List.map_nil, List.length_cons, List.length_nil, Nat.reduceAdd, Nat.reduceSub, Nat.sub_self, Nat.zero_add, List.replicate_zero, List.replicate_succ, List.append_nil, List.cons_append, List.nil_append, decide_eq_true_eq, decide_eq_false_iff_not, Bool.not_eq_true', Bool.not_eq_false', Bool.true_eq_false, Bool.false_eq_true, false_implies, forall_const, true_implies, reduceCtorEq, and_false, false_and, Bool.not_true, Bool.not_false, if_true, if_false]
    refine eq_pv p1 p2 fun b => ?_
    simp only [sSeq, sNil, sIf, sRet, sRetN, sSet, sAsg, sExpr, sNever, sFor, sNox, sBrk, sCont, sFldD, sAug, sAugS, dVar, dC, dOp, dI0, dII, dNeg, dInv, dAndV, dOrV, dNotV, dTst, dTru, dAnd, dOr, dNot, dIfE, dChn, dCall, dCallK, dMake, aNil, aCons, dTup, dLst, dLstH, dFldC, dCB, dBM, tgN, tgSub, iL, iT, iR1, iR2, DEnds.xx, dLc, dLcH, dYes, dSl, oNon, oSome, nI2, nTup, nLst, nLstH, mApp, wipeD, dIn, dIsN, dNotN, dAddH, dMulH, tru_bl, tru_int, add_int, add_tup, mul_int, len_tup, len_lst, len_fz, ne_int, eq_int, ne_bl, eq_bl, int_int, int_bl, ty_end, asL_lst, asL_fz, asS_tup, asS_lst, asS_fz, tgs_cons_eq, tgs_nil_eq, tg_tup_eq, tg_lst_eq, at_end, set_end, asS_end, asL_end, at_pre, set_pre, ty_pre, dTupRev, List.getElem?_cons_zero, List.getElem?_cons_succ, Option.some.injEq, exists_eq_left', exists_eq_left, exists_and_left, exists_and_right, and_assoc, D.int.injEq, D.bl.injEq, D.str.injEq, D.tup.injEq, D.lst.injEq, D.fz.injEq, D.ref.injEq, HB.lst.injEq, List.cons.injEq, and_true, true_and, List.set_cons_zero, List.set_cons_succ, List.map_cons, List.map_nil, List.length_cons, List.length_nil, Nat.reduceAdd, Nat.reduceSub, Nat.sub_self, Nat.zero_add, List.replicate_zero, List.replicate_succ, List.append_nil, List.cons_append, List.nil_append, decide_eq_true_eq, decide_eq_false_iff_not, Bool.not_eq_true', Bool.not_eq_false', Bool.true_eq_false, Bool.false_eq_true, false_implies, forall_const, true_implies, reduceCtorEq, and_false, false_and, Bool.not_true, Bool.not_false, if_true, if_false, perm3]
    refine both2 ⟨n, cs, fs, d1, d2, rfl, ev, p1, p2, fun y => d1S fun a dd => ?_, fun y1 => ⟨fun y => d1S fun a dd => ?_, fun y2 a b e1 e2 => ⟨fun u => ?_, fun u => d1U fun a dd => ?_⟩⟩⟩
    · rw [told_1 y] at q'
      simp only [xSt, goneD, dExF, i1, i2, i3, xv, sSeq, sNil, sIf, sRet, sRetN, sSet, sAsg, sExpr, sNever, sFor, sNox, sBrk, sCont, sFldD, sAug, sAugS, dVar, dC, dOp, dI0, dII, dNeg, dInv, dAndV, dOrV, dNotV, dTst, dTru, dAnd, dOr, dNot, dIfE, dChn, dCall, dCallK, dMake, aNil, aCons, dTup, dLst, dLstH, dFldC, dCB, dBM, tgN, tgSub, iL, iT, iR1, iR2, DEnds.xx, dLc, dLcH, dYes, dSl, oNon, oSome, nI2, nTup, nLst, nLstH, mApp, wipeD, dIn, dIsN, dNotN, dAddH, dMulH, tru_bl, tru_int, add_int, add_tup, mul_int, len_tup, len_lst, len_fz, ne_int, eq_int, ne_bl, eq_bl, int_int, int_bl, ty_end, asL_lst, asL_fz, asS_tup, asS_lst, asS_fz, tgs_cons_eq, tgs_nil_eq, tg_tup_eq, tg_lst_eq, at_end, set_end, asS_end, asL_end, at_pre, set_pre, ty_pre, dTupRev, List.getElem?_cons_zero, List.getElem?_cons_succ, Option.some.injEq, exists_eq_left', exists_eq_left, exists_and_left, exists_and_right, and_assoc, D.int.injEq, D.bl.injEq, D.str.injEq, D.tup.injEq, D.lst.injEq, D.fz.injEq, D.ref.injEq, HB.lst.injEq, List.cons.injEq, and_true, true_and, List.set_cons_zero, List.set_cons_succ, List.map_cons, List.map_nil, List.length_cons, List.length_nil, Nat.reduceAdd, Nat.reduceSub, Nat.sub_self, Nat.zero_add, List.replicate_zero, List.replicate_succ, List.append_nil, List.cons_append, List.nil_append, decide_eq_true_eq, decide_eq_false_iff_not, Bool.not_eq_true', Bool.not_eq_false', Bool.true_eq_false, Bool.false_eq_true, false_implies, forall_const, true_implies, reduceCtorEq, and_false, false_and, Bool.not_true, Bool.not_false, if_true, if_false]
      exact ⟨z2, q'⟩
    · rw [told_2 y1 y] at q'
      simp only [xSt, goneD, dExF, i1, i2, i3, xv, sSeq, sNil, sIf, sRet, sRetN, sSet, sAsg, sExpr, sNever, sFor, sNox, sBrk, sCont, sFldD, sAug, sAugS, dVar, dC, dOp, dI0, dII, dNeg, dInv, dAndV, dOrV, dNotV, dTst, dTru, dAnd, dOr, dNot, dIfE, dChn, dCall, dCallK, dMake, aNil, aCons, dTup, dLst, dLstH, dFldC, dCB, dBM, tgN, tgSub, iL, iT, iR1, iR2, DEnds.xx, dLc, dLcH, dYes, dSl, oNon, oSome, nI2, nTup, nLst, nLstH, mApp, wipeD, dIn, dIsN, dNotN, dAddH, dMulH, tru_bl, tru_int, add_int, add_tup, mul_int, len_tup, len_lst, len_fz, ne_int, eq_int, ne_bl, eq_bl, int_int, int_bl, ty_end, asL_lst, asL_fz, asS_tup, asS_lst, asS_fz, tgs_cons_eq, tgs_nil_eq, tg_tup_eq, tg_lst_eq, at_end, set_end, asS_end, asL_end, at_pre, set_pre, ty_pre, dTupRev, List.getElem?_cons_zero, List.getElem?_cons_succ, Option.some.injEq, exists_eq_left', exists_eq_left, exists_and_left, exists_and_right, and_assoc, D.int.injEq, D.bl.injEq, D.str.injEq, D.tup.injEq, D.lst.injEq, D.fz.injEq, D.ref.injEq, HB.lst.injEq, List.cons.injEq, and_true, true_and, List.set_cons_zero, List.set_cons_succ, List.map_cons, List.map_nil, List.length_cons, List.length_nil, Nat.reduceAdd, Nat.reduceSub, Nat.sub_self, Nat.zero_add, List.replicate_zero, List.replicate_succ, List.append_nil, List.cons_append, List.nil_append, decide_eq_true_eq, decide_eq_false_iff_not, Bool.not_eq_true', Bool.not_eq_false', Bool.true_eq_false, Bool.false_eq_true, false_implies, forall_const, true_implies, reduceCtorEq, and_false, false_and, Bool.not_true, Bool.not_false, if_true, if_false]
      exact ⟨z2, q'⟩
    · subst e1 e2
      rw [told_s y1 y2, if_pos u] at q'
      exact ⟨z2, q'⟩
    · subst e1 e2
      rw [told_s y1 y2, if_neg (by rw [u]; decide)] at q'
      simp only [xUn, goneD, dExF, i4, i5, i6, xw, isi_str, nS, sSeq, sNil, sIf, sRet, sRetN, sSet, sAsg, sExpr, sNever, sFor, sNox, sBrk, sCont, sFldD, sAug, sAugS, dVar, dC, dOp, dI0, dII, dNeg, dInv, dAndV, dOrV, dNotV, dTst, dTru, dAnd, dOr, dNot, dIfE, dChn, dCall, dCallK, dMake, aNil, aCons, dTup, dLst, dLstH, dFldC, dCB, dBM, tgN, tgSub, iL, iT, iR1, iR2, DEnds.xx, dLc, dLcH, dYes, dSl, oNon, oSome, nI2, nTup, nLst, nLstH, mApp, wipeD, dIn, dIsN, dNotN, dAddH, dMulH, tru_bl, tru_int, add_int, add_tup, mul_int, len_tup, len_lst, len_fz, ne_int, eq_int, ne_bl, eq_bl, int_int, int_bl, ty_end, asL_lst, asL_fz, asS_tup, asS_lst, asS_fz, tgs_cons_eq, tgs_nil_eq, tg_tup_eq, tg_lst_eq, at_end, set_end, asS_end, asL_end, at_pre, set_pre, ty_pre, dTupRev, List.getElem?_cons_zero, List.getElem?_cons_succ, Option.some.injEq, exists_eq_left', exists_eq_left, exists_and_left, exists_and_right, and_assoc, D.int.injEq, D.bl.injEq, D.str.injEq, D.tup.injEq, D.lst.injEq, D.fz.injEq, D.ref.injEq, HB.lst.injEq, List.cons.injEq, and_true, true_and, List.set_cons_zero, List.set_cons_succ, List.map_cons, List.map_nil, List.length_cons, List.length_nil, Nat.reduceAdd, Nat.reduceSub, Nat.sub_self, Nat.zero_add, List.replicate_zero, List.replicate_succ, List.append_nil, List.cons_append, List.nil_append, decide_eq_true_eq, decide_eq_false_iff_not, Bool.not_eq_true', Bool.not_eq_false', Bool.true_eq_false, Bool.false_eq_true, false_implies, forall_const, true_implies, reduceCtorEq, and_false, false_and, Bool.not_true, Bool.not_false, if_true, if_false]
      exact ⟨z1, q'⟩
  · simp only [eC, sSeq, sNil, sIf, sRet, sRetN, sSet, sAsg, sExpr, sNever, sFor, sNox, sBrk, sCont, sFldD, sAug, sAugS, dVar, dC, dOp, dI0, dII, dNeg, dInv, dAndV, dOrV, dNotV, dTst, dTru, dAnd, dOr, dNot, dIfE, dChn, dCall, dCallK, dMake, aNil, aCons, dTup, dLst, dLstH, dFldC, dCB, dBM, tgN, tgSub, iL, iT, iR1, iR2, DEnds.xx, dLc, dLcH, dYes, dSl, oNon, oSome, nI2, nTup, nLst, nLstH, mApp, wipeD, dIn, dIsN, dNotN, dAddH, dMulH, tru_bl, tru_int, add_int, add_tup, mul_int, len_tup, len_lst, len_fz, ne_int, eq_int, ne_bl, eq_bl, int_int, int_bl, ty_end, asL_lst, asL_fz, asS_tup, asS_lst, asS_fz, tgs_cons_eq, tgs_nil_eq, tg_tup_eq, tg_lst_eq, at_end, set_end, asS_end, asL_end, at_pre, set_pre, ty_pre, dTupRev, List.getElem?_cons_zero, List.getElem?_cons_succ, Option.some.injEq, exists_eq_left', exists_eq_left, exists_and_left, exists_and_right, and_assoc, D.int.injEq, D.bl.injEq, D.str.injEq, D.tup.injEq, D.lst.injEq, D.fz.injEq, D.ref.injEq, HB.lst.injEq, List.cons.injEq, and_true, true_and, List.set_cons_zero, List.set_cons_succ, List.map_cons, List.map_nil, List.length_cons, List.length_nil, Nat.reduceAdd, Nat.reduceSub, Nat.sub_self, Nat.zero_add, List.replicate_zero, List.replicate_succ, List.append_nil, List.cons_append, List.nil_append, decide_eq_true_eq, decide_eq_false_iff_not, Bool.not_eq_true', Bool.not_eq_false', Bool.true_eq_false, Bool.false_eq_true, false_implies, forall_const, true_implies, reduceCtorEq, and_false, false_and, Bool.not_true, Bool.not_false, if_true, if_false]
    refine eq_pv p1 p2 fun b => ?_
    simp only [sSeq, sNil, sIf, sRet, sRetN, sSet, sAsg, sExpr, sNever, sFor, sNox, sBrk, sCont, sFldD, sAug, sAugS, dVar, dC, dOp, dI0, dII, dNeg, dInv, dAndV, dOrV, dNotV, dTst, dTru, dAnd, dOr, dNot, dIfE, dChn, dCall, dCallK, dMake, aNil, aCons, dTup, dLst, dLstH, dFldC, dCB, dBM, tgN, tgSub, iL, iT, iR1, iR2, DEnds.xx, dLc, dLcH, dYes, dSl, oNon, oSome, nI2, nTup, nLst, nLstH, mApp, wipeD, dIn, dIsN, dNotN, dAddH, dMulH, tru_bl, tru_int, add_int, add_tup, mul_int, len_tup, len_lst, len_fz, ne_int, eq_int, ne_bl, eq_bl, int_int, int_bl, ty_end, asL_lst, asL_fz, asS_tup, asS_lst, asS_fz, tgs_cons_eq, tgs_nil_eq, tg_tup_eq, tg_lst_eq, at_end, set_end, asS_end, asL_end, at_pre, set_pre, ty_pre, dTupRev, List.getElem?_cons_zero, List.getElem?_cons_succ, Option.some.injEq, exists_eq_left', exists_eq_left, exists_and_left, exists_and_right, and_assoc, D.int.injEq, D.bl.injEq, D.str.injEq, D.tup.injEq, D.lst.injEq, D.fz.injEq, D.ref.injEq, HB.lst.injEq, List.cons.injEq, and_true, true_and, List.set_cons_zero, List.set_cons_succ, List.map_cons, List.map_nil, List.length_cons, List.length_nil, Nat.reduceAdd, Nat.reduceSub, Nat.sub_self, Nat.zero_add, List.replicate_zero, List.replicate_succ, List.append_nil, List.cons_append, List.nil_append, decide_eq_true_eq, decide_eq_false_iff_not, Bool.not_eq_true', Bool.not_eq_false', Bool.true_eq_false, Bool.false_eq_true, false_implies, forall_const, true_implies, reduceCtorEq, and_false, false_and, Bool.not_true, Bool.not_false, if_true, if_false, perm3]
    refine both2 ⟨n, cs, fs, d1, d2, rfl, ev, p1, p2, fun y => d1S fun a dd => ?_, fun y1 => ⟨fun y => d1S fun a dd => ?_, fun y2 a b e1 e2 => ⟨fun p u => ?_, fun u => d1U fun a dd => ?_⟩⟩⟩
    · rw [told_1 y] at q'
      simp only [xSt, goneD, dExF, i1, i2, i3, xv, sSeq, sNil, sIf, sRet, sRetN, sSet, sAsg, sExpr, sNever, sFor, sNox, sBrk, sCont, sFldD, sAug, sAugS, dVar, dC, dOp, dI0, dII, dNeg, dInv, dAndV, dOrV, dNotV, dTst, dTru, dAnd, dOr, dNot, dIfE, dChn, dCall, dCallK, dMake, aNil, aCons, dTup, dLst, dLstH, dFldC, dCB, dBM, tgN, tgSub, iL, iT, iR1, iR2, DEnds.xx, dLc, dLcH, dYes, dSl, oNon, oSome, nI2, nTup, nLst, nLstH, mApp, wipeD, dIn, dIsN, dNotN, dAddH, dMulH, tru_bl, tru_int, add_int, add_tup, mul_int, len_tup, len_lst, len_fz, ne_int, eq_int, ne_bl, eq_bl, int_int, int_bl, ty_end, asL_lst, asL_fz, asS_tup, asS_lst, asS_fz, tgs_cons_eq, tgs_nil_eq, tg_tup_eq, tg_lst_eq, at_end, set_end, asS_end, asL_end, at_pre, set_pre, ty_pre, dTupRev, List.getElem?_cons_zero, List.getElem?_cons_succ, Option.some.injEq, exists_eq_left', exists_eq_left, exists_and_left, exists_and_right, and_assoc, D.int.injEq, D.bl.injEq, D.str.injEq, D.tup.injEq, D.lst.injEq, D.fz.injEq, D.ref.injEq, HB.lst.injEq, List.cons.injEq, and_true, true_and, List.set_cons_zero, List.set_cons_succ, List.map_cons, List.map_nil, List.length_cons, List.length_nil, Nat.reduceAdd, Nat.reduceSub, Nat.sub_self, Nat.zero_add, List.replicate_zero, List.replicate_succ, List.append_nil, List.cons_append, List.nil_append, decide_eq_true_eq, decide_eq_false_iff_not, Bool.not_eq_true', Bool.not_eq_false', Bool.true_eq_false, Bool.false_eq_true, false_implies, forall_const, true_implies, reduceCtorEq, and_false, false_and, Bool.not_true, Bool.not_false, if_true, if_false]
      exact ⟨z2, q'⟩
    · rw [told_2 y1 y] at q'
      simp only [xSt, goneD, dExF, i1, i2, i3, xv, sSeq, sNil, sIf, sRet, sRetN, sSet, sAsg, sExpr, sNever, sFor, sNox, sBrk, sCont, sFldD, sAug, sAugS, dVar, dC, dOp, dI0, dII, dNeg, dInv, dAndV, dOrV, dNotV, dTst, dTru, dAnd, dOr, dNot, dIfE, dChn, dCall, dCallK, dMake, aNil, aCons, dTup, dLst, dLstH, dFldC, dCB, dBM, tgN, tgSub, iL, iT, iR1, iR2, DEnds.xx, dLc, dLcH, dYes, dSl, oNon, oSome, nI2, nTup, nLst, nLstH, mApp, wipeD, dIn, dIsN, dNotN, dAddH, dMulH, tru_bl, tru_int, add_int, add_tup, mul_int, len_tup, len_lst, len_fz, ne_int, eq_int, ne_bl, eq_bl, int_int, int_bl, ty_end, asL_lst, asL_fz, asS_tup, asS_lst, asS_fz, tgs_cons_eq, tgs_nil_eq, tg_tup_eq, tg_lst_eq, at_end, set_end, asS_end, asL_end, at_pre, set_pre, ty_pre, dTupRev, List.getElem?_cons_zero, List.getElem?_cons_succ, Option.some.injEq, exists_eq_left', exists_eq_left, exists_and_left, exists_and_right, and_assoc, D.int.injEq, D.bl.injEq, D.str.injEq, D.tup.injEq, D.lst.injEq, D.fz.injEq, D.ref.injEq, HB.lst.injEq, List.cons.injEq, and_true, true_and, List.set_cons_zero, List.set_cons_succ, List.map_cons, List.map_nil, List.length_cons, List.length_nil, Nat.reduceAdd, Nat.reduceSub, Nat.sub_self, Nat.zero_add, List.replicate_zero, List.replicate_succ, List.append_nil, List.cons_append, List.nil_append, decide_eq_true_eq, decide_eq_false_iff_not, Bool.not_eq_true', Bool.not_eq_false', Bool.true_eq_false, Bool.false_eq_true, false_implies, forall_const, true_implies, reduceCtorEq, and_false, false_and, Bool.not_true, Bool.not_false, if_true, if_false]
      exact ⟨z2, q'⟩
    · subst e1 e2
      rw [told_c y1 y2, u] at q'
      exact ⟨z2, q'⟩
    · subst e1 e2
      rw [told_c y1 y2, u] at q'
      simp only [xUn, goneD, dExF, i4, i5, i6, xw, isi_str, nC, sSeq, sNil, sIf, sRet, sRetN, sSet, sAsg, sExpr, sNever, sFor, sNox, sBrk, sCont, sFldD, sAug, sAugS, dVar, dC, dOp, dI0, dII, dNeg, dInv, dAndV, dOrV, dNotV, dTst, dTru, dAnd, dOr, dNot, dIfE, dChn, dCall, dCallK, dMake, aNil, aCons, dTup, dLst, dLstH, dFldC, dCB, dBM, tgN, tgSub, iL, iT, iR1, iR2, DEnds.xx, dLc, dLcH, dYes, dSl, oNon, oSome, nI2, nTup, nLst, nLstH, mApp, wipeD, dIn, dIsN, dNotN, dAddH, dMulH, tru_bl, tru_int, add_int, add_tup, mul_int, len_tup, len_lst, len_fz, ne_int, eq_int, ne_bl, eq_bl, int_int, int_bl, ty_end, asL_lst, asL_fz, asS_tup, asS_lst, asS_fz, tgs_cons_eq, tgs_nil_eq, tg_tup_eq, tg_lst_eq, at_end, set_end, asS_end, asL_end, at_pre, set_pre, ty_pre, dTupRev, List.getElem?_cons_zero, List.getElem?_cons_succ, Option.some.injEq, exists_eq_left', exists_eq_left, exists_and_left, exists_and_right, and_assoc, D.int.injEq, D.bl.injEq, D.str.injEq, D.tup.injEq, D.lst.injEq, D.fz.injEq, D.ref.injEq, HB.lst.injEq, List.cons.injEq, and_true, true_and, List.set_cons_zero, List.set_cons_succ, List.map_cons, List.map_nil, List.length_cons, List.length_nil, Nat.reduceAdd, Nat.reduceSub, Nat.sub_self, Nat.zero_add, List.replicate_zero, List.replicate_succ, List.append_nil, List.cons_append, List.nil_append, decide_eq_true_eq, decide_eq_false_iff_not, Bool.not_eq_true', Bool.not_eq_false', Bool.true_eq_false, Bool.false_eq_true, false_implies, forall_const, true_implies, reduceCtorEq, and_false, false_and, Bool.not_true, Bool.not_false, if_true, if_false]
      exact ⟨z1, q'⟩
end L2.MW.K49

namespace L2.MW.K49
open PySem PySem.Spec PyProof.Rows L2 L2.MW
theorem nats_inj {a b : List Nat} (h : nats a = nats b) : a = b := by
  have := congrArg (fun l => l.map fun x => (iOf x).toNat) h
  simpa only [nat_back] using this
theorem up_len {n : Nat} : ∀ {a : List Nat} {lo : Nat}, (∀ x ∈ a, lo ≤ x ∧ x < n) → a.Pairwise (· < ·) → a.length ≤ n - lo
  | [], _, _, _ => Nat.zero_le _
  | x :: a, lo, h, u => by
    rw [List.pairwise_cons] at u
    have h1 := h x List.mem_cons_self
    have := up_len (lo := x + 1) (fun y hy => ⟨u.1 y hy, (h y (.tail _ hy)).2⟩) u.2
    rw [List.length_cons]
    omega
theorem few_of {n : Nat} {a : List Nat} (hn : n ≤ 39) (h : ∀ x ∈ a, x < n) (u : a.Pairwise (· < ·)) : a.length ≤ 39 := by
  have := up_len (lo := 0) (fun x hx => ⟨Nat.zero_le _, h x hx⟩) u
  omega
theorem subs_up {n : Int} : ∀ {ns : List Nat} {last : Int}, subs n last (nats ns) = true → (∀ x ∈ ns, last < (x : Int)) ∧ ns.Pairwise (· < ·)
  | [], _, _ => ⟨by simp, .nil⟩
  | x :: ns, last, h => by
    have e : nats (x :: ns) = .int (x : Int) :: nats ns := rfl
    rw [e, subs_step, Bool.and_eq_true] at h
    have h1 : last + 1 ≤ (x : Int) := by have := h.1; simp [btw] at this; exact this.1
    obtain ⟨a, b⟩ := subs_up h.2
    rw [iOf_int] at a
    refine ⟨fun y hy => ?_, List.pairwise_cons.mpr ⟨fun y hy => by have := a y hy; omega, b⟩⟩
    rcases List.mem_cons.mp hy with rfl | hy
    · omega
    · have := a y hy; omega
theorem subs_of {n : Nat} : ∀ {ns : List Nat} {last : Int}, (∀ x ∈ ns, last < (x : Int) ∧ x < n) → ns.Pairwise (· < ·) → subs n last (nats ns) = true
  | [], _, _, _ => rfl
  | x :: ns, last, h, p => by
    rw [List.pairwise_cons] at p
    have e : nats (x :: ns) = .int (x : Int) :: nats ns := rfl
    rw [e, subs_step, Bool.and_eq_true]
    have := h x List.mem_cons_self
    refine ⟨by simp [btw]; omega, ?_⟩
    rw [iOf_int]
    exact subs_of (fun y hy => ⟨by have := p.1 y hy; omega, (h y (.tail _ hy)).2⟩) p.2
theorem bits_up {m : Nat} : (bitsN m).Pairwise (· < ·) := List.pairwise_lt_range.filter _
theorem bits_mem {m k : Nat} (h : m < 2 ^ 40) : k ∈ bitsN m ↔ m.testBit k = true := by
  unfold bitsN
  rw [List.mem_filter, List.mem_range]
  constructor
  · exact fun h => h.2
  · intro z
    refine ⟨?_, z⟩
    have h2 := Nat.ge_two_pow_of_testBit z
    rcases Nat.lt_or_ge k 40 with q | q
    · exact q
    · have := Nat.pow_le_pow_right (n := 2) (by decide) q
      omega
theorem mask_mem {ns : List Nat} {k : Nat} : (maskN ns).testBit k = true ↔ k ∈ ns := by
  rw [maskN_bit, List.any_eq_true]
  constructor
  · rintro ⟨x, hx, e⟩; rw [← beq_iff_eq.mp e]; exact hx
  · intro h; exact ⟨k, h, by simp⟩
theorem mask_bits {m : Nat} (h : m < 2 ^ 40) : maskN (bitsN m) = m := by
  refine Nat.eq_of_testBit_eq fun k => ?_
  rw [Bool.eq_iff_iff, mask_mem, bits_mem h]
theorem union_mem {n : Nat} {a b : List Nat} (hn : n ≤ 39) (ha : ∀ x ∈ a, x < n) (hb : ∀ x ∈ b, x < n) {k : Nat} : k ∈ unionN a b ↔ k ∈ a ∨ k ∈ b := by
  unfold unionN
  rw [bits_mem (Nat.lt_of_lt_of_le (Nat.or_lt_two_pow (maskN_bd ha) (maskN_bd hb)) (Nat.pow_le_pow_right (by decide) (by omega))), Nat.testBit_or, Bool.or_eq_true, mask_mem, mask_mem]
/-- a state, by its members -/
theorem okB_iff {n : Nat} {cs fs : List (Nat × Nat)} {ns : List Nat} (h : subs n (-1) (nats ns) = true) : okB n cs fs (.tup (nats ns)) = true ↔ (∀ p ∈ cs, p.2 ∈ ns → p.1 ∈ ns) ∧ (∀ p ∈ fs, ¬ (p.1 ∈ ns ∧ p.2 ∈ ns)) := by
  rw [okB_nats h, Bool.and_eq_true, List.all_eq_true, List.all_eq_true]
  refine and_congr (forall₂_congr fun p _ => ?_) (forall₂_congr fun p _ => ?_)
  · unfold gdC
    rw [Bool.or_eq_true, mask_mem, Bool.not_eq_true', ← Bool.not_eq_true, mask_mem]
    constructor
    · rintro (h | h) z
      · exact absurd z h
      · exact h
    · intro z; by_cases q : p.2 ∈ ns
      · exact .inr (z q)
      · exact .inl q
  · unfold gdF
    rw [Bool.not_eq_true', ← Bool.not_eq_true, Bool.and_eq_true, mask_mem, mask_mem]
theorem union_sub {n : Nat} {a b : List Nat} (hn : n ≤ 39) (ha : ∀ x ∈ a, x < n) (hb : ∀ x ∈ b, x < n) : subs n (-1) (nats (unionN a b)) = true :=
  subs_of (fun x hx => ⟨by omega, by rcases (union_mem hn ha hb).mp hx with h | h; exact ha x h; exact hb x h⟩) bits_up
theorem union_bad {n : Nat} {cs fs : List (Nat × Nat)} {a b : List Nat} (hn : n ≤ 39) (ha : ∀ x ∈ a, x < n) (hb : ∀ x ∈ b, x < n) {p : Nat × Nat} (h : firstC fs a b = some p) : okB n cs fs (.tup (nats (unionN a b))) = false := by
  rw [← Bool.not_eq_true, okB_iff (union_sub hn ha hb)]
  rintro ⟨_, z⟩
  have hm : p ∈ rowsC fs a b := List.mem_of_head? h
  obtain ⟨h1, h2, h3⟩ := rows_mem.mp hm
  have u1 := (union_mem hn ha hb).mpr (.inl h1)
  have u2 := (union_mem hn ha hb).mpr (.inr h2)
  rcases cfl_iff.mp h3 with q | q
  · exact z _ q ⟨u1, u2⟩
  · exact z _ q ⟨u2, u1⟩
theorem union_ok {n : Nat} {cs fs : List (Nat × Nat)} {a b : List Nat} (hn : n ≤ 39) (ha : ∀ x ∈ a, x < n) (hb : ∀ x ∈ b, x < n) (oa : okB n cs fs (.tup (nats a)) = true) (ob : okB n cs fs (.tup (nats b)) = true) (sa : subs n (-1) (nats a) = true) (sb : subs n (-1) (nats b) = true) (h : firstC fs a b = none) : okB n cs fs (.tup (nats (unionN a b))) = true := by
  rw [okB_iff (union_sub hn ha hb)]
  rw [okB_iff sa] at oa
  rw [okB_iff sb] at ob
  have um : ∀ {k : Nat}, k ∈ unionN a b ↔ k ∈ a ∨ k ∈ b := union_mem hn ha hb
  have no : ∀ x y, x ∈ a → y ∈ b → cfl fs x y = true → False := fun x y hx hy hc => by
    have : (x, y) ∈ rowsC fs a b := rows_mem.mpr ⟨hx, hy, hc⟩
    have e : rowsC fs a b = [] := List.head?_eq_none_iff.mp h
    rw [e] at this; cases this
  refine ⟨fun p hp z => ?_, fun p hp z => ?_⟩
  · rcases um.mp z with z | z
    · exact um.mpr (.inl (oa.1 p hp z))
    · exact um.mpr (.inr (ob.1 p hp z))
  · rcases um.mp z.1 with z1 | z1 <;> rcases um.mp z.2 with z2 | z2
    · exact oa.2 p hp ⟨z1, z2⟩
    · exact no _ _ z1 z2 (cfl_iff.mpr (.inl hp))
    · exact no _ _ z2 z1 (cfl_iff.mpr (.inr hp))
    · exact ob.2 p hp ⟨z1, z2⟩
/-- sorted, the two without doubles are the union -/
theorem sort_union {n : Nat} {a b : List Nat} (hn : n ≤ 39) (ha : ∀ x ∈ a, x < n) (hb : ∀ x ∈ b, x < n) (da : a.Nodup) (db : b.Nodup) {zs : List Int} (hp : zs.Perm ((a ++ b.filter fun (k : Nat) => !(a.any fun z => (z : Int) == (k : Int))).map fun (k : Nat) => (k : Int))) (hs : zs.Pairwise (· ≤ ·)) : zs.map D.int = nats (unionN a b) := by
  have nd : (a ++ b.filter fun (k : Nat) => !(a.any fun z => (z : Int) == (k : Int))).Nodup := by
    rw [List.nodup_append]
    refine ⟨da, db.filter _, fun x hx y hy => ?_⟩
    rintro rfl
    have := (List.mem_filter.mp hy).2
    rw [any_mem.mpr hx] at this
    cases this
  have ndz : zs.Nodup := hp.nodup_iff.mpr (by show List.Pairwise _ _; rw [List.pairwise_map]; exact List.Pairwise.imp (fun h => by omega) nd)
  have um : ∀ {k : Nat}, k ∈ unionN a b ↔ k ∈ a ∨ k ∈ b := union_mem hn ha hb
  have hsU : ((unionN a b).map fun (k : Nat) => (k : Int)).Pairwise (· ≤ ·) := by
    rw [List.pairwise_map]
    exact bits_up.imp fun h => by omega
  have ndU : ((unionN a b).map fun (k : Nat) => (k : Int)).Nodup := by
    refine List.Pairwise.imp (R := (· < ·)) (fun h => by omega) ?_
    rw [List.pairwise_map]
    exact bits_up.imp fun h => by omega
  have pm : zs.Perm ((unionN a b).map fun (k : Nat) => (k : Int)) := by
    refine (List.perm_ext_iff_of_nodup ndz ndU).mpr fun x => ?_
    rw [hp.mem_iff, List.mem_map, List.mem_map]
    refine exists_congr fun k => and_congr_left fun _ => ?_
    rw [um, List.mem_append, List.mem_filter]
    constructor
    · rintro (h | h)
      · exact .inl h
      · exact .inr h.1
    · intro h
      by_cases q : k ∈ a
      · exact .inl q
      · refine .inr ⟨h.resolve_left q, ?_⟩
        cases z : (a.any fun z => (z : Int) == (k : Int)) with
        | false => rfl
        | true => exact absurd (any_mem.mp z) q
  have : zs = (unionN a b).map fun (k : Nat) => (k : Int) := pm.eq_of_pairwise (fun x y _ _ h1 h2 => by omega) hs hsU
  rw [this]
  unfold nats
  rw [List.map_map]
  rfl
end L2.MW.K49

namespace L2.MW.K49
open PySem PySem.Spec PyProof.Rows L2 L2.MW
theorem nE1 {p : Nat × Nat} {h : DHp} {Q : DK} : dNe (.lst [prN p]) (.lst []) h Q ↔ Q (.bl true) h := by
  have e : deq (.lst [prN p]) (.lst []) = false := rfl
  have r : dNe (.lst [prN p]) (.lst []) h Q = (OkD 60 (.lst [prN p]) ∧ OkD 60 (.lst []) ∧ Q (.bl (!deq (.lst [prN p]) (.lst []))) h) := rfl
  rw [r, e]
  refine ⟨fun w => w.2.2, fun q => ⟨fun x hx => ?_, (fun x hx => nomatch hx), q⟩⟩
  rw [List.mem_singleton.mp hx]
  intro y hy
  simp only [List.mem_cons, List.not_mem_nil, or_false] at hy
  rcases hy with rfl | rfl <;> trivial
theorem nE0 {h : DHp} {Q : DK} : dNe (.lst []) (.lst []) h Q ↔ Q (.bl false) h := ⟨fun w => w.2.2, fun q => ⟨(fun x hx => nomatch hx), (fun x hx => nomatch hx), q⟩⟩
theorem eL1 {h : DHp} {Q : DK} : dEq (.lst [.int 1]) (.lst [.int 1]) h Q ↔ Q (.bl true) h := by
  have ok : OkD 60 (.lst [.int 1]) := fun x hx => by rw [List.mem_singleton.mp hx]; trivial
  exact ⟨fun w => w.2.2, fun q => ⟨ok, ok, q⟩⟩
theorem ixa {x y : D} {h : DHp} {Q : DK} : dIx (.lst [x, y]) (.int 0) h Q ↔ Q x h := ix_lst rfl
theorem ixb {x y : D} {h : DHp} {Q : DK} : dIx (.lst [x, y]) (.int 1) h Q ↔ Q y h := ix_lst rfl
theorem ixc {x : D} {h : DHp} {Q : DK} : dIx (.lst [x]) (.int 0) h Q ↔ Q x h := ix_lst rfl
theorem sm_pr {p : Nat × Nat} : sameD 4 (prN p) := ⟨by show 2 ≤ 100000; decide, fun x hx => by
  simp only [List.mem_cons, List.not_mem_nil, or_false] at hx
  rcases hx with rfl | rfl <;> trivial⟩
theorem sm_nats {ns : List Nat} (h : ns.length ≤ 100000) : sameD 4 (.tup (nats ns)) := ⟨by rw [nats_len]; exact h, fun x hx => by
  obtain ⟨a, _, rfl⟩ := List.mem_map.mp hx
  trivial⟩
theorem rd_law_right (ds : List D) (h : DHp) (X : DX) (Q : DK) (hds : ds.length = 4) (c : ct__law_right ds h X Q) : tb__law_right (endsD h X Q) (startD N__law_right.length ds) h := by
  obtain ⟨n, cs, fs, a, b, rfl, ev, oa, ob, q⟩ := c
  have q' := rt_of (h0 := h) (X := X) q
  obtain ⟨a', ea, ha, sa⟩ := okB_tup oa
  obtain ⟨b', eb, hb, sb⟩ := okB_tup ob
  have ea2 : a = a' := nats_inj (D.tup.inj ea)
  have eb2 : b = b' := nats_inj (D.tup.inj eb)
  subst ea2 eb2
  have ua := (subs_up sa).2
  have ub := (subs_up sb).2
  have la := few_of ev.le ha ua
  have lb := few_of ev.le hb ub
  simp only [tb__law_right, startD, sSeq, sNil, sIf, sRet, sRetN, sSet, sAsg, sExpr, sNever, sFor, sNox, sBrk, sCont, sFldD, sAug, sAugS, dVar, dC, dOp, dI0, dII, dNeg, dInv, dAndV, dOrV, dNotV, dTst, dTru, dAnd, dOr, dNot, dIfE, dChn, dCall, dCallK, dMake, aNil, aCons, dTup, dLst, dLstH, dFldC, dCB, dBM, tgN, tgSub, iL, iT, iR1, iR2, DEnds.xx, dLc, dLcH, dYes, dSl, oNon, oSome, nI2, nTup, nLst, nLstH, mApp, wipeD, dIn, dIsN, dNotN, dAddH, dMulH, tru_bl, tru_int, add_int, add_tup, mul_int, len_tup, len_lst, len_fz, ne_int, eq_int, ne_bl, eq_bl, int_int, int_bl, ty_end, asL_lst, asL_fz, asS_tup, asS_lst, asS_fz, tgs_cons_eq, tgs_nil_eq, tg_tup_eq, tg_lst_eq, at_end, set_end, asS_end, asL_end, at_pre, set_pre, ty_pre, dTupRev, List.getElem?_cons_zero, List.getElem?_cons_succ, Option.some.injEq, exists_eq_left', exists_eq_left, exists_and_left, exists_and_right, and_assoc, D.int.injEq, D.bl.injEq, D.str.injEq, D.tup.injEq, D.lst.injEq, D.fz.injEq, D.ref.injEq, HB.lst.injEq, List.cons.injEq, and_true, true_and, List.set_cons_zero, List.set_cons_succ, List.map_cons, List.map_nil, List.length_cons, List.length_nil, Nat.reduceAdd, Nat.reduceSub, Nat.sub_self, Nat.zero_add, List.replicate_zero, List.replicate_succ, List.append_nil, List.cons_append, List.nil_append, decide_eq_true_eq, decide_eq_false_iff_not, Bool.not_eq_true', Bool.not_eq_false', Bool.true_eq_false, Bool.false_eq_true, false_implies, forall_const, true_implies, reduceCtorEq, and_false, false_and, Bool.not_true, Bool.not_false, if_true, if_false]
  refine ⟨fs, a, b, rfl, ua, ub, ev.cf.few, ev.up, ev.cf.up, fun p hp => ?_, fun hp => ?_⟩
  all_goals simp only [sSeq, sNil, sIf, sRet, sRetN, sSet, sAsg, sExpr, sNever, sFor, sNox, sBrk, sCont, sFldD, sAug, sAugS, dVar, dC, dOp, dI0, dII, dNeg, dInv, dAndV, dOrV, dNotV, dTst, dTru, dAnd, dOr, dNot, dIfE, dChn, dCall, dCallK, dMake, aNil, aCons, dTup, dLst, dLstH, dFldC, dCB, dBM, tgN, tgSub, iL, iT, iR1, iR2, DEnds.xx, dLc, dLcH, dYes, dSl, oNon, oSome, nI2, nTup, nLst, nLstH, mApp, wipeD, dIn, dIsN, dNotN, dAddH, dMulH, tru_bl, tru_int, add_int, add_tup, mul_int, len_tup, len_lst, len_fz, ne_int, eq_int, ne_bl, eq_bl, int_int, int_bl, ty_end, asL_lst, asL_fz, asS_tup, asS_lst, asS_fz, tgs_cons_eq, tgs_nil_eq, tg_tup_eq, tg_lst_eq, at_end, set_end, asS_end, asL_end, at_pre, set_pre, ty_pre, dTupRev, List.getElem?_cons_zero, List.getElem?_cons_succ, Option.some.injEq, exists_eq_left', exists_eq_left, exists_and_left, exists_and_right, and_assoc, D.int.injEq, D.bl.injEq, D.str.injEq, D.tup.injEq, D.lst.injEq, D.fz.injEq, D.ref.injEq, HB.lst.injEq, List.cons.injEq, and_true, true_and, List.set_cons_zero, List.set_cons_succ, List.map_cons, List.map_nil, List.length_cons, List.length_nil, Nat.reduceAdd, Nat.reduceSub, Nat.sub_self, Nat.zero_add, List.replicate_zero, List.replicate_succ, List.append_nil, List.cons_append, List.nil_append, decide_eq_true_eq, decide_eq_false_iff_not, Bool.not_eq_true', Bool.not_eq_false', Bool.true_eq_false, Bool.false_eq_true, false_implies, forall_const, true_implies, reduceCtorEq, and_false, false_and, Bool.not_true, Bool.not_false, if_true, if_false]
  · refine ⟨n, cs, fs, .tup (nats a), .tup (nats b), _, rfl, .inl rfl, ev, pv_nats (by omega), pv_nats (by omega), ?_⟩
    rw [told_s oa ob, if_neg (by rw [union_bad ev.le ha hb hp]; decide)]
    refine ⟨n, cs, fs, .tup (nats a), .tup (nats b), _, rfl, .inr rfl, ev, pv_nats (by omega), pv_nats (by omega), ?_⟩
    rw [told_c oa ob, hp]
    simp only [nE1, eL1, ixa, ixb, ixc, eq_int, sSeq, sNil, sIf, sRet, sRetN, sSet, sAsg, sExpr, sNever, sFor, sNox, sBrk, sCont, sFldD, sAug, sAugS, dVar, dC, dOp, dI0, dII, dNeg, dInv, dAndV, dOrV, dNotV, dTst, dTru, dAnd, dOr, dNot, dIfE, dChn, dCall, dCallK, dMake, aNil, aCons, dTup, dLst, dLstH, dFldC, dCB, dBM, tgN, tgSub, iL, iT, iR1, iR2, DEnds.xx, dLc, dLcH, dYes, dSl, oNon, oSome, nI2, nTup, nLst, nLstH, mApp, wipeD, dIn, dIsN, dNotN, dAddH, dMulH, tru_bl, tru_int, add_int, add_tup, mul_int, len_tup, len_lst, len_fz, ne_int, eq_int, ne_bl, eq_bl, int_int, int_bl, ty_end, asL_lst, asL_fz, asS_tup, asS_lst, asS_fz, tgs_cons_eq, tgs_nil_eq, tg_tup_eq, tg_lst_eq, at_end, set_end, asS_end, asL_end, at_pre, set_pre, ty_pre, dTupRev, List.getElem?_cons_zero, List.getElem?_cons_succ, Option.some.injEq, exists_eq_left', exists_eq_left, exists_and_left, exists_and_right, and_assoc, D.int.injEq, D.bl.injEq, D.str.injEq, D.tup.injEq, D.lst.injEq, D.fz.injEq, D.ref.injEq, HB.lst.injEq, List.cons.injEq, and_true, true_and, List.set_cons_zero, List.set_cons_succ, List.map_cons, List.map_nil, List.length_cons, List.length_nil, Nat.reduceAdd, Nat.reduceSub, Nat.sub_self, Nat.zero_add, List.replicate_zero, List.replicate_succ, List.append_nil, List.cons_append, List.nil_append, decide_eq_true_eq, decide_eq_false_iff_not, Bool.not_eq_true', Bool.not_eq_false', Bool.true_eq_false, Bool.false_eq_true, false_implies, forall_const, true_implies, reduceCtorEq, and_false, false_and, Bool.not_true, Bool.not_false, if_true, if_false]
    exact ⟨Nat.zero_le _, small (by decide), fun _ => ⟨_, rfl, sm_pr, rt_keep q⟩, fun z => nomatch z⟩
  · refine ⟨n, cs, fs, .tup (nats a), .tup (nats b), _, rfl, .inl rfl, ev, pv_nats (by omega), pv_nats (by omega), ?_⟩
    rw [told_s oa ob, if_pos (union_ok ev.le ha hb oa ob sa sb hp)]
    refine ⟨n, cs, fs, .tup (nats a), .tup (nats b), _, rfl, .inr rfl, ev, pv_nats (by omega), pv_nats (by omega), ?_⟩
    rw [told_c oa ob, hp]
    simp only [nE0, eL1, ixa, ixb, ixc, eq_int, sSeq, sNil, sIf, sRet, sRetN, sSet, sAsg, sExpr, sNever, sFor, sNox, sBrk, sCont, sFldD, sAug, sAugS, dVar, dC, dOp, dI0, dII, dNeg, dInv, dAndV, dOrV, dNotV, dTst, dTru, dAnd, dOr, dNot, dIfE, dChn, dCall, dCallK, dMake, aNil, aCons, dTup, dLst, dLstH, dFldC, dCB, dBM, tgN, tgSub, iL, iT, iR1, iR2, DEnds.xx, dLc, dLcH, dYes, dSl, oNon, oSome, nI2, nTup, nLst, nLstH, mApp, wipeD, dIn, dIsN, dNotN, dAddH, dMulH, tru_bl, tru_int, add_int, add_tup, mul_int, len_tup, len_lst, len_fz, ne_int, eq_int, ne_bl, eq_bl, int_int, int_bl, ty_end, asL_lst, asL_fz, asS_tup, asS_lst, asS_fz, tgs_cons_eq, tgs_nil_eq, tg_tup_eq, tg_lst_eq, at_end, set_end, asS_end, asL_end, at_pre, set_pre, ty_pre, dTupRev, List.getElem?_cons_zero, List.getElem?_cons_succ, Option.some.injEq, exists_eq_left', exists_eq_left, exists_and_left, exists_and_right, and_assoc, D.int.injEq, D.bl.injEq, D.str.injEq, D.tup.injEq, D.lst.injEq, D.fz.injEq, D.ref.injEq, HB.lst.injEq, List.cons.injEq, and_true, true_and, List.set_cons_zero, List.set_cons_succ, List.map_cons, List.map_nil, List.length_cons, List.length_nil, Nat.reduceAdd, Nat.reduceSub, Nat.sub_self, Nat.zero_add, List.replicate_zero, List.replicate_succ, List.append_nil, List.cons_append, List.nil_append, decide_eq_true_eq, decide_eq_false_iff_not, Bool.not_eq_true', Bool.not_eq_false', Bool.true_eq_false, Bool.false_eq_true, false_implies, forall_const, true_implies, reduceCtorEq, and_false, false_and, Bool.not_true, Bool.not_false, if_true, if_false]
    refine ⟨Nat.zero_le _, lc_map (fun d => d) (fun d => !(a.any fun z => (z : Int) == iOf d)) (nats b) (fun _ => trivial) (small (by rw [nats_len]; omega)) ?_ ?_⟩
    · intro x hx acc R hl hA hB
      obtain ⟨k, hk, rfl⟩ := List.mem_map.mp hx
      rw [iOf_int] at hA hB
      simp only [inT_nats, sSeq, sNil, sIf, sRet, sRetN, sSet, sAsg, sExpr, sNever, sFor, sNox, sBrk, sCont, sFldD, sAug, sAugS, dVar, dC, dOp, dI0, dII, dNeg, dInv, dAndV, dOrV, dNotV, dTst, dTru, dAnd, dOr, dNot, dIfE, dChn, dCall, dCallK, dMake, aNil, aCons, dTup, dLst, dLstH, dFldC, dCB, dBM, tgN, tgSub, iL, iT, iR1, iR2, DEnds.xx, dLc, dLcH, dYes, dSl, oNon, oSome, nI2, nTup, nLst, nLstH, mApp, wipeD, dIn, dIsN, dNotN, dAddH, dMulH, tru_bl, tru_int, add_int, add_tup, mul_int, len_tup, len_lst, len_fz, ne_int, eq_int, ne_bl, eq_bl, int_int, int_bl, ty_end, asL_lst, asL_fz, asS_tup, asS_lst, asS_fz, tgs_cons_eq, tgs_nil_eq, tg_tup_eq, tg_lst_eq, at_end, set_end, asS_end, asL_end, at_pre, set_pre, ty_pre, dTupRev, List.getElem?_cons_zero, List.getElem?_cons_succ, Option.some.injEq, exists_eq_left', exists_eq_left, exists_and_left, exists_and_right, and_assoc, D.int.injEq, D.bl.injEq, D.str.injEq, D.tup.injEq, D.lst.injEq, D.fz.injEq, D.ref.injEq, HB.lst.injEq, List.cons.injEq, and_true, true_and, List.set_cons_zero, List.set_cons_succ, List.map_cons, List.map_nil, List.length_cons, List.length_nil, Nat.reduceAdd, Nat.reduceSub, Nat.sub_self, Nat.zero_add, List.replicate_zero, List.replicate_succ, List.append_nil, List.cons_append, List.nil_append, decide_eq_true_eq, decide_eq_false_iff_not, Bool.not_eq_true', Bool.not_eq_false', Bool.true_eq_false, Bool.false_eq_true, false_implies, forall_const, true_implies, reduceCtorEq, and_false, false_and, Bool.not_true, Bool.not_false, if_true, if_false]
      exact ⟨fun z => ⟨hl, hA (by simpa using z)⟩, fun z => hB (by simpa using z)⟩
    · have e : lcF (fun d => d) (fun d => !(a.any fun z => (z : Int) == iOf d)) (nats b) = nats (b.filter fun (k : Nat) => !(a.any fun z => (z : Int) == (k : Int))) := by
        unfold lcF nats
        rw [List.filter_map, List.map_map]
        rfl
      rw [e]
      have lc : (b.filter fun (k : Nat) => !(a.any fun z => (z : Int) == (k : Int))).length ≤ 39 := Nat.le_trans (List.length_filter_le _ _) lb
      have e2 : ∀ c : List Nat, nats a ++ nats c = ((a ++ c).map fun (k : Nat) => (k : Int)).map D.int := fun c => by
        unfold nats
        rw [List.map_map, List.map_append]
        rfl
      refine ⟨_, rfl, Bds_nats, _, _, rfl, rfl, small (by rw [nats_len, nats_len]; omega), small (by decide), fun _ => ?_, fun z => nomatch z⟩
      refine ⟨_, _, rfl, by rw [e2]; rfl, fun zs hp hs => ⟨_, rfl, .tup (nats (unionN a b)), ?_, sm_nats ?_, rt_keep q⟩⟩
      · rw [sort_union ev.le ha hb (List.Pairwise.imp (fun h => by omega) ua) (List.Pairwise.imp (fun h => by omega) ub) hp hs]
      · have := @bits_few (maskN a ||| maskN b)
        show (bitsN (maskN a ||| maskN b)).length ≤ _
        omega
theorem rd_law_refused (ds : List D) (h : DHp) (X : DX) (Q : DK) (hds : ds.length = 4) (c : ct__law_refused ds h X Q) : tb__law_refused (endsD h X Q) (startD N__law_refused.length ds) h := by
  obtain ⟨n, cs, fs, d1, d2, due, rfl, ev, p1, p2, bad, sm, q⟩ := c
  simp only [tb__law_refused, startD, sSeq, sNil, sIf, sRet, sRetN, sSet, sAsg, sExpr, sNever, sFor, sNox, sBrk, sCont, sFldD, sAug, sAugS, dVar, dC, dOp, dI0, dII, dNeg, dInv, dAndV, dOrV, dNotV, dTst, dTru, dAnd, dOr, dNot, dIfE, dChn, dCall, dCallK, dMake, aNil, aCons, dTup, dLst, dLstH, dFldC, dCB, dBM, tgN, tgSub, iL, iT, iR1, iR2, DEnds.xx, dLc, dLcH, dYes, dSl, oNon, oSome, nI2, nTup, nLst, nLstH, mApp, wipeD, dIn, dIsN, dNotN, dAddH, dMulH, tru_bl, tru_int, add_int, add_tup, mul_int, len_tup, len_lst, len_fz, ne_int, eq_int, ne_bl, eq_bl, int_int, int_bl, ty_end, asL_lst, asL_fz, asS_tup, asS_lst, asS_fz, tgs_cons_eq, tgs_nil_eq, tg_tup_eq, tg_lst_eq, at_end, set_end, asS_end, asL_end, at_pre, set_pre, ty_pre, dTupRev, List.getElem?_cons_zero, List.getElem?_cons_succ, Option.some.injEq, exists_eq_left', exists_eq_left, exists_and_left, exists_and_right, and_assoc, D.int.injEq, D.bl.injEq, D.str.injEq, D.tup.injEq, D.lst.injEq, D.fz.injEq, D.ref.injEq, HB.lst.injEq, List.cons.injEq, and_true, true_and, List.set_cons_zero, List.set_cons_succ, List.map_cons, List.map_nil, List.length_cons, List.length_nil, Nat.reduceAdd, Nat.reduceSub, Nat.sub_self, Nat.zero_add, List.replicate_zero, List.replicate_succ, List.append_nil, List.cons_append, List.nil_append, decide_eq_true_eq, decide_eq_false_iff_not, Bool.not_eq_true', Bool.not_eq_false', Bool.true_eq_false, Bool.false_eq_true, false_implies, forall_const, true_implies, reduceCtorEq, and_false, false_and, Bool.not_true, Bool.not_false, if_true, if_false]
  have told : ∀ z, toldD n cs fs d1 d2 z = .lst [.int 2, due] := fun z => by
    rcases bad with ⟨y, rfl⟩ | ⟨y1, y2, rfl⟩
    · exact told_1 y
    · exact told_2 y1 y2
  refine ⟨small (by decide), forW_inv [.str "state", .str "conflict"] (fun i σ h' => h' = h ∧ ∃ o4 o5, σ = [some (.obj "Events" (evD n cs fs)), some d1, some d2, some due, o4, o5]) ⟨rfl, _, _, rfl⟩ (fun _ _ _ _ _ => rfl) ?_ ?_⟩
  · rintro i x σ h' N hx ⟨rfl, o4, o5, rfl⟩ hN
    have hz : ∃ z : Str, x = .str z ∧ (z = "state" ∨ z = "conflict") := by
      have := List.mem_of_getElem? hx
      simp only [List.mem_cons, List.not_mem_nil, or_false] at this
      rcases this with rfl | rfl
      · exact ⟨_, rfl, .inl rfl⟩
      · exact ⟨_, rfl, .inr rfl⟩
    obtain ⟨z, rfl, hz⟩ := hz
    simp only [sSeq, sNil, sIf, sRet, sRetN, sSet, sAsg, sExpr, sNever, sFor, sNox, sBrk, sCont, sFldD, sAug, sAugS, dVar, dC, dOp, dI0, dII, dNeg, dInv, dAndV, dOrV, dNotV, dTst, dTru, dAnd, dOr, dNot, dIfE, dChn, dCall, dCallK, dMake, aNil, aCons, dTup, dLst, dLstH, dFldC, dCB, dBM, tgN, tgSub, iL, iT, iR1, iR2, DEnds.xx, dLc, dLcH, dYes, dSl, oNon, oSome, nI2, nTup, nLst, nLstH, mApp, wipeD, dIn, dIsN, dNotN, dAddH, dMulH, tru_bl, tru_int, add_int, add_tup, mul_int, len_tup, len_lst, len_fz, ne_int, eq_int, ne_bl, eq_bl, int_int, int_bl, ty_end, asL_lst, asL_fz, asS_tup, asS_lst, asS_fz, tgs_cons_eq, tgs_nil_eq, tg_tup_eq, tg_lst_eq, at_end, set_end, asS_end, asL_end, at_pre, set_pre, ty_pre, dTupRev, List.getElem?_cons_zero, List.getElem?_cons_succ, Option.some.injEq, exists_eq_left', exists_eq_left, exists_and_left, exists_and_right, and_assoc, D.int.injEq, D.bl.injEq, D.str.injEq, D.tup.injEq, D.lst.injEq, D.fz.injEq, D.ref.injEq, HB.lst.injEq, List.cons.injEq, and_true, true_and, List.set_cons_zero, List.set_cons_succ, List.map_cons, List.map_nil, List.length_cons, List.length_nil, Nat.reduceAdd, Nat.reduceSub, Nat.sub_self, Nat.zero_add, List.replicate_zero, List.replicate_succ, List.append_nil, List.cons_append, List.nil_append, decide_eq_true_eq, decide_eq_false_iff_not, Bool.not_eq_true', Bool.not_eq_false', Bool.true_eq_false, Bool.false_eq_true, false_implies, forall_const, true_implies, reduceCtorEq, and_false, false_and, Bool.not_true, Bool.not_false, if_true, if_false]
    refine ⟨n, cs, fs, d1, d2, z, rfl, hz, ev, p1, p2, ?_⟩
    rw [told]
    simp only [ixa, ixb, ne_int, sSeq, sNil, sIf, sRet, sRetN, sSet, sAsg, sExpr, sNever, sFor, sNox, sBrk, sCont, sFldD, sAug, sAugS, dVar, dC, dOp, dI0, dII, dNeg, dInv, dAndV, dOrV, dNotV, dTst, dTru, dAnd, dOr, dNot, dIfE, dChn, dCall, dCallK, dMake, aNil, aCons, dTup, dLst, dLstH, dFldC, dCB, dBM, tgN, tgSub, iL, iT, iR1, iR2, DEnds.xx, dLc, dLcH, dYes, dSl, oNon, oSome, nI2, nTup, nLst, nLstH, mApp, wipeD, dIn, dIsN, dNotN, dAddH, dMulH, tru_bl, tru_int, add_int, add_tup, mul_int, len_tup, len_lst, len_fz, ne_int, eq_int, ne_bl, eq_bl, int_int, int_bl, ty_end, asL_lst, asL_fz, asS_tup, asS_lst, asS_fz, tgs_cons_eq, tgs_nil_eq, tg_tup_eq, tg_lst_eq, at_end, set_end, asS_end, asL_end, at_pre, set_pre, ty_pre, dTupRev, List.getElem?_cons_zero, List.getElem?_cons_succ, Option.some.injEq, exists_eq_left', exists_eq_left, exists_and_left, exists_and_right, and_assoc, D.int.injEq, D.bl.injEq, D.str.injEq, D.tup.injEq, D.lst.injEq, D.fz.injEq, D.ref.injEq, HB.lst.injEq, List.cons.injEq, and_true, true_and, List.set_cons_zero, List.set_cons_succ, List.map_cons, List.map_nil, List.length_cons, List.length_nil, Nat.reduceAdd, Nat.reduceSub, Nat.sub_self, Nat.zero_add, List.replicate_zero, List.replicate_succ, List.append_nil, List.cons_append, List.nil_append, decide_eq_true_eq, decide_eq_false_iff_not, Bool.not_eq_true', Bool.not_eq_false', Bool.true_eq_false, Bool.false_eq_true, false_implies, forall_const, true_implies, reduceCtorEq, and_false, false_and, Bool.not_true, Bool.not_false, if_true, if_false]
    refine ⟨(fun z => nomatch z), fun _ => ⟨due, rfl, sm, _, rfl, (fun z => nomatch z), fun _ => hN _ _ ⟨rfl, _, _, rfl⟩⟩⟩
  · rintro σ h' ⟨rfl, o4, o5, rfl⟩
    exact rt_keep q
end L2.MW.K49

namespace L2.MW.K49
open PySem PySem.Spec PyProof.Rows L2 L2.MW
/-! ### values that are no state -/
def Smp (x : D) : Prop := (∃ i, x = .int i) ∨ x = .non ∨ x = .bl true ∨ ∃ ns : List Nat, x = .tup (nats ns) ∧ ns.length ≤ 1000
theorem Smp.pl {x : D} (h : Smp x) : plB x = true := by rcases h with ⟨i, rfl⟩ | rfl | rfl | ⟨ns, rfl, _⟩ <;> rfl
theorem Smp.ok {x : D} {k : Nat} (h : Smp x) : OkD (k + 1) x := by
  rcases h with ⟨i, rfl⟩ | rfl | rfl | ⟨ns, rfl, _⟩
  · trivial
  · trivial
  · trivial
  · exact flI
theorem Smp.sm {x : D} (h : Smp x) : sameD 3 x := by
  rcases h with ⟨i, rfl⟩ | rfl | rfl | ⟨ns, rfl, l⟩
  · trivial
  · trivial
  · trivial
  · refine ⟨by rw [nats_len]; omega, fun x hx => ?_⟩
    obtain ⟨a, _, rfl⟩ := List.mem_map.mp hx
    trivial
theorem Smp.bd {x : D} {k : Nat} (h : Smp x) : Bd k x := by
  rcases h with ⟨i, rfl⟩ | rfl | rfl | ⟨ns, rfl, l⟩
  · trivial
  · trivial
  · trivial
  · exact Bds_nats
theorem Smp.nat {ns : List Nat} : ∀ x ∈ nats ns, Smp x := fun x hx => by
  obtain ⟨a, _, rfl⟩ := List.mem_map.mp hx
  exact .inl ⟨_, rfl⟩
abbrev Bv (n : Nat) (cs fs : List (Nat × Nat)) (v : D) : Prop := BadV n cs fs v ∧ ∀ k, Bd k v
theorem bv_tup {n : Nat} {cs fs : List (Nat × Nat)} {l : List D} (no : okB n cs fs (.tup l) = false) (s : ∀ x ∈ l, Smp x) (hl : l.length ≤ 10000) : Bv n cs fs (.tup l) :=
  ⟨⟨no, ⟨⟨rfl, fun l' e x hx => by cases e; exact (s x hx).pl⟩, fun x hx => (s x hx).ok, fun l' e => by cases e; exact hl⟩, ⟨by omega, fun x hx => (s x hx).sm⟩⟩, fun k => Bds_all fun x hx => (s x hx).bd⟩
theorem bv_mem {n : Nat} {cs fs : List (Nat × Nat)} {l : List D} {x : D} (hx : x ∈ l) (no : ∀ k : Nat, k < n → x ≠ .int k) (s : ∀ x ∈ l, Smp x) (hl : l.length ≤ 10000) : Bv n cs fs (.tup l) := by
  refine bv_tup ?_ s hl
  rw [← Bool.not_eq_true]
  intro z
  obtain ⟨ns, e, hb, _⟩ := okB_tup z
  cases e
  obtain ⟨k, hk, rfl⟩ := List.mem_map.mp hx
  exact no k (hb k hk) rfl
theorem bv_sub {n : Nat} {cs fs : List (Nat × Nat)} {ns : List Nat} (no : ¬ (ns.Pairwise (· < ·) ∧ (∀ p ∈ cs, p.2 ∈ ns → p.1 ∈ ns) ∧ ∀ p ∈ fs, ¬ (p.1 ∈ ns ∧ p.2 ∈ ns))) (hl : ns.length ≤ 10000) : Bv n cs fs (.tup (nats ns)) := by
  refine bv_tup ?_ Smp.nat (by rw [nats_len]; exact hl)
  rw [← Bool.not_eq_true]
  intro z
  obtain ⟨ns', e, _, hs⟩ := okB_tup z
  have := nats_inj (D.tup.inj e)
  subst this
  exact no ⟨(subs_up hs).2, (okB_iff hs).mp z⟩
theorem bv_lst {n : Nat} {cs fs : List (Nat × Nat)} {ns : List Nat} (hl : ns.length ≤ 1000) : Bv n cs fs (.lst (nats ns)) :=
  ⟨⟨rfl, ⟨⟨rfl, fun l e => nomatch e⟩, flI, fun l e => nomatch e⟩, ⟨by rw [nats_len]; omega, fun x hx => by
    obtain ⟨a, _, rfl⟩ := List.mem_map.mp hx
    trivial⟩⟩, fun k => Bds_nats⟩
theorem bv_non {n : Nat} {cs fs : List (Nat × Nat)} : Bv n cs fs .non := ⟨⟨rfl, ⟨⟨rfl, fun l e => nomatch e⟩, trivial, fun l e => nomatch e⟩, trivial⟩, fun _ => trivial⟩
theorem bv_int {n : Nat} {cs fs : List (Nat × Nat)} {i : Int} : Bv n cs fs (.int i) := ⟨⟨rfl, ⟨⟨rfl, fun l e => nomatch e⟩, trivial, fun l e => nomatch e⟩, trivial⟩, fun _ => trivial⟩
theorem bv_bl {n : Nat} {cs fs : List (Nat × Nat)} {b : Bool} : Bv n cs fs (.bl b) := ⟨⟨rfl, ⟨⟨rfl, fun l e => nomatch e⟩, trivial, fun l e => nomatch e⟩, trivial⟩, fun _ => trivial⟩
theorem bv_str {n : Nat} {cs fs : List (Nat × Nat)} : Bv n cs fs (.str "") := ⟨⟨rfl, ⟨⟨rfl, fun l e => nomatch e⟩, by show PyData.strOk _ = true; decide +kernel, fun l e => nomatch e⟩, by show PyData.strOk _ = true; decide +kernel⟩, fun _ => trivial⟩
structure Gd (n : Nat) (cs fs : List (Nat × Nat)) (c : Nat) (vs : List D) : Prop where
  pos : 0 < vs.length
  few : vs.length ≤ c
  all : ∀ v ∈ vs, Bv n cs fs v
theorem Gd.add {n : Nat} {cs fs : List (Nat × Nat)} {c : Nat} {vs : List D} {v : D} (g : Gd n cs fs c vs) (h : Bv n cs fs v) : Gd n cs fs (c + 1) (vs ++ [v]) :=
  ⟨by simp, by have := g.few; simp; omega, fun x hx => by
    rcases List.mem_append.mp hx with hx | hx
    · exact g.all x hx
    · rw [List.mem_singleton.mp hx]; exact h⟩
theorem Gd.le {n : Nat} {cs fs : List (Nat × Nat)} {c d : Nat} {vs : List D} (g : Gd n cs fs c vs) (h : c ≤ d) : Gd n cs fs d vs := ⟨g.pos, Nat.le_trans g.few h, g.all⟩
def g0 : DS :=
 (sSet 5 (dCall ct__law_in 2 (aCons (dVar 0) (aCons (dVar 3) aNil))))
def g1 : DS :=
 (sSet 6 (dLstH (aCons (dCB nLst (aCons (dVar 5) aNil)) (aCons (dOp dAdd (dVar 5) (dTup (aCons (dVar 0) aNil))) (aCons (dOp dAdd (dTup (aCons (dNeg (dC (.int 1))) aNil)) (dVar 5)) (aCons (dOp dAdd (dVar 5) (dTup (aCons (dC .non) aNil))) (aCons (dC .non) (aCons (dC (.int 0)) (aCons (dC (.bl true)) (aCons (dC (.str "")) (aCons (dTup (aCons (dVar 5) aNil)) (aCons (dOp dAdd (dVar 5) (dTup (aCons (dTup aNil) aNil))) aNil))))))))))))
def g2 : DS :=
 (sIf (dTst (dOp oGt (dCB nLen (aCons (dVar 5) aNil)) (dC (.int 0))))
 (sSeq (sExpr (dBM "list" mApp (dVar 6) (aCons (dOp dAdd (dVar 5) (dTup (aCons (dOp dIx (dVar 5) (dNeg (dC (.int 1)))) aNil))) aNil)))
 (sIf (dTst (dOp oGt (dCB nLen (aCons (dVar 5) aNil)) (dC (.int 1))))
 (sExpr (dBM "list" mApp (dVar 6) (aCons (dTupRev (dVar 5)) aNil)))
 sNil))
 sNil)
def g3 : DS :=
 (sIf (dTst (dOp (dInT false) (dC (.int 1)) (dVar 5)))
 (sExpr (dBM "list" mApp (dVar 6) (aCons (dCB nTup (aCons (dLc (iT (dVar 5)) (tgN 7) dYes (dOp dIx (dLst (aCons (dVar 7) (aCons (dC (.bl true)) aNil))) (dCB nInt (aCons (dOp dEq (dVar 7) (dC (.int 1))) aNil))) [7]) aNil)) aNil)))
 sNil)
def g4 : DS :=
 (sSet 8 (dLc (iL (dVar 1)) (tgN 9) (dAnd (dTst (dOp (dInT false) (dOp dIx (dVar 9) (dC (.int 0))) (dVar 5))) (dTst (dOp (dInT false) (dOp dIx (dVar 9) (dC (.int 1))) (dVar 5)))) (dOp dIx (dVar 9) (dC (.int 0))) [9]))
def g5 : DS :=
 (sIf (dTst (dOp dNe (dVar 8) (dLst aNil)))
 (sSeq (sSet 10 (dOp dIx (dVar 8) (dOp oMod (dVar 4) (dCB nLen (aCons (dVar 8) aNil)))))
 (sExpr (dBM "list" mApp (dVar 6) (aCons (dCB nTup (aCons (dLc (iT (dVar 5)) (tgN 7) (dTst (dOp dNe (dVar 7) (dVar 10))) (dVar 7) [7]) aNil)) aNil))))
 sNil)
def g6 : DS :=
 (sSet 11 (dLc (iL (dVar 2)) (tgN 9) (dOr (dTst (dOp (dInT false) (dOp dIx (dVar 9) (dC (.int 0))) (dVar 5))) (dTst (dOp (dInT false) (dOp dIx (dVar 9) (dC (.int 1))) (dVar 5)))) (dVar 9) [9]))
def g7 : DS :=
 (sIf (dTst (dOp dNe (dVar 11) (dLst aNil)))
 (sSeq (sSet 9 (dOp dIx (dVar 11) (dOp oMod (dVar 4) (dCB nLen (aCons (dVar 11) aNil)))))
 (sExpr (dBM "list" mApp (dVar 6) (aCons (dCall ct__law_in 2 (aCons (dVar 0) (aCons (dOp oOr (dOp oOr (dVar 3) (dOp oShl (dC (.int 1)) (dOp dIx (dVar 9) (dC (.int 0))))) (dOp oShl (dC (.int 1)) (dOp dIx (dVar 9) (dC (.int 1))))) aNil))) aNil))))
 sNil)
def g8 : DS :=
 (sRet (dVar 6))
theorem tb_bad : tb__law_bad = sSeq g0 (sSeq g1 (sSeq g2 (sSeq g3 (sSeq g4 (sSeq g5 (sSeq g6 (sSeq g7 g8))))))) := rfl
/-- the slots -/
def stB (n m pick : Nat) (cs fs : List (Nat × Nat)) (S : List Nat) (k : Nat) (o : List (Option D)) : DSt := [some (.int n), some (.lst (prs cs)), some (.lst (prs fs)), some (.int m), some (.int pick), some (.tup (nats S)), some (.ref k)] ++ o
theorem at_last {ns : List Nat} {x : Nat} : atI (nats (ns ++ [x])) (-1) = some (.int (x : Int)) := by
  have e : nats (ns ++ [x]) = nats ns ++ [.int (x : Int)] := by unfold nats; rw [List.map_append]; rfl
  rw [e]
  have e2 : ixN (nats ns ++ [D.int (x : Int)]).length (-1) = some ns.length := by
    rw [List.length_append, nats_len]
    unfold ixN
    simp
    try omega
  unfold atI
  rw [e2]
  show (nats ns ++ [D.int (x : Int)])[ns.length]? = _
  rw [List.getElem?_append_right (by rw [nats_len]; omega), nats_len]
  simp
theorem nats_snoc {ns : List Nat} {x : Nat} : nats ns ++ [.int (x : Int)] = nats (ns ++ [x]) := by unfold nats; rw [List.map_append]; rfl
theorem st_g2 {n m pick : Nat} {cs fs : List (Nat × Nat)} {S : List Nat} {vs : List D} {E : DEnds} {h : DHp} {o : List (Option D)} (hS : S.length ≤ 39) (up : S.Pairwise (· < ·)) (g : Gd n cs fs 10 vs)
    (k : ∀ vs, Gd n cs fs 12 vs → E.nx (stB n m pick cs fs S h.length o) (h ++ [.lst vs])) : g2 E (stB n m pick cs fs S h.length o) (h ++ [.lst vs]) := by
  simp only [g2, stB, sSeq, sNil, sIf, sRet, sRetN, sSet, sAsg, sExpr, sNever, sFor, sNox, sBrk, sCont, sFldD, sAug, sAugS, dVar, dC, dOp, dI0, dII, dNeg, dInv, dAndV, dOrV, dNotV, dTst, dTru, dAnd, dOr, dNot, dIfE, dChn, dCall, dCallK, dMake, aNil, aCons, dTup, dLst, dLstH, dFldC, dCB, dBM, tgN, tgSub, iL, iT, iR1, iR2, DEnds.xx, dLc, dLcH, dYes, dSl, oNon, oSome, nI2, nTup, nLst, nLstH, mApp, wipeD, dIn, dIsN, dNotN, dAddH, dMulH, tru_bl, tru_int, add_int, add_tup, mul_int, len_tup, len_lst, len_fz, ne_int, eq_int, ne_bl, eq_bl, int_int, int_bl, ty_end, asL_lst, asL_fz, asS_tup, asS_lst, asS_fz, tgs_cons_eq, tgs_nil_eq, tg_tup_eq, tg_lst_eq, at_end, set_end, asS_end, asL_end, at_pre, set_pre, ty_pre, dTupRev, List.getElem?_cons_zero, List.getElem?_cons_succ, Option.some.injEq, exists_eq_left', exists_eq_left, exists_and_left, exists_and_right, and_assoc, D.int.injEq, D.bl.injEq, D.str.injEq, D.tup.injEq, D.lst.injEq, D.fz.injEq, D.ref.injEq, HB.lst.injEq, List.cons.injEq, and_true, true_and, List.set_cons_zero, List.set_cons_succ, List.map_cons, List.map_nil, List.length_cons, List.length_nil, Nat.reduceAdd, Nat.reduceSub, Nat.sub_self, Nat.zero_add, List.replicate_zero, List.replicate_succ, List.append_nil, List.cons_append, List.nil_append, decide_eq_true_eq, decide_eq_false_iff_not, Bool.not_eq_true', Bool.not_eq_false', Bool.true_eq_false, Bool.false_eq_true, false_implies, forall_const, true_implies, reduceCtorEq, and_false, false_and, Bool.not_true, Bool.not_false, if_true, if_false, nats_len]
  refine ⟨fun hp => ?_, fun _ => k _ (g.le (by decide))⟩
  rcases List.eq_nil_or_concat S with rfl | ⟨S', x, rfl⟩
  · simp at hp
  rw [List.concat_eq_append] at *
  have few := g.few
  have b1 : Bv n cs fs (.tup (nats (S' ++ [x]) ++ [.int (x : Int)])) := by
    rw [nats_snoc]
    refine bv_sub (fun z => ?_) (by rw [List.length_append]; simp at hS ⊢; omega)
    have := z.1
    rw [List.pairwise_append] at this
    have := this.2.2 x (by simp) x (by simp)
    omega
  have b2 : 1 < (S' ++ [x]).length → Bv n cs fs (.tup (nats (S' ++ [x])).reverse) := fun hl => by
    have e : (nats (S' ++ [x])).reverse = nats (S' ++ [x]).reverse := by unfold nats; rw [List.map_reverse]
    rw [e]
    refine bv_sub (fun z => ?_) (by rw [List.length_reverse]; omega)
    have h1 := z.1
    rw [List.pairwise_reverse] at h1
    have g1 := List.pairwise_iff_getElem.mp up 0 1 (by omega) hl (by decide)
    have g2 := List.pairwise_iff_getElem.mp h1 0 1 (by omega) hl (by decide)
    omega
  refine (ix_tup at_last).mpr ⟨small (by decide), small (by omega), ?_⟩
  simp only [tru_bl, tru_int, add_int, add_tup, mul_int, len_tup, len_lst, len_fz, ne_int, eq_int, ne_bl, eq_bl, int_int, int_bl, ty_end, asL_lst, asL_fz, asS_tup, asS_lst, asS_fz, tgs_cons_eq, tgs_nil_eq, tg_tup_eq, tg_lst_eq, at_end, set_end, asS_end, asL_end, at_pre, set_pre, ty_pre, dTupRev, List.getElem?_cons_zero, List.getElem?_cons_succ, Option.some.injEq, exists_eq_left', exists_eq_left, exists_and_left, exists_and_right, and_assoc, D.int.injEq, D.bl.injEq, D.str.injEq, D.tup.injEq, D.lst.injEq, D.fz.injEq, D.ref.injEq, HB.lst.injEq, List.cons.injEq, and_true, true_and, List.set_cons_zero, List.set_cons_succ, List.map_cons, List.map_nil, List.length_cons, List.length_nil, Nat.reduceAdd, Nat.reduceSub, Nat.sub_self, Nat.zero_add, List.replicate_zero, List.replicate_succ, List.append_nil, List.cons_append, List.nil_append, decide_eq_true_eq, decide_eq_false_iff_not, Bool.not_eq_true', Bool.not_eq_false', Bool.true_eq_false, Bool.false_eq_true, false_implies, forall_const, true_implies, reduceCtorEq, and_false, false_and, Bool.not_true, Bool.not_false, if_true, if_false]
  refine ⟨smallL (by omega), fun hl => ⟨smallL (by simp; omega), ?_⟩, fun _ => k _ ((g.add b1).le (by decide))⟩
  exact k _ ((g.add b1).add (b2 (by omega)))
theorem st_g3 {n m pick : Nat} {cs fs : List (Nat × Nat)} {S : List Nat} {vs : List D} {E : DEnds} {h : DHp} {o : List (Option D)} (hS : S.length ≤ 39) (g : Gd n cs fs 12 vs)
    (k : ∀ vs, Gd n cs fs 13 vs → E.nx (stB n m pick cs fs S h.length (none :: o)) (h ++ [.lst vs])) : g3 E (stB n m pick cs fs S h.length (none :: o)) (h ++ [.lst vs]) := by
  simp only [g3, stB, sSeq, sNil, sIf, sRet, sRetN, sSet, sAsg, sExpr, sNever, sFor, sNox, sBrk, sCont, sFldD, sAug, sAugS, dVar, dC, dOp, dI0, dII, dNeg, dInv, dAndV, dOrV, dNotV, dTst, dTru, dAnd, dOr, dNot, dIfE, dChn, dCall, dCallK, dMake, aNil, aCons, dTup, dLst, dLstH, dFldC, dCB, dBM, tgN, tgSub, iL, iT, iR1, iR2, DEnds.xx, dLc, dLcH, dYes, dSl, oNon, oSome, nI2, nTup, nLst, nLstH, mApp, wipeD, dIn, dIsN, dNotN, dAddH, dMulH, tru_bl, tru_int, add_int, add_tup, mul_int, len_tup, len_lst, len_fz, ne_int, eq_int, ne_bl, eq_bl, int_int, int_bl, ty_end, asL_lst, asL_fz, asS_tup, asS_lst, asS_fz, tgs_cons_eq, tgs_nil_eq, tg_tup_eq, tg_lst_eq, at_end, set_end, asS_end, asL_end, at_pre, set_pre, ty_pre, dTupRev, List.getElem?_cons_zero, List.getElem?_cons_succ, Option.some.injEq, exists_eq_left', exists_eq_left, exists_and_left, exists_and_right, and_assoc, D.int.injEq, D.bl.injEq, D.str.injEq, D.tup.injEq, D.lst.injEq, D.fz.injEq, D.ref.injEq, HB.lst.injEq, List.cons.injEq, and_true, true_and, List.set_cons_zero, List.set_cons_succ, List.map_cons, List.map_nil, List.length_cons, List.length_nil, Nat.reduceAdd, Nat.reduceSub, Nat.sub_self, Nat.zero_add, List.replicate_zero, List.replicate_succ, List.append_nil, List.cons_append, List.nil_append, decide_eq_true_eq, decide_eq_false_iff_not, Bool.not_eq_true', Bool.not_eq_false', Bool.true_eq_false, Bool.false_eq_true, false_implies, forall_const, true_implies, reduceCtorEq, and_false, false_and, Bool.not_true, Bool.not_false, if_true, if_false, inT_nats, nats_len]
  have few := g.few
  refine ⟨fun h1 => ?_, fun _ => k _ (g.le (by decide))⟩
  refine lc_map (fun d => if iOf d = 1 then .bl true else d) (fun _ => true) (nats S) (fun _ => trivial) (small (by rw [nats_len]; omega)) ?_ ?_
  · intro x hx acc R hl hA hB
    obtain ⟨j, hj, rfl⟩ := List.mem_map.mp hx
    rw [iOf_int] at hA
    have hA := hA rfl
    simp only [sSeq, sNil, sIf, sRet, sRetN, sSet, sAsg, sExpr, sNever, sFor, sNox, sBrk, sCont, sFldD, sAug, sAugS, dVar, dC, dOp, dI0, dII, dNeg, dInv, dAndV, dOrV, dNotV, dTst, dTru, dAnd, dOr, dNot, dIfE, dChn, dCall, dCallK, dMake, aNil, aCons, dTup, dLst, dLstH, dFldC, dCB, dBM, tgN, tgSub, iL, iT, iR1, iR2, DEnds.xx, dLc, dLcH, dYes, dSl, oNon, oSome, nI2, nTup, nLst, nLstH, mApp, wipeD, dIn, dIsN, dNotN, dAddH, dMulH, tru_bl, tru_int, add_int, add_tup, mul_int, len_tup, len_lst, len_fz, ne_int, eq_int, ne_bl, eq_bl, int_int, int_bl, ty_end, asL_lst, asL_fz, asS_tup, asS_lst, asS_fz, tgs_cons_eq, tgs_nil_eq, tg_tup_eq, tg_lst_eq, at_end, set_end, asS_end, asL_end, at_pre, set_pre, ty_pre, dTupRev, List.getElem?_cons_zero, List.getElem?_cons_succ, Option.some.injEq, exists_eq_left', exists_eq_left, exists_and_left, exists_and_right, and_assoc, D.int.injEq, D.bl.injEq, D.str.injEq, D.tup.injEq, D.lst.injEq, D.fz.injEq, D.ref.injEq, HB.lst.injEq, List.cons.injEq, and_true, true_and, List.set_cons_zero, List.set_cons_succ, List.map_cons, List.map_nil, List.length_cons, List.length_nil, Nat.reduceAdd, Nat.reduceSub, Nat.sub_self, Nat.zero_add, List.replicate_zero, List.replicate_succ, List.append_nil, List.cons_append, List.nil_append, decide_eq_true_eq, decide_eq_false_iff_not, Bool.not_eq_true', Bool.not_eq_false', Bool.true_eq_false, Bool.false_eq_true, false_implies, forall_const, true_implies, reduceCtorEq, and_false, false_and, Bool.not_true, Bool.not_false, if_true, if_false]
    refine ⟨small (by decide), ?_⟩
    by_cases q : (j : Int) = 1
    · rw [if_pos q] at hA
      have : ((j : Int) == 1) = true := by simpa using q
      rw [this]
      show dIx _ (.int 1) _ _
      rw [ixb]
      simp only [tru_bl, tru_int, add_int, add_tup, mul_int, len_tup, len_lst, len_fz, ne_int, eq_int, ne_bl, eq_bl, int_int, int_bl, ty_end, asL_lst, asL_fz, asS_tup, asS_lst, asS_fz, tgs_cons_eq, tgs_nil_eq, tg_tup_eq, tg_lst_eq, at_end, set_end, asS_end, asL_end, at_pre, set_pre, ty_pre, dTupRev, List.getElem?_cons_zero, List.getElem?_cons_succ, Option.some.injEq, exists_eq_left', exists_eq_left, exists_and_left, exists_and_right, and_assoc, D.int.injEq, D.bl.injEq, D.str.injEq, D.tup.injEq, D.lst.injEq, D.fz.injEq, D.ref.injEq, HB.lst.injEq, List.cons.injEq, and_true, true_and, List.set_cons_zero, List.set_cons_succ, List.map_cons, List.map_nil, List.length_cons, List.length_nil, Nat.reduceAdd, Nat.reduceSub, Nat.sub_self, Nat.zero_add, List.replicate_zero, List.replicate_succ, List.append_nil, List.cons_append, List.nil_append, decide_eq_true_eq, decide_eq_false_iff_not, Bool.not_eq_true', Bool.not_eq_false', Bool.true_eq_false, Bool.false_eq_true, false_implies, forall_const, true_implies, reduceCtorEq, and_false, false_and, Bool.not_true, Bool.not_false, if_true, if_false]
      exact ⟨hl, hA⟩
    · rw [if_neg q] at hA
      have : ((j : Int) == 1) = false := by simpa using q
      rw [this]
      show dIx _ (.int 0) _ _
      rw [ixa]
      simp only [tru_bl, tru_int, add_int, add_tup, mul_int, len_tup, len_lst, len_fz, ne_int, eq_int, ne_bl, eq_bl, int_int, int_bl, ty_end, asL_lst, asL_fz, asS_tup, asS_lst, asS_fz, tgs_cons_eq, tgs_nil_eq, tg_tup_eq, tg_lst_eq, at_end, set_end, asS_end, asL_end, at_pre, set_pre, ty_pre, dTupRev, List.getElem?_cons_zero, List.getElem?_cons_succ, Option.some.injEq, exists_eq_left', exists_eq_left, exists_and_left, exists_and_right, and_assoc, D.int.injEq, D.bl.injEq, D.str.injEq, D.tup.injEq, D.lst.injEq, D.fz.injEq, D.ref.injEq, HB.lst.injEq, List.cons.injEq, and_true, true_and, List.set_cons_zero, List.set_cons_succ, List.map_cons, List.map_nil, List.length_cons, List.length_nil, Nat.reduceAdd, Nat.reduceSub, Nat.sub_self, Nat.zero_add, List.replicate_zero, List.replicate_succ, List.append_nil, List.cons_append, List.nil_append, decide_eq_true_eq, decide_eq_false_iff_not, Bool.not_eq_true', Bool.not_eq_false', Bool.true_eq_false, Bool.false_eq_true, false_implies, forall_const, true_implies, reduceCtorEq, and_false, false_and, Bool.not_true, Bool.not_false, if_true, if_false]
      exact ⟨hl, hA⟩
  · have e : lcF (fun d => if iOf d = 1 then D.bl true else d) (fun _ => true) (nats S) = (nats S).map fun d => if iOf d = 1 then D.bl true else d := by
      unfold lcF
      rw [List.filter_eq_self.mpr (fun _ _ => rfl)]
    rw [e]
    have sm : ∀ x ∈ (nats S).map fun d => if iOf d = 1 then D.bl true else d, Smp x := fun x hx => by
      obtain ⟨y, hy, rfl⟩ := List.mem_map.mp hx
      show Smp (if iOf y = 1 then D.bl true else y)
      split
      · exact .inr (.inr (.inl rfl))
      · exact Smp.nat y hy
    refine ⟨_, rfl, Bds_all fun x hx => (sm x hx).bd, smallL (by omega), k _ (g.add (bv_mem (x := .bl true) ?_ (fun k _ z => nomatch z) sm ?_))⟩
    · obtain ⟨j, hj, e1⟩ := List.any_eq_true.mp h1
      exact List.mem_map.mpr ⟨.int (j : Int), List.mem_map.mpr ⟨j, hj, rfl⟩, by rw [iOf_int, if_pos (beq_iff_eq.mp e1)]⟩
    · rw [List.length_map, nats_len]; omega
def unN : D → Nat × Nat
  | .tup [.int a, .int b] => (a.toNat, b.toNat)
  | _ => (0, 0)
theorem unN_prN {p : Nat × Nat} : unN (prN p) = p := rfl
abbrev inS (S : List Nat) (k : Nat) : Bool := S.any fun z => (z : Int) == (k : Int)
theorem st_g4 {n m pick : Nat} {cs fs : List (Nat × Nat)} {S : List Nat} {vs : List D} {E : DEnds} {h : DHp} {o7 o8 o9 o10 o11 : Option D} (hc : cs.length ≤ 2000)
    (k : E.nx (stB n m pick cs fs S h.length [o7, some (.lst (nats ((cs.filter fun p => inS S p.1 && inS S p.2).map (·.1)))), o9, o10, o11]) (h ++ [.lst vs])) : g4 E (stB n m pick cs fs S h.length [o7, o8, o9, o10, o11]) (h ++ [.lst vs]) := by
  simp only [g4, stB, sSeq, sNil, sIf, sRet, sRetN, sSet, sAsg, sExpr, sNever, sFor, sNox, sBrk, sCont, sFldD, sAug, sAugS, dVar, dC, dOp, dI0, dII, dNeg, dInv, dAndV, dOrV, dNotV, dTst, dTru, dAnd, dOr, dNot, dIfE, dChn, dCall, dCallK, dMake, aNil, aCons, dTup, dLst, dLstH, dFldC, dCB, dBM, tgN, tgSub, iL, iT, iR1, iR2, DEnds.xx, dLc, dLcH, dYes, dSl, oNon, oSome, nI2, nTup, nLst, nLstH, mApp, wipeD, dIn, dIsN, dNotN, dAddH, dMulH, tru_bl, tru_int, add_int, add_tup, mul_int, len_tup, len_lst, len_fz, ne_int, eq_int, ne_bl, eq_bl, int_int, int_bl, ty_end, asL_lst, asL_fz, asS_tup, asS_lst, asS_fz, tgs_cons_eq, tgs_nil_eq, tg_tup_eq, tg_lst_eq, at_end, set_end, asS_end, asL_end, at_pre, set_pre, ty_pre, dTupRev, List.getElem?_cons_zero, List.getElem?_cons_succ, Option.some.injEq, exists_eq_left', exists_eq_left, exists_and_left, exists_and_right, and_assoc, D.int.injEq, D.bl.injEq, D.str.injEq, D.tup.injEq, D.lst.injEq, D.fz.injEq, D.ref.injEq, HB.lst.injEq, List.cons.injEq, and_true, true_and, List.set_cons_zero, List.set_cons_succ, List.map_cons, List.map_nil, List.length_cons, List.length_nil, Nat.reduceAdd, Nat.reduceSub, Nat.sub_self, Nat.zero_add, List.replicate_zero, List.replicate_succ, List.append_nil, List.cons_append, List.nil_append, decide_eq_true_eq, decide_eq_false_iff_not, Bool.not_eq_true', Bool.not_eq_false', Bool.true_eq_false, Bool.false_eq_true, false_implies, forall_const, true_implies, reduceCtorEq, and_false, false_and, Bool.not_true, Bool.not_false, if_true, if_false, prs_len] at k ⊢
  refine lc_map (fun d => .int ((unN d).1 : Int)) (fun d => inS S (unN d).1 && inS S (unN d).2) (prs cs) (fun _ => rfl) (small (by rw [prs_len]; omega)) ?_ ?_
  · intro x hx acc R hl hA hB
    obtain ⟨p, hp, rfl⟩ := List.mem_map.mp hx
    rw [unN_prN] at hA hB
    simp only [prD_at, inT_nats, sSeq, sNil, sIf, sRet, sRetN, sSet, sAsg, sExpr, sNever, sFor, sNox, sBrk, sCont, sFldD, sAug, sAugS, dVar, dC, dOp, dI0, dII, dNeg, dInv, dAndV, dOrV, dNotV, dTst, dTru, dAnd, dOr, dNot, dIfE, dChn, dCall, dCallK, dMake, aNil, aCons, dTup, dLst, dLstH, dFldC, dCB, dBM, tgN, tgSub, iL, iT, iR1, iR2, DEnds.xx, dLc, dLcH, dYes, dSl, oNon, oSome, nI2, nTup, nLst, nLstH, mApp, wipeD, dIn, dIsN, dNotN, dAddH, dMulH, tru_bl, tru_int, add_int, add_tup, mul_int, len_tup, len_lst, len_fz, ne_int, eq_int, ne_bl, eq_bl, int_int, int_bl, ty_end, asL_lst, asL_fz, asS_tup, asS_lst, asS_fz, tgs_cons_eq, tgs_nil_eq, tg_tup_eq, tg_lst_eq, at_end, set_end, asS_end, asL_end, at_pre, set_pre, ty_pre, dTupRev, List.getElem?_cons_zero, List.getElem?_cons_succ, Option.some.injEq, exists_eq_left', exists_eq_left, exists_and_left, exists_and_right, and_assoc, D.int.injEq, D.bl.injEq, D.str.injEq, D.tup.injEq, D.lst.injEq, D.fz.injEq, D.ref.injEq, HB.lst.injEq, List.cons.injEq, and_true, true_and, List.set_cons_zero, List.set_cons_succ, List.map_cons, List.map_nil, List.length_cons, List.length_nil, Nat.reduceAdd, Nat.reduceSub, Nat.sub_self, Nat.zero_add, List.replicate_zero, List.replicate_succ, List.append_nil, List.cons_append, List.nil_append, decide_eq_true_eq, decide_eq_false_iff_not, Bool.not_eq_true', Bool.not_eq_false', Bool.true_eq_false, Bool.false_eq_true, false_implies, forall_const, true_implies, reduceCtorEq, and_false, false_and, Bool.not_true, Bool.not_false, if_true, if_false]
    exact ⟨fun z1 => ⟨fun z2 => ⟨hl, hA (by unfold inS; rw [z1, z2]; rfl)⟩, fun z2 => hB (by unfold inS; rw [z1, z2]; rfl)⟩, fun z1 => hB (by unfold inS; rw [z1]; rfl)⟩
  · have e : lcF (fun d => .int ((unN d).1 : Int)) (fun d => inS S (unN d).1 && inS S (unN d).2) (prs cs) = nats ((cs.filter fun p => inS S p.1 && inS S p.2).map (·.1)) := by
      unfold lcF prs nats
      rw [List.filter_map, List.map_map, List.map_map]
      rfl
    rw [e]
    exact ⟨_, rfl, Bds_nats, k⟩
theorem Bds_prs {m : Nat} {ps : List (Nat × Nat)} : Bds m (prs ps) := Bds_all fun x hx => by
  obtain ⟨p, _, rfl⟩ := List.mem_map.mp hx
  exact ⟨trivial, trivial, trivial⟩
theorem st_g6 {n m pick : Nat} {cs fs : List (Nat × Nat)} {S : List Nat} {vs : List D} {E : DEnds} {h : DHp} {o7 o8 o9 o10 o11 : Option D} (hc : fs.length ≤ 2000)
    (k : E.nx (stB n m pick cs fs S h.length [o7, o8, o9, o10, some (.lst (prs (fs.filter fun p => inS S p.1 || inS S p.2)))]) (h ++ [.lst vs])) : g6 E (stB n m pick cs fs S h.length [o7, o8, o9, o10, o11]) (h ++ [.lst vs]) := by
  simp only [g6, stB, sSeq, sNil, sIf, sRet, sRetN, sSet, sAsg, sExpr, sNever, sFor, sNox, sBrk, sCont, sFldD, sAug, sAugS, dVar, dC, dOp, dI0, dII, dNeg, dInv, dAndV, dOrV, dNotV, dTst, dTru, dAnd, dOr, dNot, dIfE, dChn, dCall, dCallK, dMake, aNil, aCons, dTup, dLst, dLstH, dFldC, dCB, dBM, tgN, tgSub, iL, iT, iR1, iR2, DEnds.xx, dLc, dLcH, dYes, dSl, oNon, oSome, nI2, nTup, nLst, nLstH, mApp, wipeD, dIn, dIsN, dNotN, dAddH, dMulH, tru_bl, tru_int, add_int, add_tup, mul_int, len_tup, len_lst, len_fz, ne_int, eq_int, ne_bl, eq_bl, int_int, int_bl, ty_end, asL_lst, asL_fz, asS_tup, asS_lst, asS_fz, tgs_cons_eq, tgs_nil_eq, tg_tup_eq, tg_lst_eq, at_end, set_end, asS_end, asL_end, at_pre, set_pre, ty_pre, dTupRev, List.getElem?_cons_zero, List.getElem?_cons_succ, Option.some.injEq, exists_eq_left', exists_eq_left, exists_and_left, exists_and_right, and_assoc, D.int.injEq, D.bl.injEq, D.str.injEq, D.tup.injEq, D.lst.injEq, D.fz.injEq, D.ref.injEq, HB.lst.injEq, List.cons.injEq, and_true, true_and, List.set_cons_zero, List.set_cons_succ, List.map_cons, List.map_nil, List.length_cons, List.length_nil, Nat.reduceAdd, Nat.reduceSub, Nat.sub_self, Nat.zero_add, List.replicate_zero, List.replicate_succ, List.append_nil, List.cons_append, List.nil_append, decide_eq_true_eq, decide_eq_false_iff_not, Bool.not_eq_true', Bool.not_eq_false', Bool.true_eq_false, Bool.false_eq_true, false_implies, forall_const, true_implies, reduceCtorEq, and_false, false_and, Bool.not_true, Bool.not_false, if_true, if_false, prs_len] at k ⊢
  refine lc_map (fun d => d) (fun d => inS S (unN d).1 || inS S (unN d).2) (prs fs) (fun _ => rfl) (small (by rw [prs_len]; omega)) ?_ ?_
  · intro x hx acc R hl hA hB
    obtain ⟨p, hp, rfl⟩ := List.mem_map.mp hx
    rw [unN_prN] at hA hB
    simp only [prD_at, inT_nats, sSeq, sNil, sIf, sRet, sRetN, sSet, sAsg, sExpr, sNever, sFor, sNox, sBrk, sCont, sFldD, sAug, sAugS, dVar, dC, dOp, dI0, dII, dNeg, dInv, dAndV, dOrV, dNotV, dTst, dTru, dAnd, dOr, dNot, dIfE, dChn, dCall, dCallK, dMake, aNil, aCons, dTup, dLst, dLstH, dFldC, dCB, dBM, tgN, tgSub, iL, iT, iR1, iR2, DEnds.xx, dLc, dLcH, dYes, dSl, oNon, oSome, nI2, nTup, nLst, nLstH, mApp, wipeD, dIn, dIsN, dNotN, dAddH, dMulH, tru_bl, tru_int, add_int, add_tup, mul_int, len_tup, len_lst, len_fz, ne_int, eq_int, ne_bl, eq_bl, int_int, int_bl, ty_end, asL_lst, asL_fz, asS_tup, asS_lst, asS_fz, tgs_cons_eq, tgs_nil_eq, tg_tup_eq, tg_lst_eq, at_end, set_end, asS_end, asL_end, at_pre, set_pre, ty_pre, dTupRev, List.getElem?_cons_zero, List.getElem?_cons_succ, Option.some.injEq, exists_eq_left', exists_eq_left, exists_and_left, exists_and_right, and_assoc, D.int.injEq, D.bl.injEq, D.str.injEq, D.tup.injEq, D.lst.injEq, D.fz.injEq, D.ref.injEq, HB.lst.injEq, List.cons.injEq, and_true, true_and, List.set_cons_zero, List.set_cons_succ, List.map_cons, List.map_nil, List.length_cons, List.length_nil, Nat.reduceAdd, Nat.reduceSub, Nat.sub_self, Nat.zero_add, List.replicate_zero, List.replicate_succ, List.append_nil, List.cons_append, List.nil_append, decide_eq_true_eq, decide_eq_false_iff_not, Bool.not_eq_true', Bool.not_eq_false', Bool.true_eq_false, Bool.false_eq_true, false_implies, forall_const, true_implies, reduceCtorEq, and_false, false_and, Bool.not_true, Bool.not_false, if_true, if_false]
    exact ⟨fun z1 => ⟨hl, hA (by unfold inS; rw [z1]; rfl)⟩, fun z1 => ⟨fun z2 => ⟨hl, hA (by unfold inS; rw [z1, z2]; rfl)⟩, fun z2 => hB (by unfold inS; rw [z1, z2]; rfl)⟩⟩
  · have e : lcF (fun d => d) (fun d => inS S (unN d).1 || inS S (unN d).2) (prs fs) = prs (fs.filter fun p => inS S p.1 || inS S p.2) := by
      unfold lcF prs
      rw [List.filter_map, List.map_map]
      rfl
    rw [e]
    exact ⟨_, rfl, Bds_prs, k⟩
theorem ne_nilN {ns : List Nat} {h : DHp} {Q : DK} : dNe (.lst (nats ns)) (.lst []) h Q ↔ Q (.bl (decide (0 < ns.length))) h := by
  have ok : OkD 60 (.lst (nats ns)) := flI
  cases ns with
  | nil => exact ⟨fun w => w.2.2, fun q => ⟨ok, (fun x hx => nomatch hx), q⟩⟩
  | cons a r =>
    have e : decide (0 < (a :: r).length) = true := by simp
    rw [e]
    exact ⟨fun w => w.2.2, fun q => ⟨ok, (fun x hx => nomatch hx), q⟩⟩
theorem ne_nilP {ps : List (Nat × Nat)} {h : DHp} {Q : DK} : dNe (.lst (prs ps)) (.lst []) h Q ↔ Q (.bl (decide (0 < ps.length))) h := by
  have ok : OkD 60 (.lst (prs ps)) := fun x hx => by
    obtain ⟨p, _, rfl⟩ := List.mem_map.mp hx
    intro y hy
    simp only [List.mem_cons, List.not_mem_nil, or_false] at hy
    rcases hy with rfl | rfl <;> trivial
  cases ps with
  | nil => exact ⟨fun w => w.2.2, fun q => ⟨ok, (fun x hx => nomatch hx), q⟩⟩
  | cons a r =>
    have e : decide (0 < (a :: r).length) = true := by simp
    rw [e]
    exact ⟨fun w => w.2.2, fun q => ⟨ok, (fun x hx => nomatch hx), q⟩⟩
theorem st_g5 {n m pick : Nat} {cs fs : List (Nat × Nat)} {S N : List Nat} {vs : List D} {E : DEnds} {h : DHp} {o9 o10 o11 : Option D} (hS : S.length ≤ 39) (g : Gd n cs fs 13 vs)
    (hN : ∀ x ∈ N, ∃ p ∈ cs, p.1 = x ∧ p.2 ∈ S ∧ p.1 ≠ p.2)
    (k : ∀ vs o10, Gd n cs fs 14 vs → E.nx (stB n m pick cs fs S h.length [none, some (.lst (nats N)), o9, o10, o11]) (h ++ [.lst vs])) : g5 E (stB n m pick cs fs S h.length [none, some (.lst (nats N)), o9, o10, o11]) (h ++ [.lst vs]) := by
  have few := g.few
  simp only [g5, stB, ne_nilN, sSeq, sNil, sIf, sRet, sRetN, sSet, sAsg, sExpr, sNever, sFor, sNox, sBrk, sCont, sFldD, sAug, sAugS, dVar, dC, dOp, dI0, dII, dNeg, dInv, dAndV, dOrV, dNotV, dTst, dTru, dAnd, dOr, dNot, dIfE, dChn, dCall, dCallK, dMake, aNil, aCons, dTup, dLst, dLstH, dFldC, dCB, dBM, tgN, tgSub, iL, iT, iR1, iR2, DEnds.xx, dLc, dLcH, dYes, dSl, oNon, oSome, nI2, nTup, nLst, nLstH, mApp, wipeD, dIn, dIsN, dNotN, dAddH, dMulH, tru_bl, tru_int, add_int, add_tup, mul_int, len_tup, len_lst, len_fz, ne_int, eq_int, ne_bl, eq_bl, int_int, int_bl, ty_end, asL_lst, asL_fz, asS_tup, asS_lst, asS_fz, tgs_cons_eq, tgs_nil_eq, tg_tup_eq, tg_lst_eq, at_end, set_end, asS_end, asL_end, at_pre, set_pre, ty_pre, dTupRev, List.getElem?_cons_zero, List.getElem?_cons_succ, Option.some.injEq, exists_eq_left', exists_eq_left, exists_and_left, exists_and_right, and_assoc, D.int.injEq, D.bl.injEq, D.str.injEq, D.tup.injEq, D.lst.injEq, D.fz.injEq, D.ref.injEq, HB.lst.injEq, List.cons.injEq, and_true, true_and, List.set_cons_zero, List.set_cons_succ, List.map_cons, List.map_nil, List.length_cons, List.length_nil, Nat.reduceAdd, Nat.reduceSub, Nat.sub_self, Nat.zero_add, List.replicate_zero, List.replicate_succ, List.append_nil, List.cons_append, List.nil_append, decide_eq_true_eq, decide_eq_false_iff_not, Bool.not_eq_true', Bool.not_eq_false', Bool.true_eq_false, Bool.false_eq_true, false_implies, forall_const, true_implies, reduceCtorEq, and_false, false_and, Bool.not_true, Bool.not_false, if_true, if_false, nats_len]
  refine ⟨Nat.zero_le _, fun hp => ?_, fun _ => k _ _ (g.le (by decide))⟩
  obtain ⟨x, hx⟩ := get_lt (l := N) (i := pick % N.length) (Nat.mod_lt _ hp)
  obtain ⟨p, hp1, rfl, hp2, hp3⟩ := hN x (List.mem_of_getElem? hx)
  refine ⟨by omega, ?_⟩
  rw [mod_nat, ix_lst (nats_at hx)]
  simp only [sSeq, sNil, sIf, sRet, sRetN, sSet, sAsg, sExpr, sNever, sFor, sNox, sBrk, sCont, sFldD, sAug, sAugS, dVar, dC, dOp, dI0, dII, dNeg, dInv, dAndV, dOrV, dNotV, dTst, dTru, dAnd, dOr, dNot, dIfE, dChn, dCall, dCallK, dMake, aNil, aCons, dTup, dLst, dLstH, dFldC, dCB, dBM, tgN, tgSub, iL, iT, iR1, iR2, DEnds.xx, dLc, dLcH, dYes, dSl, oNon, oSome, nI2, nTup, nLst, nLstH, mApp, wipeD, dIn, dIsN, dNotN, dAddH, dMulH, tru_bl, tru_int, add_int, add_tup, mul_int, len_tup, len_lst, len_fz, ne_int, eq_int, ne_bl, eq_bl, int_int, int_bl, ty_end, asL_lst, asL_fz, asS_tup, asS_lst, asS_fz, tgs_cons_eq, tgs_nil_eq, tg_tup_eq, tg_lst_eq, at_end, set_end, asS_end, asL_end, at_pre, set_pre, ty_pre, dTupRev, List.getElem?_cons_zero, List.getElem?_cons_succ, Option.some.injEq, exists_eq_left', exists_eq_left, exists_and_left, exists_and_right, and_assoc, D.int.injEq, D.bl.injEq, D.str.injEq, D.tup.injEq, D.lst.injEq, D.fz.injEq, D.ref.injEq, HB.lst.injEq, List.cons.injEq, and_true, true_and, List.set_cons_zero, List.set_cons_succ, List.map_cons, List.map_nil, List.length_cons, List.length_nil, Nat.reduceAdd, Nat.reduceSub, Nat.sub_self, Nat.zero_add, List.replicate_zero, List.replicate_succ, List.append_nil, List.cons_append, List.nil_append, decide_eq_true_eq, decide_eq_false_iff_not, Bool.not_eq_true', Bool.not_eq_false', Bool.true_eq_false, Bool.false_eq_true, false_implies, forall_const, true_implies, reduceCtorEq, and_false, false_and, Bool.not_true, Bool.not_false, if_true, if_false]
  refine lc_map (fun d => d) (fun d => !(iOf d == (p.1 : Int))) (nats S) (fun _ => trivial) (small (by rw [nats_len]; omega)) ?_ ?_
  · intro x hx acc R hl hA hB
    obtain ⟨j, hj, rfl⟩ := List.mem_map.mp hx
    rw [iOf_int] at hA hB
    simp only [sSeq, sNil, sIf, sRet, sRetN, sSet, sAsg, sExpr, sNever, sFor, sNox, sBrk, sCont, sFldD, sAug, sAugS, dVar, dC, dOp, dI0, dII, dNeg, dInv, dAndV, dOrV, dNotV, dTst, dTru, dAnd, dOr, dNot, dIfE, dChn, dCall, dCallK, dMake, aNil, aCons, dTup, dLst, dLstH, dFldC, dCB, dBM, tgN, tgSub, iL, iT, iR1, iR2, DEnds.xx, dLc, dLcH, dYes, dSl, oNon, oSome, nI2, nTup, nLst, nLstH, mApp, wipeD, dIn, dIsN, dNotN, dAddH, dMulH, tru_bl, tru_int, add_int, add_tup, mul_int, len_tup, len_lst, len_fz, ne_int, eq_int, ne_bl, eq_bl, int_int, int_bl, ty_end, asL_lst, asL_fz, asS_tup, asS_lst, asS_fz, tgs_cons_eq, tgs_nil_eq, tg_tup_eq, tg_lst_eq, at_end, set_end, asS_end, asL_end, at_pre, set_pre, ty_pre, dTupRev, List.getElem?_cons_zero, List.getElem?_cons_succ, Option.some.injEq, exists_eq_left', exists_eq_left, exists_and_left, exists_and_right, and_assoc, D.int.injEq, D.bl.injEq, D.str.injEq, D.tup.injEq, D.lst.injEq, D.fz.injEq, D.ref.injEq, HB.lst.injEq, List.cons.injEq, and_true, true_and, List.set_cons_zero, List.set_cons_succ, List.map_cons, List.map_nil, List.length_cons, List.length_nil, Nat.reduceAdd, Nat.reduceSub, Nat.sub_self, Nat.zero_add, List.replicate_zero, List.replicate_succ, List.append_nil, List.cons_append, List.nil_append, decide_eq_true_eq, decide_eq_false_iff_not, Bool.not_eq_true', Bool.not_eq_false', Bool.true_eq_false, Bool.false_eq_true, false_implies, forall_const, true_implies, reduceCtorEq, and_false, false_and, Bool.not_true, Bool.not_false, if_true, if_false]
    exact ⟨fun z => ⟨hl, hA (by rw [z]; rfl)⟩, fun z => hB (by rw [z]; rfl)⟩
  · have e : lcF (fun d => d) (fun d => !(iOf d == (p.1 : Int))) (nats S) = nats (S.filter fun j => !((j : Int) == (p.1 : Int))) := by
      unfold lcF nats
      rw [List.filter_map, List.map_map]
      rfl
    rw [e]
    refine ⟨_, rfl, Bds_nats, ?_⟩
    refine ⟨smallL (by omega), k _ _ (g.add (bv_sub (fun z => ?_) (Nat.le_trans (List.length_filter_le _ _) (by omega))))⟩
    have h1 := z.2.1 p hp1 (List.mem_filter.mpr ⟨hp2, by simp; omega⟩)
    have h2 := (List.mem_filter.mp h1).2
    simp at h2
theorem st_g7 {n m pick : Nat} {cs fs F : List (Nat × Nat)} {S : List Nat} {vs : List D} {E : DEnds} {h : DHp} {o8 o9 o10 : Option D} (ev : Ev n cs fs) (g : Gd n cs fs 14 vs) (hF : ∀ p ∈ F, p ∈ fs)
    (k : ∀ vs o9, Gd n cs fs 15 vs → E.nx (stB n m pick cs fs S h.length [none, o8, o9, o10, some (.lst (prs F))]) (h ++ [.lst vs])) : g7 E (stB n m pick cs fs S h.length [none, o8, o9, o10, some (.lst (prs F))]) (h ++ [.lst vs]) := by
  have few := g.few
  have le := ev.le
  simp only [g7, stB, ne_nilP, sSeq, sNil, sIf, sRet, sRetN, sSet, sAsg, sExpr, sNever, sFor, sNox, sBrk, sCont, sFldD, sAug, sAugS, dVar, dC, dOp, dI0, dII, dNeg, dInv, dAndV, dOrV, dNotV, dTst, dTru, dAnd, dOr, dNot, dIfE, dChn, dCall, dCallK, dMake, aNil, aCons, dTup, dLst, dLstH, dFldC, dCB, dBM, tgN, tgSub, iL, iT, iR1, iR2, DEnds.xx, dLc, dLcH, dYes, dSl, oNon, oSome, nI2, nTup, nLst, nLstH, mApp, wipeD, dIn, dIsN, dNotN, dAddH, dMulH, tru_bl, tru_int, add_int, add_tup, mul_int, len_tup, len_lst, len_fz, ne_int, eq_int, ne_bl, eq_bl, int_int, int_bl, ty_end, asL_lst, asL_fz, asS_tup, asS_lst, asS_fz, tgs_cons_eq, tgs_nil_eq, tg_tup_eq, tg_lst_eq, at_end, set_end, asS_end, asL_end, at_pre, set_pre, ty_pre, dTupRev, List.getElem?_cons_zero, List.getElem?_cons_succ, Option.some.injEq, exists_eq_left', exists_eq_left, exists_and_left, exists_and_right, and_assoc, D.int.injEq, D.bl.injEq, D.str.injEq, D.tup.injEq, D.lst.injEq, D.fz.injEq, D.ref.injEq, HB.lst.injEq, List.cons.injEq, and_true, true_and, List.set_cons_zero, List.set_cons_succ, List.map_cons, List.map_nil, List.length_cons, List.length_nil, Nat.reduceAdd, Nat.reduceSub, Nat.sub_self, Nat.zero_add, List.replicate_zero, List.replicate_succ, List.append_nil, List.cons_append, List.nil_append, decide_eq_true_eq, decide_eq_false_iff_not, Bool.not_eq_true', Bool.not_eq_false', Bool.true_eq_false, Bool.false_eq_true, false_implies, forall_const, true_implies, reduceCtorEq, and_false, false_and, Bool.not_true, Bool.not_false, if_true, if_false, prs_len]
  refine ⟨Nat.zero_le _, fun hp => ?_, fun _ => k _ _ (g.le (by decide))⟩
  obtain ⟨p, hx⟩ := get_lt (l := F) (i := pick % F.length) (Nat.mod_lt _ hp)
  have hm := hF p (List.mem_of_getElem? hx)
  obtain ⟨b1, b2, b3⟩ := ev.cf.bd p hm
  refine ⟨by omega, ?_⟩
  have hx2 : atI (prs F) ((pick % F.length : Nat) : Int) = some (prN p) := atI_nat (by unfold prs; rw [List.getElem?_map, hx]; rfl)
  rw [mod_nat, ix_lst hx2]
  simp only [prD_at, sSeq, sNil, sIf, sRet, sRetN, sSet, sAsg, sExpr, sNever, sFor, sNox, sBrk, sCont, sFldD, sAug, sAugS, dVar, dC, dOp, dI0, dII, dNeg, dInv, dAndV, dOrV, dNotV, dTst, dTru, dAnd, dOr, dNot, dIfE, dChn, dCall, dCallK, dMake, aNil, aCons, dTup, dLst, dLstH, dFldC, dCB, dBM, tgN, tgSub, iL, iT, iR1, iR2, DEnds.xx, dLc, dLcH, dYes, dSl, oNon, oSome, nI2, nTup, nLst, nLstH, mApp, wipeD, dIn, dIsN, dNotN, dAddH, dMulH, tru_bl, tru_int, add_int, add_tup, mul_int, len_tup, len_lst, len_fz, ne_int, eq_int, ne_bl, eq_bl, int_int, int_bl, ty_end, asL_lst, asL_fz, asS_tup, asS_lst, asS_fz, tgs_cons_eq, tgs_nil_eq, tg_tup_eq, tg_lst_eq, at_end, set_end, asS_end, asL_end, at_pre, set_pre, ty_pre, dTupRev, List.getElem?_cons_zero, List.getElem?_cons_succ, Option.some.injEq, exists_eq_left', exists_eq_left, exists_and_left, exists_and_right, and_assoc, D.int.injEq, D.bl.injEq, D.str.injEq, D.tup.injEq, D.lst.injEq, D.fz.injEq, D.ref.injEq, HB.lst.injEq, List.cons.injEq, and_true, true_and, List.set_cons_zero, List.set_cons_succ, List.map_cons, List.map_nil, List.length_cons, List.length_nil, Nat.reduceAdd, Nat.reduceSub, Nat.sub_self, Nat.zero_add, List.replicate_zero, List.replicate_succ, List.append_nil, List.cons_append, List.nil_append, decide_eq_true_eq, decide_eq_false_iff_not, Bool.not_eq_true', Bool.not_eq_false', Bool.true_eq_false, Bool.false_eq_true, false_implies, forall_const, true_implies, reduceCtorEq, and_false, false_and, Bool.not_true, Bool.not_false, if_true, if_false]
  refine ⟨⟨by omega, by omega, by decide⟩, ⟨by omega, by omega, by decide⟩, ?_⟩
  simp only [Int.toNat_natCast, bShl, bOr]
  refine ⟨n, _, rfl, le, ?_⟩
  simp only [tru_bl, tru_int, add_int, add_tup, mul_int, len_tup, len_lst, len_fz, ne_int, eq_int, ne_bl, eq_bl, int_int, int_bl, ty_end, asL_lst, asL_fz, asS_tup, asS_lst, asS_fz, tgs_cons_eq, tgs_nil_eq, tg_tup_eq, tg_lst_eq, at_end, set_end, asS_end, asL_end, at_pre, set_pre, ty_pre, dTupRev, List.getElem?_cons_zero, List.getElem?_cons_succ, Option.some.injEq, exists_eq_left', exists_eq_left, exists_and_left, exists_and_right, and_assoc, D.int.injEq, D.bl.injEq, D.str.injEq, D.tup.injEq, D.lst.injEq, D.fz.injEq, D.ref.injEq, HB.lst.injEq, List.cons.injEq, and_true, true_and, List.set_cons_zero, List.set_cons_succ, List.map_cons, List.map_nil, List.length_cons, List.length_nil, Nat.reduceAdd, Nat.reduceSub, Nat.sub_self, Nat.zero_add, List.replicate_zero, List.replicate_succ, List.append_nil, List.cons_append, List.nil_append, decide_eq_true_eq, decide_eq_false_iff_not, Bool.not_eq_true', Bool.not_eq_false', Bool.true_eq_false, Bool.false_eq_true, false_implies, forall_const, true_implies, reduceCtorEq, and_false, false_and, Bool.not_true, Bool.not_false, if_true, if_false]
  refine ⟨smallL (by omega), k _ _ (g.add (bv_sub (fun z => z.2.2 p hm ⟨?_, ?_⟩) (Nat.le_trans (List.length_filter_le _ _) (by rw [List.length_range]; omega))))⟩
  · exact List.mem_filter.mpr ⟨List.mem_range.mpr b1, by simp [Nat.testBit_or, Nat.testBit_two_pow]⟩
  · exact List.mem_filter.mpr ⟨List.mem_range.mpr b2, by simp [Nat.testBit_or, Nat.testBit_two_pow]⟩
theorem rd_law_bad (ds : List D) (h : DHp) (X : DX) (Q : DK) (hds : ds.length = 5) (c : ct__law_bad ds h X Q) : tb__law_bad (endsD h X Q) (startD N__law_bad.length ds) h := by
  obtain ⟨n, cs, fs, m, pick, rfl, ev, st, q⟩ := c
  have le := ev.le
  rw [tb_bad]
  simp only [sSeq, g0, startD, dCall, sSet, dVar, aCons, aNil, List.getElem?_cons_zero, List.getElem?_cons_succ, Option.some.injEq, exists_eq_left', exists_eq_left, exists_and_left, exists_and_right, and_assoc, D.int.injEq, D.bl.injEq, D.str.injEq, D.tup.injEq, D.lst.injEq, D.fz.injEq, D.ref.injEq, HB.lst.injEq, List.cons.injEq, and_true, true_and, List.set_cons_zero, List.set_cons_succ, List.map_cons, List.map_nil, List.length_cons, List.length_nil, Nat.reduceAdd, Nat.reduceSub, Nat.sub_self, Nat.zero_add, List.replicate_zero, List.replicate_succ, List.append_nil, List.cons_append, List.nil_append, decide_eq_true_eq, decide_eq_false_iff_not, Bool.not_eq_true', Bool.not_eq_false', Bool.true_eq_false, Bool.false_eq_true, false_implies, forall_const, true_implies, reduceCtorEq, and_false, false_and, Bool.not_true, Bool.not_false, if_true, if_false]
  refine ⟨n, m, rfl, ev.le, ?_⟩
  have up : ((List.range n).filter fun k => m.testBit k).Pairwise (· < ·) := List.pairwise_lt_range.filter _
  have bd : ∀ x ∈ ((List.range n).filter fun k => m.testBit k), x < n := fun x hx => List.mem_range.mp (List.mem_filter.mp hx).1
  generalize ((List.range n).filter fun k => m.testBit k) = S at up bd
  have lS := few_of le bd up
  simp only [g1, nats_len, sSeq, sNil, sIf, sRet, sRetN, sSet, sAsg, sExpr, sNever, sFor, sNox, sBrk, sCont, sFldD, sAug, sAugS, dVar, dC, dOp, dI0, dII, dNeg, dInv, dAndV, dOrV, dNotV, dTst, dTru, dAnd, dOr, dNot, dIfE, dChn, dCall, dCallK, dMake, aNil, aCons, dTup, dLst, dLstH, dFldC, dCB, dBM, tgN, tgSub, iL, iT, iR1, iR2, DEnds.xx, dLc, dLcH, dYes, dSl, oNon, oSome, nI2, nTup, nLst, nLstH, mApp, wipeD, dIn, dIsN, dNotN, dAddH, dMulH, tru_bl, tru_int, add_int, add_tup, mul_int, len_tup, len_lst, len_fz, ne_int, eq_int, ne_bl, eq_bl, int_int, int_bl, ty_end, asL_lst, asL_fz, asS_tup, asS_lst, asS_fz, tgs_cons_eq, tgs_nil_eq, tg_tup_eq, tg_lst_eq, at_end, set_end, asS_end, asL_end, at_pre, set_pre, ty_pre, dTupRev, List.getElem?_cons_zero, List.getElem?_cons_succ, Option.some.injEq, exists_eq_left', exists_eq_left, exists_and_left, exists_and_right, and_assoc, D.int.injEq, D.bl.injEq, D.str.injEq, D.tup.injEq, D.lst.injEq, D.fz.injEq, D.ref.injEq, HB.lst.injEq, List.cons.injEq, and_true, true_and, List.set_cons_zero, List.set_cons_succ, List.map_cons, List.map_nil, List.length_cons, List.length_nil, Nat.reduceAdd, Nat.reduceSub, Nat.sub_self, Nat.zero_add, List.replicate_zero, List.replicate_succ, List.append_nil, List.cons_append, List.nil_append, decide_eq_true_eq, decide_eq_false_iff_not, Bool.not_eq_true', Bool.not_eq_false', Bool.true_eq_false, Bool.false_eq_true, false_implies, forall_const, true_implies, reduceCtorEq, and_false, false_and, Bool.not_true, Bool.not_false, if_true, if_false]
  refine ⟨small (by decide), small (by omega), small (by decide), small (by omega), small (by decide), small (by omega), small (by decide), small (by decide), small (by decide), small (by omega), small (by decide), ?_⟩
  have sn : ∀ {x : D}, Smp x → ∀ y ∈ nats S ++ [x], Smp y := fun hx y hy => by
    rcases List.mem_append.mp hy with hy | hy
    · exact Smp.nat y hy
    · rw [List.mem_singleton.mp hy]; exact hx
  have ln : ∀ {x : D}, (nats S ++ [x]).length ≤ 10000 := by intro x; rw [List.length_append, nats_len]; show S.length + 1 ≤ _; omega
  have g0 : Gd n cs fs 10 [D.lst (nats S), D.tup (nats S ++ [D.int ↑n]), D.tup (D.int (-1) :: nats S), D.tup (nats S ++ [D.non]), D.non, D.int 0, D.bl true, D.str "", D.tup [D.tup (nats S)], D.tup (nats S ++ [D.tup []])] := by
    refine ⟨by show 0 < 10; decide, Nat.le_refl _, fun v hv => ?_⟩
    simp only [List.mem_cons, List.not_mem_nil, or_false] at hv
    rcases hv with rfl | rfl | rfl | rfl | rfl | rfl | rfl | rfl | rfl | rfl
    · exact bv_lst (by omega)
    · exact bv_mem (x := .int (n : Int)) (by simp) (fun k hk z => by have := D.int.inj z; omega) (sn (.inl ⟨_, rfl⟩)) ln
    · refine bv_mem (x := .int (-1)) List.mem_cons_self (fun k hk z => by have := D.int.inj z; omega) (fun y hy => ?_) (by rw [List.length_cons, nats_len]; omega)
      rcases List.mem_cons.mp hy with rfl | hy
      · exact .inl ⟨_, rfl⟩
      · exact Smp.nat y hy
    · exact bv_mem (x := .non) (by simp) (fun k hk z => nomatch z) (sn (.inr (.inl rfl))) ln
    · exact bv_non
    · exact bv_int
    · exact bv_bl
    · exact bv_str
    · exact bv_mem (x := .tup (nats S)) (by simp) (fun k hk z => nomatch z) (fun y hy => by rw [List.mem_singleton.mp hy]; exact .inr (.inr (.inr ⟨S, rfl, by omega⟩))) (by show 1 ≤ _; decide)
    · exact bv_mem (x := .tup []) (by simp) (fun k hk z => nomatch z) (sn (.inr (.inr (.inr ⟨[], rfl, by decide⟩)))) ln
  have inS_mem : ∀ {k : Nat}, inS S k = true ↔ k ∈ S := any_mem
  refine st_g2 (n := n) (m := m) (pick := pick) (cs := cs) (fs := fs) (o := [none, none, none, none, none]) lS up g0 fun vs g => ?_
  refine st_g3 lS g fun vs g => ?_
  refine st_g4 ev.ca.few ?_
  refine st_g5 lS g (fun x hx => ?_) fun vs o10 g => ?_
  · obtain ⟨p, hp, rfl⟩ := List.mem_map.mp hx
    obtain ⟨h1, h2⟩ := List.mem_filter.mp hp
    rw [Bool.and_eq_true] at h2
    exact ⟨p, h1, rfl, inS_mem.mp h2.2, (ev.ca.bd p h1).2.2⟩
  refine st_g6 ev.cf.few ?_
  refine st_g7 ev g (fun p hp => (List.mem_filter.mp hp).1) fun vs o9 g => ?_
  simp only [g8, stB, sSeq, sNil, sIf, sRet, sRetN, sSet, sAsg, sExpr, sNever, sFor, sNox, sBrk, sCont, sFldD, sAug, sAugS, dVar, dC, dOp, dI0, dII, dNeg, dInv, dAndV, dOrV, dNotV, dTst, dTru, dAnd, dOr, dNot, dIfE, dChn, dCall, dCallK, dMake, aNil, aCons, dTup, dLst, dLstH, dFldC, dCB, dBM, tgN, tgSub, iL, iT, iR1, iR2, DEnds.xx, dLc, dLcH, dYes, dSl, oNon, oSome, nI2, nTup, nLst, nLstH, mApp, wipeD, dIn, dIsN, dNotN, dAddH, dMulH, tru_bl, tru_int, add_int, add_tup, mul_int, len_tup, len_lst, len_fz, ne_int, eq_int, ne_bl, eq_bl, int_int, int_bl, ty_end, asL_lst, asL_fz, asS_tup, asS_lst, asS_fz, tgs_cons_eq, tgs_nil_eq, tg_tup_eq, tg_lst_eq, at_end, set_end, asS_end, asL_end, at_pre, set_pre, ty_pre, dTupRev, List.getElem?_cons_zero, List.getElem?_cons_succ, Option.some.injEq, exists_eq_left', exists_eq_left, exists_and_left, exists_and_right, and_assoc, D.int.injEq, D.bl.injEq, D.str.injEq, D.tup.injEq, D.lst.injEq, D.fz.injEq, D.ref.injEq, HB.lst.injEq, List.cons.injEq, and_true, true_and, List.set_cons_zero, List.set_cons_succ, List.map_cons, List.map_nil, List.length_cons, List.length_nil, Nat.reduceAdd, Nat.reduceSub, Nat.sub_self, Nat.zero_add, List.replicate_zero, List.replicate_succ, List.append_nil, List.cons_append, List.nil_append, decide_eq_true_eq, decide_eq_false_iff_not, Bool.not_eq_true', Bool.not_eq_false', Bool.true_eq_false, Bool.false_eq_true, false_implies, forall_const, true_implies, reduceCtorEq, and_false, false_and, Bool.not_true, Bool.not_false, if_true, if_false]
  have few := g.few
  exact rt_lst (Bds_all fun x hx => (g.all x hx).2 _) (q vs g.pos (by omega) g.all)
end L2.MW.K49

namespace L2.MW.K49
open PySem PySem.Spec PyProof.Rows L2 L2.MW
/-- one of a few small numbers, by a rest -/
theorem pick {l : List D} {B : Nat} (i : Nat) (h : i < l.length) (al : ∀ x ∈ l, ∃ s : Nat, x = .int (s : Int) ∧ s ≤ B) : ∃ s : Nat, atI l (i : Int) = some (.int (s : Int)) ∧ s ≤ B := by
  obtain ⟨x, hx⟩ := get_lt h
  obtain ⟨s, rfl, hs⟩ := al x (List.mem_of_getElem? hx)
  exact ⟨s, atI_nat hx, hs⟩
theorem row_at {r : List Nat} (i : Nat) (h : i < r.length) : ∃ v : Nat, atI (nats r) (i : Int) = some (.int (v : Int)) := by
  obtain ⟨x, hx⟩ := get_lt h
  exact ⟨x, nats_at hx⟩
theorem order_ok {s : Nat} (hs : s ≤ 39) {keys : List Nat} (hk : keys.length = s) {ns : List Int} (hp : ns.Perm (((List.range s).map fun i => keys.getD i 0 * 64 + i).map fun (k : Nat) => (k : Int))) :
    ∃ o : List Nat, ns.map (fun z => D.int (z % 64)) = nats o ∧ o.length = s ∧ (∀ x ∈ o, x < s) ∧ o.Nodup := by
  let un : Int → Nat := fun z => (z % 64).toNat
  have hm : (ns.map un).Perm (List.range s) := by
    have := hp.map un
    rw [List.map_map, List.map_map] at this
    have e : (List.range s).map ((un ∘ fun (k : Nat) => (k : Int)) ∘ fun i => keys.getD i 0 * 64 + i) = List.range s := by
      conv => rhs; rw [← List.map_id (List.range s)]
      refine List.map_congr_left fun i hi => ?_
      have := List.mem_range.mp hi
      show (((keys.getD i 0 * 64 + i : Nat) : Int) % 64).toNat = i
      omega
    rwa [e] at this
  refine ⟨ns.map un, ?_, ?_, fun x hx => List.mem_range.mp (hm.mem_iff.mp hx), hm.nodup_iff.mpr List.nodup_range⟩
  · unfold nats
    rw [List.map_map]
    refine List.map_congr_left fun z _ => ?_
    show D.int (z % 64) = D.int (((z % 64).toNat : Nat) : Int)
    rw [Int.toNat_of_nonneg (by omega)]
  · rw [hm.length_eq, List.length_range]
theorem ranked_of {n : Nat} {o : List Nat} {ps : List (Nat × Nat)} (ol : o.length = n) (nd : o.Nodup) (h : ∀ p ∈ ps, ∃ i j : Nat, i < j ∧ o[i]? = some p.1 ∧ o[j]? = some p.2) : RankedN n ps := by
  refine ⟨fun x => o.idxOf x, fun p hp => ?_, fun p hp => ?_⟩
  rotate_left
  · obtain ⟨i, j, hij, h1, h2⟩ := h p hp
    obtain ⟨hj, e2⟩ := List.getElem?_eq_some_iff.mp h2
    show o.idxOf p.2 < n
    rw [← e2, nd.idxOf_getElem]
    omega
  obtain ⟨i, j, hij, h1, h2⟩ := h p hp
  obtain ⟨hi, e1⟩ := List.getElem?_eq_some_iff.mp h1
  obtain ⟨hj, e2⟩ := List.getElem?_eq_some_iff.mp h2
  show o.idxOf p.1 < o.idxOf p.2
  rw [← e1, ← e2, nd.idxOf_getElem, nd.idxOf_getElem]
  exact hij
theorem rd_law_parts (ds : List D) (h : DHp) (X : DX) (Q : DK) (hds : ds.length = 1) (c : ct__law_parts ds h X Q) : tb__law_parts (endsD h X Q) (startD N__law_parts.length ds) h := by
  obtain ⟨ns, rfl, hl, q⟩ := c
  simp only [tb__law_parts, startD, sSeq, sNil, sIf, sRet, sRetN, sSet, sAsg, sExpr, sNever, sFor, sNox, sBrk, sCont, sFldD, sAug, sAugS, dVar, dC, dOp, dI0, dII, dNeg, dInv, dAndV, dOrV, dNotV, dTst, dTru, dAnd, dOr, dNot, dIfE, dChn, dCall, dCallK, dMake, aNil, aCons, dTup, dLst, dLstH, dFldC, dCB, dBM, tgN, tgSub, iL, iT, iR1, iR2, DEnds.xx, dLc, dLcH, dYes, dSl, oNon, oSome, nI2, nTup, nLst, nLstH, mApp, wipeD, dIn, dIsN, dNotN, dAddH, dMulH, tru_bl, tru_int, add_int, add_tup, mul_int, len_tup, len_lst, len_fz, ne_int, eq_int, ne_bl, eq_bl, int_int, int_bl, ty_end, asL_lst, asL_fz, asS_tup, asS_lst, asS_fz, tgs_cons_eq, tgs_nil_eq, tg_tup_eq, tg_lst_eq, at_end, set_end, asS_end, asL_end, at_pre, set_pre, ty_pre, dTupRev, List.getElem?_cons_zero, List.getElem?_cons_succ, Option.some.injEq, exists_eq_left', exists_eq_left, exists_and_left, exists_and_right, and_assoc, D.int.injEq, D.bl.injEq, D.str.injEq, D.tup.injEq, D.lst.injEq, D.fz.injEq, D.ref.injEq, HB.lst.injEq, List.cons.injEq, and_true, true_and, List.set_cons_zero, List.set_cons_succ, List.map_cons, List.map_nil, List.length_cons, List.length_nil, Nat.reduceAdd, Nat.reduceSub, Nat.sub_self, Nat.zero_add, List.replicate_zero, List.replicate_succ, List.append_nil, List.cons_append, List.nil_append, decide_eq_true_eq, decide_eq_false_iff_not, Bool.not_eq_true', Bool.not_eq_false', Bool.true_eq_false, Bool.false_eq_true, false_implies, forall_const, true_implies, reduceCtorEq, and_false, false_and, Bool.not_true, Bool.not_false, if_true, if_false]
  refine ⟨ns, 0, 6, 1009, rfl, hl, by decide, by decide, by decide, fun r rl rb => ?_⟩
  obtain ⟨p0, h0⟩ := row_at (r := r) 0 (by omega)
  obtain ⟨p1, h1⟩ := row_at (r := r) 1 (by omega)
  obtain ⟨p2, h2⟩ := row_at (r := r) 2 (by omega)
  obtain ⟨p3, h3⟩ := row_at (r := r) 3 (by omega)
  obtain ⟨p4, h4⟩ := row_at (r := r) 4 (by omega)
  obtain ⟨p5, h5⟩ := row_at (r := r) 5 (by omega)
  have g0 : atI (nats r) 0 = some (.int (p0 : Int)) := h0
  have g1 : atI (nats r) 1 = some (.int (p1 : Int)) := h1
  have g2 : atI (nats r) 2 = some (.int (p2 : Int)) := h2
  have g3 : atI (nats r) 3 = some (.int (p3 : Int)) := h3
  have g4 : atI (nats r) 4 = some (.int (p4 : Int)) := h4
  have g5 : atI (nats r) 5 = some (.int (p5 : Int)) := h5
  have md : ∀ (x k : Nat), (x : Int) % (k : Int) = ((x % k : Nat) : Int) := mod_nat
  obtain ⟨v, hv, vb⟩ := pick (l := [.int 0, .int 1, .int 39, .int 12]) (B := 39) (p0 % 4) (Nat.mod_lt _ (by decide)) (by
    intro x hx
    simp at hx
    rcases hx with rfl | rfl | rfl | rfl
    · exact ⟨0, rfl, by decide⟩
    · exact ⟨1, rfl, by decide⟩
    · exact ⟨39, rfl, by decide⟩
    · exact ⟨12, rfl, by decide⟩)
  obtain ⟨s, hs, sb⟩ := pick (l := [.int ((p0 % 40 : Nat) : Int), .int ((2 + p0 % 6 : Nat) : Int), .int (v : Int)]) (B := 39) (p1 % 3) (Nat.mod_lt _ (by decide)) (by
    intro x hx
    simp only [List.mem_cons, List.not_mem_nil, or_false] at hx
    rcases hx with rfl | rfl | rfl
    · exact ⟨_, rfl, by omega⟩
    · exact ⟨_, rfl, by omega⟩
    · exact ⟨v, rfl, vb⟩)
  have hv' : atI [D.int 0, D.int 1, D.int 39, D.int 12] ((p0 : Int) % 4) = some (.int (v : Int)) := by rw [← hv]; congr 1
  have hs' : atI [D.int ((p0 : Int) % 40), D.int (2 + (p0 : Int) % 6), D.int (v : Int)] ((p1 : Int) % 3) = some (.int (s : Int)) := by rw [← hs]; congr 1
  simp only [sSeq, sNil, sIf, sRet, sRetN, sSet, sAsg, sExpr, sNever, sFor, sNox, sBrk, sCont, sFldD, sAug, sAugS, dVar, dC, dOp, dI0, dII, dNeg, dInv, dAndV, dOrV, dNotV, dTst, dTru, dAnd, dOr, dNot, dIfE, dChn, dCall, dCallK, dMake, aNil, aCons, dTup, dLst, dLstH, dFldC, dCB, dBM, tgN, tgSub, iL, iT, iR1, iR2, DEnds.xx, dLc, dLcH, dYes, dSl, oNon, oSome, nI2, nTup, nLst, nLstH, mApp, wipeD, dIn, dIsN, dNotN, dAddH, dMulH, tru_bl, tru_int, add_int, add_tup, mul_int, len_tup, len_lst, len_fz, ne_int, eq_int, ne_bl, eq_bl, int_int, int_bl, ty_end, asL_lst, asL_fz, asS_tup, asS_lst, asS_fz, tgs_cons_eq, tgs_nil_eq, tg_tup_eq, tg_lst_eq, at_end, set_end, asS_end, asL_end, at_pre, set_pre, ty_pre, dTupRev, List.getElem?_cons_zero, List.getElem?_cons_succ, Option.some.injEq, exists_eq_left', exists_eq_left, exists_and_left, exists_and_right, and_assoc, D.int.injEq, D.bl.injEq, D.str.injEq, D.tup.injEq, D.lst.injEq, D.fz.injEq, D.ref.injEq, HB.lst.injEq, List.cons.injEq, and_true, true_and, List.set_cons_zero, List.set_cons_succ, List.map_cons, List.map_nil, List.length_cons, List.length_nil, Nat.reduceAdd, Nat.reduceSub, Nat.sub_self, Nat.zero_add, List.replicate_zero, List.replicate_succ, List.append_nil, List.cons_append, List.nil_append, decide_eq_true_eq, decide_eq_false_iff_not, Bool.not_eq_true', Bool.not_eq_false', Bool.true_eq_false, Bool.false_eq_true, false_implies, forall_const, true_implies, reduceCtorEq, and_false, false_and, Bool.not_true, Bool.not_false, if_true, if_false, ix_lst g0, ix_lst g1, ix_lst hv', ix_lst hs']
  refine ⟨by decide, by decide, small (by decide), by decide, small (by decide), by decide, ?_⟩
  refine ⟨ns, 1, s, 1009, rfl, hl, by omega, by decide, by decide, fun keys kl kb => ⟨rgOk (by omega), ?_⟩⟩
  rw [Int.toNat_natCast]
  refine lc_map (fun d => .int ((keys.getD (iOf d).toNat 0 * 64 + (iOf d).toNat : Nat) : Int)) (fun _ => true) (rgD 0 s) (fun _ => trivial) (small (by rw [rg_len]; omega)) ?_ ?_
  · intro x hx acc R hla hA hB
    obtain ⟨k, hk, rfl⟩ := rg_mem hx
    have hA' := hA rfl
    rw [iOf_int, Int.toNat_natCast] at hA'
    obtain ⟨y, hy⟩ := get_lt (l := keys) (i := k) (by omega)
    have hy2 : keys.getD k 0 = y := by rw [List.getD_eq_getElem?_getD, hy]; rfl
    rw [hy2] at hA'
    simp only [sSeq, sNil, sIf, sRet, sRetN, sSet, sAsg, sExpr, sNever, sFor, sNox, sBrk, sCont, sFldD, sAug, sAugS, dVar, dC, dOp, dI0, dII, dNeg, dInv, dAndV, dOrV, dNotV, dTst, dTru, dAnd, dOr, dNot, dIfE, dChn, dCall, dCallK, dMake, aNil, aCons, dTup, dLst, dLstH, dFldC, dCB, dBM, tgN, tgSub, iL, iT, iR1, iR2, DEnds.xx, dLc, dLcH, dYes, dSl, oNon, oSome, nI2, nTup, nLst, nLstH, mApp, wipeD, dIn, dIsN, dNotN, dAddH, dMulH, tru_bl, tru_int, add_int, add_tup, mul_int, len_tup, len_lst, len_fz, ne_int, eq_int, ne_bl, eq_bl, int_int, int_bl, ty_end, asL_lst, asL_fz, asS_tup, asS_lst, asS_fz, tgs_cons_eq, tgs_nil_eq, tg_tup_eq, tg_lst_eq, at_end, set_end, asS_end, asL_end, at_pre, set_pre, ty_pre, dTupRev, List.getElem?_cons_zero, List.getElem?_cons_succ, Option.some.injEq, exists_eq_left', exists_eq_left, exists_and_left, exists_and_right, and_assoc, D.int.injEq, D.bl.injEq, D.str.injEq, D.tup.injEq, D.lst.injEq, D.fz.injEq, D.ref.injEq, HB.lst.injEq, List.cons.injEq, and_true, true_and, List.set_cons_zero, List.set_cons_succ, List.map_cons, List.map_nil, List.length_cons, List.length_nil, Nat.reduceAdd, Nat.reduceSub, Nat.sub_self, Nat.zero_add, List.replicate_zero, List.replicate_succ, List.append_nil, List.cons_append, List.nil_append, decide_eq_true_eq, decide_eq_false_iff_not, Bool.not_eq_true', Bool.not_eq_false', Bool.true_eq_false, Bool.false_eq_true, false_implies, forall_const, true_implies, reduceCtorEq, and_false, false_and, Bool.not_true, Bool.not_false, if_true, if_false, ix_lst (nats_at hy)]
    refine ⟨.inr ⟨by decide, by decide⟩, hla, ?_⟩
    have e : (y : Int) * 64 + (k : Int) = ((y * 64 + k : Nat) : Int) := by push_cast; rfl
    rw [e]
    exact hA'
  have e1 : lcF (fun d => D.int ((keys.getD (iOf d).toNat 0 * 64 + (iOf d).toNat : Nat) : Int)) (fun _ => true) (rgD 0 s) = (((List.range s).map fun i => keys.getD i 0 * 64 + i).map fun (k : Nat) => (k : Int)).map D.int := by
    rw [rg_nats]
    unfold lcF nats
    rw [List.filter_eq_self.mpr (fun _ _ => rfl), List.map_map, List.map_map, List.map_map]
    rfl
  rw [e1]
  refine ⟨_, rfl, Bds.ints, _, _, rfl, rfl, fun zs hp hsort => ?_⟩
  obtain ⟨o, eo, ol, ob, ond⟩ := order_ok sb kl hp
  simp only [sSeq, sNil, sIf, sRet, sRetN, sSet, sAsg, sExpr, sNever, sFor, sNox, sBrk, sCont, sFldD, sAug, sAugS, dVar, dC, dOp, dI0, dII, dNeg, dInv, dAndV, dOrV, dNotV, dTst, dTru, dAnd, dOr, dNot, dIfE, dChn, dCall, dCallK, dMake, aNil, aCons, dTup, dLst, dLstH, dFldC, dCB, dBM, tgN, tgSub, iL, iT, iR1, iR2, DEnds.xx, dLc, dLcH, dYes, dSl, oNon, oSome, nI2, nTup, nLst, nLstH, mApp, wipeD, dIn, dIsN, dNotN, dAddH, dMulH, tru_bl, tru_int, add_int, add_tup, mul_int, len_tup, len_lst, len_fz, ne_int, eq_int, ne_bl, eq_bl, int_int, int_bl, ty_end, asL_lst, asL_fz, asS_tup, asS_lst, asS_fz, tgs_cons_eq, tgs_nil_eq, tg_tup_eq, tg_lst_eq, at_end, set_end, asS_end, asL_end, at_pre, set_pre, ty_pre, dTupRev, List.getElem?_cons_zero, List.getElem?_cons_succ, Option.some.injEq, exists_eq_left', exists_eq_left, exists_and_left, exists_and_right, and_assoc, D.int.injEq, D.bl.injEq, D.str.injEq, D.tup.injEq, D.lst.injEq, D.fz.injEq, D.ref.injEq, HB.lst.injEq, List.cons.injEq, and_true, true_and, List.set_cons_zero, List.set_cons_succ, List.map_cons, List.map_nil, List.length_cons, List.length_nil, Nat.reduceAdd, Nat.reduceSub, Nat.sub_self, Nat.zero_add, List.replicate_zero, List.replicate_succ, List.append_nil, List.cons_append, List.nil_append, decide_eq_true_eq, decide_eq_false_iff_not, Bool.not_eq_true', Bool.not_eq_false', Bool.true_eq_false, Bool.false_eq_true, false_implies, forall_const, true_implies, reduceCtorEq, and_false, false_and, Bool.not_true, Bool.not_false, if_true, if_false]
  have zl : zs.length ≤ 39 := by
    have := hp.length_eq
    rw [List.length_map, List.length_map, List.length_range] at this
    omega
  refine lc_map (fun d => .int (iOf d % 64)) (fun _ => true) (zs.map D.int) (fun _ => rfl) (small (by rw [List.length_map]; omega)) ?_ ?_
  · intro x hx acc R hla hA hB
    obtain ⟨k, hk, rfl⟩ := List.mem_map.mp hx
    have hA' := hA rfl
    rw [iOf_int] at hA'
    simp only [sSeq, sNil, sIf, sRet, sRetN, sSet, sAsg, sExpr, sNever, sFor, sNox, sBrk, sCont, sFldD, sAug, sAugS, dVar, dC, dOp, dI0, dII, dNeg, dInv, dAndV, dOrV, dNotV, dTst, dTru, dAnd, dOr, dNot, dIfE, dChn, dCall, dCallK, dMake, aNil, aCons, dTup, dLst, dLstH, dFldC, dCB, dBM, tgN, tgSub, iL, iT, iR1, iR2, DEnds.xx, dLc, dLcH, dYes, dSl, oNon, oSome, nI2, nTup, nLst, nLstH, mApp, wipeD, dIn, dIsN, dNotN, dAddH, dMulH, tru_bl, tru_int, add_int, add_tup, mul_int, len_tup, len_lst, len_fz, ne_int, eq_int, ne_bl, eq_bl, int_int, int_bl, ty_end, asL_lst, asL_fz, asS_tup, asS_lst, asS_fz, tgs_cons_eq, tgs_nil_eq, tg_tup_eq, tg_lst_eq, at_end, set_end, asS_end, asL_end, at_pre, set_pre, ty_pre, dTupRev, List.getElem?_cons_zero, List.getElem?_cons_succ, Option.some.injEq, exists_eq_left', exists_eq_left, exists_and_left, exists_and_right, and_assoc, D.int.injEq, D.bl.injEq, D.str.injEq, D.tup.injEq, D.lst.injEq, D.fz.injEq, D.ref.injEq, HB.lst.injEq, List.cons.injEq, and_true, true_and, List.set_cons_zero, List.set_cons_succ, List.map_cons, List.map_nil, List.length_cons, List.length_nil, Nat.reduceAdd, Nat.reduceSub, Nat.sub_self, Nat.zero_add, List.replicate_zero, List.replicate_succ, List.append_nil, List.cons_append, List.nil_append, decide_eq_true_eq, decide_eq_false_iff_not, Bool.not_eq_true', Bool.not_eq_false', Bool.true_eq_false, Bool.false_eq_true, false_implies, forall_const, true_implies, reduceCtorEq, and_false, false_and, Bool.not_true, Bool.not_false, if_true, if_false]
    exact ⟨by decide, hla, hA'⟩
  have e2 : lcF (fun d => D.int (iOf d % 64)) (fun _ => true) (zs.map D.int) = nats o := by
    rw [← eo]
    unfold lcF
    rw [List.filter_eq_self.mpr (fun _ _ => rfl), List.map_map]
    rfl
  rw [e2]
  refine ⟨_, rfl, Bds_nats, ?_⟩
  obtain ⟨mc, hmc, mcb⟩ := pick (l := [.int ((p2 % 10 : Nat) : Int), .int ((p2 % 64 : Nat) : Int)]) (B := 63) (p3 % 2) (Nat.mod_lt _ (by decide)) (by
    intro x hx
    simp only [List.mem_cons, List.not_mem_nil, or_false] at hx
    rcases hx with rfl | rfl
    · exact ⟨_, rfl, by omega⟩
    · exact ⟨_, rfl, by omega⟩)
  have hmc' : atI [D.int ((p2 : Int) % 10), D.int ((p2 : Int) % 64)] ((p3 : Int) % 2) = some (.int (mc : Int)) := by rw [← hmc]; congr 1
  simp only [sSeq, sNil, sIf, sRet, sRetN, sSet, sAsg, sExpr, sNever, sFor, sNox, sBrk, sCont, sFldD, sAug, sAugS, dVar, dC, dOp, dI0, dII, dNeg, dInv, dAndV, dOrV, dNotV, dTst, dTru, dAnd, dOr, dNot, dIfE, dChn, dCall, dCallK, dMake, aNil, aCons, dTup, dLst, dLstH, dFldC, dCB, dBM, tgN, tgSub, iL, iT, iR1, iR2, DEnds.xx, dLc, dLcH, dYes, dSl, oNon, oSome, nI2, nTup, nLst, nLstH, mApp, wipeD, dIn, dIsN, dNotN, dAddH, dMulH, tru_bl, tru_int, add_int, add_tup, mul_int, len_tup, len_lst, len_fz, ne_int, eq_int, ne_bl, eq_bl, int_int, int_bl, ty_end, asL_lst, asL_fz, asS_tup, asS_lst, asS_fz, tgs_cons_eq, tgs_nil_eq, tg_tup_eq, tg_lst_eq, at_end, set_end, asS_end, asL_end, at_pre, set_pre, ty_pre, dTupRev, List.getElem?_cons_zero, List.getElem?_cons_succ, Option.some.injEq, exists_eq_left', exists_eq_left, exists_and_left, exists_and_right, and_assoc, D.int.injEq, D.bl.injEq, D.str.injEq, D.tup.injEq, D.lst.injEq, D.fz.injEq, D.ref.injEq, HB.lst.injEq, List.cons.injEq, and_true, true_and, List.set_cons_zero, List.set_cons_succ, List.map_cons, List.map_nil, List.length_cons, List.length_nil, Nat.reduceAdd, Nat.reduceSub, Nat.sub_self, Nat.zero_add, List.replicate_zero, List.replicate_succ, List.append_nil, List.cons_append, List.nil_append, decide_eq_true_eq, decide_eq_false_iff_not, Bool.not_eq_true', Bool.not_eq_false', Bool.true_eq_false, Bool.false_eq_true, false_implies, forall_const, true_implies, reduceCtorEq, and_false, false_and, Bool.not_true, Bool.not_false, if_true, if_false, ix_lst g2, ix_lst g3, ix_lst hmc']
  refine ⟨by decide, by decide, small (by decide), by decide, ?_⟩
  refine ⟨ns, 2, mc, 1600, rfl, hl, by omega, by decide, by decide, fun r2 r2l r2b => ?_⟩
  refine ⟨r2, s, o, rfl, by omega, ol, sb, ob, ond, fun cs cok cr => ?_⟩
  obtain ⟨mf, hmf, mfb⟩ := pick (l := [.int ((p4 % 6 : Nat) : Int), .int ((p4 % 64 : Nat) : Int), .int ((p4 % 20 : Nat) : Int)]) (B := 63) (p5 % 3) (Nat.mod_lt _ (by decide)) (by
    intro x hx
    simp only [List.mem_cons, List.not_mem_nil, or_false] at hx
    rcases hx with rfl | rfl | rfl
    · exact ⟨_, rfl, by omega⟩
    · exact ⟨_, rfl, by omega⟩
    · exact ⟨_, rfl, by omega⟩)
  have hmf' : atI [D.int ((p4 : Int) % 6), D.int ((p4 : Int) % 64), D.int ((p4 : Int) % 20)] ((p5 : Int) % 3) = some (.int (mf : Int)) := by rw [← hmf]; congr 1
  simp only [sSeq, sNil, sIf, sRet, sRetN, sSet, sAsg, sExpr, sNever, sFor, sNox, sBrk, sCont, sFldD, sAug, sAugS, dVar, dC, dOp, dI0, dII, dNeg, dInv, dAndV, dOrV, dNotV, dTst, dTru, dAnd, dOr, dNot, dIfE, dChn, dCall, dCallK, dMake, aNil, aCons, dTup, dLst, dLstH, dFldC, dCB, dBM, tgN, tgSub, iL, iT, iR1, iR2, DEnds.xx, dLc, dLcH, dYes, dSl, oNon, oSome, nI2, nTup, nLst, nLstH, mApp, wipeD, dIn, dIsN, dNotN, dAddH, dMulH, tru_bl, tru_int, add_int, add_tup, mul_int, len_tup, len_lst, len_fz, ne_int, eq_int, ne_bl, eq_bl, int_int, int_bl, ty_end, asL_lst, asL_fz, asS_tup, asS_lst, asS_fz, tgs_cons_eq, tgs_nil_eq, tg_tup_eq, tg_lst_eq, at_end, set_end, asS_end, asL_end, at_pre, set_pre, ty_pre, dTupRev, List.getElem?_cons_zero, List.getElem?_cons_succ, Option.some.injEq, exists_eq_left', exists_eq_left, exists_and_left, exists_and_right, and_assoc, D.int.injEq, D.bl.injEq, D.str.injEq, D.tup.injEq, D.lst.injEq, D.fz.injEq, D.ref.injEq, HB.lst.injEq, List.cons.injEq, and_true, true_and, List.set_cons_zero, List.set_cons_succ, List.map_cons, List.map_nil, List.length_cons, List.length_nil, Nat.reduceAdd, Nat.reduceSub, Nat.sub_self, Nat.zero_add, List.replicate_zero, List.replicate_succ, List.append_nil, List.cons_append, List.nil_append, decide_eq_true_eq, decide_eq_false_iff_not, Bool.not_eq_true', Bool.not_eq_false', Bool.true_eq_false, Bool.false_eq_true, false_implies, forall_const, true_implies, reduceCtorEq, and_false, false_and, Bool.not_true, Bool.not_false, if_true, if_false, ix_lst g4, ix_lst g5, ix_lst hmf']
  refine ⟨by decide, by decide, by decide, small (by decide), by decide, ?_⟩
  refine ⟨ns, 3, mf, 1600, rfl, hl, by omega, by decide, by decide, fun r3 r3l r3b => ⟨rgOk (by omega), ?_⟩⟩
  refine lc_map (fun d => d) (fun _ => true) (rgD 0 s) (fun _ => trivial) (small (by rw [rg_len]; omega)) ?_ ?_
  · intro x hx acc R hl hA hB
    simp only [sSeq, sNil, sIf, sRet, sRetN, sSet, sAsg, sExpr, sNever, sFor, sNox, sBrk, sCont, sFldD, sAug, sAugS, dVar, dC, dOp, dI0, dII, dNeg, dInv, dAndV, dOrV, dNotV, dTst, dTru, dAnd, dOr, dNot, dIfE, dChn, dCall, dCallK, dMake, aNil, aCons, dTup, dLst, dLstH, dFldC, dCB, dBM, tgN, tgSub, iL, iT, iR1, iR2, DEnds.xx, dLc, dLcH, dYes, dSl, oNon, oSome, nI2, nTup, nLst, nLstH, mApp, wipeD, dIn, dIsN, dNotN, dAddH, dMulH, tru_bl, tru_int, add_int, add_tup, mul_int, len_tup, len_lst, len_fz, ne_int, eq_int, ne_bl, eq_bl, int_int, int_bl, ty_end, asL_lst, asL_fz, asS_tup, asS_lst, asS_fz, tgs_cons_eq, tgs_nil_eq, tg_tup_eq, tg_lst_eq, at_end, set_end, asS_end, asL_end, at_pre, set_pre, ty_pre, dTupRev, List.getElem?_cons_zero, List.getElem?_cons_succ, Option.some.injEq, exists_eq_left', exists_eq_left, exists_and_left, exists_and_right, and_assoc, D.int.injEq, D.bl.injEq, D.str.injEq, D.tup.injEq, D.lst.injEq, D.fz.injEq, D.ref.injEq, HB.lst.injEq, List.cons.injEq, and_true, true_and, List.set_cons_zero, List.set_cons_succ, List.map_cons, List.map_nil, List.length_cons, List.length_nil, Nat.reduceAdd, Nat.reduceSub, Nat.sub_self, Nat.zero_add, List.replicate_zero, List.replicate_succ, List.append_nil, List.cons_append, List.nil_append, decide_eq_true_eq, decide_eq_false_iff_not, Bool.not_eq_true', Bool.not_eq_false', Bool.true_eq_false, Bool.false_eq_true, false_implies, forall_const, true_implies, reduceCtorEq, and_false, false_and, Bool.not_true, Bool.not_false, if_true, if_false]
    exact ⟨hl, hA rfl⟩
  have e3 : lcF (fun d => d) (fun _ => true) (rgD 0 s) = nats (List.range s) := by
    rw [rg_nats]
    unfold lcF
    rw [List.filter_eq_self.mpr (fun _ _ => rfl), List.map_id']
  rw [e3]
  refine ⟨_, rfl, Bds_nats, ?_⟩
  refine ⟨r3, s, List.range s, rfl, by omega, List.length_range, sb, fun x hx => List.mem_range.mp hx, List.nodup_range, fun fs fok fr => ?_⟩
  simp only [sSeq, sNil, sIf, sRet, sRetN, sSet, sAsg, sExpr, sNever, sFor, sNox, sBrk, sCont, sFldD, sAug, sAugS, dVar, dC, dOp, dI0, dII, dNeg, dInv, dAndV, dOrV, dNotV, dTst, dTru, dAnd, dOr, dNot, dIfE, dChn, dCall, dCallK, dMake, aNil, aCons, dTup, dLst, dLstH, dFldC, dCB, dBM, tgN, tgSub, iL, iT, iR1, iR2, DEnds.xx, dLc, dLcH, dYes, dSl, oNon, oSome, nI2, nTup, nLst, nLstH, mApp, wipeD, dIn, dIsN, dNotN, dAddH, dMulH, tru_bl, tru_int, add_int, add_tup, mul_int, len_tup, len_lst, len_fz, ne_int, eq_int, ne_bl, eq_bl, int_int, int_bl, ty_end, asL_lst, asL_fz, asS_tup, asS_lst, asS_fz, tgs_cons_eq, tgs_nil_eq, tg_tup_eq, tg_lst_eq, at_end, set_end, asS_end, asL_end, at_pre, set_pre, ty_pre, dTupRev, List.getElem?_cons_zero, List.getElem?_cons_succ, Option.some.injEq, exists_eq_left', exists_eq_left, exists_and_left, exists_and_right, and_assoc, D.int.injEq, D.bl.injEq, D.str.injEq, D.tup.injEq, D.lst.injEq, D.fz.injEq, D.ref.injEq, HB.lst.injEq, List.cons.injEq, and_true, true_and, List.set_cons_zero, List.set_cons_succ, List.map_cons, List.map_nil, List.length_cons, List.length_nil, Nat.reduceAdd, Nat.reduceSub, Nat.sub_self, Nat.zero_add, List.replicate_zero, List.replicate_succ, List.append_nil, List.cons_append, List.nil_append, decide_eq_true_eq, decide_eq_false_iff_not, Bool.not_eq_true', Bool.not_eq_false', Bool.true_eq_false, Bool.false_eq_true, false_implies, forall_const, true_implies, reduceCtorEq, and_false, false_and, Bool.not_true, Bool.not_false, if_true, if_false]
  refine ⟨small (by decide), rt_keep (q s cs fs sb cok (ranked_of ol ond cr) fok fun p hp => ?_)⟩
  obtain ⟨i, j, hij, h1, h2⟩ := fr p hp
  obtain ⟨hi, e1⟩ := List.getElem?_eq_some_iff.mp h1
  obtain ⟨hj, e2⟩ := List.getElem?_eq_some_iff.mp h2
  rw [List.getElem_range] at e1 e2
  omega
end L2.MW.K49

namespace L2.MW.K49
open PySem PySem.Spec PyProof.Rows L2 L2.MW
theorem cut_nats (r : List Nat) (lo hi : Option Int) : ∃ r' : List Nat, cutD (nats r) lo hi = nats r' ∧ r'.length ≤ r.length := by
  unfold cutD nats
  rw [← List.map_drop, ← List.map_take]
  exact ⟨_, rfl, by rw [List.length_take, List.length_drop]; omega⟩
theorem deq_prs (ps : List (Nat × Nat)) : deq (.tup (prs ps)) (.tup (prs ps)) = true := by
  show PyData.eqv (.tuple (toPs (prs ps))) (.tuple (toPs (prs ps))) = true
  have : PyData.eqvAll (toPs (prs ps)) (toPs (prs ps)) = true := by
    induction ps with
    | nil => rfl
    | cons p r ih =>
      show PyData.eqvAll (toP (prN p) :: toPs (prs r)) (toP (prN p) :: toPs (prs r)) = true
      have e := deq_pr p p
      simp only [decide_true] at e
      have e' : PyData.eqv (toP (prN p)) (toP (prN p)) = true := e
      simp [PyData.eqvAll, e', ih]
  simp [PyData.eqv, this]
theorem ok_prs (ps : List (Nat × Nat)) : OkD 60 (.tup (prs ps)) := fun x hx => by
  obtain ⟨p, _, rfl⟩ := List.mem_map.mp hx
  exact OkD.ints (n := 58) (l := [(p.1 : Int), (p.2 : Int)])
theorem st_ok {n : Nat} {cs fs : List (Nat × Nat)} {m : Nat} (cok : PrOk n cs) (fok : PrOk n fs) (st : StM n cs fs m) : okB n cs fs (.tup (nats ((List.range n).filter fun k => m.testBit k))) = true := by
  have mem : ∀ {k : Nat}, k ∈ ((List.range n).filter fun k => m.testBit k) ↔ k < n ∧ m.testBit k = true := by
    intro k; rw [List.mem_filter, List.mem_range]
  refine (okB_iff (subs_of (fun x hx => ⟨by omega, (mem.mp hx).1⟩) (List.pairwise_lt_range.filter _))).mpr ⟨fun p hp z => ?_, fun p hp z => ?_⟩
  · exact mem.mpr ⟨(cok.bd p hp).1, st.ca p hp (mem.mp z).2⟩
  · exact st.cf p hp ⟨(mem.mp z.1).2, (mem.mp z.2).2⟩
theorem nil_ok {n : Nat} {cs fs : List (Nat × Nat)} : okB n cs fs (.tup (nats [])) = true := by
  refine (okB_iff rfl).mpr ⟨fun p _ z => absurd z List.not_mem_nil, fun p _ z => absurd z.1 List.not_mem_nil⟩
theorem rd_law_asked (ds : List D) (h : DHp) (X : DX) (Q : DK) (hds : ds.length = 1) (c : ct__law_asked ds h X Q) : tb__law_asked (endsD h X Q) (startD N__law_asked.length ds) h := by
  obtain ⟨ns, rfl, hl, q⟩ := c
  simp only [tb__law_asked, startD, sSeq, sNil, sIf, sRet, sRetN, sSet, sAsg, sExpr, sNever, sFor, sNox, sBrk, sCont, sFldD, sAug, sAugS, dVar, dC, dOp, dI0, dII, dNeg, dInv, dAndV, dOrV, dNotV, dTst, dTru, dAnd, dOr, dNot, dIfE, dChn, dCall, dCallK, dMake, aNil, aCons, dTup, dLst, dLstH, dFldC, dCB, dBM, tgN, tgSub, iL, iT, iR1, iR2, DEnds.xx, dLc, dLcH, dYes, dSl, oNon, oSome, nI2, nTup, nLst, nLstH, mApp, wipeD, dIn, dIsN, dNotN, dAddH, dMulH, tru_bl, tru_int, add_int, add_tup, mul_int, len_tup, len_lst, len_fz, ne_int, eq_int, ne_bl, eq_bl, int_int, int_bl, ty_end, asL_lst, asL_fz, asS_tup, asS_lst, asS_fz, tgs_cons_eq, tgs_nil_eq, tg_tup_eq, tg_lst_eq, at_end, set_end, asS_end, asL_end, at_pre, set_pre, ty_pre, dTupRev, List.getElem?_cons_zero, List.getElem?_cons_succ, Option.some.injEq, exists_eq_left', exists_eq_left, exists_and_left, exists_and_right, and_assoc, D.int.injEq, D.bl.injEq, D.str.injEq, D.tup.injEq, D.lst.injEq, D.fz.injEq, D.ref.injEq, HB.lst.injEq, List.cons.injEq, and_true, true_and, List.set_cons_zero, List.set_cons_succ, List.map_cons, List.map_nil, List.length_cons, List.length_nil, Nat.reduceAdd, Nat.reduceSub, Nat.sub_self, Nat.zero_add, List.replicate_zero, List.replicate_succ, List.append_nil, List.cons_append, List.nil_append, decide_eq_true_eq, decide_eq_false_iff_not, Bool.not_eq_true', Bool.not_eq_false', Bool.true_eq_false, Bool.false_eq_true, false_implies, forall_const, true_implies, reduceCtorEq, and_false, false_and, Bool.not_true, Bool.not_false, if_true, if_false]
  refine ⟨ns, rfl, hl, fun n cs fs hn cok rk fok fr => ?_⟩
  simp only [sSeq, sNil, sIf, sRet, sRetN, sSet, sAsg, sExpr, sNever, sFor, sNox, sBrk, sCont, sFldD, sAug, sAugS, dVar, dC, dOp, dI0, dII, dNeg, dInv, dAndV, dOrV, dNotV, dTst, dTru, dAnd, dOr, dNot, dIfE, dChn, dCall, dCallK, dMake, aNil, aCons, dTup, dLst, dLstH, dFldC, dCB, dBM, tgN, tgSub, iL, iT, iR1, iR2, DEnds.xx, dLc, dLcH, dYes, dSl, oNon, oSome, nI2, nTup, nLst, nLstH, mApp, wipeD, dIn, dIsN, dNotN, dAddH, dMulH, tru_bl, tru_int, add_int, add_tup, mul_int, len_tup, len_lst, len_fz, ne_int, eq_int, ne_bl, eq_bl, int_int, int_bl, ty_end, asL_lst, asL_fz, asS_tup, asS_lst, asS_fz, tgs_cons_eq, tgs_nil_eq, tg_tup_eq, tg_lst_eq, at_end, set_end, asS_end, asL_end, at_pre, set_pre, ty_pre, dTupRev, List.getElem?_cons_zero, List.getElem?_cons_succ, Option.some.injEq, exists_eq_left', exists_eq_left, exists_and_left, exists_and_right, and_assoc, D.int.injEq, D.bl.injEq, D.str.injEq, D.tup.injEq, D.lst.injEq, D.fz.injEq, D.ref.injEq, HB.lst.injEq, List.cons.injEq, and_true, true_and, List.set_cons_zero, List.set_cons_succ, List.map_cons, List.map_nil, List.length_cons, List.length_nil, Nat.reduceAdd, Nat.reduceSub, Nat.sub_self, Nat.zero_add, List.replicate_zero, List.replicate_succ, List.append_nil, List.cons_append, List.nil_append, decide_eq_true_eq, decide_eq_false_iff_not, Bool.not_eq_true', Bool.not_eq_false', Bool.true_eq_false, Bool.false_eq_true, false_implies, forall_const, true_implies, reduceCtorEq, and_false, false_and, Bool.not_true, Bool.not_false, if_true, if_false]
  refine ⟨ns, 4, 28, 1009, rfl, hl, by decide, by decide, by decide, fun r rl rb => ?_⟩
  have f1 : ∀ {Q : DK} {h : DHp}, nFld fc_many "many" (.obj "Events" (evD n cs fs)) h Q ↔ Q (.int n) h := fld_eq (by decide) rfl
  have f2 : ∀ {Q : DK} {h : DHp}, nFld fc_causes "causes" (.obj "Events" (evD n cs fs)) h Q ↔ Q (.tup (prs cs)) h := fld_eq (by decide) rfl
  have f3 : ∀ {Q : DK} {h : DHp}, nFld fc_conflicts "conflicts" (.obj "Events" (evD n cs fs)) h Q ↔ Q (.tup (prs fs)) h := fld_eq (by decide) rfl
  refine ⟨n, cs, rfl, hn, cok, rk, fun ms nd => ?_⟩
  obtain ⟨a0, ha0⟩ := get_lt (l := r) (i := 0) (by omega)
  obtain ⟨a1, ha1⟩ := get_lt (l := r) (i := 1) (by omega)
  obtain ⟨a2, ha2⟩ := get_lt (l := r) (i := 2) (by omega)
  have g0 : atI (nats r) 0 = some (.int (a0 : Int)) := nats_at (e := 0) ha0
  have g1 : atI (nats r) 1 = some (.int (a1 : Int)) := nats_at (e := 1) ha1
  have g2 : atI (nats r) 2 = some (.int (a2 : Int)) := nats_at (e := 2) ha2
  simp only [ix_lst g0, sSeq, sNil, sIf, sRet, sRetN, sSet, sAsg, sExpr, sNever, sFor, sNox, sBrk, sCont, sFldD, sAug, sAugS, dVar, dC, dOp, dI0, dII, dNeg, dInv, dAndV, dOrV, dNotV, dTst, dTru, dAnd, dOr, dNot, dIfE, dChn, dCall, dCallK, dMake, aNil, aCons, dTup, dLst, dLstH, dFldC, dCB, dBM, tgN, tgSub, iL, iT, iR1, iR2, DEnds.xx, dLc, dLcH, dYes, dSl, oNon, oSome, nI2, nTup, nLst, nLstH, mApp, wipeD, dIn, dIsN, dNotN, dAddH, dMulH, tru_bl, tru_int, add_int, add_tup, mul_int, len_tup, len_lst, len_fz, ne_int, eq_int, ne_bl, eq_bl, int_int, int_bl, ty_end, asL_lst, asL_fz, asS_tup, asS_lst, asS_fz, tgs_cons_eq, tgs_nil_eq, tg_tup_eq, tg_lst_eq, at_end, set_end, asS_end, asL_end, at_pre, set_pre, ty_pre, dTupRev, List.getElem?_cons_zero, List.getElem?_cons_succ, Option.some.injEq, exists_eq_left', exists_eq_left, exists_and_left, exists_and_right, and_assoc, D.int.injEq, D.bl.injEq, D.str.injEq, D.tup.injEq, D.lst.injEq, D.fz.injEq, D.ref.injEq, HB.lst.injEq, List.cons.injEq, and_true, true_and, List.set_cons_zero, List.set_cons_succ, List.map_cons, List.map_nil, List.length_cons, List.length_nil, Nat.reduceAdd, Nat.reduceSub, Nat.sub_self, Nat.zero_add, List.replicate_zero, List.replicate_succ, List.append_nil, List.cons_append, List.nil_append, decide_eq_true_eq, decide_eq_false_iff_not, Bool.not_eq_true', Bool.not_eq_false', Bool.true_eq_false, Bool.false_eq_true, false_implies, forall_const, true_implies, reduceCtorEq, and_false, false_and, Bool.not_true, Bool.not_false, if_true, if_false]
  obtain ⟨r1, er1, rl1⟩ := cut_nats r (some 4) (some (4 + (a0 : Int) % 13))
  rw [er1]
  refine ⟨by decide, n, cs, fs, ms, r1, rfl, hn, cok, fok, nd, fun m1 st1 => ?_⟩
  simp only [ix_lst g1, sSeq, sNil, sIf, sRet, sRetN, sSet, sAsg, sExpr, sNever, sFor, sNox, sBrk, sCont, sFldD, sAug, sAugS, dVar, dC, dOp, dI0, dII, dNeg, dInv, dAndV, dOrV, dNotV, dTst, dTru, dAnd, dOr, dNot, dIfE, dChn, dCall, dCallK, dMake, aNil, aCons, dTup, dLst, dLstH, dFldC, dCB, dBM, tgN, tgSub, iL, iT, iR1, iR2, DEnds.xx, dLc, dLcH, dYes, dSl, oNon, oSome, nI2, nTup, nLst, nLstH, mApp, wipeD, dIn, dIsN, dNotN, dAddH, dMulH, tru_bl, tru_int, add_int, add_tup, mul_int, len_tup, len_lst, len_fz, ne_int, eq_int, ne_bl, eq_bl, int_int, int_bl, ty_end, asL_lst, asL_fz, asS_tup, asS_lst, asS_fz, tgs_cons_eq, tgs_nil_eq, tg_tup_eq, tg_lst_eq, at_end, set_end, asS_end, asL_end, at_pre, set_pre, ty_pre, dTupRev, List.getElem?_cons_zero, List.getElem?_cons_succ, Option.some.injEq, exists_eq_left', exists_eq_left, exists_and_left, exists_and_right, and_assoc, D.int.injEq, D.bl.injEq, D.str.injEq, D.tup.injEq, D.lst.injEq, D.fz.injEq, D.ref.injEq, HB.lst.injEq, List.cons.injEq, and_true, true_and, List.set_cons_zero, List.set_cons_succ, List.map_cons, List.map_nil, List.length_cons, List.length_nil, Nat.reduceAdd, Nat.reduceSub, Nat.sub_self, Nat.zero_add, List.replicate_zero, List.replicate_succ, List.append_nil, List.cons_append, List.nil_append, decide_eq_true_eq, decide_eq_false_iff_not, Bool.not_eq_true', Bool.not_eq_false', Bool.true_eq_false, Bool.false_eq_true, false_implies, forall_const, true_implies, reduceCtorEq, and_false, false_and, Bool.not_true, Bool.not_false, if_true, if_false]
  obtain ⟨r2, er2, rl2⟩ := cut_nats r (some 16) (some (16 + (a1 : Int) % 9))
  rw [er2]
  refine ⟨small (by decide), by decide, n, cs, fs, ms, r2, rfl, hn, cok, fok, nd, fun m2 st2 => ?_⟩
  have i0 : ∀ {Q : DK}, dIx (.ref h.length) (.int 0) (h ++ [.lst [D.int (m1 : Int), D.int (m2 : Int)]]) Q ↔ Q (.int (m1 : Int)) (h ++ [.lst [D.int (m1 : Int), D.int (m2 : Int)]]) := ix_ref at_end atI_0
  have i1 : ∀ {Q : DK}, dIx (.ref h.length) (.int 1) (h ++ [.lst [D.int (m1 : Int), D.int (m2 : Int)]]) Q ↔ Q (.int (m2 : Int)) (h ++ [.lst [D.int (m1 : Int), D.int (m2 : Int)]]) := ix_ref at_end atI_1
  simp only [sSeq, sNil, sIf, sRet, sRetN, sSet, sAsg, sExpr, sNever, sFor, sNox, sBrk, sCont, sFldD, sAug, sAugS, dVar, dC, dOp, dI0, dII, dNeg, dInv, dAndV, dOrV, dNotV, dTst, dTru, dAnd, dOr, dNot, dIfE, dChn, dCall, dCallK, dMake, aNil, aCons, dTup, dLst, dLstH, dFldC, dCB, dBM, tgN, tgSub, iL, iT, iR1, iR2, DEnds.xx, dLc, dLcH, dYes, dSl, oNon, oSome, nI2, nTup, nLst, nLstH, mApp, wipeD, dIn, dIsN, dNotN, dAddH, dMulH, tru_bl, tru_int, add_int, add_tup, mul_int, len_tup, len_lst, len_fz, ne_int, eq_int, ne_bl, eq_bl, int_int, int_bl, ty_end, asL_lst, asL_fz, asS_tup, asS_lst, asS_fz, tgs_cons_eq, tgs_nil_eq, tg_tup_eq, tg_lst_eq, at_end, set_end, asS_end, asL_end, at_pre, set_pre, ty_pre, dTupRev, List.getElem?_cons_zero, List.getElem?_cons_succ, Option.some.injEq, exists_eq_left', exists_eq_left, exists_and_left, exists_and_right, and_assoc, D.int.injEq, D.bl.injEq, D.str.injEq, D.tup.injEq, D.lst.injEq, D.fz.injEq, D.ref.injEq, HB.lst.injEq, List.cons.injEq, and_true, true_and, List.set_cons_zero, List.set_cons_succ, List.map_cons, List.map_nil, List.length_cons, List.length_nil, Nat.reduceAdd, Nat.reduceSub, Nat.sub_self, Nat.zero_add, List.replicate_zero, List.replicate_succ, List.append_nil, List.cons_append, List.nil_append, decide_eq_true_eq, decide_eq_false_iff_not, Bool.not_eq_true', Bool.not_eq_false', Bool.true_eq_false, Bool.false_eq_true, false_implies, forall_const, true_implies, reduceCtorEq, and_false, false_and, Bool.not_true, Bool.not_false, if_true, if_false, i0, i1]
  refine ⟨smallL (by decide), n, m1, rfl, hn, ?_⟩
  simp only [sSeq, sNil, sIf, sRet, sRetN, sSet, sAsg, sExpr, sNever, sFor, sNox, sBrk, sCont, sFldD, sAug, sAugS, dVar, dC, dOp, dI0, dII, dNeg, dInv, dAndV, dOrV, dNotV, dTst, dTru, dAnd, dOr, dNot, dIfE, dChn, dCall, dCallK, dMake, aNil, aCons, dTup, dLst, dLstH, dFldC, dCB, dBM, tgN, tgSub, iL, iT, iR1, iR2, DEnds.xx, dLc, dLcH, dYes, dSl, oNon, oSome, nI2, nTup, nLst, nLstH, mApp, wipeD, dIn, dIsN, dNotN, dAddH, dMulH, tru_bl, tru_int, add_int, add_tup, mul_int, len_tup, len_lst, len_fz, ne_int, eq_int, ne_bl, eq_bl, int_int, int_bl, ty_end, asL_lst, asL_fz, asS_tup, asS_lst, asS_fz, tgs_cons_eq, tgs_nil_eq, tg_tup_eq, tg_lst_eq, at_end, set_end, asS_end, asL_end, at_pre, set_pre, ty_pre, dTupRev, List.getElem?_cons_zero, List.getElem?_cons_succ, Option.some.injEq, exists_eq_left', exists_eq_left, exists_and_left, exists_and_right, and_assoc, D.int.injEq, D.bl.injEq, D.str.injEq, D.tup.injEq, D.lst.injEq, D.fz.injEq, D.ref.injEq, HB.lst.injEq, List.cons.injEq, and_true, true_and, List.set_cons_zero, List.set_cons_succ, List.map_cons, List.map_nil, List.length_cons, List.length_nil, Nat.reduceAdd, Nat.reduceSub, Nat.sub_self, Nat.zero_add, List.replicate_zero, List.replicate_succ, List.append_nil, List.cons_append, List.nil_append, decide_eq_true_eq, decide_eq_false_iff_not, Bool.not_eq_true', Bool.not_eq_false', Bool.true_eq_false, Bool.false_eq_true, false_implies, forall_const, true_implies, reduceCtorEq, and_false, false_and, Bool.not_true, Bool.not_false, if_true, if_false, i0, i1]
  refine ⟨n, m2, rfl, hn, Nat.zero_le _, small (by decide), ?_⟩
  obtain ⟨H, eH⟩ : ∃ H, H = h ++ [HB.lst [D.int (m1 : Int), D.int (m2 : Int)]] := ⟨_, rfl⟩
  rw [← eH] at i0 i1 ⊢
  have bp : ∀ (ps : List (Nat × Nat)) (k : Nat), Bds k (prs ps) := fun ps k => Bds_prs
  obtain ⟨rr, rr1, rr2⟩ := rk
  refine ⟨H.length, n, cs, fs, rfl, at_end, hn, cok, ⟨rr, rr1⟩, fok, fr, rfl, evD n cs fs, [], by rw [set_end], ⟨trivial, bp cs _, bp fs _, trivial⟩, ?_⟩
  have ev : Ev n cs fs := ⟨hn, cok, fok, fr⟩
  have oA := st_ok cok fok st1
  have oB := st_ok cok fok st2
  have oC := @nil_ok n cs fs
  have lA : ((List.range n).filter fun k => m1.testBit k).length ≤ 39 := Nat.le_trans (List.length_filter_le _ _) (by rw [List.length_range]; exact hn)
  have lB : ((List.range n).filter fun k => m2.testBit k).length ≤ 39 := Nat.le_trans (List.length_filter_le _ _) (by rw [List.length_range]; exact hn)
  generalize ((List.range n).filter fun k => m1.testBit k) = A at oA lA
  generalize ((List.range n).filter fun k => m2.testBit k) = B at oB lB
  have eC : D.tup [] = D.tup (nats []) := rfl
  rw [eC]
  have lC : ([] : List Nat).length ≤ 39 := by decide
  generalize ([] : List Nat) = C at oC lC
  have hL : ∀ x ∈ [D.tup (nats A), D.tup (nats B), D.tup (nats C)], ∃ a : List Nat, x = .tup (nats a) ∧ okB n cs fs (.tup (nats a)) = true ∧ a.length ≤ 39 := fun x hx => by
    simp only [List.mem_cons, List.not_mem_nil, or_false] at hx
    rcases hx with rfl | rfl | rfl
    · exact ⟨A, rfl, oA, lA⟩
    · exact ⟨B, rfl, oB, lB⟩
    · exact ⟨C, rfl, oC, lC⟩
  have lL : [D.tup (nats A), D.tup (nats B), D.tup (nats C)].length = 3 := rfl
  generalize [D.tup (nats A), D.tup (nats B), D.tup (nats C)] = L at hL lL
  clear oA oB oC lA lB lC
  let Fr : Option D → Option D → Option D → Option D → DSt := fun o9 o10 o11 o12 => [some (.fz (ns.map D.int)), some (.int n), some (.lst (prs cs)), some (.lst (prs fs)), some (.lst (nats r)), some (.lst (nats ms)), some (.ref h.length), some (.lst L), some (.obj "Events" (evD n cs fs)), o9, o10, o11, o12]
  have rtT : (endsD h X Q).rt (.bl true) H := by rw [eH]; exact rt_back trivial q
  refine forW_inv L (fun i σ h' => h' = H ∧ ∃ o9 o10, σ = Fr o9 o10 none none) ⟨rfl, _, _, rfl⟩ (fun _ _ _ _ _ => rfl) ?_ ?_
  · rintro i x σ h' N hx ⟨eh, o9, o10, rfl⟩ hN
    rw [eh]
    obtain ⟨a, rfl, oa, la⟩ := hL x (List.mem_of_getElem? hx)
    simp only [Fr, sSeq, sNil, sIf, sRet, sRetN, sSet, sAsg, sExpr, sNever, sFor, sNox, sBrk, sCont, sFldD, sAug, sAugS, dVar, dC, dOp, dI0, dII, dNeg, dInv, dAndV, dOrV, dNotV, dTst, dTru, dAnd, dOr, dNot, dIfE, dChn, dCall, dCallK, dMake, aNil, aCons, dTup, dLst, dLstH, dFldC, dCB, dBM, tgN, tgSub, iL, iT, iR1, iR2, DEnds.xx, dLc, dLcH, dYes, dSl, oNon, oSome, nI2, nTup, nLst, nLstH, mApp, wipeD, dIn, dIsN, dNotN, dAddH, dMulH, tru_bl, tru_int, add_int, add_tup, mul_int, len_tup, len_lst, len_fz, ne_int, eq_int, ne_bl, eq_bl, int_int, int_bl, ty_end, asL_lst, asL_fz, asS_tup, asS_lst, asS_fz, tgs_cons_eq, tgs_nil_eq, tg_tup_eq, tg_lst_eq, at_end, set_end, asS_end, asL_end, at_pre, set_pre, ty_pre, dTupRev, List.getElem?_cons_zero, List.getElem?_cons_succ, Option.some.injEq, exists_eq_left', exists_eq_left, exists_and_left, exists_and_right, and_assoc, D.int.injEq, D.bl.injEq, D.str.injEq, D.tup.injEq, D.lst.injEq, D.fz.injEq, D.ref.injEq, HB.lst.injEq, List.cons.injEq, and_true, true_and, List.set_cons_zero, List.set_cons_succ, List.map_cons, List.map_nil, List.length_cons, List.length_nil, Nat.reduceAdd, Nat.reduceSub, Nat.sub_self, Nat.zero_add, List.replicate_zero, List.replicate_succ, List.append_nil, List.cons_append, List.nil_append, decide_eq_true_eq, decide_eq_false_iff_not, Bool.not_eq_true', Bool.not_eq_false', Bool.true_eq_false, Bool.false_eq_true, false_implies, forall_const, true_implies, reduceCtorEq, and_false, false_and, Bool.not_true, Bool.not_false, if_true, if_false]
    refine forW_inv L (fun i σ h' => h' = H ∧ ∃ o10, σ = Fr (some (.tup (nats a))) o10 none none) ⟨rfl, _, rfl⟩ (fun _ _ _ _ _ => rfl) ?_ ?_
    · rintro j x σ h'' N hx ⟨eh, o10, rfl⟩ hN
      rw [eh]
      obtain ⟨b, rfl, ob, lb⟩ := hL x (List.mem_of_getElem? hx)
      simp only [Fr, sSeq, sNil, sIf, sRet, sRetN, sSet, sAsg, sExpr, sNever, sFor, sNox, sBrk, sCont, sFldD, sAug, sAugS, dVar, dC, dOp, dI0, dII, dNeg, dInv, dAndV, dOrV, dNotV, dTst, dTru, dAnd, dOr, dNot, dIfE, dChn, dCall, dCallK, dMake, aNil, aCons, dTup, dLst, dLstH, dFldC, dCB, dBM, tgN, tgSub, iL, iT, iR1, iR2, DEnds.xx, dLc, dLcH, dYes, dSl, oNon, oSome, nI2, nTup, nLst, nLstH, mApp, wipeD, dIn, dIsN, dNotN, dAddH, dMulH, tru_bl, tru_int, add_int, add_tup, mul_int, len_tup, len_lst, len_fz, ne_int, eq_int, ne_bl, eq_bl, int_int, int_bl, ty_end, asL_lst, asL_fz, asS_tup, asS_lst, asS_fz, tgs_cons_eq, tgs_nil_eq, tg_tup_eq, tg_lst_eq, at_end, set_end, asS_end, asL_end, at_pre, set_pre, ty_pre, dTupRev, List.getElem?_cons_zero, List.getElem?_cons_succ, Option.some.injEq, exists_eq_left', exists_eq_left, exists_and_left, exists_and_right, and_assoc, D.int.injEq, D.bl.injEq, D.str.injEq, D.tup.injEq, D.lst.injEq, D.fz.injEq, D.ref.injEq, HB.lst.injEq, List.cons.injEq, and_true, true_and, List.set_cons_zero, List.set_cons_succ, List.map_cons, List.map_nil, List.length_cons, List.length_nil, Nat.reduceAdd, Nat.reduceSub, Nat.sub_self, Nat.zero_add, List.replicate_zero, List.replicate_succ, List.append_nil, List.cons_append, List.nil_append, decide_eq_true_eq, decide_eq_false_iff_not, Bool.not_eq_true', Bool.not_eq_false', Bool.true_eq_false, Bool.false_eq_true, false_implies, forall_const, true_implies, reduceCtorEq, and_false, false_and, Bool.not_true, Bool.not_false, if_true, if_false]
      exact ⟨n, cs, fs, a, b, rfl, ev, oa, ob, _, rfl, (fun z => nomatch z), fun _ => hN _ _ ⟨rfl, _, rfl⟩⟩
    · rintro σ h'' ⟨eh, o10, rfl⟩
      exact hN _ _ ⟨eh, _, _, rfl⟩
  · rintro σ h' ⟨eh, o9, o10, rfl⟩
    rw [eh]
    simp only [Fr, ix_lst g2, i0, sSeq, sNil, sIf, sRet, sRetN, sSet, sAsg, sExpr, sNever, sFor, sNox, sBrk, sCont, sFldD, sAug, sAugS, dVar, dC, dOp, dI0, dII, dNeg, dInv, dAndV, dOrV, dNotV, dTst, dTru, dAnd, dOr, dNot, dIfE, dChn, dCall, dCallK, dMake, aNil, aCons, dTup, dLst, dLstH, dFldC, dCB, dBM, tgN, tgSub, iL, iT, iR1, iR2, DEnds.xx, dLc, dLcH, dYes, dSl, oNon, oSome, nI2, nTup, nLst, nLstH, mApp, wipeD, dIn, dIsN, dNotN, dAddH, dMulH, tru_bl, tru_int, add_int, add_tup, mul_int, len_tup, len_lst, len_fz, ne_int, eq_int, ne_bl, eq_bl, int_int, int_bl, ty_end, asL_lst, asL_fz, asS_tup, asS_lst, asS_fz, tgs_cons_eq, tgs_nil_eq, tg_tup_eq, tg_lst_eq, at_end, set_end, asS_end, asL_end, at_pre, set_pre, ty_pre, dTupRev, List.getElem?_cons_zero, List.getElem?_cons_succ, Option.some.injEq, exists_eq_left', exists_eq_left, exists_and_left, exists_and_right, and_assoc, D.int.injEq, D.bl.injEq, D.str.injEq, D.tup.injEq, D.lst.injEq, D.fz.injEq, D.ref.injEq, HB.lst.injEq, List.cons.injEq, and_true, true_and, List.set_cons_zero, List.set_cons_succ, List.map_cons, List.map_nil, List.length_cons, List.length_nil, Nat.reduceAdd, Nat.reduceSub, Nat.sub_self, Nat.zero_add, List.replicate_zero, List.replicate_succ, List.append_nil, List.cons_append, List.nil_append, decide_eq_true_eq, decide_eq_false_iff_not, Bool.not_eq_true', Bool.not_eq_false', Bool.true_eq_false, Bool.false_eq_true, false_implies, forall_const, true_implies, reduceCtorEq, and_false, false_and, Bool.not_true, Bool.not_false, if_true, if_false]
    refine ⟨n, cs, fs, m1, a2, rfl, ev, st1, fun vs vpos vlen vok => ?_⟩
    simp only [sSeq, sNil, sIf, sRet, sRetN, sSet, sAsg, sExpr, sNever, sFor, sNox, sBrk, sCont, sFldD, sAug, sAugS, dVar, dC, dOp, dI0, dII, dNeg, dInv, dAndV, dOrV, dNotV, dTst, dTru, dAnd, dOr, dNot, dIfE, dChn, dCall, dCallK, dMake, aNil, aCons, dTup, dLst, dLstH, dFldC, dCB, dBM, tgN, tgSub, iL, iT, iR1, iR2, DEnds.xx, dLc, dLcH, dYes, dSl, oNon, oSome, nI2, nTup, nLst, nLstH, mApp, wipeD, dIn, dIsN, dNotN, dAddH, dMulH, tru_bl, tru_int, add_int, add_tup, mul_int, len_tup, len_lst, len_fz, ne_int, eq_int, ne_bl, eq_bl, int_int, int_bl, ty_end, asL_lst, asL_fz, asS_tup, asS_lst, asS_fz, tgs_cons_eq, tgs_nil_eq, tg_tup_eq, tg_lst_eq, at_end, set_end, asS_end, asL_end, at_pre, set_pre, ty_pre, dTupRev, List.getElem?_cons_zero, List.getElem?_cons_succ, Option.some.injEq, exists_eq_left', exists_eq_left, exists_and_left, exists_and_right, and_assoc, D.int.injEq, D.bl.injEq, D.str.injEq, D.tup.injEq, D.lst.injEq, D.fz.injEq, D.ref.injEq, HB.lst.injEq, List.cons.injEq, and_true, true_and, List.set_cons_zero, List.set_cons_succ, List.map_cons, List.map_nil, List.length_cons, List.length_nil, Nat.reduceAdd, Nat.reduceSub, Nat.sub_self, Nat.zero_add, List.replicate_zero, List.replicate_succ, List.append_nil, List.cons_append, List.nil_append, decide_eq_true_eq, decide_eq_false_iff_not, Bool.not_eq_true', Bool.not_eq_false', Bool.true_eq_false, Bool.false_eq_true, false_implies, forall_const, true_implies, reduceCtorEq, and_false, false_and, Bool.not_true, Bool.not_false, if_true, if_false]
    refine ⟨rgOk (by omega), ?_⟩
    rw [Int.toNat_natCast]
    refine forW_inv (rgD 0 vs.length) (fun i σ h' => h' = H ∧ ∃ o12, σ = Fr o9 o10 (some (.lst vs)) o12) ⟨rfl, _, rfl⟩ (fun _ _ _ _ _ => trivial) ?_ ?_
    · rintro i x σ h'' N hx ⟨eh, o12, rfl⟩ hN
      rw [eh]
      obtain ⟨rfl, hi⟩ := rg_get hx
      obtain ⟨v, hv⟩ := get_lt hi
      obtain ⟨⟨vno, vpv, vsm⟩, _⟩ := vok v (List.mem_of_getElem? hv)
      obtain ⟨x1, hx1⟩ := get_lt (l := L) (i := i / 2 % 3) (by rw [lL]; exact Nat.mod_lt _ (by decide))
      obtain ⟨x2, hx2⟩ := get_lt (l := L) (i := i % 3) (by rw [lL]; exact Nat.mod_lt _ (by decide))
      obtain ⟨w, hw⟩ := get_lt (l := vs) (i := (i + 1) % vs.length) (Nat.mod_lt _ vpos)
      obtain ⟨⟨wno, wpv, wsm⟩, _⟩ := vok w (List.mem_of_getElem? hw)
      obtain ⟨a, rfl, oa, la⟩ := hL x1 (List.mem_of_getElem? hx1)
      obtain ⟨b, rfl, ob, lb⟩ := hL x2 (List.mem_of_getElem? hx2)
      have k0 : atI vs (i : Int) = some v := atI_nat hv
      have k1 : atI L ((i : Int) / 2 % 3) = some (.tup (nats a)) := atI_nat (k := i / 2 % 3) hx1
      have k2 : atI L ((i : Int) % 3) = some (.tup (nats b)) := atI_nat (k := i % 3) hx2
      have k3 : atI vs (((i : Int) + 1) % (vs.length : Int)) = some w := atI_nat (k := (i + 1) % vs.length) hw
      simp only [Fr, ix_lst k0, sSeq, sNil, sIf, sRet, sRetN, sSet, sAsg, sExpr, sNever, sFor, sNox, sBrk, sCont, sFldD, sAug, sAugS, dVar, dC, dOp, dI0, dII, dNeg, dInv, dAndV, dOrV, dNotV, dTst, dTru, dAnd, dOr, dNot, dIfE, dChn, dCall, dCallK, dMake, aNil, aCons, dTup, dLst, dLstH, dFldC, dCB, dBM, tgN, tgSub, iL, iT, iR1, iR2, DEnds.xx, dLc, dLcH, dYes, dSl, oNon, oSome, nI2, nTup, nLst, nLstH, mApp, wipeD, dIn, dIsN, dNotN, dAddH, dMulH, tru_bl, tru_int, add_int, add_tup, mul_int, len_tup, len_lst, len_fz, ne_int, eq_int, ne_bl, eq_bl, int_int, int_bl, ty_end, asL_lst, asL_fz, asS_tup, asS_lst, asS_fz, tgs_cons_eq, tgs_nil_eq, tg_tup_eq, tg_lst_eq, at_end, set_end, asS_end, asL_end, at_pre, set_pre, ty_pre, dTupRev, List.getElem?_cons_zero, List.getElem?_cons_succ, Option.some.injEq, exists_eq_left', exists_eq_left, exists_and_left, exists_and_right, and_assoc, D.int.injEq, D.bl.injEq, D.str.injEq, D.tup.injEq, D.lst.injEq, D.fz.injEq, D.ref.injEq, HB.lst.injEq, List.cons.injEq, and_true, true_and, List.set_cons_zero, List.set_cons_succ, List.map_cons, List.map_nil, List.length_cons, List.length_nil, Nat.reduceAdd, Nat.reduceSub, Nat.sub_self, Nat.zero_add, List.replicate_zero, List.replicate_succ, List.append_nil, List.cons_append, List.nil_append, decide_eq_true_eq, decide_eq_false_iff_not, Bool.not_eq_true', Bool.not_eq_false', Bool.true_eq_false, Bool.false_eq_true, false_implies, forall_const, true_implies, reduceCtorEq, and_false, false_and, Bool.not_true, Bool.not_false, if_true, if_false]
      refine ⟨⟨by decide, by decide⟩, by decide, (ix_lst k1).mpr ?_⟩
      refine ⟨n, cs, fs, v, .tup (nats a), v, rfl, ev, vpv, pv_nats (by omega), .inl ⟨vno, rfl⟩, vsm, _, rfl, (fun z => nomatch z), fun _ => ?_⟩
      refine ⟨by decide, (ix_lst k2).mpr ?_⟩
      refine ⟨n, cs, fs, .tup (nats b), v, v, rfl, ev, pv_nats (by omega), vpv, .inr ⟨ob, vno, rfl⟩, vsm, _, rfl, (fun z => nomatch z), fun _ => ?_⟩
      refine ⟨by omega, (ix_lst k3).mpr ?_⟩
      refine ⟨n, cs, fs, v, w, v, rfl, ev, vpv, wpv, .inl ⟨vno, rfl⟩, vsm, _, rfl, (fun z => nomatch z), fun _ => hN _ _ ⟨rfl, _, rfl⟩⟩
    · rintro σ h'' ⟨eh, o12, rfl⟩
      rw [eh]
      obtain ⟨x1, hx1⟩ := get_lt (l := L) (i := 0) (by omega)
      obtain ⟨x2, hx2⟩ := get_lt (l := L) (i := 1) (by omega)
      obtain ⟨a, rfl, oa, la⟩ := hL x1 (List.mem_of_getElem? hx1)
      obtain ⟨b, rfl, ob, lb⟩ := hL x2 (List.mem_of_getElem? hx2)
      have k0 : atI L 0 = some (.tup (nats a)) := atI_nat (k := 0) hx1
      have k1 : atI L 1 = some (.tup (nats b)) := atI_nat (k := 1) hx2
      have itp : ∀ {l : List D} {h : DHp} {Q : DK}, nIsi kcs [.tup l, .ty "tuple"] h Q ↔ Q (.bl true) h := fun {l h Q} => isi_t rfl
      simp only [Fr, ix_lst k0, ix_lst k1, sSeq, sNil, sIf, sRet, sRetN, sSet, sAsg, sExpr, sNever, sFor, sNox, sBrk, sCont, sFldD, sAug, sAugS, dVar, dC, dOp, dI0, dII, dNeg, dInv, dAndV, dOrV, dNotV, dTst, dTru, dAnd, dOr, dNot, dIfE, dChn, dCall, dCallK, dMake, aNil, aCons, dTup, dLst, dLstH, dFldC, dCB, dBM, tgN, tgSub, iL, iT, iR1, iR2, DEnds.xx, dLc, dLcH, dYes, dSl, oNon, oSome, nI2, nTup, nLst, nLstH, mApp, wipeD, dIn, dIsN, dNotN, dAddH, dMulH, tru_bl, tru_int, add_int, add_tup, mul_int, len_tup, len_lst, len_fz, ne_int, eq_int, ne_bl, eq_bl, int_int, int_bl, ty_end, asL_lst, asL_fz, asS_tup, asS_lst, asS_fz, tgs_cons_eq, tgs_nil_eq, tg_tup_eq, tg_lst_eq, at_end, set_end, asS_end, asL_end, at_pre, set_pre, ty_pre, dTupRev, List.getElem?_cons_zero, List.getElem?_cons_succ, Option.some.injEq, exists_eq_left', exists_eq_left, exists_and_left, exists_and_right, and_assoc, D.int.injEq, D.bl.injEq, D.str.injEq, D.tup.injEq, D.lst.injEq, D.fz.injEq, D.ref.injEq, HB.lst.injEq, List.cons.injEq, and_true, true_and, List.set_cons_zero, List.set_cons_succ, List.map_cons, List.map_nil, List.length_cons, List.length_nil, Nat.reduceAdd, Nat.reduceSub, Nat.sub_self, Nat.zero_add, List.replicate_zero, List.replicate_succ, List.append_nil, List.cons_append, List.nil_append, decide_eq_true_eq, decide_eq_false_iff_not, Bool.not_eq_true', Bool.not_eq_false', Bool.true_eq_false, Bool.false_eq_true, false_implies, forall_const, true_implies, reduceCtorEq, and_false, false_and, Bool.not_true, Bool.not_false, if_true, if_false]
      refine ⟨n, cs, fs, a, b, rfl, ev, oa, ob, _, rfl, (fun z => nomatch z), fun _ => ?_⟩
      simp only [sSeq, sNil, sIf, sRet, sRetN, sSet, sAsg, sExpr, sNever, sFor, sNox, sBrk, sCont, sFldD, sAug, sAugS, dVar, dC, dOp, dI0, dII, dNeg, dInv, dAndV, dOrV, dNotV, dTst, dTru, dAnd, dOr, dNot, dIfE, dChn, dCall, dCallK, dMake, aNil, aCons, dTup, dLst, dLstH, dFldC, dCB, dBM, tgN, tgSub, iL, iT, iR1, iR2, DEnds.xx, dLc, dLcH, dYes, dSl, oNon, oSome, nI2, nTup, nLst, nLstH, mApp, wipeD, dIn, dIsN, dNotN, dAddH, dMulH, tru_bl, tru_int, add_int, add_tup, mul_int, len_tup, len_lst, len_fz, ne_int, eq_int, ne_bl, eq_bl, int_int, int_bl, ty_end, asL_lst, asL_fz, asS_tup, asS_lst, asS_fz, tgs_cons_eq, tgs_nil_eq, tg_tup_eq, tg_lst_eq, at_end, set_end, asS_end, asL_end, at_pre, set_pre, ty_pre, dTupRev, List.getElem?_cons_zero, List.getElem?_cons_succ, Option.some.injEq, exists_eq_left', exists_eq_left, exists_and_left, exists_and_right, and_assoc, D.int.injEq, D.bl.injEq, D.str.injEq, D.tup.injEq, D.lst.injEq, D.fz.injEq, D.ref.injEq, HB.lst.injEq, List.cons.injEq, and_true, true_and, List.set_cons_zero, List.set_cons_succ, List.map_cons, List.map_nil, List.length_cons, List.length_nil, Nat.reduceAdd, Nat.reduceSub, Nat.sub_self, Nat.zero_add, List.replicate_zero, List.replicate_succ, List.append_nil, List.cons_append, List.nil_append, decide_eq_true_eq, decide_eq_false_iff_not, Bool.not_eq_true', Bool.not_eq_false', Bool.true_eq_false, Bool.false_eq_true, false_implies, forall_const, true_implies, reduceCtorEq, and_false, false_and, Bool.not_true, Bool.not_false, if_true, if_false, f1, f2, f3, itp]
      refine ⟨fun z => by simp at z, fun _ => ⟨ok_prs cs, ok_prs cs, ?_⟩⟩
      show ∃ b, D.bl (deq (.tup (prs cs)) (.tup (prs cs))) = D.bl b ∧ _
      rw [deq_prs]
      refine ⟨true, rfl, fun _ => ⟨ok_prs fs, ok_prs fs, ?_⟩, fun z => nomatch z⟩
      show (endsD h X Q).rt (D.bl (deq (.tup (prs fs)) (.tup (prs fs)))) H
      rw [deq_prs]
      exact rtT
theorem rd_law (ds : List D) (h : DHp) (X : DX) (Q : DK) (hds : ds.length = 1) (c : ct_law ds h X Q) : tb_law (endsD h X Q) (startD N_law.length ds) h := by
  obtain ⟨ns, rfl, hl, q⟩ := c
  simp only [tb_law, startD, sSeq, sNil, sIf, sRet, sRetN, sSet, sAsg, sExpr, sNever, sFor, sNox, sBrk, sCont, sFldD, sAug, sAugS, dVar, dC, dOp, dI0, dII, dNeg, dInv, dAndV, dOrV, dNotV, dTst, dTru, dAnd, dOr, dNot, dIfE, dChn, dCall, dCallK, dMake, aNil, aCons, dTup, dLst, dLstH, dFldC, dCB, dBM, tgN, tgSub, iL, iT, iR1, iR2, DEnds.xx, dLc, dLcH, dYes, dSl, oNon, oSome, nI2, nTup, nLst, nLstH, mApp, wipeD, dIn, dIsN, dNotN, dAddH, dMulH, tru_bl, tru_int, add_int, add_tup, mul_int, len_tup, len_lst, len_fz, ne_int, eq_int, ne_bl, eq_bl, int_int, int_bl, ty_end, asL_lst, asL_fz, asS_tup, asS_lst, asS_fz, tgs_cons_eq, tgs_nil_eq, tg_tup_eq, tg_lst_eq, at_end, set_end, asS_end, asL_end, at_pre, set_pre, ty_pre, dTupRev, List.getElem?_cons_zero, List.getElem?_cons_succ, Option.some.injEq, exists_eq_left', exists_eq_left, exists_and_left, exists_and_right, and_assoc, D.int.injEq, D.bl.injEq, D.str.injEq, D.tup.injEq, D.lst.injEq, D.fz.injEq, D.ref.injEq, HB.lst.injEq, List.cons.injEq, and_true, true_and, List.set_cons_zero, List.set_cons_succ, List.map_cons, List.map_nil, List.length_cons, List.length_nil, Nat.reduceAdd, Nat.reduceSub, Nat.sub_self, Nat.zero_add, List.replicate_zero, List.replicate_succ, List.append_nil, List.cons_append, List.nil_append, decide_eq_true_eq, decide_eq_false_iff_not, Bool.not_eq_true', Bool.not_eq_false', Bool.true_eq_false, Bool.false_eq_true, false_implies, forall_const, true_implies, reduceCtorEq, and_false, false_and, Bool.not_true, Bool.not_false, if_true, if_false]
  exact ⟨ns, rfl, hl, rt_keep q⟩
theorem ct0_law_same (ds : List D) (h : DHp) (X : DX) (Q : DK) : ¬ ctS 0 ds h X Q := fun ⟨_, _, s, _⟩ => s
theorem rd_law_same (n : Nat) (ds : List D) (h : DHp) (X : DX) (Q : DK) (hds : ds.length = 2) (c : ctS (n + 1) ds h X Q) : tb__law_same (ctS n) (endsD h X Q) (startD N__law_same.length ds) h := rd_same n ds h X Q hds c
theorem fn_no {P : Program} {w : World} {K : PySem.W.Frag} {mg : Str → Option Value} {base : Heap} {k n : Nat} {f : Addr} {fd : FuncData} {ps : List Str} {c : Ct} (no : ∀ ds h X Q, ¬ c ds h X Q) : FnOk P w K mg base (L2.CX P w) k f fd ps (spOf K n c) :=
  ⟨fun vs H Q E h => by obtain ⟨ρ, ds, hp, Xd, Qd, hn, hR, dvs, hc, _⟩ := h; exact (no _ _ _ _ hc).elim,
   fun A outer s H args us vs Q E hr he hb hv h => by obtain ⟨ρ, ds, hp, Xd, Qd, hn, hR, dvs, hc, _⟩ := h; exact (no _ _ _ _ hc).elim⟩
end L2.MW.K49

namespace L2.MW.K49
open PySem PySem.Spec PyProof.Rows L2 L2.MW
def d_is_integer : He.DefD := ⟨("is_integer", none), "is_integer", "is_integer", defArgs s_is_integer, defBody s_is_integer, defScope s_is_integer, [], []⟩
def d_is_between : He.DefD := ⟨("is_between", none), "is_between", "is_between", defArgs s_is_between, defBody s_is_between, defScope s_is_between, [], []⟩
def d_is_subset : He.DefD := ⟨("is_subset", none), "is_subset", "is_subset", defArgs s_is_subset, defBody s_is_subset, defScope s_is_subset, [], []⟩
def d_mask_of : He.DefD := ⟨("mask_of", none), "mask_of", "mask_of", defArgs s_mask_of, defBody s_mask_of, defScope s_mask_of, [], []⟩
def d_members_of : He.DefD := ⟨("members_of", none), "members_of", "members_of", defArgs s_members_of, defBody s_members_of, defScope s_members_of, [], []⟩
def d_is_pair : He.DefD := ⟨("is_pair", none), "is_pair", "is_pair", defArgs s_is_pair, defBody s_is_pair, defScope s_is_pair, [], []⟩
def d_first_wrong_pair : He.DefD := ⟨("first_wrong_pair", none), "first_wrong_pair", "first_wrong_pair", defArgs s_first_wrong_pair, defBody s_first_wrong_pair, defScope s_first_wrong_pair, [], []⟩
def d_leading_masks : He.DefD := ⟨("leading_masks", none), "leading_masks", "leading_masks", defArgs s_leading_masks, defBody s_leading_masks, defScope s_leading_masks, [], []⟩
def d_has_cycle : He.DefD := ⟨("has_cycle", none), "has_cycle", "has_cycle", defArgs s_has_cycle, defBody s_has_cycle, defScope s_has_cycle, [], []⟩
def d_Events_init : He.DefD := ⟨("Events", some "__init__"), "__init__", "Events.__init__", defArgs s_Events_init, defBody s_Events_init, defScope s_Events_init, [], []⟩
def d_against_masks : He.DefD := ⟨("against_masks", none), "against_masks", "against_masks", defArgs s_against_masks, defBody s_against_masks, defScope s_against_masks, [], []⟩
def d_is_state : He.DefD := ⟨("is_state", none), "is_state", "is_state", defArgs s_is_state, defBody s_is_state, defScope s_is_state, [], []⟩
def d_look_at_states : He.DefD := ⟨("look_at_states", none), "look_at_states", "look_at_states", defArgs s_look_at_states, defBody s_look_at_states, defScope s_look_at_states, [], []⟩
def d_merged : He.DefD := ⟨("merged", none), "merged", "merged", defArgs s_merged, defBody s_merged, defScope s_merged, [], []⟩
def d_conflict : He.DefD := ⟨("conflict", none), "conflict", "conflict", defArgs s_conflict, defBody s_conflict, defScope s_conflict, [], []⟩
def d__law_cell : He.DefD := ⟨("_law_cell", none), "_law_cell", "_law_cell", defArgs s__law_cell, defBody s__law_cell, defScope s__law_cell, [], []⟩
def d__law_row : He.DefD := ⟨("_law_row", none), "_law_row", "_law_row", defArgs s__law_row, defBody s__law_row, defScope s__law_row, [], []⟩
def d__law_pairs : He.DefD := ⟨("_law_pairs", none), "_law_pairs", "_law_pairs", defArgs s__law_pairs, defBody s__law_pairs, defScope s__law_pairs, [], []⟩
def d__law_parts : He.DefD := ⟨("_law_parts", none), "_law_parts", "_law_parts", defArgs s__law_parts, defBody s__law_parts, defScope s__law_parts, [], []⟩
def d__law_needs : He.DefD := ⟨("_law_needs", none), "_law_needs", "_law_needs", defArgs s__law_needs, defBody s__law_needs, defScope s__law_needs, [], []⟩
def d__law_in : He.DefD := ⟨("_law_in", none), "_law_in", "_law_in", defArgs s__law_in, defBody s__law_in, defScope s__law_in, [], []⟩
def d__law_good : He.DefD := ⟨("_law_good", none), "_law_good", "_law_good", defArgs s__law_good, defBody s__law_good, defScope s__law_good, [], []⟩
def d__law_state : He.DefD := ⟨("_law_state", none), "_law_state", "_law_state", defArgs s__law_state, defBody s__law_state, defScope s__law_state, [], []⟩
def d__law_first : He.DefD := ⟨("_law_first", none), "_law_first", "_law_first", defArgs s__law_first, defBody s__law_first, defScope s__law_first, [], []⟩
def d__law_same : He.DefD := ⟨("_law_same", none), "_law_same", "_law_same", defArgs s__law_same, defBody s__law_same, defScope s__law_same, [], []⟩
def d__law_told : He.DefD := ⟨("_law_told", none), "_law_told", "_law_told", defArgs s__law_told, defBody s__law_told, defScope s__law_told, [], []⟩
def d__law_right : He.DefD := ⟨("_law_right", none), "_law_right", "_law_right", defArgs s__law_right, defBody s__law_right, defScope s__law_right, [], []⟩
def d__law_refused : He.DefD := ⟨("_law_refused", none), "_law_refused", "_law_refused", defArgs s__law_refused, defBody s__law_refused, defScope s__law_refused, [], []⟩
def d__law_bad : He.DefD := ⟨("_law_bad", none), "_law_bad", "_law_bad", defArgs s__law_bad, defBody s__law_bad, defScope s__law_bad, [], []⟩
def d__law_asked : He.DefD := ⟨("_law_asked", none), "_law_asked", "_law_asked", defArgs s__law_asked, defBody s__law_asked, defScope s__law_asked, [], []⟩
def d_law : He.DefD := ⟨("law", none), "law", "law", defArgs s_law, defBody s_law, defScope s_law, [], []⟩
abbrev s_InvalidState_init : Stmt := mem (top 3) 0
abbrev N_InvalidState_init : List Str := ["self", "value"]
theorem sc_InvalidState_init : FnScope N_InvalidState_init N_InvalidState_init (defScope s_InvalidState_init) := ⟨rfl, rfl, rfl, by decide +kernel, rfl, by decide +kernel, by decide +kernel⟩
theorem xi_InvalidState {P : Program} {w : World} {K : PySem.W.Frag} {mg : Str → Option Value} {base : Heap} {f : Addr} {fd : FuncData} (F : FunD K "__init__" "InvalidState.__init__" (defArgs s_InvalidState_init) (defBody s_InvalidState_init) (defScope s_InvalidState_init) [] [] f fd) (xf : XF K "InvalidState" xf_InvalidState) :
    FnOk P w K mg base CX0 1 f fd N_InvalidState_init (spX 1 xf_InvalidState (He.ga K (Str.ofString "InvalidState"))) := by
  refine F.ok sc_InvalidState_init (fun vs H Q E h => ?_) (fun cdv A outer s H vs Q E hr h => ⟨_, PSs.nox (pss_one (ps_ost (pe_var (i := 0) rfl (Or.inl rfl)) (pe_var (i := 1) rfl (Or.inl rfl)))), x1_read xf.parts.1 xf.parts.2.2.1 h⟩)
  obtain ⟨a, us, rfl, hl, _⟩ := h
  show us.length + 1 = 2
  omega
abbrev s_Undefined_init : Stmt := mem (top 4) 0
abbrev N_Undefined_init : List Str := ["self", "what"]
theorem sc_Undefined_init : FnScope N_Undefined_init N_Undefined_init (defScope s_Undefined_init) := ⟨rfl, rfl, rfl, by decide +kernel, rfl, by decide +kernel, by decide +kernel⟩
theorem xi_Undefined {P : Program} {w : World} {K : PySem.W.Frag} {mg : Str → Option Value} {base : Heap} {f : Addr} {fd : FuncData} (F : FunD K "__init__" "Undefined.__init__" (defArgs s_Undefined_init) (defBody s_Undefined_init) (defScope s_Undefined_init) [] [] f fd) (xf : XF K "Undefined" xf_Undefined) :
    FnOk P w K mg base CX0 1 f fd N_Undefined_init (spX 1 xf_Undefined (He.ga K (Str.ofString "Undefined"))) := by
  refine F.ok sc_Undefined_init (fun vs H Q E h => ?_) (fun cdv A outer s H vs Q E hr h => ⟨_, PSs.nox (pss_one (ps_ost (pe_var (i := 0) rfl (Or.inl rfl)) (pe_var (i := 1) rfl (Or.inl rfl)))), x1_read xf.parts.1 xf.parts.2.2.1 h⟩)
  obtain ⟨a, us, rfl, hl, _⟩ := h
  show us.length + 1 = 2
  omega
def d_InvalidState_init : He.DefD := ⟨("InvalidState", some "__init__"), "__init__", "InvalidState.__init__", defArgs s_InvalidState_init, defBody s_InvalidState_init, defScope s_InvalidState_init, [], []⟩
def d_Undefined_init : He.DefD := ⟨("Undefined", some "__init__"), "__init__", "Undefined.__init__", defArgs s_Undefined_init, defBody s_Undefined_init, defScope s_Undefined_init, [], []⟩
def fnL : List He.DefD := [d_is_integer, d_is_between, d_is_subset, d_mask_of, d_members_of, d_is_pair, d_first_wrong_pair, d_leading_masks, d_has_cycle, d_Events_init, d_against_masks, d_is_state, d_look_at_states, d_merged, d_conflict, d__law_cell, d__law_row, d__law_pairs, d__law_parts, d__law_needs, d__law_in, d__law_good, d__law_state, d__law_first, d__law_same, d__law_told, d__law_right, d__law_refused, d__law_bad, d__law_asked, d_law, d_InvalidState_init, d_Undefined_init]
def chk (K : PySem.W.Frag) : Bool := exmB K xtb && (kitEB K xkt && (xnB K (clss xtb) "value" && (xnB K (clss xtb) "what" && (xfB K "InvalidState" xf_InvalidState && (xfB K "Undefined" xf_Undefined)))))
def faL : List He.Fa := [.glo "is_integer", .glo "is_between", .glo "is_subset", .glo "mask_of", .glo "members_of", .glo "is_pair", .glo "first_wrong_pair", .glo "leading_masks", .glo "has_cycle", .glo "against_masks", .glo "is_state", .glo "look_at_states", .glo "merged", .glo "conflict", .glo "_law_cell", .glo "_law_row", .glo "_law_pairs", .glo "_law_parts", .glo "_law_needs", .glo "_law_in", .glo "_law_good", .glo "_law_state", .glo "_law_first", .glo "_law_same", .glo "_law_told", .glo "_law_right", .glo "_law_refused", .glo "_law_bad", .glo "_law_asked", .glo "law", .glo "Events", .mkr "Events", .glo "InvalidState", .glo "InvalidEvents", .glo "Undefined", .glo "TooLarge", .glo "MiddleError", .free "ValueError", .free "bool", .free "enumerate", .free "int", .free "isinstance", .free "len", .free "list", .free "max", .free "min", .free "range", .free "reversed", .free "sorted", .free "str", .free "tuple", .int "MOST_EVENTS" 39, .cls "Events", .noat "Events" "many", .noat "Events" "causes", .noat "Events" "conflicts"]
abbrev R : PySem.W.OpenRow := PySem.W.OpenLaw.row PySem.Challenge.rw_middlewebs_k49_merged_or_conflict
abbrev hk : PySem.W.Hook := hookM chk 4 faL fnL
def ob (s : PySem.W.SharedT) : He.AlD := obsMG chk 4 faL fnL (HandSHeadRun.getT s)
theorem ob_eq (s : PySem.W.SharedT) : ob s = hk.obs s.abs := obsMG_eq (HandSHeadRun.getT_eq s)
def names0 : List Str := ["__name__", "MiddleError", "InvalidEvents", "InvalidState", "Undefined", "TooLarge", "is_integer", "is_between", "is_subset", "mask_of", "members_of", "MOST_EVENTS", "Events", "is_pair", "first_wrong_pair", "leading_masks", "has_cycle", "against_masks", "is_state", "look_at_states"]
def names1 : List Str := ["merged", "conflict", "_law_cell", "_law_row", "_law_pairs", "_law_parts", "_law_needs", "_law_in", "_law_good", "_law_state", "_law_first", "_law_same", "_law_told", "_law_right", "_law_refused", "_law_bad", "_law_asked"]
def names : List Str := names0 ++ names1
theorem run (w : World) : HandSHeadRun.RunEq R (PySem.W.view R.prog [40]) hk ob 5000 names w := by
  intro os
  kernel_rfl
theorem facts {P : Program} {w : World} {K : PySem.W.Frag} {h : Heap} {mg : Str → Option Value} {f : Addr} (X : K.In h) (Gn : h.Ns mainGlobals mg) (hfa : mg ("law" : Str) = some (.ref f)) (c : SaysM chk faL fnL K) :
    ∃ fd : FuncData, (∀ (s : Shared) (v : Value), BindsTo s fd ⟨[v], []⟩ [("script", v)]) ∧ ∀ base : Heap, FnOk P w K mg base (L2.CX P w) 10 f fd ["script"] (spOf K 1 ct_law) := by
  obtain ⟨hc, c⟩ := c.both
  unfold chk at hc
  simp only [Bool.and_eq_true] at hc
  obtain ⟨hc0, hc1, hc2, hc3, hc4, hc5⟩ := hc
  have G : Gm K mg := ⟨He.free_ok X Gn (c.fact 37 (f := .free "ValueError") rfl),
    He.free_ok X Gn (c.fact 38 (f := .free "bool") rfl),
    He.free_ok X Gn (c.fact 39 (f := .free "enumerate") rfl),
    He.free_ok X Gn (c.fact 40 (f := .free "int") rfl),
    He.free_ok X Gn (c.fact 41 (f := .free "isinstance") rfl),
    He.free_ok X Gn (c.fact 42 (f := .free "len") rfl),
    He.free_ok X Gn (c.fact 43 (f := .free "list") rfl),
    He.free_ok X Gn (c.fact 44 (f := .free "max") rfl),
    He.free_ok X Gn (c.fact 45 (f := .free "min") rfl),
    He.free_ok X Gn (c.fact 46 (f := .free "range") rfl),
    He.free_ok X Gn (c.fact 47 (f := .free "reversed") rfl),
    He.free_ok X Gn (c.fact 48 (f := .free "sorted") rfl),
    He.free_ok X Gn (c.fact 49 (f := .free "str") rfl),
    He.free_ok X Gn (c.fact 50 (f := .free "tuple") rfl),
    He.int_ok X Gn (c.fact 51 (f := .int "MOST_EVENTS" 39) rfl),
    (fun c' hc => by
      simp only [fc_many, List.mem_cons, List.not_mem_nil, or_false] at hc
      subst hc
      exact ⟨He.cls_ok (c.fact 52 (f := .cls "Events") rfl), He.noat_ok (c.fact 53 (f := .noat "Events" "many") rfl)⟩),
    (fun c' hc => by
      simp only [fc_causes, List.mem_cons, List.not_mem_nil, or_false] at hc
      subst hc
      exact ⟨He.cls_ok (c.fact 52 (f := .cls "Events") rfl), He.noat_ok (c.fact 54 (f := .noat "Events" "causes") rfl)⟩),
    (fun c' hc => by
      simp only [fc_conflicts, List.mem_cons, List.not_mem_nil, or_false] at hc
      subst hc
      exact ⟨He.cls_ok (c.fact 52 (f := .cls "Events") rfl), He.noat_ok (c.fact 55 (f := .noat "Events" "conflicts") rfl)⟩),
    exmB_ok hc0,
    kitEB_ok hc1,
    xnB_ok hc2,
    xnB_ok hc3,
    ⟨rfl⟩,
    He.glo_ok X Gn (c.fact 32 (f := .glo "InvalidState") rfl),
    He.glo_ok X Gn (c.fact 33 (f := .glo "InvalidEvents") rfl),
    He.glo_ok X Gn (c.fact 34 (f := .glo "Undefined") rfl),
    He.glo_ok X Gn (c.fact 35 (f := .glo "TooLarge") rfl),
    He.glo_ok X Gn (c.fact 36 (f := .glo "MiddleError") rfl)⟩
  obtain ⟨fd_is_integer, D_is_integer⟩ := c.def_ 0 (d := d_is_integer) rfl
  obtain ⟨fd_is_between, D_is_between⟩ := c.def_ 1 (d := d_is_between) rfl
  obtain ⟨fd_is_subset, D_is_subset⟩ := c.def_ 2 (d := d_is_subset) rfl
  obtain ⟨fd_mask_of, D_mask_of⟩ := c.def_ 3 (d := d_mask_of) rfl
  obtain ⟨fd_members_of, D_members_of⟩ := c.def_ 4 (d := d_members_of) rfl
  obtain ⟨fd_is_pair, D_is_pair⟩ := c.def_ 5 (d := d_is_pair) rfl
  obtain ⟨fd_first_wrong_pair, D_first_wrong_pair⟩ := c.def_ 6 (d := d_first_wrong_pair) rfl
  obtain ⟨fd_leading_masks, D_leading_masks⟩ := c.def_ 7 (d := d_leading_masks) rfl
  obtain ⟨fd_has_cycle, D_has_cycle⟩ := c.def_ 8 (d := d_has_cycle) rfl
  obtain ⟨fd_Events_init, D_Events_init⟩ := c.def_ 9 (d := d_Events_init) rfl
  obtain ⟨fd_against_masks, D_against_masks⟩ := c.def_ 10 (d := d_against_masks) rfl
  obtain ⟨fd_is_state, D_is_state⟩ := c.def_ 11 (d := d_is_state) rfl
  obtain ⟨fd_look_at_states, D_look_at_states⟩ := c.def_ 12 (d := d_look_at_states) rfl
  obtain ⟨fd_merged, D_merged⟩ := c.def_ 13 (d := d_merged) rfl
  obtain ⟨fd_conflict, D_conflict⟩ := c.def_ 14 (d := d_conflict) rfl
  obtain ⟨fd__law_cell, D__law_cell⟩ := c.def_ 15 (d := d__law_cell) rfl
  obtain ⟨fd__law_row, D__law_row⟩ := c.def_ 16 (d := d__law_row) rfl
  obtain ⟨fd__law_pairs, D__law_pairs⟩ := c.def_ 17 (d := d__law_pairs) rfl
  obtain ⟨fd__law_parts, D__law_parts⟩ := c.def_ 18 (d := d__law_parts) rfl
  obtain ⟨fd__law_needs, D__law_needs⟩ := c.def_ 19 (d := d__law_needs) rfl
  obtain ⟨fd__law_in, D__law_in⟩ := c.def_ 20 (d := d__law_in) rfl
  obtain ⟨fd__law_good, D__law_good⟩ := c.def_ 21 (d := d__law_good) rfl
  obtain ⟨fd__law_state, D__law_state⟩ := c.def_ 22 (d := d__law_state) rfl
  obtain ⟨fd__law_first, D__law_first⟩ := c.def_ 23 (d := d__law_first) rfl
  obtain ⟨fd__law_same, D__law_same⟩ := c.def_ 24 (d := d__law_same) rfl
  obtain ⟨fd__law_told, D__law_told⟩ := c.def_ 25 (d := d__law_told) rfl
  obtain ⟨fd__law_right, D__law_right⟩ := c.def_ 26 (d := d__law_right) rfl
  obtain ⟨fd__law_refused, D__law_refused⟩ := c.def_ 27 (d := d__law_refused) rfl
  obtain ⟨fd__law_bad, D__law_bad⟩ := c.def_ 28 (d := d__law_bad) rfl
  obtain ⟨fd__law_asked, D__law_asked⟩ := c.def_ 29 (d := d__law_asked) rfl
  obtain ⟨fd_law, D_law⟩ := c.def_ 30 (d := d_law) rfl
  obtain ⟨fd_InvalidState_init, D_InvalidState_init⟩ := c.def_ 31 (d := d_InvalidState_init) rfl
  have xf_InvalidState' : XF K "InvalidState" xf_InvalidState := ⟨hc4⟩
  have X_InvalidState : ∀ base : Heap, ExK P w K mg base "InvalidState" xf_InvalidState := fun base => ⟨⟨fd_InvalidState_init, N_InvalidState_init, xi_InvalidState D_InvalidState_init xf_InvalidState', D_InvalidState_init.bindsN (fun _ _ _ _ _ _ us hl => match us, hl with | [_, _], _ => rfl), He.glo_ok X Gn (c.fact 32 (f := .glo "InvalidState") rfl)⟩, xf_InvalidState'⟩
  obtain ⟨fd_Undefined_init, D_Undefined_init⟩ := c.def_ 32 (d := d_Undefined_init) rfl
  have xf_Undefined' : XF K "Undefined" xf_Undefined := ⟨hc5⟩
  have X_Undefined : ∀ base : Heap, ExK P w K mg base "Undefined" xf_Undefined := fun base => ⟨⟨fd_Undefined_init, N_Undefined_init, xi_Undefined D_Undefined_init xf_Undefined', D_Undefined_init.bindsN (fun _ _ _ _ _ _ us hl => match us, hl with | [_, _], _ => rfl), He.glo_ok X Gn (c.fact 34 (f := .glo "Undefined") rfl)⟩, xf_Undefined'⟩
  have e := hfa.symm.trans (He.glo_ok X Gn (c.fact 29 (f := .glo "law") rfl))
  cases e
  refine ⟨fd_law, fun s v => FunD.bindsA (ps := ["script"]) D_law (fun _ _ _ _ _ _ us hl => match us, hl with | [_], _ => rfl) s [v] rfl, fun base => ?_⟩
  have X_InvalidState := X_InvalidState base
  have X_Undefined := X_Undefined base
  have O_is_integer : FnOk P w K mg base (L2.CX P w) 1 _ fd_is_integer P_is_integer (spOf K 1 ct_is_integer) := fn_ok D_is_integer sc_is_integer (bd_is_integer G ) rd_is_integer
  have F_is_integer : FnC P w K mg base 1 "is_integer" 1 ct_is_integer := ⟨_, fd_is_integer, P_is_integer, rfl, O_is_integer, He.glo_ok X Gn (c.fact 0 (f := .glo "is_integer") rfl), D_is_integer.kp, D_is_integer.bindsN (fun _ _ _ _ _ _ us hl => match us, hl with | [_], _ => rfl)⟩
  have O_is_between : FnOk P w K mg base (L2.CX P w) 2 _ fd_is_between P_is_between (spOf K 3 ct_is_between) := fn_ok D_is_between sc_is_between (bd_is_between G F_is_integer) rd_is_between
  have F_is_between : FnC P w K mg base 2 "is_between" 3 ct_is_between := ⟨_, fd_is_between, P_is_between, rfl, O_is_between, He.glo_ok X Gn (c.fact 1 (f := .glo "is_between") rfl), D_is_between.kp, D_is_between.bindsN (fun _ _ _ _ _ _ us hl => match us, hl with | [_, _, _], _ => rfl)⟩
  have O_is_subset : FnOk P w K mg base (L2.CX P w) 3 _ fd_is_subset P_is_subset (spOf K 2 ct_is_subset) := fn_ok D_is_subset sc_is_subset (bd_is_subset G F_is_between) rd_is_subset
  have F_is_subset : FnC P w K mg base 3 "is_subset" 2 ct_is_subset := ⟨_, fd_is_subset, P_is_subset, rfl, O_is_subset, He.glo_ok X Gn (c.fact 2 (f := .glo "is_subset") rfl), D_is_subset.kp, D_is_subset.bindsN (fun _ _ _ _ _ _ us hl => match us, hl with | [_, _], _ => rfl)⟩
  have O_mask_of : FnOk P w K mg base (L2.CX P w) 1 _ fd_mask_of P_mask_of (spOf K 1 ct_mask_of) := fn_ok D_mask_of sc_mask_of (bd_mask_of G ) rd_mask_of
  have F_mask_of : FnC P w K mg base 1 "mask_of" 1 ct_mask_of := ⟨_, fd_mask_of, P_mask_of, rfl, O_mask_of, He.glo_ok X Gn (c.fact 3 (f := .glo "mask_of") rfl), D_mask_of.kp, D_mask_of.bindsN (fun _ _ _ _ _ _ us hl => match us, hl with | [_], _ => rfl)⟩
  have O_members_of : FnOk P w K mg base (L2.CX P w) 1 _ fd_members_of P_members_of (spOf K 1 ct_members_of) := fn_ok D_members_of sc_members_of (bd_members_of G ) rd_members_of
  have F_members_of : FnC P w K mg base 1 "members_of" 1 ct_members_of := ⟨_, fd_members_of, P_members_of, rfl, O_members_of, He.glo_ok X Gn (c.fact 4 (f := .glo "members_of") rfl), D_members_of.kp, D_members_of.bindsN (fun _ _ _ _ _ _ us hl => match us, hl with | [_], _ => rfl)⟩
  have O_is_pair : FnOk P w K mg base (L2.CX P w) 3 _ fd_is_pair P_is_pair (spOf K 3 ct_is_pair) := fn_ok D_is_pair sc_is_pair (bd_is_pair G F_is_between) rd_is_pair
  have F_is_pair : FnC P w K mg base 3 "is_pair" 3 ct_is_pair := ⟨_, fd_is_pair, P_is_pair, rfl, O_is_pair, He.glo_ok X Gn (c.fact 5 (f := .glo "is_pair") rfl), D_is_pair.kp, D_is_pair.bindsN (fun _ _ _ _ _ _ us hl => match us, hl with | [_, _, _], _ => rfl)⟩
  have O_first_wrong_pair : FnOk P w K mg base (L2.CX P w) 4 _ fd_first_wrong_pair P_first_wrong_pair (spOf K 3 ct_first_wrong_pair) := fn_ok D_first_wrong_pair sc_first_wrong_pair (bd_first_wrong_pair G F_is_pair) rd_first_wrong_pair
  have F_first_wrong_pair : FnC P w K mg base 4 "first_wrong_pair" 3 ct_first_wrong_pair := ⟨_, fd_first_wrong_pair, P_first_wrong_pair, rfl, O_first_wrong_pair, He.glo_ok X Gn (c.fact 6 (f := .glo "first_wrong_pair") rfl), D_first_wrong_pair.kp, D_first_wrong_pair.bindsN (fun _ _ _ _ _ _ us hl => match us, hl with | [_, _, _], _ => rfl)⟩
  have O_leading_masks : FnOk P w K mg base (L2.CX P w) 1 _ fd_leading_masks P_leading_masks (spOf K 2 ct_leading_masks) := fn_ok D_leading_masks sc_leading_masks (bd_leading_masks G ) rd_leading_masks
  have F_leading_masks : FnC P w K mg base 1 "leading_masks" 2 ct_leading_masks := ⟨_, fd_leading_masks, P_leading_masks, rfl, O_leading_masks, He.glo_ok X Gn (c.fact 7 (f := .glo "leading_masks") rfl), D_leading_masks.kp, D_leading_masks.bindsN (fun _ _ _ _ _ _ us hl => match us, hl with | [_, _], _ => rfl)⟩
  have O_has_cycle : FnOk P w K mg base (L2.CX P w) 2 _ fd_has_cycle P_has_cycle (spOf K 2 ct_has_cycle) := fn_ok D_has_cycle sc_has_cycle (bd_has_cycle G F_leading_masks) rd_has_cycle
  have F_has_cycle : FnC P w K mg base 2 "has_cycle" 2 ct_has_cycle := ⟨_, fd_has_cycle, P_has_cycle, rfl, O_has_cycle, He.glo_ok X Gn (c.fact 8 (f := .glo "has_cycle") rfl), D_has_cycle.kp, D_has_cycle.bindsN (fun _ _ _ _ _ _ us hl => match us, hl with | [_, _], _ => rfl)⟩
  have O_Events_init : FnOk P w K mg base (L2.CX P w) 5 _ fd_Events_init P_Events_init (spOf K 4 ct_Events_init) := fn_ok D_Events_init sc_Events_init (bd_Events_init G F_first_wrong_pair F_has_cycle F_is_between) rd_Events_init
  have M_Events : MkC P w K mg base 5 "Events" 4 ct_Events_init := ⟨_, fd_Events_init, P_Events_init, rfl, He.mkr_ok (c.fact 31 (f := .mkr "Events") rfl), O_Events_init, He.glo_ok X Gn (c.fact 30 (f := .glo "Events") rfl), D_Events_init.bindsN (fun _ _ _ _ _ _ us hl => match us, hl with | [_, _, _, _], _ => rfl)⟩
  have O_against_masks : FnOk P w K mg base (L2.CX P w) 1 _ fd_against_masks P_against_masks (spOf K 1 ct_against_masks) := fn_ok D_against_masks sc_against_masks (bd_against_masks G ) rd_against_masks
  have F_against_masks : FnC P w K mg base 1 "against_masks" 1 ct_against_masks := ⟨_, fd_against_masks, P_against_masks, rfl, O_against_masks, He.glo_ok X Gn (c.fact 9 (f := .glo "against_masks") rfl), D_against_masks.kp, D_against_masks.bindsN (fun _ _ _ _ _ _ us hl => match us, hl with | [_], _ => rfl)⟩
  have O_is_state : FnOk P w K mg base (L2.CX P w) 4 _ fd_is_state P_is_state (spOf K 2 ct_is_state) := fn_ok D_is_state sc_is_state (bd_is_state G F_is_subset F_mask_of) rd_is_state
  have F_is_state : FnC P w K mg base 4 "is_state" 2 ct_is_state := ⟨_, fd_is_state, P_is_state, rfl, O_is_state, He.glo_ok X Gn (c.fact 10 (f := .glo "is_state") rfl), D_is_state.kp, D_is_state.bindsN (fun _ _ _ _ _ _ us hl => match us, hl with | [_, _], _ => rfl)⟩
  have O_look_at_states : FnOk P w K mg base (L2.CX P w) 5 _ fd_look_at_states P_look_at_states (spOf K 3 ct_look_at_states) := fn_ok D_look_at_states sc_look_at_states (bd_look_at_states G F_is_state X_InvalidState) rd_look_at_states
  have F_look_at_states : FnC P w K mg base 5 "look_at_states" 3 ct_look_at_states := ⟨_, fd_look_at_states, P_look_at_states, rfl, O_look_at_states, He.glo_ok X Gn (c.fact 11 (f := .glo "look_at_states") rfl), D_look_at_states.kp, D_look_at_states.bindsN (fun _ _ _ _ _ _ us hl => match us, hl with | [_, _, _], _ => rfl)⟩
  have O_merged : FnOk P w K mg base (L2.CX P w) 6 _ fd_merged P_merged (spOf K 3 ct_merged) := fn_ok D_merged sc_merged (bd_merged G F_is_state F_look_at_states F_mask_of F_members_of X_Undefined) rd_merged
  have F_merged : FnC P w K mg base 6 "merged" 3 ct_merged := ⟨_, fd_merged, P_merged, rfl, O_merged, He.glo_ok X Gn (c.fact 12 (f := .glo "merged") rfl), D_merged.kp, D_merged.bindsN (fun _ _ _ _ _ _ us hl => match us, hl with | [_, _, _], _ => rfl)⟩
  have K_merged : FnK P w K mg base 6 "merged" 3 ["other", "one", "events"] [2, 1, 0] ct_merged := ⟨_, fd_merged, P_merged, rfl, O_merged, He.glo_ok X Gn (c.fact 12 (f := .glo "merged") rfl), D_merged.kp, fun s ws _ hl => bindsK D_merged s (match ws, hl with | [_, _, _], _ => fun _ _ _ _ _ _ => rfl)⟩
  have O_conflict : FnOk P w K mg base (L2.CX P w) 6 _ fd_conflict P_conflict (spOf K 3 ct_conflict) := fn_ok D_conflict sc_conflict (bd_conflict G F_against_masks F_look_at_states X_Undefined) rd_conflict
  have F_conflict : FnC P w K mg base 6 "conflict" 3 ct_conflict := ⟨_, fd_conflict, P_conflict, rfl, O_conflict, He.glo_ok X Gn (c.fact 13 (f := .glo "conflict") rfl), D_conflict.kp, D_conflict.bindsN (fun _ _ _ _ _ _ us hl => match us, hl with | [_, _, _], _ => rfl)⟩
  have K_conflict : FnK P w K mg base 6 "conflict" 3 ["other", "one", "events"] [2, 1, 0] ct_conflict := ⟨_, fd_conflict, P_conflict, rfl, O_conflict, He.glo_ok X Gn (c.fact 13 (f := .glo "conflict") rfl), D_conflict.kp, fun s ws _ hl => bindsK D_conflict s (match ws, hl with | [_, _, _], _ => fun _ _ _ _ _ _ => rfl)⟩
  have O__law_cell : FnOk P w K mg base (L2.CX P w) 1 _ fd__law_cell P__law_cell (spOf K 2 ct__law_cell) := fn_ok D__law_cell sc__law_cell (bd__law_cell G ) rd_law_cell
  have F__law_cell : FnC P w K mg base 1 "_law_cell" 2 ct__law_cell := ⟨_, fd__law_cell, P__law_cell, rfl, O__law_cell, He.glo_ok X Gn (c.fact 14 (f := .glo "_law_cell") rfl), D__law_cell.kp, D__law_cell.bindsN (fun _ _ _ _ _ _ us hl => match us, hl with | [_, _], _ => rfl)⟩
  have O__law_row : FnOk P w K mg base (L2.CX P w) 2 _ fd__law_row P__law_row (spOf K 4 ct__law_row) := fn_ok D__law_row sc__law_row (bd__law_row G F__law_cell) rd_law_row
  have F__law_row : FnC P w K mg base 2 "_law_row" 4 ct__law_row := ⟨_, fd__law_row, P__law_row, rfl, O__law_row, He.glo_ok X Gn (c.fact 15 (f := .glo "_law_row") rfl), D__law_row.kp, D__law_row.bindsN (fun _ _ _ _ _ _ us hl => match us, hl with | [_, _, _, _], _ => rfl)⟩
  have O__law_pairs : FnOk P w K mg base (L2.CX P w) 1 _ fd__law_pairs P__law_pairs (spOf K 3 ct__law_pairs) := fn_ok D__law_pairs sc__law_pairs (bd__law_pairs G ) rd_law_pairs
  have F__law_pairs : FnC P w K mg base 1 "_law_pairs" 3 ct__law_pairs := ⟨_, fd__law_pairs, P__law_pairs, rfl, O__law_pairs, He.glo_ok X Gn (c.fact 16 (f := .glo "_law_pairs") rfl), D__law_pairs.kp, D__law_pairs.bindsN (fun _ _ _ _ _ _ us hl => match us, hl with | [_, _, _], _ => rfl)⟩
  have O__law_parts : FnOk P w K mg base (L2.CX P w) 3 _ fd__law_parts P__law_parts (spOf K 1 ct__law_parts) := fn_ok D__law_parts sc__law_parts (bd__law_parts G F__law_pairs F__law_row) rd_law_parts
  have F__law_parts : FnC P w K mg base 3 "_law_parts" 1 ct__law_parts := ⟨_, fd__law_parts, P__law_parts, rfl, O__law_parts, He.glo_ok X Gn (c.fact 17 (f := .glo "_law_parts") rfl), D__law_parts.kp, D__law_parts.bindsN (fun _ _ _ _ _ _ us hl => match us, hl with | [_], _ => rfl)⟩
  have O__law_needs : FnOk P w K mg base (L2.CX P w) 1 _ fd__law_needs P__law_needs (spOf K 2 ct__law_needs) := fn_ok D__law_needs sc__law_needs (bd__law_needs G ) rd_law_needs
  have F__law_needs : FnC P w K mg base 1 "_law_needs" 2 ct__law_needs := ⟨_, fd__law_needs, P__law_needs, rfl, O__law_needs, He.glo_ok X Gn (c.fact 18 (f := .glo "_law_needs") rfl), D__law_needs.kp, D__law_needs.bindsN (fun _ _ _ _ _ _ us hl => match us, hl with | [_, _], _ => rfl)⟩
  have O__law_in : FnOk P w K mg base (L2.CX P w) 1 _ fd__law_in P__law_in (spOf K 2 ct__law_in) := fn_ok D__law_in sc__law_in (bd__law_in G ) rd_law_in
  have F__law_in : FnC P w K mg base 1 "_law_in" 2 ct__law_in := ⟨_, fd__law_in, P__law_in, rfl, O__law_in, He.glo_ok X Gn (c.fact 19 (f := .glo "_law_in") rfl), D__law_in.kp, D__law_in.bindsN (fun _ _ _ _ _ _ us hl => match us, hl with | [_, _], _ => rfl)⟩
  have O__law_good : FnOk P w K mg base (L2.CX P w) 1 _ fd__law_good P__law_good (spOf K 2 ct__law_good) := fn_ok D__law_good sc__law_good (bd__law_good G ) rd_law_good
  have F__law_good : FnC P w K mg base 1 "_law_good" 2 ct__law_good := ⟨_, fd__law_good, P__law_good, rfl, O__law_good, He.glo_ok X Gn (c.fact 20 (f := .glo "_law_good") rfl), D__law_good.kp, D__law_good.bindsN (fun _ _ _ _ _ _ us hl => match us, hl with | [_, _], _ => rfl)⟩
  have O__law_state : FnOk P w K mg base (L2.CX P w) 2 _ fd__law_state P__law_state (spOf K 3 ct__law_state) := fn_ok D__law_state sc__law_state (bd__law_state G F__law_good) rd_law_state
  have F__law_state : FnC P w K mg base 2 "_law_state" 3 ct__law_state := ⟨_, fd__law_state, P__law_state, rfl, O__law_state, He.glo_ok X Gn (c.fact 21 (f := .glo "_law_state") rfl), D__law_state.kp, D__law_state.bindsN (fun _ _ _ _ _ _ us hl => match us, hl with | [_, _, _], _ => rfl)⟩
  have O__law_first : FnOk P w K mg base (L2.CX P w) 1 _ fd__law_first P__law_first (spOf K 3 ct__law_first) := fn_ok D__law_first sc__law_first (bd__law_first G ) rd_law_first
  have F__law_first : FnC P w K mg base 1 "_law_first" 3 ct__law_first := ⟨_, fd__law_first, P__law_first, rfl, O__law_first, He.glo_ok X Gn (c.fact 22 (f := .glo "_law_first") rfl), D__law_first.kp, D__law_first.bindsN (fun _ _ _ _ _ _ us hl => match us, hl with | [_, _, _], _ => rfl)⟩
  have F0__law_same : FnC P w K mg base 0 "_law_same" 2 (ctS 0) := ⟨_, fd__law_same, P__law_same, rfl, fn_no ct0_law_same, He.glo_ok X Gn (c.fact 23 (f := .glo "_law_same") rfl), D__law_same.kp, D__law_same.bindsN (fun _ _ _ _ _ _ us hl => match us, hl with | [_, _], _ => rfl)⟩
  have O1__law_same : FnOk P w K mg base (L2.CX P w) 1 _ fd__law_same P__law_same (spOf K 2 (ctS 1)) := fn_ok D__law_same sc__law_same (bd__law_same G  F0__law_same) (rd_law_same 0)
  have F1__law_same : FnC P w K mg base 1 "_law_same" 2 (ctS 1) := ⟨_, fd__law_same, P__law_same, rfl, O1__law_same, He.glo_ok X Gn (c.fact 23 (f := .glo "_law_same") rfl), D__law_same.kp, D__law_same.bindsN (fun _ _ _ _ _ _ us hl => match us, hl with | [_, _], _ => rfl)⟩
  have O2__law_same : FnOk P w K mg base (L2.CX P w) 2 _ fd__law_same P__law_same (spOf K 2 (ctS 2)) := fn_ok D__law_same sc__law_same (bd__law_same G  F1__law_same) (rd_law_same 1)
  have F2__law_same : FnC P w K mg base 2 "_law_same" 2 (ctS 2) := ⟨_, fd__law_same, P__law_same, rfl, O2__law_same, He.glo_ok X Gn (c.fact 23 (f := .glo "_law_same") rfl), D__law_same.kp, D__law_same.bindsN (fun _ _ _ _ _ _ us hl => match us, hl with | [_, _], _ => rfl)⟩
  have O3__law_same : FnOk P w K mg base (L2.CX P w) 3 _ fd__law_same P__law_same (spOf K 2 (ctS 3)) := fn_ok D__law_same sc__law_same (bd__law_same G  F2__law_same) (rd_law_same 2)
  have F3__law_same : FnC P w K mg base 3 "_law_same" 2 (ctS 3) := ⟨_, fd__law_same, P__law_same, rfl, O3__law_same, He.glo_ok X Gn (c.fact 23 (f := .glo "_law_same") rfl), D__law_same.kp, D__law_same.bindsN (fun _ _ _ _ _ _ us hl => match us, hl with | [_, _], _ => rfl)⟩
  have O4__law_same : FnOk P w K mg base (L2.CX P w) 4 _ fd__law_same P__law_same (spOf K 2 ct__law_same) := fn_ok D__law_same sc__law_same (bd__law_same G  F3__law_same) (rd_law_same 3)
  have F__law_same : FnC P w K mg base 4 "_law_same" 2 ct__law_same := ⟨_, fd__law_same, P__law_same, rfl, O4__law_same, He.glo_ok X Gn (c.fact 23 (f := .glo "_law_same") rfl), D__law_same.kp, D__law_same.bindsN (fun _ _ _ _ _ _ us hl => match us, hl with | [_, _], _ => rfl)⟩
  have O__law_told : FnOk P w K mg base (L2.CX P w) 7 _ fd__law_told P__law_told (spOf K 4 ct__law_told) := fn_ok D__law_told sc__law_told (bd__law_told G F_conflict K_conflict F_merged K_merged) rd_law_told
  have F__law_told : FnC P w K mg base 7 "_law_told" 4 ct__law_told := ⟨_, fd__law_told, P__law_told, rfl, O__law_told, He.glo_ok X Gn (c.fact 24 (f := .glo "_law_told") rfl), D__law_told.kp, D__law_told.bindsN (fun _ _ _ _ _ _ us hl => match us, hl with | [_, _, _, _], _ => rfl)⟩
  have O__law_right : FnOk P w K mg base (L2.CX P w) 8 _ fd__law_right P__law_right (spOf K 4 ct__law_right) := fn_ok D__law_right sc__law_right (bd__law_right G F__law_first F__law_same F__law_told) rd_law_right
  have F__law_right : FnC P w K mg base 8 "_law_right" 4 ct__law_right := ⟨_, fd__law_right, P__law_right, rfl, O__law_right, He.glo_ok X Gn (c.fact 25 (f := .glo "_law_right") rfl), D__law_right.kp, D__law_right.bindsN (fun _ _ _ _ _ _ us hl => match us, hl with | [_, _, _, _], _ => rfl)⟩
  have O__law_refused : FnOk P w K mg base (L2.CX P w) 8 _ fd__law_refused P__law_refused (spOf K 4 ct__law_refused) := fn_ok D__law_refused sc__law_refused (bd__law_refused G F__law_same F__law_told) rd_law_refused
  have F__law_refused : FnC P w K mg base 8 "_law_refused" 4 ct__law_refused := ⟨_, fd__law_refused, P__law_refused, rfl, O__law_refused, He.glo_ok X Gn (c.fact 26 (f := .glo "_law_refused") rfl), D__law_refused.kp, D__law_refused.bindsN (fun _ _ _ _ _ _ us hl => match us, hl with | [_, _, _, _], _ => rfl)⟩
  have O__law_bad : FnOk P w K mg base (L2.CX P w) 2 _ fd__law_bad P__law_bad (spOf K 5 ct__law_bad) := fn_ok D__law_bad sc__law_bad (bd__law_bad G F__law_in) rd_law_bad
  have F__law_bad : FnC P w K mg base 2 "_law_bad" 5 ct__law_bad := ⟨_, fd__law_bad, P__law_bad, rfl, O__law_bad, He.glo_ok X Gn (c.fact 27 (f := .glo "_law_bad") rfl), D__law_bad.kp, D__law_bad.bindsN (fun _ _ _ _ _ _ us hl => match us, hl with | [_, _, _, _, _], _ => rfl)⟩
  have O__law_asked : FnOk P w K mg base (L2.CX P w) 9 _ fd__law_asked P__law_asked (spOf K 1 ct__law_asked) := fn_ok D__law_asked sc__law_asked (bd__law_asked G M_Events F__law_bad F__law_in F__law_needs F__law_parts F__law_refused F__law_right F__law_row F__law_state) rd_law_asked
  have F__law_asked : FnC P w K mg base 9 "_law_asked" 1 ct__law_asked := ⟨_, fd__law_asked, P__law_asked, rfl, O__law_asked, He.glo_ok X Gn (c.fact 28 (f := .glo "_law_asked") rfl), D__law_asked.kp, D__law_asked.bindsN (fun _ _ _ _ _ _ us hl => match us, hl with | [_], _ => rfl)⟩
  have O_law : FnOk P w K mg base (L2.CX P w) 10 _ fd_law P_law (spOf K 1 ct_law) := fn_ok D_law sc_law (bd_law G F__law_asked) rd_law
  exact O_law
end L2.MW.K49
open PySem PySem.W PySem.Calls PyProof.Rows
theorem PySem.Challenge.cw_middlewebs_k49_merged_or_conflict_holds : PySem.Challenge.rw_middlewebs_k49_merged_or_conflict.Holds := by
  w_on; o_law
  refine HandSHeadRun.head_any (r := OpenLaw.row PySem.Challenge.rw_middlewebs_k49_merged_or_conflict) (q := view (OpenLaw.row PySem.Challenge.rw_middlewebs_k49_merged_or_conflict).prog [40]) (H := L2.MW.K49.hk) (ob := L2.MW.K49.ob) (M := 5000) (loose := L2.MW.K49.names) (d := HandSHeadRun.topDef (OpenLaw.row PySem.Challenge.rw_middlewebs_k49_merged_or_conflict).prog 40) (kwd := []) L2.MW.K49.ob_eq
    (by kernel_rfl) (fun s => by kernel_rfl) L2.MW.K49.run (by kernel_rfl) (by kernel_rfl) (by kernel_rfl) (by rfl) (by first | assumption | decide +kernel) (by decide +kernel) ⟨rfl, rfl, rfl, rfl, rfl, by decide +kernel⟩ ?hw ?hc
  case hw => w_witness2
  case hc =>
    refine L2.walk_ofE (l := PySem.Challenge.rw_middlewebs_k49_merged_or_conflict) (n := 63) (k := 10) (x := "script") (CX := L2.CX0) rfl (by decide) (by kernel_rfl) ⟨rfl, by decide, by decide⟩ ?F (fun _ _ _ _ z => z)
    intro w mg fa h Y G hmg0
    obtain ⟨K, KX, c⟩ := Y
    have hmg : mg ("law" : PySem.Str) = some (.ref fa) := by
      have e : (HandSHeadRun.topDef (OpenLaw.row PySem.Challenge.rw_middlewebs_k49_merged_or_conflict).prog 40).name = ("law" : PySem.Str) := by kernel_rfl
      rw [← e]
      exact hmg0
    obtain ⟨fd, hb, hF⟩ := L2.MW.K49.facts (P := (PySem.Challenge.rw_middlewebs_k49_merged_or_conflict).prog) (w := w) KX G hmg c
    exact ⟨K, fd, fun vs H Q _ => L2.MW.spOf K 1 L2.MW.K49.ct_law vs H Q fun _ _ _ => False, KX, hb, fun H a ns hl _ hS => L2.MW.law_sp (c := L2.MW.K49.ct_law) hS ⟨ns, rfl, hl, rfl⟩, fun base _ _ => L2.MW.cx0 (hF base)⟩

