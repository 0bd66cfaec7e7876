import PyProof.Rows.All
import Wide.All
import OpenK.AllK
import Wide.FinOn
import HandS.ForMost
import HandS.ForExc
import HandS.HeadHook2
import HandS.Nested
import HandS.Wide
import HandS.Flow
import HandS.Style
import HandS.TupAny
import HandS.TupLe
import HandS.IsInst
import HandS.Gcd
import HandS.More
import HandS.Strs
import HandS.Conv
import HandS.Zip
import HandS.Iter
import KE.GoesEnum
import HandS.Comp
import HandS.ExcOwn
import HandS.WordsExc
import HandS.Defaults
import HandS.Lambda
import HandS.ExcInit
import HandS.ExcField
import HandS.TryOnly
import HandS.Words
import HandS.ListItems
import HandS.EndTab
import HandS.HeadHook3
import HandS.HeadHook4
import HandS.ExcIs
import HandS.Small
import HandS.TryMany
import PyProof.P3Eq
import HandS.SlotsOwn
import HandS.Head2
import HandS.Text
import PySem.Challenge.RW_callchains_k78_mornings_made
section
set_option Elab.async false
set_option linter.all false
set_option maxRecDepth 100000
set_option maxHeartbeats 4000000
open PySem PySem.Spec L2
namespace DL
/-! ### values by value -/
inductive D where
  | non | bl (b : Bool) | int (i : Int) | str (x : Str)
  | tup (ds : List D) | fl (ds : List D) | fd (kvs : List (D × D)) | fi (c : Str) (fs : List (Str × D))
  | ref (a : Addr) | glo (x : Str) | ty (n : String)
  deriving BEq, Inhabited
/-- owned objects; a locked dict (walked just now) -/
inductive O where
  | ol (ds : List D) | od (kvs : List (D × D)) | odl (kvs : List (D × D)) | oi (c : Str) (fs : List (Str × D))
abbrev Hd := Addr → Option O
def hup (h : Hd) (a : Addr) (o : O) : Hd := fun b => if b = a then some o else h b
abbrev Env := List (Option D)
/-- the written part, the code tables -/
structure Ctx where
  K : PySem.W.Frag
  T : List (Addr × Str)
  cls : List Str
  flds : List Str
/-- a tuple whose object has no dict of its own -/
def SqN (K : PySem.W.Frag) (H : Hp) (a : Addr) (vs : List V) : Prop :=
  (∃ o : Obj, H a = some (.frz o (.tup vs)) ∧ o.dict = none) ∨
    ∃ (o : Obj) (its : Array Value) (n : Nat), K.lookup a = some o ∧ o.cls = .type "tuple" ∧ o.dict = none ∧ o.data = .seq its n ∧ its.size ≤ sizeLine ∧ Vals vs its.toList
theorem SqN.t {K : PySem.W.Frag} {H : Hp} {a : Addr} {vs : List V} (s : SqN K H a vs) : SqT K H a vs := by
  rcases s with ⟨o, e, _⟩ | ⟨o, its, n, e1, e2, _, e3⟩
  · exact .inl (.inr ⟨o, e⟩)
  · exact .inr ⟨o, its, n, e1, e2, e3⟩
/-- a written list without slots -/
def WrL (K : PySem.W.Frag) (a : Addr) (vs : List V) : Prop := ∃ (its : Array Value) (n : Nat), K.lookup a = some { cls := .type "list", dict := none, data := .seq its n, slots := #[] } ∧ its.size ≤ sizeLine ∧ Vals vs its.toList
/-- a frozen list, a written one -/
def LsZ (K : PySem.W.Frag) (Z : Addr → Prop) (H : Hp) (a : Addr) (vs : List V) : Prop := (Z a ∧ Rd H a (.lst vs)) ∨ WrL K a vs
theorem WrL.l {K : PySem.W.Frag} {H : Hp} {a : Addr} {vs : List V} (s : WrL K a vs) : SqL K H a vs := by
  obtain ⟨its, n, e, h1, h2⟩ := s
  exact .inr ⟨_, its, n, e, rfl, rfl, rfl, h1, h2⟩
theorem LsZ.l {K : PySem.W.Frag} {Z : Addr → Prop} {H : Hp} {a : Addr} {vs : List V} (s : LsZ K Z H a vs) : SqL K H a vs := s.elim (fun s => .inl s.2) fun s => s.l
section
variable (C : Ctx) (Z : Addr → Prop) (H : Hp)
mutual
def Rep : D → V → Prop
  | .non, v => v = .non
  | .bl b, v => v = .bl b
  | .int i, v => v = .int i
  | .str x, v => v = .str x
  | .tup ds, v => ∃ a vs, v = .ref a ∧ SqN C.K H a vs ∧ Reps ds vs
  | .fl ds, v => ∃ a vs, v = .ref a ∧ LsZ C.K Z H a vs ∧ Reps ds vs
  | .fd kvs, v => ∃ a kvv, v = .ref a ∧ Z a ∧ Rd H a (.dK kvv) ∧ RepKs kvs kvv
  | .fi c fs, v => ∃ a dx fvs, v = .ref a ∧ Z a ∧ H a = some (.ins (He.ga C.K c) dx fvs) ∧ c ∈ C.cls ∧ RepFs fs fvs
  | .ref a, v => v = .ref a
  | .glo x, v => v = .ref (He.ga C.K x)
  | .ty n, v => v = .ty n
def Reps : List D → List V → Prop
  | [], vs => vs = []
  | d :: ds, vs => ∃ v vr, vs = v :: vr ∧ Rep d v ∧ Reps ds vr
def RepKs : List (D × D) → List (Key × V) → Prop
  | [], vs => vs = []
  | kd :: ds, vs => ∃ k v vr, vs = (k, v) :: vr ∧ Rep kd.1 (kV k) ∧ Rep kd.2 v ∧ RepKs ds vr
def RepFs : List (Str × D) → List (Str × V) → Prop
  | [], vs => vs = []
  | kd :: ds, vs => ∃ v vr, vs = (kd.1, v) :: vr ∧ Rep kd.2 v ∧ RepFs ds vr
end
def RepO (a : Addr) : O → Prop
  | .ol ds => ∃ vs, H a = some (.lst vs) ∧ Reps C Z H ds vs
  | .od kvs => ∃ kvv, H a = some (.dK kvv) ∧ RepKs C Z H kvs kvv
  | .odl kvs => ∃ kvv, Rd H a (.dK kvv) ∧ RepKs C Z H kvs kvv
  | .oi c fs => ∃ dx fvs, H a = some (.ins (He.ga C.K c) dx fvs) ∧ c ∈ C.cls ∧ RepFs C Z H fs fvs
/-- the owned heap stands in the abstract heap -/
structure RelH (h : Hd) : Prop where
  obj : ∀ a o, h a = some o → ¬ Z a ∧ RepO C Z H a o
  zin : ∀ a, Z a → H a ≠ none ∧ ∀ ps, H a ≠ some (.tbl ps)
  tab : LamX.Tabs C.T H
end
/-- what stays -/
structure Fr (Z : Addr → Prop) (H : Hp) (Z' : Addr → Prop) (H' : Hp) : Prop where
  zz : ∀ a, Z a → Z' a
  rd : ∀ a u, Z a → Rd H a u → Rd H' a u
  ins : ∀ a C dx fs, Z a → H a = some (.ins C dx fs) → H' a = some (.ins C dx fs)
  xd : ∀ a fs, Z a → H a = some (.xd fs) → H' a = some (.xd fs)
  ext : ∀ a φ, Z a → H a = some (.ext φ) → H' a = some (.ext φ)
  frz : ∀ a o u, H a = some (.frz o u) → H' a = some (.frz o u)
section
variable {C : Ctx} {Z Z' Z2 : Addr → Prop} {H H' H2 : Hp} {h h' : Hd}
theorem Fr.refl : Fr Z H Z H := ⟨fun _ h => h, fun _ _ _ h => h, fun _ _ _ _ _ h => h, fun _ _ _ h => h, fun _ _ _ h => h, fun _ _ _ h => h⟩
theorem Fr.trans (a : Fr Z H Z' H') (b : Fr Z' H' Z2 H2) : Fr Z H Z2 H2 :=
  ⟨fun x h => b.zz x (a.zz x h), fun x u z r => b.rd x u (a.zz x z) (a.rd x u z r), fun x C dx fs z r => b.ins x C dx fs (a.zz x z) (a.ins x C dx fs z r),
    fun x fs z r => b.xd x fs (a.zz x z) (a.xd x fs z r), fun x fs z r => b.ext x fs (a.zz x z) (a.ext x fs z r), fun x o vs r => b.frz x o vs (a.frz x o vs r)⟩
theorem Fr.sqN {K : PySem.W.Frag} (f : Fr Z H Z' H') {a : Addr} {vs : List V} (s : SqN K H a vs) : SqN K H' a vs := by
  rcases s with ⟨o, e, d⟩ | s
  · exact .inl ⟨o, f.frz a o _ e, d⟩
  · exact .inr s
theorem Fr.lsZ {K : PySem.W.Frag} (f : Fr Z H Z' H') {a : Addr} {vs : List V} (s : LsZ K Z H a vs) : LsZ K Z' H' a vs := s.elim (fun s => .inl ⟨f.zz a s.1, f.rd a _ s.1 s.2⟩) .inr
mutual
theorem Rep.fr (f : Fr Z H Z' H') : ∀ {d : D} {v : V}, Rep C Z H d v → Rep C Z' H' d v
  | .non, v, h => h
  | .bl b, v, h => h
  | .int i, v, h => h
  | .str x, v, h => h
  | .tup ds, v, ⟨a, vs, e, s, r⟩ => ⟨a, vs, e, f.sqN s, Reps.fr f r⟩
  | .fl ds, v, ⟨a, vs, e, s, r⟩ => ⟨a, vs, e, f.lsZ s, Reps.fr f r⟩
  | .fd ds, v, ⟨a, vs, e, z, s, r⟩ => ⟨a, vs, e, f.zz a z, f.rd a _ z s, RepKs.fr f r⟩
  | .fi c ds, v, ⟨a, dx, vs, e, z, s, m, r⟩ => ⟨a, dx, vs, e, f.zz a z, f.ins a _ _ _ z s, m, RepFs.fr f r⟩
  | .ref a, v, h => h
  | .glo x, v, h => h
  | .ty x, v, h => h
theorem Reps.fr (f : Fr Z H Z' H') : ∀ {ds : List D} {vs : List V}, Reps C Z H ds vs → Reps C Z' H' ds vs
  | [], _, h => h
  | _ :: _, _, ⟨v, vr, e, r, rr⟩ => ⟨v, vr, e, Rep.fr f r, Reps.fr f rr⟩
theorem RepKs.fr (f : Fr Z H Z' H') : ∀ {ds : List (D × D)} {vs : List (Key × V)}, RepKs C Z H ds vs → RepKs C Z' H' ds vs
  | [], _, h => h
  | (_, _) :: _, _, ⟨k, v, vr, e, rk, r, rr⟩ => ⟨k, v, vr, e, Rep.fr f rk, Rep.fr f r, RepKs.fr f rr⟩
theorem RepFs.fr (f : Fr Z H Z' H') : ∀ {ds : List (Str × D)} {vs : List (Str × V)}, RepFs C Z H ds vs → RepFs C Z' H' ds vs
  | [], _, h => h
  | (_, _) :: _, _, ⟨v, vr, e, r, rr⟩ => ⟨v, vr, e, Rep.fr f r, RepFs.fr f rr⟩
end
/-- nothing frozen, no tuple stands at a -/
def Loose (Z : Addr → Prop) (H : Hp) (a : Addr) : Prop := ¬ Z a ∧ ∀ o u, H a ≠ some (.frz o u)
theorem Rd.upd_ne {a b : Addr} {o u : HO} (n : b ≠ a) (r : Rd H b u) : Rd (upd H a o) b u := by
  unfold Rd
  rw [L2.upd_ne n]
  exact r
theorem Fr.upd {a : Addr} {o : HO} (l : Loose Z H a) : Fr Z H Z (upd H a o) := by
  have ne : ∀ b, Z b → b ≠ a := fun b zb e => l.1 (e ▸ zb)
  refine ⟨fun _ h => h, fun b u zb r => Rd.upd_ne (ne b zb) r, fun b C dx fs zb r => by rw [upd_ne (ne b zb)]; exact r, fun b fs zb r => by rw [upd_ne (ne b zb)]; exact r, fun b φ zb r => by rw [upd_ne (ne b zb)]; exact r, fun b o vs r => by rw [upd_ne (show b ≠ a from fun e => l.2 o vs (e ▸ r))]; exact r⟩
theorem RelH.new {a : Addr} (R : RelH C Z H h) (n : H a = none) : Loose Z H a :=
  ⟨fun z => (R.zin a z).1 n, fun o vs r => by rw [n] at r; cases r⟩
theorem RelH.none {a : Addr} (R : RelH C Z H h) (n : H a = none) : h a = none := by
  cases e : h a with
  | none => rfl
  | some o =>
    obtain ⟨_, r⟩ := R.obj a o e
    cases o with
    | ol ds => obtain ⟨vs, q, _⟩ := r; rw [n] at q; cases q
    | od ds => obtain ⟨vs, q, _⟩ := r; rw [n] at q; cases q
    | odl ds => obtain ⟨vs, q, _⟩ := r; rcases q with q | ⟨_, q⟩ <;> rw [n] at q <;> cases q
    | oi c ds => obtain ⟨dx, vs, q, _⟩ := r; rw [n] at q; cases q
theorem hup_same {a : Addr} {o : O} : hup h a o a = some o := by unfold hup; rw [if_pos rfl]
theorem hup_ne {a b : Addr} {o : O} (n : b ≠ a) : hup h a o b = h b := by unfold hup; rw [if_neg n]
theorem hup_hup {a : Addr} {o o' : O} : hup (hup h a o) a o' = hup h a o' := by
  funext b; unfold hup; split <;> rfl
theorem hup_comm {a b : Addr} {o o' : O} (n : a ≠ b) : hup (hup h a o) b o' = hup (hup h b o') a o := by
  funext c; unfold hup; by_cases e : c = b
  · subst e; simp [Ne.symm n]
  · simp [e]
theorem hup_eta {a : Addr} {o : O} (e : h a = some o) : hup h a o = h := by
  funext b; unfold hup; split
  · subst b; exact e.symm
  · rfl
/-- a loose place written: the owned objects elsewhere stand, the new one as told -/
theorem RepO.fr {a : Addr} {o : O} (f : Fr Z H Z' H') (k : ∀ u, H a = some u → H' a = some u) (r : RepO C Z H a o) : RepO C Z' H' a o := by
  cases o with
  | ol ds => obtain ⟨vs, q, r⟩ := r; exact ⟨vs, k _ q, r.fr f⟩
  | od ds => obtain ⟨vs, q, r⟩ := r; exact ⟨vs, k _ q, r.fr f⟩
  | odl ds =>
    obtain ⟨vs, q, r⟩ := r
    refine ⟨vs, ?_, r.fr f⟩
    rcases q with q | ⟨ob, q⟩
    · exact .inl (k _ q)
    · exact .inr ⟨ob, k _ q⟩
  | oi c ds => obtain ⟨dx, vs, q, m, r⟩ := r; exact ⟨dx, vs, k _ q, m, r.fr f⟩
theorem RelH.put {a : Addr} {u : HO} {o : O} (R : RelH C Z H h) (l : Loose Z H a) (ht : ∀ ps, H a ≠ some (.tbl ps)) (hx : ∀ φ, H a ≠ some (.ext φ)) (r : RepO C Z (upd H a u) a o) : RelH C Z (upd H a u) (hup h a o) := by
  have f : Fr Z H Z (upd H a u) := Fr.upd l
  refine ⟨fun b q e => ?_, fun b zb => ?_, fun p hp => ?_⟩
  · by_cases hb : b = a
    · subst hb
      rw [hup_same] at e
      cases e
      exact ⟨l.1, r⟩
    · rw [hup_ne hb] at e
      obtain ⟨nz, rr⟩ := R.obj b q e
      exact ⟨nz, rr.fr f fun w hw => by rw [upd_ne hb]; exact hw⟩
  · have hb : b ≠ a := fun e => l.1 (e ▸ zb)
    rw [upd_ne hb]; exact R.zin b zb
  · obtain ⟨ps, e1, e2, e3⟩ := R.tab p hp
    refine ⟨ps, by rw [upd_ne (show p.1 ≠ a from fun e => ht ps (e ▸ e1))]; exact e1, e2, fun pos cv hc => ?_⟩
    obtain ⟨c, e4, e5⟩ := e3 pos cv hc
    exact ⟨c, e4, by rw [upd_ne (show c ≠ a from fun e => hx _ (e ▸ e5))]; exact e5⟩
/-- a new object that is not owned (a tuple) -/
theorem RelH.lay {a : Addr} {u : HO} (R : RelH C Z H h) (n : H a = Option.none) : RelH C Z (upd H a u) h := by
  have f : Fr Z H Z (upd H a u) := Fr.upd (R.new n)
  refine ⟨fun b q e => ?_, fun b zb => ?_, R.tab.ext fun b o e => by rw [upd_ne (ne_of_none e n)]; exact e⟩
  · have hb : b ≠ a := fun e2 => by rw [e2, R.none n] at e; cases e
    obtain ⟨nz, rr⟩ := R.obj b q e
    exact ⟨nz, rr.fr f fun w hw => by rw [upd_ne hb]; exact hw⟩
  · have hb : b ≠ a := fun e => (R.zin b zb).1 (e ▸ n)
    rw [upd_ne hb]; exact R.zin b zb
theorem RelH.sub (R : RelH C Z H h) (s : ∀ a o, h' a = some o → h a = some o) : RelH C Z H h' := ⟨fun a o e => R.obj a o (s a o e), R.zin, R.tab⟩
end
/-! ### slots -/
structure Anc where
  Z : Addr → Prop
  H : Hp
structure Rel (C : Ctx) (A : Anc) (Z : Addr → Prop) (H : Hp) (σ : St) (ρ : Env) (h : Hd) : Prop extends RelH C Z H h where
  len : σ.length = ρ.length
  slot : ∀ (i : Nat) (d : D), ρ[i]? = some (some d) → ∃ v, σ[i]? = some (some v) ∧ Rep C Z H d v
  anc : Fr A.Z A.H Z H
section
variable {C : Ctx} {A : Anc} {Z Z' : Addr → Prop} {H H' : Hp} {σ : St} {ρ : Env} {h h' : Hd}
theorem Rel.next (R : Rel C A Z H σ ρ h) (f : Fr Z H Z' H') (r : RelH C Z' H' h') : Rel C A Z' H' σ ρ h' :=
  ⟨r, R.len, fun i d e => let ⟨v, e1, e2⟩ := R.slot i d e; ⟨v, e1, e2.fr f⟩, R.anc.trans f⟩
theorem Rel.set (R : Rel C A Z H σ ρ h) {d : D} {v : V} (i : Nat) (r : Rep C Z H d v) : Rel C A Z H (σ.set i (some v)) (ρ.set i (some d)) h := by
  refine ⟨R.toRelH, by simp [R.len], fun j e q => ?_, R.anc⟩
  by_cases hj : i = j
  · subst hj
    rw [List.getElem?_set] at q
    rw [List.getElem?_set]
    simp only [if_true] at q ⊢
    rw [R.len]
    split at q
    · cases q; rename_i hl; exact ⟨v, by simp [hl], r⟩
    · cases q
  · rw [List.getElem?_set_ne hj] at q
    rw [List.getElem?_set_ne hj]
    exact R.slot j e q
end
/-! ### transformers -/
abbrev DK := D → Hd → Prop
abbrev DE := Env → Hd → DK → Prop
abbrev DT := Env → Hd → (Bool → Hd → Prop) → Prop
abbrev DA := Env → Hd → (List D → Hd → Prop) → Prop
structure DEnds where
  nx : Env → Hd → Prop
  rt : DK
  bk : Env → Hd → Prop := fun _ _ => False
  ct : Env → Hd → Prop := fun _ _ => False
abbrev DS := DEnds → Env → Hd → Prop
/-- the reading of HandS by a transformer -/
def UpE (C : Ctx) (A : Anc) (W : DE) : TE := fun σ H Q => ∃ Z ρ h Qd, Rel C A Z H σ ρ h ∧ W ρ h Qd ∧ ∀ d h' v Z' H', Qd d h' → Fr Z H Z' H' → RelH C Z' H' h' → Rep C Z' H' d v → Q v H'
def UpT (C : Ctx) (A : Anc) (W : DT) : TT := fun σ H Q => ∃ Z ρ h Qd, Rel C A Z H σ ρ h ∧ W ρ h Qd ∧ ∀ d h' Z' H', Qd d h' → Fr Z H Z' H' → RelH C Z' H' h' → Q d H'
def UpA (C : Ctx) (A : Anc) (W : DA) : TA := fun σ H Q => ∃ Z ρ h Qd, Rel C A Z H σ ρ h ∧ W ρ h Qd ∧ ∀ ds h' vs Z' H', Qd ds h' → Fr Z H Z' H' → RelH C Z' H' h' → Reps C Z' H' ds vs → Q vs H'
def UpS (C : Ctx) (A : Anc) (W : DS) : TS := fun D σ H => ∃ Z ρ h Dd, Rel C A Z H σ ρ h ∧ W Dd ρ h ∧
  (∀ ρ' h' Z' H' σ', Dd.nx ρ' h' → Fr Z H Z' H' → Rel C A Z' H' σ' ρ' h' → D.nx σ' H') ∧
  (∀ ρ' h' Z' H' σ', Dd.bk ρ' h' → Fr Z H Z' H' → Rel C A Z' H' σ' ρ' h' → D.bk σ' H') ∧
  (∀ ρ' h' Z' H' σ', Dd.ct ρ' h' → Fr Z H Z' H' → Rel C A Z' H' σ' ρ' h' → D.ct σ' H') ∧
  ∀ d h' v Z' H', Dd.rt d h' → Fr Z H Z' H' → RelH C Z' H' h' → Rep C Z' H' d v → D.rt v H'
/-- weaker readings -/
theorem PE.imp {X : Cx} {e : Expr} {t t' : TE} (p : PE X e t) (f : ∀ σ H Q, t' σ H Q → t σ H Q) : PE X e t' := ⟨fun pins s σ H Q I h => p.run pins s σ H Q I (f σ H Q h)⟩
theorem PT.imp {X : Cx} {e : Expr} {t t' : TT} (p : PT X e t) (f : ∀ σ H Q, t' σ H Q → t σ H Q) : PT X e t' := ⟨fun pins s σ H Q I h => p.run pins s σ H Q I (f σ H Q h)⟩
theorem PA.imp {X : Cx} {e : List Expr} {t t' : TA} (p : PA X e t) (f : ∀ σ H Q, t' σ H Q → t σ H Q) : PA X e t' := ⟨fun pos pins s σ H Q I h => p.run pos pins s σ H Q I (f σ H Q h)⟩
theorem PS.imp {X : Cx} {e : Stmt} {t t' : TS} (p : PS X e t) (f : ∀ D σ H, t' D σ H → t D σ H) : PS X e t' := ⟨fun pins s σ H Q I h => p.run pins s σ H Q I (f Q σ H h)⟩
theorem PSs.imp {X : Cx} {e : List Stmt} {t t' : TS} (p : PSs X e t) (f : ∀ D σ H, t' D σ H → t D σ H) : PSs X e t' := ⟨fun pins s σ H Q I h => p.run pins s σ H Q I (f Q σ H h)⟩
/-! ### names, constants -/
def dVar (i : Nat) : DE := fun ρ h Q => ∃ d : D, ρ[i]? = some (some d) ∧ Q d h
def dC (d : D) : DE := fun _ h Q => Q d h
def dInt (i : Int) : DE := dC (.int i)
def dBl (b : Bool) : DE := dC (.bl b)
def dNon : DE := dC .non
def dStr (x : Str) : DE := dC (.str x)
section
variable {C : Ctx} {A : Anc} {X : Cx}
abbrev PEd (C : Ctx) (A : Anc) (X : Cx) (e : Expr) (W : DE) : Prop := PE X e (UpE C A W)
abbrev PTd (C : Ctx) (A : Anc) (X : Cx) (e : Expr) (W : DT) : Prop := PT X e (UpT C A W)
abbrev PAd (C : Ctx) (A : Anc) (X : Cx) (e : List Expr) (W : DA) : Prop := PA X e (UpA C A W)
abbrev PSd (C : Ctx) (A : Anc) (X : Cx) (e : Stmt) (W : DS) : Prop := PS X e (UpS C A W)
abbrev PSsd (C : Ctx) (A : Anc) (X : Cx) (e : List Stmt) (W : DS) : Prop := PSs X e (UpS C A W)
theorem d_var {i : Nat} {e : Expr} (p : PE X e (tVar i)) : PEd C A X e (dVar i) := PE.imp p fun σ H Q ⟨Z, ρ, h, Qd, R, ⟨d, e1, q⟩, k⟩ => by
  obtain ⟨v, e2, r⟩ := R.slot i d e1
  exact ⟨v, e2, k d h v Z H q Fr.refl R.toRelH r⟩
theorem d_c {d : D} {v : V} {e : Expr} (p : PE X e (tC v)) (r : ∀ Z H, Rep C Z H d v) : PEd C A X e (dC d) := PE.imp p fun σ H Q ⟨Z, ρ, h, Qd, R, q, k⟩ => k d h v Z H q Fr.refl R.toRelH (r Z H)
theorem d_int {i j pos} : PEd C A X (.Constant (.int i) j pos) (dInt i) := d_c pe_int fun _ _ => rfl
theorem d_bl {i j pos} : PEd C A X (.Constant (.bool i) j pos) (dBl i) := d_c pe_bl fun _ _ => rfl
theorem d_non {j pos} : PEd C A X (.Constant .none j pos) dNon := d_c pe_non fun _ _ => rfl
theorem d_str {i j pos} : PEd C A X (.Constant (.str i) j pos) (dStr i) := d_c pe_str fun _ _ => rfl
/-! ### two values, one value -/
abbrev W2 := D → D → Hd → DK → Prop
abbrev W1 := D → Hd → DK → Prop
abbrev WL := List D → Hd → DK → Prop
/-- an operator's rule by values -/
def Op2 (C : Ctx) (r : R2) (w : W2) : Prop := ∀ (Z : Addr → Prop) (H : Hp) (h : Hd) (d e : D) (x y : V) (Qd : DK) (Q : VK), RelH C Z H h → Rep C Z H d x → Rep C Z H e y → w d e h Qd →
  (∀ d h' v Z' H', Qd d h' → Fr Z H Z' H' → RelH C Z' H' h' → Rep C Z' H' d v → Q v H') → r x y H Q
def Op1 (C : Ctx) (r : V → Hp → VK → Prop) (w : W1) : Prop := ∀ (Z : Addr → Prop) (H : Hp) (h : Hd) (d : D) (x : V) (Qd : DK) (Q : VK), RelH C Z H h → Rep C Z H d x → w d h Qd →
  (∀ d h' v Z' H', Qd d h' → Fr Z H Z' H' → RelH C Z' H' h' → Rep C Z' H' d v → Q v H') → r x H Q
def OpL (C : Ctx) (r : List V → Hp → VK → Prop) (w : WL) : Prop := ∀ (Z : Addr → Prop) (H : Hp) (h : Hd) (ds : List D) (xs : List V) (Qd : DK) (Q : VK), RelH C Z H h → Reps C Z H ds xs → w ds h Qd →
  (∀ d h' v Z' H', Qd d h' → Fr Z H Z' H' → RelH C Z' H' h' → Rep C Z' H' d v → Q v H') → r xs H Q
def d2 (w : W2) (a b : DE) : DE := fun ρ h Q => a ρ h fun x h1 => b ρ h1 fun y h2 => w x y h2 Q
def d1 (w : W1) (a : DE) : DE := fun ρ h Q => a ρ h fun x h1 => w x h1 Q
theorem up_bin {r : R2} {w : W2} {a b : DE} (o : Op2 C r w) : ∀ σ H Q, UpE C A (d2 w a b) σ H Q → tOp r (UpE C A a) (UpE C A b) σ H Q := fun σ H Q ⟨Z, ρ, h, Qd, R, q, k⟩ => by
  refine ⟨Z, ρ, h, _, R, q, fun x h1 v1 Z1 H1 q1 f1 R1 r1 => ⟨Z1, ρ, h1, _, R.next f1 R1, q1, fun y h2 v2 Z2 H2 q2 f2 R2 r2 => ?_⟩⟩
  exact o Z2 H2 h2 x y v1 v2 Qd Q R2 (r1.fr f2) r2 q2 fun d h' v Z' H' qd f R' rr => k d h' v Z' H' qd ((f1.trans f2).trans f) R' rr
theorem d_op {op : Operator} {r : R2} {w : W2} {a b : Expr} {wa wb : DE} {pos : Pos} (ho : OpR X (binaryOp op) r) (o : Op2 C r w) (ha : PEd C A X a wa) (hb : PEd C A X b wb) : PEd C A X (.BinOp a op b pos) (d2 w wa wb) :=
  PE.imp (pe_op ho ha hb) (up_bin o)
theorem d_un {op : UnaryOp} {r : V → Hp → VK → Prop} {w : W1} {a : Expr} {wa : DE} {pos : Pos} (ho : UnR X (unaryOp op) r) (o : Op1 C r w) (ha : PEd C A X a wa) : PEd C A X (.UnaryOp op a pos) (d1 w wa) :=
  PE.imp (pe_un ho ha) fun σ H Q ⟨Z, ρ, h, Qd, R, q, k⟩ => ⟨Z, ρ, h, _, R, q, fun x h1 v1 Z1 H1 q1 f1 R1 r1 => o Z1 H1 h1 x v1 Qd Q R1 r1 q1 fun d h' v Z' H' qd f R' rr => k d h' v Z' H' qd (f1.trans f) R' rr⟩
theorem d_cmp {op : CmpOp} {r : R2} {w : W2} {a b : Expr} {wa wb : DE} {pos : Pos} (ho : OpR X (compareOp op) r) (o : Op2 C r w) (ha : PEd C A X a wa) (hb : PEd C A X b wb) (hm : behindInMarks op b = false) : PEd C A X (.Compare a [op] [b] pos) (d2 w wa wb) :=
  PE.imp (pe_cmpR ho ha hb hm) (up_bin o)
/-- a value that is a truth, as a test -/
def dTest (a : DE) : DT := fun ρ h Q => a ρ h fun x h1 => ∃ k, x = .bl k ∧ Q k h1
theorem up_test {a : DE} : ∀ σ H Q, UpT C A (dTest a) σ H Q → tTest (UpE C A a) σ H Q := fun σ H Q ⟨Z, ρ, h, Qd, R, q, k⟩ =>
  ⟨Z, ρ, h, _, R, q, fun x h1 v1 Z1 H1 ⟨c, e, q1⟩ f1 R1 r1 => ⟨c, by subst e; exact r1, k c h1 Z1 H1 q1 f1 R1⟩⟩
theorem d_tcmp {op : CmpOp} {r : R2} {w : W2} {a b : Expr} {wa wb : DE} {pos : Pos} (ho : OpR X (compareOp op) r) (o : Op2 C r w) (ha : PEd C A X a wa) (hb : PEd C A X b wb) (hm : behindInMarks op b = false) : PTd C A X (.Compare a [op] [b] pos) (dTest (d2 w wa wb)) :=
  PT.imp (pt_cmpR ho ha hb hm) fun σ H Q hq => by
    obtain ⟨Z, ρ, h, Qd, R, q, k⟩ := hq
    have := up_bin (A := A) o σ H (fun x H' => ∃ k, x = .bl k ∧ Q k H') ⟨Z, ρ, h, _, R, q, fun d h' v Z' H' ⟨c, e, qq⟩ f R' rr => ⟨c, by subst e; exact rr, k c h' Z' H' qq f R'⟩⟩
    exact this
end
end DL
end
section
set_option Elab.async false
set_option linter.all false
set_option maxRecDepth 100000
set_option maxHeartbeats 4000000
open PySem PySem.Spec L2
namespace DL
/-- a length that any container may have -/
abbrev SZ (n : Nat) : Prop := n ≤ 1000000
theorem SZ.line {n : Nat} (h : SZ n) : n ≤ sizeLine := Nat.le_trans h (by decide)
section
variable {C : Ctx} {A : Anc} {X : Cx} {Z : Addr → Prop} {H : Hp} {h : Hd}
/-! ### what a value is by its heap -/
theorem rep_int {i : Int} {v : V} : Rep C Z H (.int i) v ↔ v = .int i := Iff.rfl
theorem Reps.length : ∀ {ds : List D} {vs : List V}, Reps C Z H ds vs → vs.length = ds.length
  | [], _, e => by rw [show _ = [] from e]; rfl
  | d :: ds, _, ⟨v, vr, e, r, rr⟩ => by rw [e, List.length_cons, List.length_cons, Reps.length rr]
theorem Reps.get : ∀ {ds : List D} {vs : List V} {i : Nat} {d : D}, Reps C Z H ds vs → ds[i]? = some d → ∃ v, vs[i]? = some v ∧ Rep C Z H d v
  | [], _, i, d, _, h => by simp at h
  | d :: ds, _, 0, d', ⟨v, vr, e, r, rr⟩, h => by simp at h; subst h; subst e; exact ⟨v, rfl, r⟩
  | d :: ds, _, i + 1, d', ⟨v, vr, e, r, rr⟩, h => by subst e; simp at h ⊢; exact Reps.get rr h
theorem Reps.nil : Reps C Z H [] [] := rfl
theorem Reps.cons {d : D} {v : V} {ds : List D} {vs : List V} (r : Rep C Z H d v) (rr : Reps C Z H ds vs) : Reps C Z H (d :: ds) (v :: vs) := ⟨v, vs, rfl, r, rr⟩
theorem Reps.append : ∀ {ds es : List D} {vs us : List V}, Reps C Z H ds vs → Reps C Z H es us → Reps C Z H (ds ++ es) (vs ++ us)
  | [], _, _, _, e, r => by rw [show _ = [] from e]; exact r
  | d :: ds, _, _, _, ⟨v, vr, e, r, rr⟩, s => by subst e; exact ⟨v, vr ++ _, rfl, r, Reps.append rr s⟩
theorem Reps.drop : ∀ {ds : List D} {vs : List V} (n : Nat), Reps C Z H ds vs → Reps C Z H (ds.drop n) (vs.drop n)
  | _, _, 0, r => r
  | [], _, n + 1, e => by rw [show _ = [] from e]; exact rfl
  | d :: ds, _, n + 1, ⟨v, vr, e, r, rr⟩ => by subst e; exact Reps.drop n rr
theorem Reps.take : ∀ {ds : List D} {vs : List V} (n : Nat), Reps C Z H ds vs → Reps C Z H (ds.take n) (vs.take n)
  | _, _, 0, r => rfl
  | [], _, n + 1, e => by rw [show _ = [] from e]; exact rfl
  | d :: ds, _, n + 1, ⟨v, vr, e, r, rr⟩ => by subst e; exact ⟨v, _, rfl, r, Reps.take n rr⟩
theorem Reps.set : ∀ {ds : List D} {vs : List V} {d : D} {v : V} (n : Nat), Reps C Z H ds vs → Rep C Z H d v → Reps C Z H (ds.set n d) (vs.set n v)
  | [], _, _, _, n, e, _ => by rw [show _ = [] from e]; exact rfl
  | d :: ds, _, _, _, 0, ⟨v, vr, e, r, rr⟩, s => by subst e; exact ⟨_, _, rfl, s, rr⟩
  | d :: ds, _, _, _, n + 1, ⟨v, vr, e, r, rr⟩, s => by subst e; exact ⟨v, _, rfl, r, Reps.set n rr s⟩
theorem Reps.eraseIdx : ∀ {ds : List D} {vs : List V} (n : Nat), Reps C Z H ds vs → Reps C Z H (ds.eraseIdx n) (vs.eraseIdx n)
  | [], _, n, e => by rw [show _ = [] from e]; exact rfl
  | d :: ds, _, 0, ⟨v, vr, e, r, rr⟩ => by subst e; exact rr
  | d :: ds, _, n + 1, ⟨v, vr, e, r, rr⟩ => by subst e; exact ⟨v, _, rfl, r, Reps.eraseIdx n rr⟩
theorem Reps.reverse : ∀ {ds : List D} {vs : List V}, Reps C Z H ds vs → Reps C Z H ds.reverse vs.reverse
  | [], _, e => by rw [show _ = [] from e]; exact rfl
  | d :: ds, _, ⟨v, vr, e, r, rr⟩ => by subst e; rw [List.reverse_cons, List.reverse_cons]; exact Reps.append (Reps.reverse rr) ⟨v, [], rfl, r, rfl⟩
theorem Reps.dropLast : ∀ {ds : List D} {vs : List V}, Reps C Z H ds vs → Reps C Z H ds.dropLast vs.dropLast := fun {ds vs} r => by
  rw [List.dropLast_eq_take, List.dropLast_eq_take, Reps.length r]
  exact Reps.take _ r
theorem Reps.isEmpty : ∀ {ds : List D} {vs : List V}, Reps C Z H ds vs → vs.isEmpty = ds.isEmpty
  | [], _, e => by rw [show _ = [] from e]; rfl
  | d :: ds, _, ⟨v, vr, e, r, rr⟩ => by subst e; rfl
theorem Reps.map {α : Type} {f : α → D} {g : α → V} (k : ∀ a, Rep C Z H (f a) (g a)) : ∀ xs : List α, Reps C Z H (xs.map f) (xs.map g)
  | [] => rfl
  | x :: xs => ⟨_, _, rfl, k x, Reps.map k xs⟩
theorem Reps.of_map {α : Type} {f : α → D} {g : α → V} (k : ∀ a v, Rep C Z H (f a) v → v = g a) : ∀ {xs : List α} {vs : List V}, Reps C Z H (xs.map f) vs → vs = xs.map g
  | [], _, e => e
  | x :: xs, _, ⟨v, vr, e, r, rr⟩ => by rw [e, k x v r, Reps.of_map k rr]; rfl
theorem Reps.one {d : D} {vs : List V} (r : Reps C Z H [d] vs) : ∃ v, vs = [v] ∧ Rep C Z H d v := by
  obtain ⟨v, vr, e, r1, r2⟩ := r
  exact ⟨v, by rw [e, show vr = [] from r2], r1⟩
theorem Reps.two {d e : D} {vs : List V} (r : Reps C Z H [d, e] vs) : ∃ v u, vs = [v, u] ∧ Rep C Z H d v ∧ Rep C Z H e u := by
  obtain ⟨v, vr, e1, r1, r2⟩ := r
  obtain ⟨u, e2, r3⟩ := Reps.one r2
  exact ⟨v, u, by rw [e1, e2], r1, r3⟩
theorem Reps.three {d e f : D} {vs : List V} (r : Reps C Z H [d, e, f] vs) : ∃ v u w, vs = [v, u, w] ∧ Rep C Z H d v ∧ Rep C Z H e u ∧ Rep C Z H f w := by
  obtain ⟨v, vr, e1, r1, r2⟩ := r
  obtain ⟨u, w, e2, r3, r4⟩ := Reps.two r2
  exact ⟨v, u, w, by rw [e1, e2], r1, r3, r4⟩
/-- the items of a sequence: a tuple's, a list's -/
def seqOf (h : Hd) : D → Option (List D)
  | .tup ds => some ds
  | .fl ds => some ds
  | .ref a => match h a with
    | some (.ol ds) => some ds
    | _ => none
  | _ => none
def lstOf (h : Hd) : D → Option (List D)
  | .fl ds => some ds
  | .ref a => match h a with
    | some (.ol ds) => some ds
    | _ => none
  | _ => none
/-- the entries of a dict -/
def dicOf (h : Hd) : D → Option (List (D × D))
  | .fd ds => some ds
  | .ref a => match h a with
    | some (.od ds) => some ds
    | some (.odl ds) => some ds
    | _ => none
  | _ => none
theorem lst_rep (R : RelH C Z H h) {d : D} {v : V} {ds : List D} (e : lstOf h d = some ds) (r : Rep C Z H d v) : ∃ a vs, v = .ref a ∧ SqL C.K H a vs ∧ Reps C Z H ds vs := by
  cases d with
  | fl es =>
    obtain ⟨a, vs, e1, s, r1⟩ := r
    cases e
    exact ⟨a, vs, e1, s.l, r1⟩
  | ref a =>
    unfold lstOf at e
    cases q : h a with
    | none => simp [q] at e
    | some o =>
      cases o with
      | ol es =>
        simp [q] at e
        subst e
        obtain ⟨_, vs, e1, r1⟩ := R.obj a _ q
        exact ⟨a, vs, r, .inl (.inl e1), r1⟩
      | _ => simp [q] at e
  | _ => cases e
theorem seq_rep (R : RelH C Z H h) {d : D} {v : V} {ds : List D} (e : seqOf h d = some ds) (r : Rep C Z H d v) : ∃ a vs, v = .ref a ∧ (SqL C.K H a vs ∨ SqT C.K H a vs) ∧ Reps C Z H ds vs := by
  by_cases t : ∃ es, d = .tup es
  · obtain ⟨es, rfl⟩ := t
    obtain ⟨a, vs, e1, s, r1⟩ := r
    cases e
    exact ⟨a, vs, e1, .inr s.t, r1⟩
  · have e' : lstOf h d = some ds := by
      cases d <;> first | exact e | exact absurd ⟨_, rfl⟩ t
    obtain ⟨a, vs, e1, s, r1⟩ := lst_rep R e' r
    exact ⟨a, vs, e1, .inl s, r1⟩
theorem dic_rep (R : RelH C Z H h) {d : D} {v : V} {ds : List (D × D)} (e : dicOf h d = some ds) (r : Rep C Z H d v) : ∃ a vs, v = .ref a ∧ Rd H a (.dK vs) ∧ RepKs C Z H ds vs := by
  cases d with
  | fd es =>
    obtain ⟨a, vs, e1, _, s, r1⟩ := r
    cases e
    exact ⟨a, vs, e1, s, r1⟩
  | ref a =>
    unfold dicOf at e
    cases q : h a with
    | none => simp [q] at e
    | some o =>
      cases o with
      | od es =>
        simp [q] at e
        subst e
        obtain ⟨_, vs, e1, r1⟩ := R.obj a _ q
        exact ⟨a, vs, r, .inl e1, r1⟩
      | odl es =>
        simp [q] at e
        subst e
        obtain ⟨_, vs, e1, r1⟩ := R.obj a _ q
        exact ⟨a, vs, r, e1, r1⟩
      | _ => simp [q] at e
  | _ => cases e
theorem own_rep (R : RelH C Z H h) {a : Addr} {o : O} (e : h a = some o) : RepO C Z H a o := (R.obj a o e).2
theorem own_loose (R : RelH C Z H h) {a : Addr} {o : O} (e : h a = some o) (hn : ∀ kvs, o ≠ .odl kvs) : Loose Z H a ∧ (∀ ps, H a ≠ some (.tbl ps)) ∧ ∀ φ, H a ≠ some (.ext φ) := by
  obtain ⟨nz, r⟩ := R.obj a o e
  have key : ∃ u, H a = some u ∧ (∀ vs : List V, u ≠ .tup vs) ∧ (∀ ob w, u ≠ .frz ob w) ∧ (∀ ps, u ≠ .tbl ps) ∧ ∀ φ, u ≠ .ext φ := by
    cases o with
    | ol ds => obtain ⟨vs, q, _⟩ := r; exact ⟨_, q, fun _ z => (nomatch z), fun _ _ z => (nomatch z), fun _ z => (nomatch z), fun _ z => (nomatch z)⟩
    | od ds => obtain ⟨vs, q, _⟩ := r; exact ⟨_, q, fun _ z => (nomatch z), fun _ _ z => (nomatch z), fun _ z => (nomatch z), fun _ z => (nomatch z)⟩
    | odl ds => exact absurd rfl (hn ds)
    | oi c ds => obtain ⟨dx, vs, q, _⟩ := r; exact ⟨_, q, fun _ z => (nomatch z), fun _ _ z => (nomatch z), fun _ z => (nomatch z), fun _ z => (nomatch z)⟩
  obtain ⟨u, q, h1, h2, h3, h4⟩ := key
  refine ⟨⟨nz, fun ob vs r => ?_⟩, fun ps z => ?_, fun φ z => ?_⟩
  · rw [q] at r; exact h2 ob vs (Option.some.inj r)
  · rw [q] at z; exact h3 ps (Option.some.inj z)
  · rw [q] at z; exact h4 φ (Option.some.inj z)
/-- an owned object is written -/
theorem RelH.wr (R : RelH C Z H h) {a : Addr} {o o' : O} {u : HO} (e : h a = some o) (hn : ∀ kvs, o ≠ .odl kvs) (r : RepO C Z (upd H a u) a o') : RelH C Z (upd H a u) (hup h a o') := by
  obtain ⟨l, h1, h2⟩ := own_loose R e hn
  exact R.put l h1 h2 r
theorem RelH.wrFr (R : RelH C Z H h) {a : Addr} {o : O} {u : HO} (e : h a = some o) (hn : ∀ kvs, o ≠ .odl kvs) : Fr Z H Z (upd H a u) := Fr.upd (own_loose R e hn).1
/-- a new owned object -/
theorem RelH.mkO (R : RelH C Z H h) {a : Addr} {o : O} {u : HO} (n : H a = Option.none) (r : RepO C Z (upd H a u) a o) : RelH C Z (upd H a u) (hup h a o) :=
  R.put (R.new n) (fun ps z => by rw [n] at z; cases z) (fun φ z => by rw [n] at z; cases z) r
theorem RelH.mkFr (R : RelH C Z H h) {a : Addr} {u : HO} (n : H a = Option.none) : Fr Z H Z (upd H a u) := Fr.upd (R.new n)
theorem RelH.mkLst (R : RelH C Z H h) {a : Addr} {ds : List D} {vs : List V} (n : H a = Option.none) (r : Reps C Z H ds vs) : RelH C Z (upd H a (.lst vs)) (hup h a (.ol ds)) :=
  R.mkO n ⟨vs, upd_same, r.fr (R.mkFr n)⟩
theorem RelH.mkDic (R : RelH C Z H h) {a : Addr} {ds : List (D × D)} {vs : List (Key × V)} (n : H a = Option.none) (r : RepKs C Z H ds vs) : RelH C Z (upd H a (.dK vs)) (hup h a (.od ds)) :=
  R.mkO n ⟨vs, upd_same, r.fr (R.mkFr n)⟩
theorem RelH.mkTup (R : RelH C Z H h) {a : Addr} {ds : List D} {vs : List V} {o : Obj} (n : H a = Option.none) (r : Reps C Z H ds vs) (d : o.dict = Option.none) : RelH C Z (upd H a (.frz o (.tup vs))) h ∧ Rep C Z (upd H a (.frz o (.tup vs))) (.tup ds) (.ref a) :=
  ⟨R.lay n, ⟨a, vs, rfl, .inl ⟨o, upd_same, d⟩, r.fr (R.mkFr n)⟩⟩
/-! ### tuples made, their objects known -/
theorem Inv.laidT {pins : List (Addr × Obj)} {σ : St} {s : Shared} {vs : List V} {us : List Value} {t' : Nat} (I : Inv X pins σ H s) (hz : vs.length ≤ sizeLine) (r : Vals vs us) :
    Inv X pins σ (upd H s.heap.objs.size (.frz { cls := .type "tuple", data := .seq us.toArray } (.tup vs))) { s with heap := s.heap.push { cls := .type "tuple", data := .seq us.toArray }, toks := t' } :=
  I.laid (fun b u e => Heap.get?_push_of_some _ e) (Nat.le_refl _) ⟨Heap.get?_push_size _ rfl, hz, us, r, ⟨_, Heap.get?_push_size _ rfl, rfl, _, rfl⟩⟩
/-- a new tuple at any free place -/
def NewT (H : Hp) (vs : List V) (Q : VK) : Prop := ∀ p (o : Obj), H p = none → o.dict = none → Q (.ref p) (upd H p (.frz o (.tup vs)))
theorem NewT.fin {pins : List (Addr × Obj)} {σ : St} {s : Shared} {vs : List V} {us : List Value} {t' : Nat} {Q : VK} (q : NewT H vs Q) (I : Inv X pins σ H s) (hz : vs.length ≤ sizeLine) (r : Vals vs us) :
    EP X pins σ Q (.ref s.heap.objs.size) { s with heap := s.heap.push { cls := .type "tuple", data := .seq us.toArray }, toks := t' } :=
  ⟨.ref s.heap.objs.size, _, Inv.laidT I hz r, rfl, q _ _ (I.hok.fresh (Nat.le_refl _)) rfl⟩
def rCatN (K : PySem.W.Frag) : R2 := fun x y H Q => ∃ a b xs ys, x = .ref a ∧ y = .ref b ∧ SqT K H a xs ∧ SqT K H b ys ∧ xs.length + ys.length ≤ sizeLine ∧
  (xs = [] → Q (.ref b) H) ∧ (xs ≠ [] → ys = [] → Q (.ref a) H) ∧ (xs ≠ [] → ys ≠ [] → NewT H (xs ++ ys) Q)
theorem op_catN : OpR X (binaryOp .Add) (rCatN X.K) := by
  intro pins s σ H x y v u Q I rx ry h
  obtain ⟨a, b, xs, ys, rfl, rfl, hx, hy, hz, q1, q2, q3⟩ := h
  cases rx
  cases ry
  obtain ⟨its, r, ht, hl⟩ := I.tuple hx
  obtain ⟨its2, r2, ht2, hl2⟩ := I.tuple hy
  by_cases e : xs = []
  · subst e
    cases r
    exact cat_tup0 ht ht2 ⟨.ref b, H, I, rfl, q1 rfl⟩
  · have e' : its ≠ [] := fun z => e (r.nil_iff.mp z)
    refine HT.cat_tup ht ht2 e' (fun z => ?_) (fun z => ?_) (by rw [← r.length, ← r2.length]; exact hz)
    · exact ⟨.ref a, H, I, rfl, q2 e (r2.nil_iff.mp z)⟩
    · refine NewT.fin (t' := s.toks) (q3 e fun z' => z (r2.nil_iff.mpr z')) I (by rw [List.length_append]; exact hz) (r.append r2)
theorem pe_tupN {es : List Expr} {t : TA} {pos : Pos} {x1} (h : PA X es t) : PE X (.Tuple es x1 pos) (fun σ H Q => t σ H fun xs H1 => xs.length ≤ sizeLine ∧ NewT H1 xs Q) := by
  refine ⟨fun pins s σ H Q I hq => ?_⟩
  refine wpAny_Tuple_spliced (thn (h.run pos pins s σ H _ I hq) fun us s1 ⟨xs, H1, I1, r, z, q⟩ => ⟨by rw [← r.length]; exact z, ?_⟩)
  exact NewT.fin (t' := s1.toks) q I1 z r

/-! ### arithmetic -/
theorem Op2.inl {r r' : R2} {w : W2} (o : Op2 C r w) : Op2 C (fun x y H Q => r x y H Q ∨ r' x y H Q) w := fun Z H h d e x y Qd Q R rx ry q k => .inl (o Z H h d e x y Qd Q R rx ry q k)
def MulOk (i j : Int) : Prop := (-(2 ^ 64) < i ∧ i < 2 ^ 64) ∨ (-(2 ^ 64) < j ∧ j < 2 ^ 64) ∨ CMulW i j
def onI (x : D) (f : Int → Prop) : Prop := match x with
  | .int i => f i
  | _ => False
def onI2 (x y : D) (f : Int → Int → Prop) : Prop := onI x fun i => onI y fun j => f i j
def onS (x : D) (f : Str → Prop) : Prop := match x with
  | .str i => f i
  | _ => False
theorem rep_onI {d : D} {x : V} {f : Int → Prop} (rx : Rep C Z H d x) (q : onI d f) : ∃ i, d = .int i ∧ x = .int i ∧ f i := by
  cases d <;> first | exact q.elim | exact ⟨_, rfl, rx, q⟩
theorem rep_onI2 {d e : D} {x y : V} {f : Int → Int → Prop} (rx : Rep C Z H d x) (ry : Rep C Z H e y) (q : onI2 d e f) : ∃ i j, x = .int i ∧ y = .int j ∧ f i j := by
  obtain ⟨i, _, ex, q⟩ := rep_onI rx q
  obtain ⟨j, _, ey, q⟩ := rep_onI ry q
  exact ⟨i, j, ex, ey, q⟩
theorem rep_onS {d : D} {x : V} {f : Str → Prop} (rx : Rep C Z H d x) (q : onS d f) : ∃ i, d = .str i ∧ x = .str i ∧ f i := by
  cases d <;> first | exact q.elim | exact ⟨_, rfl, rx, q⟩
def wSub : W2 := fun x y h Q => onI2 x y fun i j => Q (.int (i - j)) h
def wMul : W2 := fun x y h Q => onI2 x y fun i j => MulOk i j ∧ Q (.int (i * j)) h
def wDiv : W2 := fun x y h Q => onI2 x y fun i j => CDivW i j ∧ Q (.int (i / j)) h
def wMod : W2 := fun x y h Q => onI2 x y fun i j => 0 < j ∧ Q (.int (i % j)) h
def wPow : W2 := fun x y h Q => onI2 x y fun i j => CPow i j ∧ Q (.int (i ^ j.toNat)) h
def wNeg : W1 := fun x h Q => onI x fun i => Q (.int (-i)) h
theorem o_sub : Op2 C (rI0 fun i j => .int (i - j)) wSub := fun Z H h d e x y Qd Q R rx ry q k => by
  obtain ⟨i, j, ex, ey, f⟩ := rep_onI2 rx ry q
  exact ⟨i, j, ex, ey, k _ h _ Z H f Fr.refl R rfl⟩
theorem o_mul : Op2 C (fun x y H Q => rI CMul (fun i j => .int (i * j)) x y H Q ∨ rI CMulW (fun i j => .int (i * j)) x y H Q) wMul := fun Z H h d e x y Qd Q R rx ry q k => by
  obtain ⟨i, j, ex, ey, c, f⟩ := rep_onI2 rx ry q
  rcases c with c | c | c
  · exact .inl ⟨i, j, ex, ey, .inl c, k _ h _ Z H f Fr.refl R rfl⟩
  · exact .inl ⟨i, j, ex, ey, .inr c, k _ h _ Z H f Fr.refl R rfl⟩
  · exact .inr ⟨i, j, ex, ey, c, k _ h _ Z H f Fr.refl R rfl⟩
theorem o_div : Op2 C (rI CDivW fun i j => .int (i / j)) wDiv := fun Z H h d e x y Qd Q R rx ry q k => by
  obtain ⟨i, j, ex, ey, c, f⟩ := rep_onI2 rx ry q
  exact ⟨i, j, ex, ey, c, k _ h _ Z H f Fr.refl R rfl⟩
theorem o_mod : Op2 C (rI (fun _ j => 0 < j) fun i j => .int (i % j)) wMod := fun Z H h d e x y Qd Q R rx ry q k => by
  obtain ⟨i, j, ex, ey, c, f⟩ := rep_onI2 rx ry q
  exact ⟨i, j, ex, ey, c, k _ h _ Z H f Fr.refl R rfl⟩
theorem o_pow : Op2 C (rI CPow fun i j => .int (i ^ j.toNat)) wPow := fun Z H h d e x y Qd Q R rx ry q k => by
  obtain ⟨i, j, ex, ey, c, f⟩ := rep_onI2 rx ry q
  exact ⟨i, j, ex, ey, c, k _ h _ Z H f Fr.refl R rfl⟩
theorem o_neg : Op1 C (rU fun i => .int (-i)) wNeg := fun Z H h d x Qd Q R rx q k => by
  obtain ⟨i, _, ex, f⟩ := rep_onI rx q
  exact ⟨i, ex, k _ h _ Z H f Fr.refl R rfl⟩
/-- + of numbers, texts, tuples, lists -/
def wAdd : W2 := fun x y h Q => match x with
  | .int i => onI y fun j => Q (.int (i + j)) h
  | .str i => onS y fun j => SZ (i.length + j.length) ∧ Q (.str (i ++ j)) h
  | .tup a => (match y with
    | .tup b => SZ (a.length + b.length) ∧ Q (.tup (a ++ b)) h
    | _ => False)
  | x => match lstOf h x, lstOf h y with
      | some a, some b => SZ (a.length + b.length) ∧ ∀ p, h p = none → Q (.ref p) (hup h p (.ol (a ++ b)))
      | _, _ => False
/-- lists that are read -/
def SqI (K : PySem.W.Frag) (H : Hp) (a : Addr) (vs : List V) : Prop := Rd H a (.lst vs) ∨ WrL K a vs
theorem Inv.lstI {pins : List (Addr × Obj)} {σ : St} {s : Shared} {a : Addr} {xs : List V} (I : Inv X pins σ H s) (h : SqI X.K H a xs) :
    xs.length ≤ sizeLine ∧ ∃ (its : List Value) (n : Nat), Vals xs its ∧ xs.length = its.length ∧ s.heap.get? a = some { cls := .type "list", data := .seq its.toArray n } := by
  rcases h with h | ⟨its, n, e, h1, h2⟩
  · obtain ⟨z, its, n, r, e⟩ := h.ok I.hok
    exact ⟨z, its, n, r, r.length, e⟩
  · have l := h2.length
    refine ⟨by rw [l, Array.length_toList]; exact h1, its.toList, n, h2, l, by simpa using I.kIn a _ e⟩
def rCatI (K : PySem.W.Frag) : R2 := fun x y H Q => ∃ l b xs zs, x = .ref l ∧ y = .ref b ∧ SqI K H l xs ∧ SqI K H b zs ∧ xs.length + zs.length ≤ sizeLine ∧ ∀ p, H p = none → Q (.ref p) (upd H p (.lst (xs ++ zs)))
theorem op_catI : OpR X (binaryOp .Add) (rCatI X.K) := by
  intro pins s σ H x y v u Q I rx ry h
  obtain ⟨l, b, xs, zs, rfl, rfl, hH, hB, hz, q⟩ := h
  cases rx
  cases ry
  obtain ⟨z, its, n, r, hl, e⟩ := Inv.lstI I hH
  obtain ⟨z2, its2, n2, r2, hl2, e2⟩ := Inv.lstI I hB
  refine PySem.P.add_list e e2 ?_ (by rw [List.size_toArray, List.size_toArray]; omega)
  have ea : its.toArray ++ its2.toArray = (its ++ its2).toArray := by simp
  rw [ea]
  exact ⟨.ref _, _, I.lnew (t' := s.toks) (r.append r2) (by rw [List.length_append]; omega), rfl, q _ I.fresh⟩
theorem lstI_rep (R : RelH C Z H h) {d : D} {v : V} {ds : List D} (e : lstOf h d = some ds) (r : Rep C Z H d v) : ∃ a vs, v = .ref a ∧ SqI C.K H a vs ∧ Reps C Z H ds vs := by
  cases d with
  | fl es =>
    obtain ⟨a, vs, e1, s, r1⟩ := r
    cases e
    exact ⟨a, vs, e1, s.elim (fun s => .inl s.2) .inr, r1⟩
  | ref a =>
    unfold lstOf at e
    cases q : h a with
    | none => simp [q] at e
    | some o =>
      cases o with
      | ol es =>
        simp [q] at e
        subst e
        obtain ⟨_, vs, e1, r1⟩ := R.obj a _ q
        exact ⟨a, vs, r, .inl (.inl e1), r1⟩
      | _ => simp [q] at e
  | _ => cases e
abbrev rAddAll (K : PySem.W.Frag) : R2 := fun x y H Q => (rI0 (fun i j => .int (i + j)) x y H Q ∨ (∃ i j, x = .str i ∧ y = .str j ∧ i.length + j.length ≤ sizeLine ∧ Q (.str (i ++ j)) H)) ∨ (rCatN K x y H Q ∨ rCatI K x y H Q)
theorem op_addAll : OpR X (binaryOp .Add) (rAddAll X.K) := (op_add.or op_add_str).or (op_catN.or op_catI)
theorem o_add : Op2 C (rAddAll C.K) wAdd := fun Z H h d e x y Qd Q R rx ry q k => by
  cases d with
  | int i =>
    obtain ⟨j, rfl, ey, f⟩ := rep_onI ry q
    exact .inl (.inl ⟨i, j, rx, ey, k _ h _ Z H f Fr.refl R rfl⟩)
  | str i =>
    obtain ⟨j, rfl, ey, z, f⟩ := rep_onS ry q
    exact .inl (.inr ⟨i, j, rx, ey, z.line, k _ h _ Z H f Fr.refl R rfl⟩)
  | tup a =>
    cases e with
    | tup b =>
      obtain ⟨z, f⟩ := q
      obtain ⟨p, vs, rfl, s1, r1⟩ := id rx
      obtain ⟨p2, us, rfl, s2, r2⟩ := id ry
      refine .inr (.inl ⟨p, p2, vs, us, rfl, rfl, s1.t, s2.t, by rw [r1.length, r2.length]; exact z.line, fun e => ?_, fun _ e => ?_, fun _ _ q o hq hd => ?_⟩)
      · have : a = [] := by have := r1.length; rw [e] at this; exact List.eq_nil_of_length_eq_zero this.symm
        subst this
        exact k _ h _ Z H f Fr.refl R ry
      · have : b = [] := by have := r2.length; rw [e] at this; exact List.eq_nil_of_length_eq_zero this.symm
        subst this
        rw [List.append_nil] at f
        exact k _ h _ Z H f Fr.refl R rx
      · obtain ⟨R', rr⟩ := R.mkTup hq (Reps.append r1 r2) hd
        exact k _ h _ Z _ f (R.mkFr hq) R' rr
    | _ => exact q.elim
  | _ =>
    unfold wAdd at q
    dsimp only at q
    split at q
    · rename_i xs ys e1 e2
      obtain ⟨z, f⟩ := q
      obtain ⟨p1, vs, ea, s1, r1⟩ := lstI_rep R e1 rx
      obtain ⟨p2, us, eb, s2, r2⟩ := lstI_rep R e2 ry
      refine .inr (.inr ⟨p1, p2, vs, us, ea, eb, s1, s2, by rw [r1.length, r2.length]; exact z.line, fun q hq => ?_⟩)
      exact k _ _ _ Z _ (f q (R.none hq)) (R.mkFr hq) (R.mkLst hq (Reps.append r1 r2)) rfl
    · exact q.elim
end
end DL
end
section
set_option Elab.async false
set_option linter.all false
set_option maxRecDepth 100000
set_option maxHeartbeats 4000000
open PySem PySem.Spec L2
namespace DL
/-! ### data -/
mutual
def pdF (g : Addr → Option PyData) : D → Option PyData
  | .non => some .none
  | .bl b => some (.bool b)
  | .int i => some (.int i)
  | .str x => some (.str x)
  | .tup ds => (pdFs g ds).map .tuple
  | .fl ds => (pdFs g ds).map .list
  | .ref a => g a
  | .fd _ => none
  | .fi _ _ => none
  | .glo _ => none
  | .ty _ => none
def pdFs (g : Addr → Option PyData) : List D → Option (List PyData)
  | [] => some []
  | d :: ds => match pdF g d, pdFs g ds with
    | some p, some ps => some (p :: ps)
    | _, _ => none
end
/-- owned lists within owned lists, twice -/
def pdG (h : Hd) : Nat → Addr → Option PyData
  | 0, _ => none
  | n + 1, a => match h a with
    | some (.ol ds) => (pdFs (pdG h n) ds).map .list
    | _ => none
def pd (h : Hd) (d : D) : Option PyData := pdF (pdG h 3) d
section
variable {C : Ctx} {A : Anc} {X : Cx} {Z : Addr → Prop} {H : Hp} {h : Hd}
mutual
theorem pdF_ok {g : Addr → Option PyData} (hg : ∀ a q, g a = some q → Dp C.K H (.ref a) q) : ∀ {d : D} {p : PyData} {v : V}, pdF g d = some p → Rep C Z H d v → Dp C.K H v p
  | .non, p, v, e, r => by cases e; rw [show v = _ from r]; exact .non
  | .bl b, p, v, e, r => by cases e; rw [show v = _ from r]; exact .bl b
  | .int b, p, v, e, r => by cases e; rw [show v = _ from r]; exact .int b
  | .str b, p, v, e, r => by cases e; rw [show v = _ from r]; exact .str b
  | .tup ds, p, v, e, ⟨a, vs, e1, s, r1⟩ => by
    unfold pdF at e
    cases q : pdFs g ds with
    | none => rw [q] at e; cases e
    | some ps => rw [q] at e; cases e; subst e1; exact .tup s.t (pdFs_ok hg q r1)
  | .fl ds, p, v, e, ⟨a, vs, e1, s, r1⟩ => by
    unfold pdF at e
    cases q : pdFs g ds with
    | none => rw [q] at e; cases e
    | some ps => rw [q] at e; cases e; subst e1; exact .lst s.l (pdFs_ok hg q r1)
  | .ref a, p, v, e, r => by rw [show v = _ from r]; exact hg a p e
  | .fd _, p, v, e, r => by cases e
  | .fi _ _, p, v, e, r => by cases e
  | .glo _, p, v, e, r => by cases e
  | .ty _, p, v, e, r => by cases e
theorem pdFs_ok {g : Addr → Option PyData} (hg : ∀ a q, g a = some q → Dp C.K H (.ref a) q) : ∀ {ds : List D} {ps : List PyData} {vs : List V}, pdFs g ds = some ps → Reps C Z H ds vs → DpAll C.K H vs ps
  | [], ps, vs, e, r => by cases e; rw [show vs = _ from r]; exact .nil
  | d :: ds, ps, vs, e, ⟨v, vr, e1, r, rr⟩ => by
    unfold pdFs at e
    cases q1 : pdF g d with
    | none => simp [q1] at e
    | some p =>
      cases q2 : pdFs g ds with
      | none => simp [q1, q2] at e
      | some ps' =>
        simp [q1, q2] at e
        subst e e1
        exact .cons (pdF_ok hg q1 r) (pdFs_ok hg q2 rr)
end
theorem pdG_ok (R : RelH C Z H h) : ∀ (n : Nat) (a : Addr) (q : PyData), pdG h n a = some q → Dp C.K H (.ref a) q
  | 0, a, q, e => by cases e
  | n + 1, a, q, e => by
    unfold pdG at e
    cases e1 : h a with
    | none => simp [e1] at e
    | some o =>
      cases o with
      | ol ds =>
        simp only [e1] at e
        obtain ⟨vs, s, r⟩ := own_rep R e1
        cases q2 : pdFs (pdG h n) ds with
        | none => rw [q2] at e; cases e
        | some ps => rw [q2] at e; cases e; exact .lst (.inl (.inl s)) (pdFs_ok (pdG_ok R n) q2 r)
      | _ => simp [e1] at e
theorem pd_ok (R : RelH C Z H h) {d : D} {p : PyData} {v : V} (e : pd h d = some p) (r : Rep C Z H d v) : Dp C.K H v p := pdF_ok (pdG_ok R 3) e r
/-- ==, != -/
def onP (h : Hd) (x y : D) (f : PyData → PyData → Prop) : Prop := match pd h x, pd h y with
  | some p, some q => SeqAt.shaped p = true ∧ SeqAt.shaped q = true ∧ f p q
  | _, _ => False
theorem rep_onP (R : RelH C Z H h) {d e : D} {x y : V} {f : PyData → PyData → Prop} (rx : Rep C Z H d x) (ry : Rep C Z H e y) (q : onP h d e f) :
    ∃ p p', Dp C.K H x p ∧ Dp C.K H y p' ∧ SeqAt.shaped p = true ∧ SeqAt.shaped p' = true ∧ f p p' := by
  unfold onP at q
  cases e1 : pd h d with
  | none => simp [e1] at q
  | some p =>
    cases e2 : pd h e with
    | none => simp [e1, e2] at q
    | some p' =>
      simp only [e1, e2] at q
      exact ⟨p, p', pd_ok R e1 rx, pd_ok R e2 ry, q.1, q.2.1, q.2.2⟩
def wEq : W2 := fun x y h Q => match x, y with
  | .str i, .str j => Q (.bl (decide (i = j))) h
  | x, y => onP h x y fun p q => Q (.bl (PyData.eqv p q)) h
def wNe : W2 := fun x y h Q => match x, y with
  | .str i, .str j => Q (.bl (!decide (i = j))) h
  | x, y => onP h x y fun p q => Q (.bl (!PyData.eqv p q)) h
abbrev rEqA (K : PySem.W.Frag) : R2 := fun x y H Q => rEqD K x y H Q ∨ rEq x y H Q
abbrev rNeA (K : PySem.W.Frag) : R2 := fun x y H Q => rNeD K x y H Q ∨ rNe x y H Q
theorem dec_strV {i j : Str} : decide (V.str i = V.str j) = decide (i = j) := by
  by_cases h : i = j
  · subst h; simp
  · simp [h]
theorem o_eq : Op2 C (rEqA C.K) wEq := fun Z H h d e x y Qd Q R rx ry q k => by
  have g : (onP h d e fun p q => Qd (.bl (PyData.eqv p q)) h) → rEqA C.K x y H Q := fun q => by
    obtain ⟨p, p', d1, d2, s1, s2, f⟩ := rep_onP R rx ry q
    exact .inl ⟨p, p', d1, d2, s1, s2, k _ h _ Z H f Fr.refl R rfl⟩
  cases d with
  | str i =>
    cases e with
    | str j =>
      have q : Qd (.bl (decide (i = j))) h := q
      refine .inr ?_
      rw [show x = .str i from rx, show y = .str j from ry]
      exact ⟨rfl, by rw [dec_strV]; exact k _ h _ Z H q Fr.refl R rfl⟩
    | _ => exact g q
  | _ => exact g q
theorem o_ne : Op2 C (rNeA C.K) wNe := fun Z H h d e x y Qd Q R rx ry q k => by
  have g : (onP h d e fun p q => Qd (.bl (!PyData.eqv p q)) h) → rNeA C.K x y H Q := fun q => by
    obtain ⟨p, p', d1, d2, s1, s2, f⟩ := rep_onP R rx ry q
    exact .inl ⟨p, p', d1, d2, s1, s2, k _ h _ Z H f Fr.refl R rfl⟩
  cases d with
  | str i =>
    cases e with
    | str j =>
      have q : Qd (.bl (!decide (i = j))) h := q
      refine .inr ?_
      rw [show x = .str i from rx, show y = .str j from ry]
      exact ⟨rfl, by rw [dec_strV]; exact k _ h _ Z H q Fr.refl R rfl⟩
    | _ => exact g q
  | _ => exact g q
/-! ### order: numbers, texts -/
def strLt (a b : Str) : Bool := decide (a.cps.toList < b.cps.toList)
def wLt : W2 := fun x y h Q => match x with
  | .int i => onI y fun j => Q (.bl (decide (i < j))) h
  | .str i => onS y fun j => Q (.bl (strLt i j)) h
  | _ => False
def wGt : W2 := fun x y h Q => match x with
  | .int i => onI y fun j => Q (.bl (decide (j < i))) h
  | .str i => onS y fun j => Q (.bl (strLt j i)) h
  | _ => False
def wLe : W2 := fun x y h Q => onI2 x y fun i j => Q (.bl (decide (i ≤ j))) h
def wGe : W2 := fun x y h Q => onI2 x y fun i j => Q (.bl (decide (j ≤ i))) h
abbrev rLtA : R2 := fun x y H Q => rI0 (fun i j => .bl (decide (i < j))) x y H Q ∨ (∃ i j, x = .str i ∧ y = .str j ∧ Q (.bl (decide (i.cps.toList < j.cps.toList))) H)
theorem op_ltA : OpR X (compareOp .Lt) rLtA := op_lt.or op_lt_str
theorem o_lt : Op2 C rLtA wLt := fun Z H h d e x y Qd Q R rx ry q k => by
  cases d with
  | int i =>
    obtain ⟨j, rfl, ey, f⟩ := rep_onI ry q
    exact .inl ⟨i, j, rx, ey, k _ h _ Z H f Fr.refl R rfl⟩
  | str i =>
    obtain ⟨j, rfl, ey, f⟩ := rep_onS ry q
    exact .inr ⟨i, j, rx, ey, k _ h _ Z H f Fr.refl R rfl⟩
  | _ => exact q.elim
theorem op_gt_strA : OpR X (compareOp .Gt) (fun x y H Q => ∃ i j, x = .str i ∧ y = .str j ∧ Q (.bl (decide (j.cps.toList < i.cps.toList))) H) := by
  intro pins s σ H x y v u Q I rx ry h
  obtain ⟨i, j, rfl, rfl, q⟩ := h
  obtain ⟨t, rfl⟩ := rx
  obtain ⟨t', rfl⟩ := ry
  exact PySem.P.gt_str (fin_bl I q rfl)
abbrev rGtA : R2 := fun x y H Q => rI0 (fun i j => .bl (decide (j < i))) x y H Q ∨ (∃ i j, x = .str i ∧ y = .str j ∧ Q (.bl (decide (j.cps.toList < i.cps.toList))) H)
theorem op_gtA : OpR X (compareOp .Gt) rGtA := op_gt.or op_gt_strA
theorem o_gt : Op2 C rGtA wGt := fun Z H h d e x y Qd Q R rx ry q k => by
  cases d with
  | int i =>
    obtain ⟨j, rfl, ey, f⟩ := rep_onI ry q
    exact .inl ⟨i, j, rx, ey, k _ h _ Z H f Fr.refl R rfl⟩
  | str i =>
    obtain ⟨j, rfl, ey, f⟩ := rep_onS ry q
    exact .inr ⟨i, j, rx, ey, k _ h _ Z H f Fr.refl R rfl⟩
  | _ => exact q.elim
theorem o_le : Op2 C (rI0 fun i j => .bl (decide (i ≤ j))) wLe := fun Z H h d e x y Qd Q R rx ry q k => by
  obtain ⟨i, j, ex, ey, f⟩ := rep_onI2 rx ry q
  exact ⟨i, j, ex, ey, k _ h _ Z H f Fr.refl R rfl⟩
theorem o_ge : Op2 C (rI0 fun i j => .bl (decide (j ≤ i))) wGe := fun Z H h d e x y Qd Q R rx ry q k => by
  obtain ⟨i, j, ex, ey, f⟩ := rep_onI2 rx ry q
  exact ⟨i, j, ex, ey, k _ h _ Z H f Fr.refl R rfl⟩
/-! ### is None -/
def isNon : D → Bool
  | .non => true
  | _ => false
def wIsN : W2 := fun x y h Q => y = .non ∧ Q (.bl (isNon x)) h
def wNotN : W2 := fun x y h Q => y = .non ∧ Q (.bl (!isNon x)) h
theorem isNon_rep {d : D} {v : V} (r : Rep C Z H d v) : decide (v = .non) = isNon d := by
  cases d with
  | non => rw [show v = _ from r]; rfl
  | tup ds => obtain ⟨a, vs, e, _⟩ := r; rw [e]; rfl
  | fl ds => obtain ⟨a, vs, e, _⟩ := r; rw [e]; rfl
  | fd ds => obtain ⟨a, vs, e, _⟩ := r; rw [e]; rfl
  | fi c ds => obtain ⟨a, dx, vs, e, _⟩ := r; rw [e]; rfl
  | _ => rw [show v = _ from r]; rfl
theorem o_isN : Op2 C (fun x y H Q => y = .non ∧ Q (.bl (decide (x = .non))) H) wIsN := fun Z H h d e x y Qd Q R rx ry q k => by
  obtain ⟨rfl, f⟩ := q
  exact ⟨ry, by rw [isNon_rep rx]; exact k _ h _ Z H f Fr.refl R rfl⟩
theorem o_notN : Op2 C (fun x y H Q => y = .non ∧ Q (.bl (!decide (x = .non))) H) wNotN := fun Z H h d e x y Qd Q R rx ry q k => by
  obtain ⟨rfl, f⟩ := q
  exact ⟨ry, by rw [isNon_rep rx]; exact k _ h _ Z H f Fr.refl R rfl⟩
/-! ### in: a text among flat things, a sign in a text, a key in a dict -/
def flatD : D → Bool
  | .non => true
  | .bl _ => true
  | .int _ => true
  | .str _ => true
  | _ => false
def eqD : D → D → Bool
  | .non, .non => true
  | .bl a, .bl b => a == b
  | .bl a, .int b => (if a then 1 else 0) == b
  | .int a, .bl b => a == (if b then 1 else 0)
  | .int a, .int b => a == b
  | .str a, .str b => a == b
  | _, _ => false
theorem flat_rep {d : D} {v : V} (r : Rep C Z H d v) (f : flatD d = true) : flatV v = true := by
  cases d <;> first | (rw [show v = _ from r]; rfl) | cases (show false = true from f)
theorem eqD_rep {d e : D} {v u : V} (r : Rep C Z H d v) (s : Rep C Z H e u) (f : flatD d = true) (g : flatD e = true) : eqV v u = eqD d e := by
  cases d <;> cases e <;> first | (rw [show v = _ from r, show u = _ from s]; rfl) | cases (show false = true from f) | cases (show false = true from g)
theorem flats_rep : ∀ {ds : List D} {vs : List V}, Reps C Z H ds vs → ds.all flatD = true → vs.all flatV = true
  | [], _, e, _ => by rw [show _ = [] from e]; rfl
  | d :: ds, _, ⟨v, vr, e, r, rr⟩, f => by
    rw [List.all_cons, Bool.and_eq_true] at f
    rw [e, List.all_cons, flat_rep r f.1, flats_rep rr f.2]; rfl
theorem inV_rep {d : D} {v : V} (r : Rep C Z H d v) (g : flatD d = true) : ∀ {ds : List D} {vs : List V}, Reps C Z H ds vs → ds.all flatD = true → inV v vs = ds.any fun y => eqD y d
  | [], _, e, _ => by rw [show _ = [] from e]; rfl
  | e :: ds, _, ⟨u, vr, eq, s, rr⟩, f => by
    rw [List.all_cons, Bool.and_eq_true] at f
    subst eq
    show (eqV u v || inV v vr) = _
    rw [eqD_rep s r f.1 g, inV_rep r g rr f.2]; rfl
def keyD : D → Option Key
  | .int i => some (.inl i)
  | .str x => some (.inr x)
  | _ => none
theorem keyD_rep {d : D} {k : Key} {v : V} (e : keyD d = some k) (r : Rep C Z H d v) : v = kV k := by
  cases d <;> first | cases e; exact r | cases e
/-- the value at a key -/
def dget (kvs : List (D × D)) (k : Key) : Option D := match kvs with
  | [] => none
  | kd :: r => if keyD kd.1 = some k then some kd.2 else dget r k
theorem repk {d : D} {k : Key} (r : Rep C Z H d (kV k)) : keyD d = some k := by
  cases d with
  | int i => cases k with
    | inl j => injection (show V.int j = V.int i from r) with e; rw [e]; rfl
    | inr x => cases (show V.str x = V.int i from r)
  | str i => cases k with
    | inl j => cases (show V.int j = V.str i from r)
    | inr x => injection (show V.str x = V.str i from r) with e; rw [e]; rfl
  | tup ds => obtain ⟨a, vs, e, _⟩ := r; cases k <;> cases e
  | fl ds => obtain ⟨a, vs, e, _⟩ := r; cases k <;> cases e
  | fd ds => obtain ⟨a, vs, e, _⟩ := r; cases k <;> cases e
  | fi c ds => obtain ⟨a, dx, vs, e, _⟩ := r; cases k <;> cases e
  | _ => cases k <;> cases (show kV _ = _ from r)
theorem dget_rep {k : Key} : ∀ {ds : List (D × D)} {vs : List (Key × V)}, RepKs C Z H ds vs → (∀ d, dget ds k = some d → ∃ v, valV vs k = some v ∧ Rep C Z H d v) ∧ (dget ds k = none → valV vs k = none)
  | [], _, e => by rw [show _ = [] from e]; exact ⟨fun d z => (nomatch z), fun _ => rfl⟩
  | kd :: ds, _, ⟨j, v, vr, e, rk, r, rr⟩ => by
    subst e
    unfold dget
    rw [repk rk]
    by_cases hj : j = k
    · subst hj
      rw [if_pos rfl, valV_pos rfl]
      exact ⟨fun d z => ⟨v, rfl, by cases z; exact r⟩, fun z => (nomatch z)⟩
    · rw [if_neg (fun z => hj (Option.some.inj z)), valV_neg hj]
      exact dget_rep rr
def wIn : W2 := fun x y h Q => match y with
  | .str z => onS x fun c => (c.length = 1 ∧ Q (.bl (decide (c.cps.getD 0 0 ∈ z.cps.toList))) h)
  | y => match seqOf h y with
    | some ds => flatD x = true ∧ ds.all flatD = true ∧ Q (.bl (ds.any fun e => eqD e x)) h
    | none => match dicOf h y with
      | some kvs => (match keyD x with
        | some k => Q (.bl (dget kvs k).isSome) h
        | none => False)
      | none => False
def wNotIn : W2 := fun x y h Q => match y with
  | .str z => onS x fun c => (c.length = 1 ∧ Q (.bl (!decide (c.cps.getD 0 0 ∈ z.cps.toList))) h)
  | y => match seqOf h y with
    | some ds => flatD x = true ∧ ds.all flatD = true ∧ Q (.bl (!ds.any fun e => eqD e x)) h
    | none => match dicOf h y with
      | some kvs => (match keyD x with
        | some k => Q (.bl (!(dget kvs k).isSome)) h
        | none => False)
      | none => False
/-- .. of a dict by values -/
def rDIn (neg : Bool) : R2 := fun y x H Q => ∃ a o, x = .ref a ∧ DGet H a y o ∧ Q (.bl (if neg then !o.isSome else o.isSome)) H
theorem op_din (hu : X.A.units + 1 < cLine) : OpR X (compareOp .In) (rDIn false) := by
  intro pins s σ H x y v u Q I rx ry h
  obtain ⟨a, o, rfl, g, q⟩ := h
  cases ry
  exact d_in hu I g rx fun s' I' => ⟨.bl _, H, I', rfl, q⟩
theorem op_dnotin (hu : X.A.units + 1 < cLine) : OpR X (compareOp .NotIn) (rDIn true) := by
  intro pins s σ H x y v u Q I rx ry h
  obtain ⟨a, o, rfl, g, q⟩ := h
  cases ry
  exact d_notIn hu I g rx fun s' I' => ⟨.bl _, H, I', rfl, q⟩
abbrev rInA (K : PySem.W.Frag) : R2 := fun x y H Q => (∃ (c : Nat) (z : Str), x = .str ⟨#[c]⟩ ∧ y = .str z ∧ Q (.bl (decide (c ∈ z.cps.toList))) H) ∨ (rIn K false x y H Q ∨ rDIn false x y H Q)
abbrev rNotInA (K : PySem.W.Frag) : R2 := fun x y H Q => (∃ (c : Nat) (z : Str), x = .str ⟨#[c]⟩ ∧ y = .str z ∧ Q (.bl (!decide (c ∈ z.cps.toList))) H) ∨ (rIn K true x y H Q ∨ rDIn true x y H Q)
theorem op_inA (hu : X.A.units + 1 < cLine) : OpR X (compareOp .In) (rInA X.K) := op_in_sign.or (op_in_seq.or (op_din hu))
theorem op_notInA (hu : X.A.units + 1 < cLine) : OpR X (compareOp .NotIn) (rNotInA X.K) := op_notIn_sign.or (op_notIn_seq.or (op_dnotin hu))
theorem str1 {c : Str} (h : c.length = 1) : c = ⟨#[c.cps.getD 0 0]⟩ := by
  obtain ⟨cps⟩ := c
  have h1 : cps.size = 1 := h
  congr 1
  apply Array.ext
  · simp [h1]
  · intro i h2 h3
    have : i = 0 := by simp at h3; omega
    subst this
    simp [Array.getD, h1]
theorem o_in : Op2 C (rInA C.K) wIn := fun Z H h d e x y Qd Q R rx ry q k => by
  by_cases t : ∃ z, e = .str z
  · obtain ⟨z, rfl⟩ := t
    obtain ⟨c, rfl, ex, l, f⟩ := rep_onS rx q
    refine .inl ⟨c.cps.getD 0 0, z, by rw [ex, ← str1 l], ry, k _ h _ Z H f Fr.refl R rfl⟩
  · have q' : (match seqOf h e with
      | some ds => flatD d = true ∧ ds.all flatD = true ∧ Qd (.bl (ds.any fun e => eqD e d)) h
      | none => match dicOf h e with
        | some kvs => (match keyD d with
          | some k => Qd (.bl (dget kvs k).isSome) h
          | none => False)
        | none => False) := by
      cases e <;> first | exact absurd ⟨_, rfl⟩ t | exact q
    clear q
    cases e1 : seqOf h e with
    | some ds =>
      simp only [e1] at q'
      obtain ⟨f1, f2, f⟩ := q'
      obtain ⟨a, vs, e2, s, r⟩ := seq_rep R e1 ry
      refine .inr (.inl ⟨a, vs, e2, s, flat_rep rx f1, flats_rep r f2, ?_⟩)
      rw [if_neg (by decide), inV_rep rx f1 r f2]
      exact k _ h _ Z H f Fr.refl R rfl
    | none =>
      simp only [e1] at q'
      cases e2 : dicOf h e with
      | none => simp [e2] at q'
      | some kvs =>
        simp only [e2] at q'
        cases e3 : keyD d with
        | none => simp [e3] at q'
        | some key =>
          simp only [e3] at q'
          obtain ⟨a, vs, e4, s, r⟩ := dic_rep R e2 ry
          have ex := keyD_rep e3 rx
          refine .inr (.inr ⟨a, valV vs key, e4, .inl ⟨vs, key, s, ex, rfl⟩, ?_⟩)
          rw [if_neg (by decide)]
          have g := dget_rep (k := key) r
          cases e5 : dget kvs key with
          | none => rw [g.2 e5]; rw [e5] at q'; exact k _ h _ Z H q' Fr.refl R rfl
          | some dv =>
            obtain ⟨v, e6, _⟩ := g.1 dv e5
            rw [e6]; rw [e5] at q'; exact k _ h _ Z H q' Fr.refl R rfl
theorem o_notIn : Op2 C (rNotInA C.K) wNotIn := fun Z H h d e x y Qd Q R rx ry q k => by
  by_cases t : ∃ z, e = .str z
  · obtain ⟨z, rfl⟩ := t
    obtain ⟨c, rfl, ex, l, f⟩ := rep_onS rx q
    refine .inl ⟨c.cps.getD 0 0, z, by rw [ex, ← str1 l], ry, k _ h _ Z H f Fr.refl R rfl⟩
  · have q' : (match seqOf h e with
      | some ds => flatD d = true ∧ ds.all flatD = true ∧ Qd (.bl (!ds.any fun e => eqD e d)) h
      | none => match dicOf h e with
        | some kvs => (match keyD d with
          | some k => Qd (.bl (!(dget kvs k).isSome)) h
          | none => False)
        | none => False) := by
      cases e <;> first | exact absurd ⟨_, rfl⟩ t | exact q
    clear q
    cases e1 : seqOf h e with
    | some ds =>
      simp only [e1] at q'
      obtain ⟨f1, f2, f⟩ := q'
      obtain ⟨a, vs, e2, s, r⟩ := seq_rep R e1 ry
      refine .inr (.inl ⟨a, vs, e2, s, flat_rep rx f1, flats_rep r f2, ?_⟩)
      rw [if_pos rfl, inV_rep rx f1 r f2]
      exact k _ h _ Z H f Fr.refl R rfl
    | none =>
      simp only [e1] at q'
      cases e2 : dicOf h e with
      | none => simp [e2] at q'
      | some kvs =>
        simp only [e2] at q'
        cases e3 : keyD d with
        | none => simp [e3] at q'
        | some key =>
          simp only [e3] at q'
          obtain ⟨a, vs, e4, s, r⟩ := dic_rep R e2 ry
          have ex := keyD_rep e3 rx
          refine .inr (.inr ⟨a, valV vs key, e4, .inl ⟨vs, key, s, ex, rfl⟩, ?_⟩)
          rw [if_pos rfl]
          have g := dget_rep (k := key) r
          cases e5 : dget kvs key with
          | none => rw [g.2 e5]; rw [e5] at q'; exact k _ h _ Z H q' Fr.refl R rfl
          | some dv =>
            obtain ⟨v, e6, _⟩ := g.1 dv e5
            rw [e6]; rw [e5] at q'; exact k _ h _ Z H q' Fr.refl R rfl
/-! ### truth -/
def onT (h : Hd) (x : D) (f : Bool → Prop) : Prop := match x with
  | .non => f false
  | .bl b => f b
  | .int i => f (i != 0)
  | .str y => SZ y.length ∧ f ((y.length : Int) != 0)
  | .tup ds => f (!ds.isEmpty)
  | .fl ds => f (!ds.isEmpty)
  | .ref a => (match h a with
    | some (.ol ds) => f (!ds.isEmpty)
    | some (.od ds) => f (!ds.isEmpty)
    | _ => False)
  | _ => False
theorem RepKs.isEmpty : ∀ {ds : List (D × D)} {vs : List (Key × V)}, RepKs C Z H ds vs → vs.isEmpty = ds.isEmpty
  | [], _, e => by rw [show _ = [] from e]; rfl
  | d :: ds, _, ⟨k, v, vr, e, rk, r, rr⟩ => by subst e; rfl
theorem RepKs.length : ∀ {ds : List (D × D)} {vs : List (Key × V)}, RepKs C Z H ds vs → vs.length = ds.length
  | [], _, e => by rw [show _ = [] from e]; rfl
  | d :: ds, _, ⟨k, v, vr, e, rk, r, rr⟩ => by rw [e, List.length_cons, List.length_cons, RepKs.length rr]
theorem rep_onT (R : RelH C Z H h) {d : D} {x : V} {f : Bool → Prop} (rx : Rep C Z H d x) (q : onT h d f) : ∃ k, TruV C.K x H k ∧ f k := by
  cases d with
  | non => rw [show x = _ from rx]; exact ⟨_, rfl, q⟩
  | bl b => rw [show x = _ from rx]; exact ⟨_, rfl, q⟩
  | int i => rw [show x = _ from rx]; exact ⟨_, rfl, q⟩
  | str y => rw [show x = _ from rx]; exact ⟨_, ⟨q.1.line, rfl⟩, q.2⟩
  | tup ds =>
    obtain ⟨a, vs, rfl, s, r⟩ := rx
    exact ⟨_, .inr (.inl ⟨vs, s.t, rfl⟩), by rw [r.isEmpty]; exact q⟩
  | fl ds =>
    obtain ⟨a, vs, rfl, s, r⟩ := rx
    exact ⟨_, .inl ⟨vs, s.l, rfl⟩, by rw [r.isEmpty]; exact q⟩
  | ref a =>
    rw [show x = _ from rx]
    unfold onT at q
    dsimp only at q
    cases e : h a with
    | none => simp [e] at q
    | some o =>
      cases o with
      | ol ds =>
        simp only [e] at q
        obtain ⟨vs, s, r⟩ := own_rep R e
        exact ⟨_, .inl ⟨vs, .inl (.inl s), rfl⟩, by rw [r.isEmpty]; exact q⟩
      | od ds =>
        simp only [e] at q
        obtain ⟨vs, s, r⟩ := own_rep R e
        exact ⟨_, .inr (.inr ⟨vs, s, rfl⟩), by rw [r.isEmpty]; exact q⟩
      | _ => simp [e] at q
  | _ => exact q.elim
def dTru (a : DE) : DT := fun ρ h Q => a ρ h fun x h1 => onT h1 x fun k => Q k h1
theorem d_tru {a : Expr} {wa : DE} (ha : PEd C A X a wa) (he : ∀ whole, isTrue a X.env whole = (do let v ← whole; standAt a.pos; holding [v] (truthy v))) (hK : X.K = C.K) : PTd C A X a (dTru wa) :=
  PT.imp (pt_truth ha he) fun σ H Q ⟨Z, ρ, h, Qd, R, q, k⟩ => ⟨Z, ρ, h, _, R, q, fun d h1 v Z1 H1 q1 f1 R1 r1 => by
    obtain ⟨b, tv, f⟩ := rep_onT R1 r1 q1
    exact ⟨b, by rw [hK]; exact tv, k b h1 Z1 H1 f f1 R1⟩⟩
/-! ### and, or, not, if -/
def dAndT (a b : DT) : DT := fun ρ h Q => a ρ h fun c h1 => if c = true then b ρ h1 Q else Q false h1
def dOrT (a b : DT) : DT := fun ρ h Q => a ρ h fun c h1 => if c = true then Q true h1 else b ρ h1 Q
def dNotT (a : DT) : DT := fun ρ h Q => a ρ h fun c h1 => Q (!c) h1
abbrev PWd (C : Ctx) (A : Anc) (X : Cx) (e : Expr) (W : DT) : Prop := PW X e (UpT C A W)
theorem PW.imp {X : Cx} {e : Expr} {t t' : TT} (p : PW X e t) (f : ∀ σ H Q, t' σ H Q → t σ H Q) : PW X e t' := ⟨fun wh pins s σ H Q I h => p.run wh pins s σ H Q I (f σ H Q h)⟩
variable {a b : Expr} {rest : List Expr} {pos : Pos} {wa wb : DE} {ta tb : DT}
theorem d_and1 (ha : PTd C A X a ta) : PWd C A X (.BoolOp .And [a] pos) ta := pw_and1 ha
theorem d_or1 (ha : PTd C A X a ta) : PWd C A X (.BoolOp .Or [a] pos) ta := pw_or1 ha
theorem d_andT (ha : PTd C A X a ta) (hb : PWd C A X (.BoolOp .And (b :: rest) pos) tb) : PWd C A X (.BoolOp .And (a :: b :: rest) pos) (dAndT ta tb) :=
  PW.imp (pw_and ha hb) fun σ H Q ⟨Z, ρ, h, Qd, R, q, k⟩ => ⟨Z, ρ, h, _, R, q, fun c h1 Z1 H1 q1 f1 R1 => by
    cases c with
    | true => exact ⟨Z1, ρ, h1, Qd, R.next f1 R1, q1, fun d h' Z' H' qd f R' => k d h' Z' H' qd (f1.trans f) R'⟩
    | false => exact k _ h1 Z1 H1 q1 f1 R1⟩
theorem d_orT (ha : PTd C A X a ta) (hb : PWd C A X (.BoolOp .Or (b :: rest) pos) tb) : PWd C A X (.BoolOp .Or (a :: b :: rest) pos) (dOrT ta tb) :=
  PW.imp (pw_or ha hb) fun σ H Q ⟨Z, ρ, h, Qd, R, q, k⟩ => ⟨Z, ρ, h, _, R, q, fun c h1 Z1 H1 q1 f1 R1 => by
    cases c with
    | false => exact ⟨Z1, ρ, h1, Qd, R.next f1 R1, q1, fun d h' Z' H' qd f R' => k d h' Z' H' qd (f1.trans f) R'⟩
    | true => exact k _ h1 Z1 H1 q1 f1 R1⟩
theorem d_pw (h : PWd C A X a ta) : PTd C A X a ta := h.pt
theorem d_notT (ha : PTd C A X a ta) : PTd C A X (.UnaryOp .Not a pos) (dNotT ta) :=
  PT.imp (pt_not ha) fun σ H Q ⟨Z, ρ, h, Qd, R, q, k⟩ => ⟨Z, ρ, h, _, R, q, fun c h1 Z1 H1 q1 f1 R1 => k _ h1 Z1 H1 q1 f1 R1⟩
/-- as values, by truth -/
def dAnd (a b : DE) : DE := fun ρ h Q => a ρ h fun x h1 => onT h1 x fun c => if c = true then b ρ h1 Q else Q x h1
def dOr (a b : DE) : DE := fun ρ h Q => a ρ h fun x h1 => onT h1 x fun c => if c = true then Q x h1 else b ρ h1 Q
def dNot (a : DE) : DE := fun ρ h Q => a ρ h fun x h1 => onT h1 x fun c => Q (.bl (!c)) h1
theorem d_one {op} (ha : PEd C A X a wa) : PEd C A X (.BoolOp op [a] pos) wa := pe_one ha
theorem d_and (ha : PEd C A X a wa) (hb : PEd C A X (.BoolOp .And (b :: rest) pos) wb) (hK : X.K = C.K) : PEd C A X (.BoolOp .And (a :: b :: rest) pos) (dAnd wa wb) :=
  PE.imp (pe_andT ha hb) fun σ H Q ⟨Z, ρ, h, Qd, R, q, k⟩ => ⟨Z, ρ, h, _, R, q, fun x h1 v Z1 H1 q1 f1 R1 r1 => by
    obtain ⟨c, tv, f⟩ := rep_onT R1 r1 q1
    refine ⟨c, by rw [hK]; exact tv, ?_⟩
    cases c with
    | true => exact ⟨Z1, ρ, h1, Qd, R.next f1 R1, f, fun d h' v Z' H' qd f R' r' => k d h' v Z' H' qd (f1.trans f) R' r'⟩
    | false => exact k x h1 v Z1 H1 f f1 R1 r1⟩
theorem d_or (ha : PEd C A X a wa) (hb : PEd C A X (.BoolOp .Or (b :: rest) pos) wb) (hK : X.K = C.K) : PEd C A X (.BoolOp .Or (a :: b :: rest) pos) (dOr wa wb) :=
  PE.imp (pe_orT ha hb) fun σ H Q ⟨Z, ρ, h, Qd, R, q, k⟩ => ⟨Z, ρ, h, _, R, q, fun x h1 v Z1 H1 q1 f1 R1 r1 => by
    obtain ⟨c, tv, f⟩ := rep_onT R1 r1 q1
    refine ⟨c, by rw [hK]; exact tv, ?_⟩
    cases c with
    | false => exact ⟨Z1, ρ, h1, Qd, R.next f1 R1, f, fun d h' v Z' H' qd f R' r' => k d h' v Z' H' qd (f1.trans f) R' r'⟩
    | true => exact k x h1 v Z1 H1 f f1 R1 r1⟩
theorem d_not (ha : PEd C A X a wa) (hK : X.K = C.K) : PEd C A X (.UnaryOp .Not a pos) (dNot wa) :=
  PE.imp (pe_notT ha) fun σ H Q ⟨Z, ρ, h, Qd, R, q, k⟩ => ⟨Z, ρ, h, _, R, q, fun x h1 v Z1 H1 q1 f1 R1 r1 => by
    obtain ⟨c, tv, f⟩ := rep_onT R1 r1 q1
    exact ⟨c, by rw [hK]; exact tv, k _ h1 _ Z1 H1 f f1 R1 rfl⟩⟩
def dIte (t : DT) (a b : DE) : DE := fun ρ h Q => t ρ h fun c h1 => if c = true then a ρ h1 Q else b ρ h1 Q
theorem d_ite {c : Expr} {tc : DT} (hc : PTd C A X c tc) (ha : PEd C A X a wa) (hb : PEd C A X b wb) : PEd C A X (.IfExp c a b pos) (dIte tc wa wb) :=
  PE.imp (pe_ifExp hc ha hb) fun σ H Q ⟨Z, ρ, h, Qd, R, q, k⟩ => ⟨Z, ρ, h, _, R, q, fun c h1 Z1 H1 q1 f1 R1 => by
    cases c with
    | true => exact ⟨Z1, ρ, h1, Qd, R.next f1 R1, q1, fun d h' v Z' H' qd f R' r' => k d h' v Z' H' qd (f1.trans f) R' r'⟩
    | false => exact ⟨Z1, ρ, h1, Qd, R.next f1 R1, q1, fun d h' v Z' H' qd f R' r' => k d h' v Z' H' qd (f1.trans f) R' r'⟩⟩
/-- a < b < c -/
def dChain (w w' : W2) (a b c : DE) : DE := fun ρ h Q => a ρ h fun x h1 => b ρ h1 fun y h2 => w x y h2 fun z h3 => ∃ k, z = .bl k ∧ if k = true then c ρ h3 fun u h4 => w' y u h4 Q else Q (.bl false) h3
theorem up_chain {r r' : R2} {w w' : W2} {a b c : DE} (o : Op2 C r w) (o' : Op2 C r' w') : ∀ σ H Q, UpE C A (dChain w w' a b c) σ H Q → tChain r r' (UpE C A a) (UpE C A b) (UpE C A c) σ H Q := fun σ H Q ⟨Z, ρ, h, Qd, R, q, k⟩ => by
  refine ⟨Z, ρ, h, _, R, q, fun x h1 v1 Z1 H1 q1 f1 R1 r1 => ⟨Z1, ρ, h1, _, R.next f1 R1, q1, fun y h2 v2 Z2 H2 q2 f2 R2 r2 => ?_⟩⟩
  refine o Z2 H2 h2 x y v1 v2 _ _ R2 (r1.fr f2) r2 q2 fun z h3 v3 Z3 H3 q3 f3 R3 r3 => ?_
  obtain ⟨c, rfl, q3⟩ := q3
  refine ⟨c, r3, ?_⟩
  cases c with
  | false => exact k _ h3 _ Z3 H3 q3 ((f1.trans f2).trans f3) R3 rfl
  | true => exact ⟨Z3, ρ, h3, _, ((R.next f1 R1).next f2 R2).next f3 R3, q3, fun u h4 v4 Z4 H4 q4 f4 R4 r4 =>
      o' Z4 H4 h4 y u v2 v4 Qd Q R4 (r2.fr (f3.trans f4)) r4 q4 fun d h' v Z' H' qd f R' rr => k d h' v Z' H' qd ((((f1.trans f2).trans f3).trans f4).trans f) R' rr⟩
theorem d_chain {op op' : CmpOp} {r r' : R2} {w w' : W2} {c : Expr} {wc : DE} (ho : OpR X (compareOp op) r) (o : Op2 C r w) (ho' : OpR X (compareOp op') r') (o' : Op2 C r' w') (ha : PEd C A X a wa) (hb : PEd C A X b wb) (hc : PEd C A X c wc)
    (hm : lastMarks [op, op'] [b, c] = false := by with_unfolding_all rfl) : PEd C A X (.Compare a [op, op'] [b, c] pos) (dChain w w' wa wb wc) := PE.imp (pe_chain ho ho' ha hb hc hm) (up_chain o o')
theorem d_tchain {op op' : CmpOp} {r r' : R2} {w w' : W2} {c : Expr} {wc : DE} (ho : OpR X (compareOp op) r) (o : Op2 C r w) (ho' : OpR X (compareOp op') r') (o' : Op2 C r' w') (ha : PEd C A X a wa) (hb : PEd C A X b wb) (hc : PEd C A X c wc)
    (hm : lastMarks [op, op'] [b, c] = false := by with_unfolding_all rfl) : PTd C A X (.Compare a [op, op'] [b, c] pos) (dTest (dChain w w' wa wb wc)) := PT.imp (pt_chain ho ho' ha hb hc hm) fun σ H Q hq => by
  obtain ⟨Z, ρ, h, Qd, R, q, k⟩ := hq
  exact up_chain (A := A) o o' σ H (fun x H' => ∃ k, x = .bl k ∧ Q k H') ⟨Z, ρ, h, _, R, q, fun d h' v Z' H' ⟨c, e, qq⟩ f R' rr => ⟨c, by subst e; exact rr, k c h' Z' H' qq f R'⟩⟩
end
end DL
end
section
set_option Elab.async false
set_option linter.all false
set_option maxRecDepth 100000
set_option maxHeartbeats 4000000
open PySem PySem.Spec L2
namespace DL
/-- what every context of ours has -/
structure XD (C : Ctx) (X : Cx) : Prop where
  K : X.K = C.K
  un : X.A.units + 66 < cLine
section
variable {C : Ctx} {A : Anc} {X : Cx} {a b e c : Expr} {es : List Expr} {pos : Pos} {wa wb wc : DE} {wr : DA}
theorem XD.u1 (hx : XD C X) : X.A.units + 1 < cLine := by have := hx.un; omega
theorem XD.u0 (hx : XD C X) : X.A.units < cLine := by have := hx.un; omega
theorem XD.u64 (hx : XD C X) : X.A.units + 64 < cLine := by have := hx.un; omega
/-! ### the operators -/
theorem d_add (hx : XD C X) (ha : PEd C A X a wa) (hb : PEd C A X b wb) : PEd C A X (.BinOp a .Add b pos) (d2 wAdd wa wb) := d_op (hx.K ▸ op_addAll) o_add ha hb
theorem d_sub (hx : XD C X) (ha : PEd C A X a wa) (hb : PEd C A X b wb) : PEd C A X (.BinOp a .Sub b pos) (d2 wSub wa wb) := d_op op_sub o_sub ha hb
theorem d_mul (hx : XD C X) (ha : PEd C A X a wa) (hb : PEd C A X b wb) : PEd C A X (.BinOp a .Mult b pos) (d2 wMul wa wb) := d_op (op_mul.or op_mulW) o_mul ha hb
theorem d_fdiv (hx : XD C X) (ha : PEd C A X a wa) (hb : PEd C A X b wb) : PEd C A X (.BinOp a .FloorDiv b pos) (d2 wDiv wa wb) := d_op op_fdivW o_div ha hb
theorem d_mod (hx : XD C X) (ha : PEd C A X a wa) (hb : PEd C A X b wb) : PEd C A X (.BinOp a .Mod b pos) (d2 wMod wa wb) := d_op op_mod o_mod ha hb
theorem d_pow (hx : XD C X) (ha : PEd C A X a wa) (hb : PEd C A X b wb) : PEd C A X (.BinOp a .Pow b pos) (d2 wPow wa wb) := d_op op_pow o_pow ha hb
theorem d_neg (hx : XD C X) (ha : PEd C A X a wa) : PEd C A X (.UnaryOp .USub a pos) (d1 wNeg wa) := d_un un_neg o_neg ha
theorem d_eq (hx : XD C X) (ha : PEd C A X a wa) (hb : PEd C A X b wb) : PEd C A X (.Compare a [.Eq] [b] pos) (d2 wEq wa wb) := d_cmp (hx.K ▸ (op_eqD hx.u64).or op_eq) o_eq ha hb (nomark _)
theorem d_ne (hx : XD C X) (ha : PEd C A X a wa) (hb : PEd C A X b wb) : PEd C A X (.Compare a [.NotEq] [b] pos) (d2 wNe wa wb) := d_cmp (hx.K ▸ (op_neD hx.u64).or op_ne) o_ne ha hb (nomark _)
theorem d_lt (hx : XD C X) (ha : PEd C A X a wa) (hb : PEd C A X b wb) : PEd C A X (.Compare a [.Lt] [b] pos) (d2 wLt wa wb) := d_cmp op_ltA o_lt ha hb (nomark _)
theorem d_gt (hx : XD C X) (ha : PEd C A X a wa) (hb : PEd C A X b wb) : PEd C A X (.Compare a [.Gt] [b] pos) (d2 wGt wa wb) := d_cmp op_gtA o_gt ha hb (nomark _)
theorem d_le (hx : XD C X) (ha : PEd C A X a wa) (hb : PEd C A X b wb) : PEd C A X (.Compare a [.LtE] [b] pos) (d2 wLe wa wb) := d_cmp op_le o_le ha hb (nomark _)
theorem d_ge (hx : XD C X) (ha : PEd C A X a wa) (hb : PEd C A X b wb) : PEd C A X (.Compare a [.GtE] [b] pos) (d2 wGe wa wb) := d_cmp op_ge o_ge ha hb (nomark _)
theorem d_isN (hx : XD C X) (ha : PEd C A X a wa) (hb : PEd C A X b wb) : PEd C A X (.Compare a [.Is] [b] pos) (d2 wIsN wa wb) := d_cmp op_isN o_isN ha hb (nomark _)
theorem d_isnotN (hx : XD C X) (ha : PEd C A X a wa) (hb : PEd C A X b wb) : PEd C A X (.Compare a [.IsNot] [b] pos) (d2 wNotN wa wb) := d_cmp op_notN o_notN ha hb (nomark _)
theorem d_in (hx : XD C X) (ha : PEd C A X a wa) (hb : PEd C A X b wb) (hm : behindInMarks .In b = false := by rfl) : PEd C A X (.Compare a [.In] [b] pos) (d2 wIn wa wb) := d_cmp (hx.K ▸ op_inA hx.u1) o_in ha hb hm
theorem d_notin (hx : XD C X) (ha : PEd C A X a wa) (hb : PEd C A X b wb) (hm : behindInMarks .NotIn b = false := by rfl) : PEd C A X (.Compare a [.NotIn] [b] pos) (d2 wNotIn wa wb) := d_cmp (hx.K ▸ op_notInA hx.u1) o_notIn ha hb hm
/-- a comparison is a truth -/
theorem d_tval (ha : PEd C A X a wa) (he : ∀ whole, isTrue a X.env whole = (do let v ← whole; standAt a.pos; holding [v] (truthy v)) := by intro _; rfl) : PTd C A X a (dTest wa) :=
  PT.imp (pt_val ha he) fun σ H Q ⟨Z, ρ, h, Qd, R, q, k⟩ => ⟨Z, ρ, h, _, R, q, fun x h1 v1 Z1 H1 ⟨c, e, q1⟩ f1 R1 r1 => ⟨c, by subst e; exact r1, k c h1 Z1 H1 q1 f1 R1⟩⟩
theorem d_teq (hx : XD C X) (ha : PEd C A X a wa) (hb : PEd C A X b wb) : PTd C A X (.Compare a [.Eq] [b] pos) (dTest (d2 wEq wa wb)) := d_tcmp (hx.K ▸ (op_eqD hx.u64).or op_eq) o_eq ha hb (nomark _)
theorem d_tne (hx : XD C X) (ha : PEd C A X a wa) (hb : PEd C A X b wb) : PTd C A X (.Compare a [.NotEq] [b] pos) (dTest (d2 wNe wa wb)) := d_tcmp (hx.K ▸ (op_neD hx.u64).or op_ne) o_ne ha hb (nomark _)
theorem d_tlt (hx : XD C X) (ha : PEd C A X a wa) (hb : PEd C A X b wb) : PTd C A X (.Compare a [.Lt] [b] pos) (dTest (d2 wLt wa wb)) := d_tcmp op_ltA o_lt ha hb (nomark _)
theorem d_tgt (hx : XD C X) (ha : PEd C A X a wa) (hb : PEd C A X b wb) : PTd C A X (.Compare a [.Gt] [b] pos) (dTest (d2 wGt wa wb)) := d_tcmp op_gtA o_gt ha hb (nomark _)
theorem d_tle (hx : XD C X) (ha : PEd C A X a wa) (hb : PEd C A X b wb) : PTd C A X (.Compare a [.LtE] [b] pos) (dTest (d2 wLe wa wb)) := d_tcmp op_le o_le ha hb (nomark _)
theorem d_tge (hx : XD C X) (ha : PEd C A X a wa) (hb : PEd C A X b wb) : PTd C A X (.Compare a [.GtE] [b] pos) (dTest (d2 wGe wa wb)) := d_tcmp op_ge o_ge ha hb (nomark _)
theorem d_tisN (hx : XD C X) (ha : PEd C A X a wa) (hb : PEd C A X b wb) : PTd C A X (.Compare a [.Is] [b] pos) (dTest (d2 wIsN wa wb)) := d_tcmp op_isN o_isN ha hb (nomark _)
theorem d_tisnotN (hx : XD C X) (ha : PEd C A X a wa) (hb : PEd C A X b wb) : PTd C A X (.Compare a [.IsNot] [b] pos) (dTest (d2 wNotN wa wb)) := d_tcmp op_notN o_notN ha hb (nomark _)
theorem d_tin (hx : XD C X) (ha : PEd C A X a wa) (hb : PEd C A X b wb) (hm : behindInMarks .In b = false := by rfl) : PTd C A X (.Compare a [.In] [b] pos) (dTest (d2 wIn wa wb)) := d_tcmp (hx.K ▸ op_inA hx.u1) o_in ha hb hm
theorem d_tnotin (hx : XD C X) (ha : PEd C A X a wa) (hb : PEd C A X b wb) (hm : behindInMarks .NotIn b = false := by rfl) : PTd C A X (.Compare a [.NotIn] [b] pos) (dTest (d2 wNotIn wa wb)) := d_tcmp (hx.K ▸ op_notInA hx.u1) o_notIn ha hb hm
/-! ### argument lists, displays -/
def dNil : DA := fun _ h Q => Q [] h
def dCons (a : DE) (r : DA) : DA := fun ρ h Q => a ρ h fun x h1 => r ρ h1 fun xs h2 => Q (x :: xs) h2
theorem d_nil : PAd C A X [] dNil := PA.imp pa_nil fun σ H Q ⟨Z, ρ, h, Qd, R, q, k⟩ => k [] h [] Z H q Fr.refl R.toRelH rfl
theorem d_cons (ha : PEd C A X e wa) (hr : PAd C A X es wr) (hs : starEach (e :: es) X.env = (false, eval e X.env) :: starEach es X.env := by rfl) : PAd C A X (e :: es) (dCons wa wr) :=
  PA.imp (pa_cons ha hr hs) fun σ H Q ⟨Z, ρ, h, Qd, R, q, k⟩ => ⟨Z, ρ, h, _, R, q, fun x h1 v1 Z1 H1 q1 f1 R1 r1 => ⟨Z1, ρ, h1, _, R.next f1 R1, q1, fun xs h2 vs Z2 H2 q2 f2 R2 r2 =>
    k (x :: xs) h2 (v1 :: vs) Z2 H2 q2 (f1.trans f2) R2 ⟨v1, vs, rfl, r1.fr f2, r2⟩⟩⟩
def dTup (r : DA) : DE := fun ρ h Q => r ρ h fun xs h1 => SZ xs.length ∧ Q (.tup xs) h1
def dLst (r : DA) : DE := fun ρ h Q => r ρ h fun xs h1 => SZ xs.length ∧ ∀ p, h1 p = none → Q (.ref p) (hup h1 p (.ol xs))
theorem d_tup {x1} (hr : PAd C A X es wr) : PEd C A X (.Tuple es x1 pos) (dTup wr) := PE.imp (pe_tupN hr) fun σ H Q ⟨Z, ρ, h, Qd, R, q, k⟩ => ⟨Z, ρ, h, _, R, q, fun xs h1 vs Z1 H1 ⟨z, q1⟩ f1 R1 r1 =>
  ⟨by rw [r1.length]; exact z.line, fun p o hp hd => by
    obtain ⟨R', rr⟩ := R1.mkTup hp r1 hd
    exact k _ h1 _ Z1 _ q1 (f1.trans (R1.mkFr hp)) R' rr⟩⟩
theorem d_lst (hr : PAd C A X es wr) : PEd C A X (.List es pos) (dLst wr) := PE.imp (pe_lst hr) fun σ H Q ⟨Z, ρ, h, Qd, R, q, k⟩ => ⟨Z, ρ, h, _, R, q, fun xs h1 vs Z1 H1 ⟨z, q1⟩ f1 R1 r1 =>
  ⟨by rw [r1.length]; exact z.line, fun p hp => k _ _ _ Z1 _ (q1 p (R1.none hp)) (f1.trans (R1.mkFr hp)) (R1.mkLst hp r1) rfl⟩⟩
/-! ### o[i] -/
def rIxD : R2 := fun x y H Q => ∃ a v, x = .ref a ∧ DGet H a y (some v) ∧ Q v H
open PyProof.Rows in
theorem ix_dict (hu : X.A.units + 1 < cLine) : IxR X rIxD := by
  intro value slice pins s σ H x y v u Q I rx ry h hs
  obtain ⟨a, w, rfl, g, q⟩ := h
  cases rx
  have hT := dict_typeIs I g
  unfold subscriptTail
  refine wpAny_bind ?_
  rw [getitemInPython_of_ne hT.not_modules]
  refine wpAny_bind (wpAny_specialOf hT PySem.F.slot_dict_getitem.lookup ?_)
  have fin : wpAny (model X.prog X.w) X.A (subscripted slice false (.ref a) u) (fun r s₃ => wpAny (model X.prog X.w) X.A (letTemporaryGo value (.ref a) r >>= fun _ => pure r) (EP X pins σ Q) X.xe s₃) X.xe s := by
    rw [hs]
    exact wpAny_operating (d_getItem hu I g ry fun w' s3 I3 rw' => wpAny_bind (wpAny_letTemporaryGo (wpAny_pure ⟨w, H, I3, rw', q⟩)))
  first
    | exact wpAny_pure (wpAny_bind fin)
    | exact wpAny_bind (wpAny_pure (wpAny_bind fin))
    | exact wpAny_bind fin
def wIx : W2 := fun x y h Q => match x with
  | .str z => onI y fun i => SZ z.length ∧ ∃ c, atI z.cps.toList i = some c ∧ Q (.str ⟨#[c]⟩) h
  | x => match seqOf h x with
    | some ds => onI y fun i => ∃ d, atI ds i = some d ∧ Q d h
    | none => match dicOf h x, keyD y with
      | some kvs, some k => ∃ d, dget kvs k = some d ∧ Q d h
      | _, _ => False
theorem atI_reps {Z : Addr → Prop} {H : Hp} {ds : List D} {vs : List V} (r : Reps C Z H ds vs) {i : Int} {d : D} (e : atI ds i = some d) : ∃ v, atI vs i = some v ∧ Rep C Z H d v := by
  unfold atI at e ⊢
  rw [r.length]
  cases q : ixN ds.length i with
  | none => rw [q] at e; cases e
  | some j =>
    rw [q] at e
    exact r.get e
abbrev rIxA (K : PySem.W.Frag) : R2 := fun x y H Q => rIx K x y H Q ∨ rIxD x y H Q
theorem ix_all (hx : XD C X) : IxR X (rIxA C.K) := hx.K ▸ ix_seq.or (ix_dict hx.u1)
theorem o_ix : Op2 C (rIxA C.K) wIx := fun Z H h d e x y Qd Q R rx ry q k => by
  by_cases t : ∃ z, d = .str z
  · obtain ⟨z, rfl⟩ := t
    obtain ⟨i, _, ey, l, c, e1, f⟩ := rep_onI ry q
    exact .inl (.inr (.inr ⟨z, i, c, rx, ey, l.line, e1, k _ h _ Z H f Fr.refl R rfl⟩))
  · have q' : (match seqOf h d with
      | some ds => onI e fun i => ∃ d, atI ds i = some d ∧ Qd d h
      | none => match dicOf h d, keyD e with
        | some kvs, some k => ∃ d, dget kvs k = some d ∧ Qd d h
        | _, _ => False) := by
      cases d <;> first | exact absurd ⟨_, rfl⟩ t | exact q
    clear q
    cases e1 : seqOf h d with
    | some ds =>
      simp only [e1] at q'
      obtain ⟨i, _, ey, d', e2, f⟩ := rep_onI ry q'
      obtain ⟨p, vs, e3, s, r⟩ := seq_rep R e1 rx
      obtain ⟨v, e4, r4⟩ := atI_reps r e2
      rcases s with s | s
      · exact .inl (.inl ⟨p, vs, i, v, e3, ey, s, e4, k _ h _ Z H f Fr.refl R r4⟩)
      · exact .inl (.inr (.inl ⟨p, vs, i, v, e3, ey, s, e4, k _ h _ Z H f Fr.refl R r4⟩))
    | none =>
      simp only [e1] at q'
      cases e2 : dicOf h d with
      | none => simp [e2] at q'
      | some kvs =>
        cases e3 : keyD e with
        | none => simp [e2, e3] at q'
        | some key =>
          simp only [e2, e3] at q'
          obtain ⟨d', e5, f⟩ := q'
          obtain ⟨p, vs, e4, s, r⟩ := dic_rep R e2 rx
          obtain ⟨v, e6, r6⟩ := (dget_rep (k := key) r).1 d' e5
          exact .inr ⟨p, v, e4, .inl ⟨vs, key, s, keyD_rep e3 ry, e6.symm⟩, k _ h _ Z H f Fr.refl R r6⟩
theorem d_ix (hx : XD C X) (ha : PEd C A X a wa) (hb : PEd C A X b wb) (hs : PlainIx b) : PEd C A X (.Subscript a b pos) (d2 wIx wa wb) := PE.imp (pe_ix (ix_all hx) ha hb hs) (up_bin o_ix)
/-! ### o[i:j] -/
abbrev DO := Env → Hd → (Option Int → Hd → Prop) → Prop
def UpO (C : Ctx) (A : Anc) (W : DO) : TO := fun σ H Q => ∃ Z ρ h Qd, Rel C A Z H σ ρ h ∧ W ρ h Qd ∧ ∀ d h' Z' H', Qd d h' → Fr Z H Z' H' → RelH C Z' H' h' → Q d H'
abbrev POd (C : Ctx) (A : Anc) (X : Cx) (e : Option Expr) (W : DO) : Prop := PO X e (UpO C A W)
theorem PO.imp {X : Cx} {e : Option Expr} {t t' : TO} (p : PO X e t) (f : ∀ σ H Q, t' σ H Q → t σ H Q) : PO X e t' := ⟨fun pins s σ H Q I h => p.run pins s σ H Q I (f σ H Q h)⟩
def dNoP : DO := fun _ h Q => Q none h
def dPart (a : DE) : DO := fun ρ h Q => a ρ h fun x h1 => onI x fun i => Q (some i) h1
theorem d_noP : POd C A X none dNoP := PO.imp po_none fun σ H Q ⟨Z, ρ, h, Qd, R, q, k⟩ => k none h Z H q Fr.refl R.toRelH
theorem d_part (ha : PEd C A X a wa) : POd C A X (some a) (dPart wa) := PO.imp (po_some ha) fun σ H Q ⟨Z, ρ, h, Qd, R, q, k⟩ => ⟨Z, ρ, h, _, R, q, fun x h1 v1 Z1 H1 q1 f1 R1 r1 => by
  obtain ⟨i, _, e, f⟩ := rep_onI r1 q1
  exact ⟨i, e, k _ h1 Z1 H1 f f1 R1⟩⟩
def cutL {α : Type} (xs : List α) (lo hi : Option Int) : List α := (xs.drop (HT.sIx xs.length 0 lo)).take (HT.sIx xs.length xs.length hi - HT.sIx xs.length 0 lo)
theorem cutL_reps {Z : Addr → Prop} {H : Hp} {ds : List D} {vs : List V} (r : Reps C Z H ds vs) (lo hi : Option Int) : Reps C Z H (cutL ds lo hi) (cutV vs lo hi) := by
  unfold cutL cutV
  rw [r.length]
  exact Reps.take _ (Reps.drop _ r)
def wSl (x : D) (lo hi : Option Int) (h : Hd) (Q : DK) : Prop := match x with
  | .str z => SZ z.length ∧ Q (.str (cutS z lo hi)) h
  | .tup ds => Q (.tup (cutL ds lo hi)) h
  | x => match lstOf h x with
    | some ds => ∀ p, h p = none → Q (.ref p) (hup h p (.ol (cutL ds lo hi)))
    | none => False
def rSlN (K : PySem.W.Frag) : V → Option Int → Option Int → Hp → VK → Prop := fun x lo hi H Q => ∃ a xs, x = .ref a ∧ SqT K H a xs ∧
  (HT.sIx xs.length 0 lo = 0 ∧ HT.sIx xs.length xs.length hi = xs.length → Q (.ref a) H) ∧ (¬ (HT.sIx xs.length 0 lo = 0 ∧ HT.sIx xs.length xs.length hi = xs.length) → NewT H (cutV xs lo hi) Q)
theorem Vals.cut {xs : List V} {us : List Value} (r : Vals xs us) (lo hi : Option Int) : Vals (cutV xs lo hi) ((us.drop (HT.sIx us.length 0 lo)).take (HT.sIx us.length us.length hi - HT.sIx us.length 0 lo)) := by
  unfold cutV
  rw [r.length]
  exact (r.drop _).take _
theorem sl_tupN : SlR X (rSlN X.K) := by
  intro pins s σ H x v vl vu lo hi sl Q I rx hs pl pu h
  obtain ⟨a, xs, rfl, hx, q1, q2⟩ := h
  cases rx
  obtain ⟨its, r, ht, hz⟩ := I.tuple hx
  have hlen : its.toArray.size = xs.length := by rw [List.size_toArray]; exact r.length.symm
  refine ⟨"tuple", _, PyProof.Rows.slot_tuple_getitem.lookup, ht.typeIs, ?_⟩
  by_cases hw : HT.sIx xs.length 0 lo = 0 ∧ HT.sIx xs.length xs.length hi = xs.length
  · exact getItem_tuple_whole ht hs pl pu (by rw [hlen]; exact hw) ⟨.ref a, H, I, rfl, q1 hw⟩
  · refine HT.getItem_tuple_cut ht hs pl pu (by rw [hlen]; exact hw) ?_ (by rw [hlen]; exact hz)
    refine NewT.fin (t' := s.toks) (q2 hw) I (Nat.le_trans (cutV_length _ _ _) hz) ?_
    have := Vals.cut r lo hi
    rw [hlen, r.length]
    exact this
abbrev rSlAll (K : PySem.W.Frag) : V → Option Int → Option Int → Hp → VK → Prop := fun x lo hi H Q => rSlS x lo hi H Q ∨ (rSlN K x lo hi H Q ∨ rSlL K x lo hi H Q)
theorem sl_all : SlR X (rSlAll X.K) := sl_str.or (sl_tupN.or sl_list)
def dSl (a : DE) (lo hi : DO) : DE := fun ρ h Q => a ρ h fun x h1 => lo ρ h1 fun l h2 => hi ρ h2 fun u h3 => wSl x l u h3 Q
theorem cut_whole {α : Type} (xs : List α) (lo hi : Option Int) (hw : HT.sIx xs.length 0 lo = 0 ∧ HT.sIx xs.length xs.length hi = xs.length) : cutL xs lo hi = xs := by
  unfold cutL
  rw [hw.1, hw.2]; simp
theorem d_sl {lo hi : Option Expr} {wl wh : DO} {p2 : Pos} (hx : XD C X) (ha : PEd C A X a wa) (hl : POd C A X lo wl) (hh : POd C A X hi wh) : PEd C A X (.Subscript a (.Slice lo hi none p2) pos) (dSl wa wl wh) :=
  PE.imp (pe_slice (hx.K ▸ sl_all) ha hl hh) fun σ H Q ⟨Z, ρ, h, Qd, R, q, k⟩ => ⟨Z, ρ, h, _, R, q, fun x h1 v1 Z1 H1 q1 f1 R1 r1 => ⟨Z1, ρ, h1, _, R.next f1 R1, q1, fun l h2 Z2 H2 q2 f2 R2 => ⟨Z2, ρ, h2, _, (R.next f1 R1).next f2 R2, q2, fun u h3 Z3 H3 q3 f3 R3 => by
    have r3 := r1.fr (f2.trans f3)
    have k3 := fun d h' v Z' H' qd (f : Fr Z3 H3 Z' H') R' rr => k d h' v Z' H' qd (((f1.trans f2).trans f3).trans f) R' rr
    by_cases t : ∃ z, x = .str z
    · obtain ⟨z, rfl⟩ := t
      exact .inl ⟨z, r3, q3.1.line, k3 _ h3 _ Z3 H3 q3.2 Fr.refl R3 rfl⟩
    · by_cases t2 : ∃ ds, x = .tup ds
      · obtain ⟨ds, rfl⟩ := t2
        have q4 : Qd (.tup (cutL ds l u)) h3 := q3
        have r3' := r3
        obtain ⟨p, vs, rfl, s, r⟩ := r3'
        refine .inr (.inl ⟨p, vs, rfl, s.t, fun hw => ?_, fun hw p o hp hd => ?_⟩)
        · rw [r.length] at hw
          rw [cut_whole ds l u hw] at q4
          exact k3 _ h3 _ Z3 H3 q4 Fr.refl R3 r3
        · obtain ⟨R', rr⟩ := R3.mkTup hp (cutL_reps r l u) hd
          exact k3 _ h3 _ Z3 _ q4 (R3.mkFr hp) R' rr
      · have q4 : (match lstOf h3 x with
          | some ds => ∀ p, h3 p = none → Qd (.ref p) (hup h3 p (.ol (cutL ds l u)))
          | none => False) := by
          cases x <;> first | exact absurd ⟨_, rfl⟩ t | exact absurd ⟨_, rfl⟩ t2 | exact q3
        cases e1 : lstOf h3 x with
        | none => simp [e1] at q4
        | some ds =>
          simp only [e1] at q4
          obtain ⟨p, vs, rfl, s, r⟩ := lst_rep R3 e1 r3
          exact .inr (.inr ⟨p, vs, rfl, s, fun p hp => k3 _ _ _ Z3 _ (q4 p (R3.none hp)) (R3.mkFr hp) (R3.mkLst hp (cutL_reps r l u)) rfl⟩)⟩⟩⟩
/-! ### calls of built-ins -/
def dL (w : WL) (r : DA) : DE := fun ρ h Q => r ρ h fun xs h1 => w xs h1 Q
theorem up_call {r : List V → Hp → VK → Prop} {w : WL} (o : OpL C r w) : ∀ σ H Q, UpE C A (dL w wr) σ H Q → tCB r (UpA C A wr) σ H Q := fun σ H Q ⟨Z, ρ, h, Qd, R, q, k⟩ =>
  ⟨Z, ρ, h, _, R, q, fun xs h1 vs Z1 H1 q1 f1 R1 r1 => o Z1 H1 h1 xs vs Qd Q R1 r1 q1 fun d h' v Z' H' qd f R' rr => k d h' v Z' H' qd (f1.trans f) R' rr⟩
theorem d_callB {id : String} {x : Str} {p : Pos} {r : List V → Hp → VK → Prop} {w : WL} (hc : CallR X (.builtin id) r) (o : OpL C r w) (hg : Gl X x) (hm : X.mg x = none) (hv : bootBuiltins x = some (.builtin id)) (ha : PAd C A X (e :: es) wr)
    (hn : x ≠ "__name__" := by decide) (hdb : (x == ("__debug__" : Str)) = false := by decide) (he : starEach (e :: es) X.env = (false, eval e X.env) :: starEach es X.env := by rfl) (hpl : (backTo pos (starEach es X.env)).any (·.1) = false := by rfl) :
    PEd C A X (.Call (.Name x p) (e :: es) [] pos) (dL w wr) := PE.imp (pe_callB hc hg hm hv ha hn hdb he hpl) (up_call o)
theorem d_callTy {T : String} {x : Str} {p : Pos} {r : List V → Hp → VK → Prop} {w : WL} (hc : CallR X (.type T) r) (o : OpL C r w) (hg : Gl X x) (hm : X.mg x = none) (hv : bootBuiltins x = some (.type T)) (ha : PAd C A X (e :: es) wr)
    (hn : x ≠ "__name__" := by decide) (hdb : (x == ("__debug__" : Str)) = false := by decide) (he : starEach (e :: es) X.env = (false, eval e X.env) :: starEach es X.env := by rfl) (hpl : (backTo pos (starEach es X.env)).any (·.1) = false := by rfl) :
    PEd C A X (.Call (.Name x p) (e :: es) [] pos) (dL w wr) := PE.imp (pe_callTy hc hg hm hv ha hn hdb he hpl) (up_call o)
end
end DL
end
section
set_option Elab.async false
set_option linter.all false
set_option maxRecDepth 100000
set_option maxHeartbeats 4000000
open PySem PySem.Spec L2
open PyProof.Rows (sortedS)
namespace DL
section
variable {C : Ctx} {A : Anc} {X : Cx} {a b e c : Expr} {es : List Expr} {pos : Pos} {wa wb wc : DE} {wr : DA}
theorem OpL.or1 {r r' : List V → Hp → VK → Prop} {w : WL} (o : OpL C r w) : OpL C (fun xs H Q => r xs H Q ∨ r' xs H Q) w := fun Z H h ds xs Qd Q R rx q k => .inl (o Z H h ds xs Qd Q R rx q k)
/-! ### len -/
def onLen (h : Hd) (x : D) (f : Nat → Prop) : Prop := match x with
  | .str y => SZ y.length ∧ f y.length
  | x => match seqOf h x with
    | some ds => f ds.length
    | none => match dicOf h x with
      | some kvs => f kvs.length
      | none => False
def on1 (ds : List D) (f : D → Prop) : Prop := match ds with
  | [d] => f d
  | _ => False
def on2 (ds : List D) (f : D → D → Prop) : Prop := match ds with
  | [d, e] => f d e
  | _ => False
theorem rep_on1 {Z : Addr → Prop} {H : Hp} {ds : List D} {vs : List V} {f : D → Prop} (r : Reps C Z H ds vs) (q : on1 ds f) : ∃ d v, ds = [d] ∧ vs = [v] ∧ Rep C Z H d v ∧ f d := by
  match ds, q with
  | [d], q =>
    obtain ⟨v, e, r1⟩ := r.one
    exact ⟨d, v, rfl, e, r1, q⟩
theorem rep_on2 {Z : Addr → Prop} {H : Hp} {ds : List D} {vs : List V} {f : D → D → Prop} (r : Reps C Z H ds vs) (q : on2 ds f) : ∃ d e v u, ds = [d, e] ∧ vs = [v, u] ∧ Rep C Z H d v ∧ Rep C Z H e u ∧ f d e := by
  match ds, q with
  | [d, e], q =>
    obtain ⟨v, u, e1, r1, r2⟩ := r.two
    exact ⟨d, e, v, u, rfl, e1, r1, r2, q⟩
def wLen : WL := fun ds h Q => on1 ds fun d => onLen h d fun n => Q (.int n) h
theorem call_len_dic : CallR X (.builtin "len") (fun xs H Q => ∃ p kvs, xs = [.ref p] ∧ Rd H p (.dK kvs) ∧ Q (.int ((kvs.length : Nat) : Int)) H) := by
  intro pins s σ H xs us Q I r h
  obtain ⟨p, kvs, rfl, hq, q⟩ := h
  obtain ⟨u, rfl, rx⟩ := vals1 r
  cases rx
  exact d_len I hq fun t s' I' => ⟨.int _, H, I', ⟨t, rfl⟩, q⟩
abbrev rLenA (K : PySem.W.Frag) : List V → Hp → VK → Prop := fun xs H Q => (∃ x n, xs = [x] ∧ LenV K x H n ∧ Q (.int n) H) ∨ (∃ p kvs, xs = [.ref p] ∧ Rd H p (.dK kvs) ∧ Q (.int ((kvs.length : Nat) : Int)) H)
theorem call_lenA : CallR X (.builtin "len") (rLenA X.K) := call_len.or call_len_dic
theorem o_len : OpL C (rLenA C.K) wLen := fun Z H h ds xs Qd Q R rx q k => by
  obtain ⟨d, v, rfl, rfl, r, q⟩ := rep_on1 rx q
  by_cases t : ∃ y, d = .str y
  · obtain ⟨y, rfl⟩ := t
    rw [show v = _ from r]
    exact .inl ⟨_, y.length, rfl, ⟨q.1.line, rfl⟩, k _ h _ Z H q.2 Fr.refl R rfl⟩
  · have q' : (match seqOf h d with
      | some ds => Qd (.int ds.length) h
      | none => match dicOf h d with
        | some kvs => Qd (.int kvs.length) h
        | none => False) := by
      cases d <;> first | exact absurd ⟨_, rfl⟩ t | exact q
    cases e1 : seqOf h d with
    | some ds =>
      simp only [e1] at q'
      obtain ⟨p, vs, rfl, s, r1⟩ := seq_rep R e1 r
      refine .inl ⟨_, vs.length, rfl, ?_, k _ h _ Z H q' Fr.refl R (by rw [r1.length]; rfl)⟩
      rcases s with s | s
      · exact .inl ⟨vs, s, rfl⟩
      · exact .inr ⟨vs, s, rfl⟩
    | none =>
      simp only [e1] at q'
      cases e2 : dicOf h d with
      | none => simp [e2] at q'
      | some kvs =>
        simp only [e2] at q'
        obtain ⟨p, vs, rfl, s, r1⟩ := dic_rep R e2 r
        exact .inr ⟨p, vs, rfl, s, k _ h _ Z H q' Fr.refl R (by rw [r1.length]; rfl)⟩
/-! ### numbers -/
def wAbs : WL := fun ds h Q => on1 ds fun d => onI d fun i => Q (.int (if i < 0 then -i else i)) h
theorem o_abs : OpL C (fun xs H Q => ∃ i, xs = [.int i] ∧ Q (.int (if i < 0 then -i else i)) H) wAbs := fun Z H h ds xs Qd Q R rx q k => by
  obtain ⟨d, v, rfl, rfl, r, q⟩ := rep_on1 rx q
  obtain ⟨i, _, ev, f⟩ := rep_onI r q
  exact ⟨i, by rw [ev], k _ h _ Z H f Fr.refl R rfl⟩
def wInt : WL := fun ds h Q => on1 ds fun d => match d with
  | .int i => Q (.int i) h
  | .bl b => Q (.int (if b then 1 else 0)) h
  | _ => False
theorem o_int : OpL C (fun xs H Q => (∃ i, xs = [.int i] ∧ Q (.int i) H) ∨ ∃ k, xs = [.bl k] ∧ Q (.int (if k then 1 else 0)) H) wInt := fun Z H h ds xs Qd Q R rx q k => by
  obtain ⟨d, v, rfl, rfl, r, q⟩ := rep_on1 rx q
  cases d with
  | int i => exact .inl ⟨i, by rw [show v = _ from r], k _ h _ Z H q Fr.refl R rfl⟩
  | bl i => exact .inr ⟨i, by rw [show v = _ from r], k _ h _ Z H q Fr.refl R rfl⟩
  | _ => exact q.elim
/-! ### the numbers, the truths, the texts of a list -/
def intsD : List D → Option (List Int)
  | [] => some []
  | .int i :: ds => (intsD ds).map (i :: ·)
  | _ => none
def blsD : List D → Option (List Bool)
  | [] => some []
  | .bl i :: ds => (blsD ds).map (i :: ·)
  | _ => none
def strsD : List D → Option (List Str)
  | [] => some []
  | .str i :: ds => (strsD ds).map (i :: ·)
  | _ => none
theorem intsD_map : ∀ ns : List Int, intsD (ns.map .int) = some ns
  | [] => rfl
  | n :: ns => by simp [intsD, intsD_map ns]
theorem blsD_map : ∀ ns : List Bool, blsD (ns.map .bl) = some ns
  | [] => rfl
  | n :: ns => by simp [blsD, blsD_map ns]
theorem strsD_map : ∀ ns : List Str, strsD (ns.map .str) = some ns
  | [] => rfl
  | n :: ns => by simp [strsD, strsD_map ns]
theorem intsD_eq : ∀ {ds : List D} {ns : List Int}, intsD ds = some ns → ds = ns.map .int
  | [], ns, e => by cases e; rfl
  | .int i :: ds, ns, e => by
    simp only [intsD] at e
    cases q : intsD ds with
    | none => rw [q] at e; cases e
    | some ms => rw [q] at e; cases e; rw [intsD_eq q]; rfl
theorem blsD_eq : ∀ {ds : List D} {ns : List Bool}, blsD ds = some ns → ds = ns.map .bl
  | [], ns, e => by cases e; rfl
  | .bl i :: ds, ns, e => by
    simp only [blsD] at e
    cases q : blsD ds with
    | none => rw [q] at e; cases e
    | some ms => rw [q] at e; cases e; rw [blsD_eq q]; rfl
theorem strsD_eq : ∀ {ds : List D} {ns : List Str}, strsD ds = some ns → ds = ns.map .str
  | [], ns, e => by cases e; rfl
  | .str i :: ds, ns, e => by
    simp only [strsD] at e
    cases q : strsD ds with
    | none => rw [q] at e; cases e
    | some ms => rw [q] at e; cases e; rw [strsD_eq q]; rfl
theorem reps_ints {Z : Addr → Prop} {H : Hp} {ns : List Int} {vs : List V} (r : Reps C Z H (ns.map .int) vs) : vs = ns.map V.int := Reps.of_map (f := D.int) (g := V.int) (fun _ _ r => r) r
theorem reps_bls {Z : Addr → Prop} {H : Hp} {ns : List Bool} {vs : List V} (r : Reps C Z H (ns.map .bl) vs) : vs = ns.map V.bl := Reps.of_map (f := D.bl) (g := V.bl) (fun _ _ r => r) r
theorem reps_strs {Z : Addr → Prop} {H : Hp} {ns : List Str} {vs : List V} (r : Reps C Z H (ns.map .str) vs) : vs = ns.map V.str := Reps.of_map (f := D.str) (g := V.str) (fun _ _ r => r) r
def onL (h : Hd) (x : D) (f : List D → Prop) : Prop := match lstOf h x with
  | some ds => f ds
  | none => False
def onO {α : Type} (x : Option α) (f : α → Prop) : Prop := match x with
  | some a => f a
  | none => False
theorem onO_some {α : Type} {x : Option α} {f : α → Prop} (q : onO x f) : ∃ a, x = some a ∧ f a := by
  cases x with
  | none => exact q.elim
  | some a => exact ⟨a, rfl, q⟩
theorem rep_onL {Z : Addr → Prop} {H : Hp} {h : Hd} (R : RelH C Z H h) {d : D} {v : V} {f : List D → Prop} (r : Rep C Z H d v) (q : onL h d f) : ∃ ds p vs, v = .ref p ∧ SqL C.K H p vs ∧ Reps C Z H ds vs ∧ f ds := by
  unfold onL at q
  cases e : lstOf h d with
  | none => simp [e] at q
  | some ds =>
    simp only [e] at q
    obtain ⟨p, vs, e1, s, r1⟩ := lst_rep R e r
    exact ⟨ds, p, vs, e1, s, r1, q⟩
def wSum : WL := fun ds h Q => on1 ds fun d => onL h d fun xs => onO (intsD xs) fun ns => Q (.int ns.sum) h
theorem o_sum : OpL C (rSum C.K) wSum := fun Z H h ds xs Qd Q R rx q k => by
  obtain ⟨d, v, rfl, rfl, r, q⟩ := rep_on1 rx q
  obtain ⟨es, p, vs, rfl, s, r1, q⟩ := rep_onL R r q
  obtain ⟨ns, e, f⟩ := onO_some q
  rw [intsD_eq e] at r1
  rw [reps_ints r1] at s
  exact ⟨p, ns, rfl, s, k _ h _ Z H f Fr.refl R rfl⟩
def wAll : WL := fun ds h Q => on1 ds fun d => onL h d fun xs => onO (blsD xs) fun ns => Q (.bl (ns.all id)) h
theorem o_all : OpL C (rAll C.K) wAll := fun Z H h ds xs Qd Q R rx q k => by
  obtain ⟨d, v, rfl, rfl, r, q⟩ := rep_on1 rx q
  obtain ⟨es, p, vs, rfl, s, r1, q⟩ := rep_onL R r q
  obtain ⟨ns, e, f⟩ := onO_some q
  rw [blsD_eq e] at r1
  rw [reps_bls r1] at s
  exact ⟨p, ns, rfl, s, k _ h _ Z H f Fr.refl R rfl⟩
def wAny : WL := fun ds h Q => on1 ds fun d => onL h d fun xs => onO (blsD xs) fun ns => Q (.bl (ns.any id)) h
theorem o_any : OpL C (rAny C.K) wAny := fun Z H h ds xs Qd Q R rx q k => by
  obtain ⟨d, v, rfl, rfl, r, q⟩ := rep_on1 rx q
  obtain ⟨es, p, vs, rfl, s, r1, q⟩ := rep_onL R r q
  obtain ⟨ns, e, f⟩ := onO_some q
  rw [blsD_eq e] at r1
  rw [reps_bls r1] at s
  exact ⟨p, ns, rfl, s, k _ h _ Z H f Fr.refl R rfl⟩
/-- max, min of two numbers, of a list of numbers -/
def wMax : WL := fun ds h Q => match ds with
  | [x, y] => onI2 x y fun i j => Q (.int (if j > i then j else i)) h
  | [x] => onL h x fun xs => onO (intsD xs) fun ns => 0 < ns.length ∧ ∀ m, m ∈ ns → (∀ y, y ∈ ns → y ≤ m) → Q (.int m) h
  | _ => False
def wMin : WL := fun ds h Q => match ds with
  | [x, y] => onI2 x y fun i j => Q (.int (if j < i then j else i)) h
  | [x] => onL h x fun xs => onO (intsD xs) fun ns => 0 < ns.length ∧ ∀ m, m ∈ ns → (∀ y, y ∈ ns → m ≤ y) → Q (.int m) h
  | _ => False
abbrev rMaxA (K : PySem.W.Frag) : List V → Hp → VK → Prop := fun xs H Q => (∃ i j, xs = [.int i, .int j] ∧ Q (.int (if j > i then j else i)) H) ∨ rMax K xs H Q
abbrev rMinA (K : PySem.W.Frag) : List V → Hp → VK → Prop := fun xs H Q => (∃ i j, xs = [.int i, .int j] ∧ Q (.int (if j < i then j else i)) H) ∨ rMin K xs H Q
theorem call_maxA (hc : X.calm = true) : CallR X (.builtin "max") (rMaxA X.K) := (call_max2 hc).or (cr_max hc)
theorem call_minA (hc : X.calm = true) : CallR X (.builtin "min") (rMinA X.K) := (call_min2 hc).or (cr_min hc)
theorem o_max : OpL C (rMaxA C.K) wMax := fun Z H h ds xs Qd Q R rx q k => by
  match ds, q with
  | [x, y], q =>
    obtain ⟨v, u, rfl, r1, r2⟩ := rx.two
    obtain ⟨i, j, rfl, rfl, f⟩ := rep_onI2 r1 r2 q
    exact .inl ⟨i, j, rfl, k _ h _ Z H f Fr.refl R rfl⟩
  | [x], q =>
    obtain ⟨v, rfl, r⟩ := rx.one
    obtain ⟨es, p, vs, rfl, s, r1, q⟩ := rep_onL R r q
    obtain ⟨ns, e, l, f⟩ := onO_some q
    rw [intsD_eq e] at r1
    rw [reps_ints r1] at s
    exact .inr ⟨p, ns, rfl, s, l, fun m h1 h2 => k _ h _ Z H (f m h1 h2) Fr.refl R rfl⟩
theorem o_min : OpL C (rMinA C.K) wMin := fun Z H h ds xs Qd Q R rx q k => by
  match ds, q with
  | [x, y], q =>
    obtain ⟨v, u, rfl, r1, r2⟩ := rx.two
    obtain ⟨i, j, rfl, rfl, f⟩ := rep_onI2 r1 r2 q
    exact .inl ⟨i, j, rfl, k _ h _ Z H f Fr.refl R rfl⟩
  | [x], q =>
    obtain ⟨v, rfl, r⟩ := rx.one
    obtain ⟨es, p, vs, rfl, s, r1, q⟩ := rep_onL R r q
    obtain ⟨ns, e, l, f⟩ := onO_some q
    rw [intsD_eq e] at r1
    rw [reps_ints r1] at s
    exact .inr ⟨p, ns, rfl, s, l, fun m h1 h2 => k _ h _ Z H (f m h1 h2) Fr.refl R rfl⟩
/-! ### list(..), tuple(..), dict(..), sorted(..) -/
theorem keysR {Z : Addr → Prop} {H : Hp} : ∀ {ds : List (D × D)} {vs : List (Key × V)}, RepKs C Z H ds vs → Reps C Z H (ds.map (·.1)) (vs.map fun kv => kV kv.1)
  | [], _, e => by rw [show _ = [] from e]; exact rfl
  | d :: ds, _, ⟨k, v, vr, e, rk, r, rr⟩ => by subst e; exact ⟨_, _, rfl, rk, keysR rr⟩
def wList : WL := fun ds h Q => on1 ds fun d => match seqOf h d with
  | some xs => ∀ p, h p = none → Q (.ref p) (hup h p (.ol xs))
  | none => match dicOf h d with
    | some kvs => ∀ p, h p = none → Q (.ref p) (hup h p (.ol (kvs.map (·.1))))
    | none => False
abbrev rListA (K : PySem.W.Frag) : List V → Hp → VK → Prop := fun xs H Q => (∃ p ys, xs = [.ref p] ∧ (SqL K H p ys ∨ SqT K H p ys) ∧ ∀ l, H l = none → Q (.ref l) (upd H l (.lst ys))) ∨
  (∃ (a : Addr) (kvs : List (Key × V)), xs = [.ref a] ∧ Rd H a (.dK kvs) ∧ ∀ p, H p = none → Q (.ref p) (upd H p (.lst (kvs.map fun kv => kV kv.1))))
theorem call_listA (hc : X.calm = true) : CallR X (.type "list") (rListA X.K) := call_list_of.or (call_listD hc)
theorem o_list : OpL C (rListA C.K) wList := fun Z H h ds xs Qd Q R rx q k => by
  obtain ⟨d, v, rfl, rfl, r, q⟩ := rep_on1 rx q
  cases e1 : seqOf h d with
  | some ds =>
    simp only [e1] at q
    obtain ⟨p, vs, rfl, s, r1⟩ := seq_rep R e1 r
    exact .inl ⟨p, vs, rfl, s, fun l hl => k _ _ _ Z _ (q l (R.none hl)) (R.mkFr hl) (R.mkLst hl r1) rfl⟩
  | none =>
    simp only [e1] at q
    cases e2 : dicOf h d with
    | none => simp [e2] at q
    | some kvs =>
      simp only [e2] at q
      obtain ⟨p, vs, rfl, s, r1⟩ := dic_rep R e2 r
      exact .inr ⟨p, vs, rfl, s, fun l hl => k _ _ _ Z _ (q l (R.none hl)) (R.mkFr hl) (R.mkLst hl (keysR r1)) rfl⟩
def wTuple : WL := fun ds h Q => on1 ds fun d => match seqOf h d with
  | some xs => Q (.tup xs) h
  | none => False
theorem call_tupN : CallR X (.type "tuple") (fun xs H Q => ∃ p ys, xs = [.ref p] ∧ ((SqL X.K H p ys ∧ NewT H ys Q) ∨ (SqT X.K H p ys ∧ Q (.ref p) H))) := by
  intro pins s σ H xs us Q I r h
  obtain ⟨p, ys, rfl, h⟩ := h
  obtain ⟨u, rfl, rx⟩ := vals1 r
  cases rx
  rcases h with ⟨hq, q⟩ | ⟨hq, q⟩
  · obtain ⟨its, r', pl, hz⟩ := I.list hq
    have hlen := r'.length
    refine call_tuple_list pl.isList (fun h' kp => ?_) (by simp only [List.size_toArray] <;> omega)
    have I1 : Inv X pins σ H { s with heap := h' } := I.kept (t' := s.toks) kp
    exact NewT.fin (t' := s.toks) q I1 hz r'
  · obtain ⟨its, r', pl, hz⟩ := I.tuple hq
    exact call_tuple_same pl ⟨.ref p, H, I, rfl, q⟩
theorem o_tuple : OpL C (fun xs H Q => ∃ p ys, xs = [.ref p] ∧ ((SqL C.K H p ys ∧ NewT H ys Q) ∨ (SqT C.K H p ys ∧ Q (.ref p) H))) wTuple := fun Z H h ds xs Qd Q R rx q k => by
  obtain ⟨d, v, rfl, rfl, r, q⟩ := rep_on1 rx q
  by_cases t : ∃ es, d = .tup es
  · obtain ⟨es, rfl⟩ := t
    have r' := r
    obtain ⟨p, vs, rfl, s, r1⟩ := r'
    exact ⟨p, vs, rfl, .inr ⟨s.t, k _ h _ Z H q Fr.refl R r⟩⟩
  · have hs : seqOf h d = lstOf h d := by
      cases d <;> first | rfl | exact absurd ⟨_, rfl⟩ t
    rw [hs] at q
    cases e1 : lstOf h d with
    | none => simp [e1] at q
    | some ds =>
      simp only [e1] at q
      obtain ⟨p, vs, rfl, s, r1⟩ := lst_rep R e1 r
      refine ⟨p, vs, rfl, .inl ⟨s, fun l o hl hd => ?_⟩⟩
      obtain ⟨R', rr⟩ := R.mkTup hl r1 hd
      exact k _ h _ Z _ q (R.mkFr hl) R' rr
/-- dict(d) -/
def wDict : WL := fun ds h Q => on1 ds fun d => onO (dicOf h d) fun kvs => ∀ p, h p = none → Q (.ref p) (hup h p (.od kvs))
theorem call_dictC : CallR X (.type "dict") (fun xs H Q => ∃ a kvs, xs = [.ref a] ∧ Rd H a (.dK kvs) ∧ ∀ p, H p = none → Q (.ref p) (upd H p (.dK kvs))) := by
  intro pins s σ H xs us Q I r h
  obtain ⟨p, kvs, rfl, hq, q⟩ := h
  obtain ⟨u, rfl, rx⟩ := vals1 r
  cases rx
  exact d_copyOf I hq fun l s' hl I' => ⟨.ref l, _, I', rfl, q l hl⟩
theorem o_dict : OpL C (fun xs H Q => ∃ a kvs, xs = [.ref a] ∧ Rd H a (.dK kvs) ∧ ∀ p, H p = none → Q (.ref p) (upd H p (.dK kvs))) wDict := fun Z H h ds xs Qd Q R rx q k => by
  obtain ⟨d, v, rfl, rfl, r, q⟩ := rep_on1 rx q
  obtain ⟨kvs, e, f⟩ := onO_some q
  obtain ⟨p, vs, rfl, s, r1⟩ := dic_rep R e r
  exact ⟨p, vs, rfl, s, fun l hl => k _ _ _ Z _ (f l (R.none hl)) (R.mkFr hl) (R.mkDic hl r1) rfl⟩
/-- sorted: of numbers, of texts, of a dict with text keys -/
def wSorted : WL := fun ds h Q => on1 ds fun d => match lstOf h d with
  | some xs => (match intsD xs, strsD xs with
    | some ns, none => ns.length < 64 ∧ ∀ (ns' : List Int) (p : Addr), ns'.Perm ns → ns'.Pairwise (· ≤ ·) → h p = none → Q (.ref p) (hup h p (.ol (ns'.map .int)))
    | _, some ss => ss.length < 64 ∧ ∀ (ss' : List Str) (p : Addr), ss'.Perm ss → sortedS ss' = true → h p = none → Q (.ref p) (hup h p (.ol (ss'.map .str)))
    | none, none => False)
  | none => onO (dicOf h d) fun kvs => onO (strsD (kvs.map (·.1))) fun ss => ss.length < 64 ∧ ∀ (ss' : List Str) (p : Addr), ss'.Perm ss → sortedS ss' = true → h p = none → Q (.ref p) (hup h p (.ol (ss'.map .str)))
abbrev rSortedD : List V → Hp → VK → Prop := fun xs H Q => ∃ (a : Addr) (kvs : List (Key × V)) (ks : List Str), xs = [.ref a] ∧ Rd H a (.dK kvs) ∧ kvs.map (·.1) = ks.map Sum.inr ∧ ks.length < 64 ∧
  ∀ ys p, ys.Perm ks → sortedS ys = true → H p = none → Q (.ref p) (upd H p (.lst (ys.map V.str)))
abbrev rSortedA (K : PySem.W.Frag) : List V → Hp → VK → Prop := fun xs H Q => rSorted K xs H Q ∨ (rSortedS K xs H Q ∨ rSortedD xs H Q)
theorem call_sortedA (hc : X.calm = true) : CallR X (.builtin "sorted") (rSortedA X.K) := cr_sorted.or (cr_sortedS.or (call_sortedD hc))
theorem reps_ofI {Z : Addr → Prop} {H : Hp} (ns : List Int) : Reps C Z H (ns.map .int) (ns.map V.int) := Reps.map (f := D.int) (g := V.int) (fun _ => rfl) ns
theorem reps_ofS {Z : Addr → Prop} {H : Hp} (ns : List Str) : Reps C Z H (ns.map .str) (ns.map V.str) := Reps.map (f := D.str) (g := V.str) (fun _ => rfl) ns
theorem keysS {Z : Addr → Prop} {H : Hp} : ∀ {ds : List (D × D)} {vs : List (Key × V)} {ss : List Str}, RepKs C Z H ds vs → ds.map (·.1) = ss.map .str → vs.map (·.1) = ss.map Sum.inr
  | [], _, ss, e, es => by
    rw [show _ = [] from e]
    cases ss with
    | nil => rfl
    | cons x xs => cases es
  | d :: ds, _, ss, ⟨k, v, vr, e, rk, r, rr⟩, es => by
    subst e
    cases ss with
    | nil => cases es
    | cons x xs =>
      rw [List.map_cons, List.map_cons] at es
      injection es with e1 e2
      rw [e1] at rk
      have := repk rk
      injection this with this
      rw [List.map_cons, List.map_cons, keysS rr e2, ← this]
theorem o_sorted : OpL C (rSortedA C.K) wSorted := fun Z H h ds xs Qd Q R rx q k => by
  obtain ⟨d, v, rfl, rfl, r, q⟩ := rep_on1 rx q
  cases e1 : lstOf h d with
  | some ds =>
    simp only [e1] at q
    obtain ⟨p, vs, rfl, s, r1⟩ := lst_rep R e1 r
    cases e3 : strsD ds with
    | some ss =>
      have q' : ss.length < 64 ∧ ∀ (ss' : List Str) (p : Addr), ss'.Perm ss → sortedS ss' = true → h p = none → Qd (.ref p) (hup h p (.ol (ss'.map .str))) := by
        cases e2 : intsD ds <;> simp only [e2, e3] at q <;> exact q
      rw [strsD_eq e3] at r1
      rw [reps_strs r1] at s
      exact .inr (.inl ⟨p, ss, rfl, s, q'.1, fun ys l h1 h2 hl => k _ _ _ Z _ (q'.2 ys l h1 h2 (R.none hl)) (R.mkFr hl) (R.mkLst hl (reps_ofS ys)) rfl⟩)
    | none =>
      cases e2 : intsD ds with
      | none => simp [e2, e3] at q
      | some ns =>
        simp only [e2, e3] at q
        rw [intsD_eq e2] at r1
        rw [reps_ints r1] at s
        exact .inl ⟨p, ns, rfl, s, q.1, fun ys l h1 h2 hl => k _ _ _ Z _ (q.2 ys l h1 h2 (R.none hl)) (R.mkFr hl) (R.mkLst hl (reps_ofI ys)) rfl⟩
  | none =>
    simp only [e1] at q
    obtain ⟨kvs, e2, q⟩ := onO_some q
    obtain ⟨ss, e3, q⟩ := onO_some q
    obtain ⟨p, vs, rfl, s, r1⟩ := dic_rep R e2 r
    exact .inr (.inr ⟨p, vs, ss, rfl, s, keysS r1 (strsD_eq e3), q.1, fun ys l h1 h2 hl => k _ _ _ Z _ (q.2 ys l h1 h2 (R.none hl)) (R.mkFr hl) (R.mkLst hl (reps_ofS ys)) rfl⟩)
/-! ### divmod -/
def wDivmod : WL := fun ds h Q => on2 ds fun x y => onI2 x y fun i j => CDivW i j ∧ Q (.tup [.int (i / j), .int (i % j)]) h
theorem call_divmodN : CallR X (.builtin "divmod") (fun xs H Q => ∃ i j, xs = [.int i, .int j] ∧ CDivW i j ∧ NewT H [.int (i / j), .int (i % j)] Q) := by
  intro pins s σ H xs us Q I r h
  obtain ⟨i, j, rfl, ⟨h1, h2⟩, q⟩ := h
  obtain ⟨u, w', rfl, ⟨t, rfl⟩, ⟨t', rfl⟩⟩ := vals2 r
  refine PyProof.Rows.divmod_int (by omega) ?_ (.inl (PyProof.noPylong_of_log2 h2))
  · rw [Int.fdiv_eq_ediv_of_nonneg i (by omega), Int.fmod_eq_emod_of_nonneg i (by omega)]
    refine NewT.fin q I (by simp only [List.length_cons, List.length_nil]; rw [sizeLine_eq]; decide) ?_
    exact .cons ⟨_, rfl⟩ (.cons ⟨_, rfl⟩ .nil)
theorem o_divmod : OpL C (fun xs H Q => ∃ i j, xs = [.int i, .int j] ∧ CDivW i j ∧ NewT H [.int (i / j), .int (i % j)] Q) wDivmod := fun Z H h ds xs Qd Q R rx q k => by
  obtain ⟨d, e, v, u, rfl, rfl, r1, r2, q⟩ := rep_on2 rx q
  obtain ⟨i, j, rfl, rfl, c, f⟩ := rep_onI2 r1 r2 q
  refine ⟨i, j, rfl, c, fun l o hl hd => ?_⟩
  obtain ⟨R', rr⟩ := R.mkTup hl (ds := [.int (i / j), .int (i % j)]) ⟨_, _, rfl, rfl, _, _, rfl, rfl, rfl⟩ hd
  exact k _ h _ Z _ f (R.mkFr hl) R' rr
end
end DL
end
section
set_option Elab.async false
set_option linter.all false
set_option maxRecDepth 100000
set_option maxHeartbeats 4000000
open PySem PySem.Spec L2
namespace DL
/-! ### own classes: what the written part says -/
abbrev baseTys : List String := ["NoneType", "bool", "int", "str", "tuple", "list", "dict"]
def tyIs (a b : String) : Option Bool := if a ∈ baseTys ∧ b ∈ baseTys then some (a == b || (a == "bool" && b == "int")) else none
theorem tyIs_kit {a b : String} {r : Bool} (h : tyIs a b = some r) : kitB a b = some r := by
  unfold tyIs at h
  split at h
  · rename_i hm
    obtain ⟨h1, h2⟩ := hm
    have key : ∀ x ∈ baseTys, ∀ y ∈ baseTys, kitB x y = some (x == y || (x == "bool" && y == "int")) := by decide +kernel
    rw [key a h1 b h2]; exact h
  · cases h
structure KOk (C : Ctx) : Prop where
  cl : ∀ c ∈ C.cls, Cls C.K (He.ga C.K c)
  hc : ∀ c ∈ C.cls, PySem.W.findIn C.K (.ref (He.ga C.K c)) "__class__" = some (some (.builtin "object.__class__"))
  hm : ∀ c ∈ C.cls, PySem.W.mroIn C.K (He.ga C.K c) (.type "object") = some true
  hn : C.cls ≠ [] → PySem.W.specialIn C.K (.builtin "object.__class__") "__get__" = some (some (.builtin "getset_descriptor.__get__"))
  ht : C.cls ≠ [] → PySem.W.takesIn C.K (.builtin "object.__class__") = some true
  noat : ∀ c ∈ C.cls, ∀ f ∈ C.flds, NoAttr C.K (He.ga C.K c) f
  k1 : ∀ c ∈ C.cls, ∀ t ∈ baseTys, PySem.W.kitOne C.K (.type t) (.ref (He.ga C.K c)) = some false
  k2 : ∀ c ∈ C.cls, ∀ t ∈ baseTys, PySem.W.kitOne C.K (.ref (He.ga C.K c)) (.type t) = some false
  k3 : ∀ c ∈ C.cls, ∀ c' ∈ C.cls, PySem.W.kitOne C.K (.ref (He.ga C.K c)) (.ref (He.ga C.K c')) = some (decide (c = c'))
section
variable {C : Ctx} {A : Anc} {X : Cx} {a b e c : Expr} {es : List Expr} {pos : Pos} {wa wb wc : DE} {wr : DA}
/-- a value's class: a built-in one, an own one -/
def tyD (h : Hd) : D → Option (Sum String Str)
  | .non => some (.inl "NoneType")
  | .bl _ => some (.inl "bool")
  | .int _ => some (.inl "int")
  | .str _ => some (.inl "str")
  | .tup _ => some (.inl "tuple")
  | .fl _ => some (.inl "list")
  | .fd _ => some (.inl "dict")
  | .fi c _ => some (.inr c)
  | .ref a => match h a with
    | some (.ol _) => some (.inl "list")
    | some (.od _) => some (.inl "dict")
    | some (.odl _) => some (.inl "dict")
    | some (.oi c _) => some (.inr c)
    | none => none
  | .glo _ => none
  | .ty _ => none
def isiD (cls : List Str) (t : Sum String Str) (c : D) : Option Bool := match t, c with
  | .inl a, .ty b => tyIs a b
  | .inl a, .glo x => if a ∈ baseTys ∧ x ∈ cls then some false else none
  | .inr c, .ty b => if b ∈ baseTys ∧ c ∈ cls then some false else none
  | .inr c, .glo x => if c ∈ cls ∧ x ∈ cls then some (decide (c = x)) else none
  | _, _ => none
/-- isinstance(x, c) -/
def wIsi (cls : List Str) : WL := fun ds h Q => on2 ds fun d c => onO (tyD h d) fun t => onO (isiD cls t c) fun b => Q (.bl b) h
def tyV' (K : PySem.W.Frag) : Sum String Str → Value
  | .inl a => .type a
  | .inr c => .ref (He.ga K c)
theorem tyD_rep (ok : KOk C) {Z : Addr → Prop} {H : Hp} {h : Hd} (R : RelH C Z H h) {d : D} {v : V} {t : Sum String Str} (e : tyD h d = some t) (r : Rep C Z H d v) : TyX C.K H v (tyV' C.K t) := by
  have own : ∀ (a : Addr) (c : Str) (dx : Addr) (fvs : List (Str × V)), H a = some (.ins (He.ga C.K c) dx fvs) → c ∈ C.cls → TyX C.K H (.ref a) (.ref (He.ga C.K c)) := fun a c dx fvs s m => by
    have ne : C.cls ≠ [] := fun z => by rw [z] at m; cases m
    exact .base (.ins s (ok.cl c m) (ok.hc c m) (ok.hn ne) (ok.ht ne) (ok.hm c m))
  have dct : ∀ (a : Addr) (kvv : List (Key × V)), Rd H a (.dK kvv) → TyX C.K H (.ref a) (.type "dict") := fun a kvv s => by
    rcases s with s | ⟨o, s⟩
    · exact .base (.dK s)
    · exact .fDict s
  cases d with
  | non => cases e; rw [show v = _ from r]; exact .base .non
  | bl b => cases e; rw [show v = _ from r]; exact .base (.bl b)
  | int b => cases e; rw [show v = _ from r]; exact .base (.int b)
  | str b => cases e; rw [show v = _ from r]; exact .base (.str b)
  | tup ds =>
    cases e
    obtain ⟨a, vs, rfl, s, _⟩ := r
    rcases s with ⟨o, s, _⟩ | ⟨o, its, n, s1, s2, _⟩
    · exact .fTuple s
    · exact .kTuple s1 s2
  | fl ds =>
    cases e
    obtain ⟨a, vs, rfl, s, _⟩ := r
    rcases s with ⟨_, s | ⟨o, s⟩⟩ | ⟨its, n, e1, _⟩
    · exact .base (.lst s)
    · exact .base (.frz s)
    · exact .kList e1 rfl
  | fd ds =>
    cases e
    obtain ⟨a, vs, rfl, _, s, _⟩ := r
    exact dct a vs s
  | fi c ds =>
    cases e
    obtain ⟨a, dx, vs, rfl, _, s, m, _⟩ := r
    exact own a c dx vs s m
  | ref a =>
    rw [show v = _ from r]
    unfold tyD at e
    cases q : h a with
    | none => simp [q] at e
    | some o =>
      have ro := own_rep R q
      cases o with
      | ol ds => simp only [q] at e; cases e; obtain ⟨vs, s, _⟩ := ro; exact .base (.lst s)
      | od ds => simp only [q] at e; cases e; obtain ⟨vs, s, _⟩ := ro; exact .base (.dK s)
      | odl ds => simp only [q] at e; cases e; obtain ⟨vs, s, _⟩ := ro; exact dct a vs s
      | oi c ds => simp only [q] at e; cases e; obtain ⟨dx, vs, s, m, _⟩ := ro; exact own a c dx vs s m
  | _ => cases e
theorem o_isi (ok : KOk C) : OpL C (rIsi C.K) (wIsi C.cls) := fun Z H h ds xs Qd Q R rx q k => by
  obtain ⟨d, c, v, u, rfl, rfl, r1, r2, q⟩ := rep_on2 rx q
  obtain ⟨t, e1, q⟩ := onO_some q
  obtain ⟨b, e2, f⟩ := onO_some q
  have ty := tyD_rep ok R e1 r1
  have fin := k _ h (.bl b) Z H f Fr.refl R rfl
  cases t with
  | inl T =>
    cases c with
    | ty n =>
      rw [show u = _ from r2]
      exact ⟨v, .ty n, _, _, b, rfl, .ty n, ty, kit_ty (tyIs_kit e2), fin⟩
    | glo x =>
      rw [show u = _ from r2]
      simp only [isiD] at e2
      split at e2
      · rename_i hm
        cases e2
        exact ⟨v, .ref _, _, _, false, rfl, .own _, ty, ok.k1 x hm.2 T hm.1, fin⟩
      · cases e2
    | _ => cases e2
  | inr x =>
    cases c with
    | ty n =>
      rw [show u = _ from r2]
      simp only [isiD] at e2
      split at e2
      · rename_i hm
        cases e2
        exact ⟨v, .ty n, _, _, false, rfl, .ty n, ty, ok.k2 x hm.2 n hm.1, fin⟩
      · cases e2
    | glo y =>
      rw [show u = _ from r2]
      simp only [isiD] at e2
      split at e2
      · rename_i hm
        cases e2
        exact ⟨v, .ref _, _, _, _, rfl, .own _, ty, ok.k3 x hm.1 y hm.2, fin⟩
      · cases e2
    | _ => cases e2
theorem d_isi {x : Str} {p : Pos} (hx : XD C X) (ok : KOk C) (hg : Gl X x) (hm : X.mg x = none) (hv : bootBuiltins x = some (.builtin "isinstance")) (ha : PAd C A X (e :: es) wr)
    (hn : x ≠ "__name__" := by decide) (hdb : (x == ("__debug__" : Str)) = false := by decide) (he : starEach (e :: es) X.env = (false, eval e X.env) :: starEach es X.env := by rfl) (hpl : (backTo pos (starEach es X.env)).any (·.1) = false := by rfl) :
    PEd C A X (.Call (.Name x p) (e :: es) [] pos) (dL (wIsi C.cls) wr) := d_callB (hx.K ▸ call_isi) (o_isi ok) hg hm hv ha hn hdb he hpl
/-! ### fields -/
def insOf (h : Hd) : D → Option (Str × List (Str × D))
  | .fi c fs => some (c, fs)
  | .ref a => match h a with
    | some (.oi c fs) => some (c, fs)
    | _ => none
  | _ => none
theorem ins_rep {Z : Addr → Prop} {H : Hp} {h : Hd} (R : RelH C Z H h) {d : D} {v : V} {c : Str} {fs : List (Str × D)} (e : insOf h d = some (c, fs)) (r : Rep C Z H d v) :
    ∃ a dx fvs, v = .ref a ∧ H a = some (.ins (He.ga C.K c) dx fvs) ∧ c ∈ C.cls ∧ RepFs C Z H fs fvs := by
  cases d with
  | fi c' fs' =>
    cases e
    obtain ⟨a, dx, vs, rfl, _, s, m, r⟩ := r
    exact ⟨a, dx, vs, rfl, s, m, r⟩
  | ref a =>
    unfold insOf at e
    cases q : h a with
    | none => simp [q] at e
    | some o =>
      cases o with
      | oi c' fs' =>
        simp only [q] at e
        cases e
        obtain ⟨dx, vs, s, m, r'⟩ := own_rep R q
        exact ⟨a, dx, vs, r, s, m, r'⟩
      | _ => simp [q] at e
  | _ => cases e
theorem RepFs.get {Z : Addr → Prop} {H : Hp} {f : Str} : ∀ {fs : List (Str × D)} {fvs : List (Str × V)} {d : D}, RepFs C Z H fs fvs → fs.lookup f = some d → ∃ v, fvs.lookup f = some v ∧ Rep C Z H d v
  | [], _, d, _, e => by cases e
  | (g, d') :: fs, _, d, ⟨v, vr, e, r, rr⟩, q => by
    subst e
    rw [List.lookup_cons] at q ⊢
    cases hb : f == g with
    | true => rw [hb] at q; cases q; exact ⟨v, rfl, r⟩
    | false => rw [hb] at q; exact RepFs.get rr q
def dFld (f : Str) (a : DE) : DE := fun ρ h Q => a ρ h fun x h1 => onO (insOf h1 x) fun p => onO (p.2.lookup f) fun d => Q d h1
theorem d_fld {f : Str} (hx : XD C X) (ok : KOk C) (hf : f ∈ C.flds) (ha : PEd C A X a wa) (hb : attributeBase a f X.env (eval a X.env) = eval a X.env := by rfl) : PEd C A X (.Attribute a f pos) (dFld f wa) :=
  PE.imp (pe_fld ha hb) fun σ H Q ⟨Z, ρ, h, Qd, R, q, k⟩ => ⟨Z, ρ, h, _, R, q, fun x h1 v Z1 H1 q1 f1 R1 r1 => by
    obtain ⟨⟨c, fs⟩, e1, q1⟩ := onO_some q1
    obtain ⟨d, e2, q1⟩ := onO_some q1
    obtain ⟨p, dx, fvs, rfl, s, m, r⟩ := ins_rep R1 e1 r1
    obtain ⟨u, e3, r3⟩ := r.get e2
    exact ⟨p, _, dx, fvs, u, rfl, s, hx.K ▸ ok.cl c m, hx.K ▸ ok.noat c m f hf, e3, k d h1 u Z1 H1 q1 f1 R1 r3⟩⟩
/-- o.f = value -/
def putD (f : Str) (v : D) : List (Str × D) → List (Str × D)
  | [] => [(f, v)]
  | (g, u) :: r => if g = f then (f, v) :: r else (g, u) :: putD f v r
theorem putD_rep {Z : Addr → Prop} {H : Hp} {f : Str} {d : D} {v : V} (rv : Rep C Z H d v) : ∀ {fs : List (Str × D)} {fvs : List (Str × V)}, RepFs C Z H fs fvs → RepFs C Z H (putD f d fs) (putF f v fvs)
  | [], _, e => by rw [show _ = [] from e]; exact ⟨v, [], rfl, rv, rfl⟩
  | (g, u) :: fs, _, ⟨w, vr, e, r, rr⟩ => by
    subst e
    unfold putD putF
    by_cases hg : g = f
    · subst hg; rw [if_pos rfl, if_pos rfl]; exact ⟨v, vr, rfl, rv, rr⟩
    · rw [if_neg hg, if_neg hg]; exact ⟨w, _, rfl, r, putD_rep rv rr⟩
theorem RepFs.length {Z : Addr → Prop} {H : Hp} : ∀ {fs : List (Str × D)} {fvs : List (Str × V)}, RepFs C Z H fs fvs → fvs.length = fs.length
  | [], _, e => by rw [show _ = [] from e]; rfl
  | (g, d') :: fs, _, ⟨v, vr, e, r, rr⟩ => by rw [e, List.length_cons, List.length_cons, RepFs.length rr]
def sFldD (f : Str) (o v : DE) : DS := fun D ρ h => v ρ h fun y h1 => o ρ h1 fun x h2 => match x with
  | .ref a => (match h2 a with
    | some (.oi c fs) => fs.length < 900 ∧ D.nx ρ (hup h2 a (.oi c (putD f y fs)))
    | _ => False)
  | _ => False
theorem d_sfld {f : Str} {o v : Expr} {wo wv : DE} {pos' : Pos} (hx : XD C X) (ok : KOk C) (hf : f ∈ C.flds) (ho : PEd C A X o wo) (hv : PEd C A X v wv) (hs : swapsWith v (some (.Attribute o f pos')) pos.line X.env = pure false := by rfl) :
    PSd C A X (.Assign [.Attribute o f pos'] v pos) (sFldD f wo wv) :=
  PS.imp (ps_fld ho hv hs) fun D σ H ⟨Z, ρ, h, Dd, R, q, k, _⟩ => ⟨Z, ρ, h, _, R, q, fun y h1 vy Z1 H1 q1 f1 R1 r1 => ⟨Z1, ρ, h1, _, R.next f1 R1, q1, fun x h2 vx Z2 H2 q2 f2 R2 r2 => by
    cases x with
    | ref p =>
      cases e : h2 p with
      | none => simp [e] at q2
      | some o =>
        cases o with
        | oi c fs =>
          simp only [e] at q2
          obtain ⟨dx, fvs, s, m, r⟩ := own_rep R2 e
          have hl : fvs.length < 1000 := by rw [r.length]; omega
          refine ⟨p, _, dx, fvs, r2, s, hx.K ▸ ok.cl c m, hx.K ▸ ok.noat c m f hf, hl, ?_⟩
          have nl : ∀ kvs, O.oi c fs ≠ .odl kvs := fun _ z => (nomatch z)
          have fr := R2.wrFr (u := .ins (He.ga C.K c) dx (putF f vy fvs)) e nl
          have R3 := R2.wr (o' := .oi c (putD f y fs)) (u := .ins (He.ga C.K c) dx (putF f vy fvs)) e nl ⟨dx, _, upd_same, m, RepFs.fr fr (putD_rep (r1.fr f2) r)⟩
          exact k ρ _ Z2 _ σ q2.2 ((f1.trans f2).trans fr) (((R.next f1 R1).next f2 R2).next fr R3)
        | _ => simp [e] at q2
    | _ => exact q2.elim⟩⟩
end
end DL
end
section
set_option Elab.async false
set_option linter.all false
set_option maxRecDepth 100000
set_option maxHeartbeats 4000000
open PySem PySem.Spec L2
namespace DL
section
variable {C : Ctx} {A : Anc} {X : Cx} {o a b e c : Expr} {es : List Expr} {pos : Pos} {wo wa wb wc : DE} {wr : DA}
/-- an expression's run, told by transformers -/
theorem run_d {pins : List (Addr × Obj)} {σ : St} {H : Hp} {s : Shared} {Z : Addr → Prop} {ρ : Env} {h : Hd} {Qd : DK} (ho : PEd C A X o wo) (I : Inv X pins σ H s) (R : Rel C A Z H σ ρ h) (q : wo ρ h Qd) :
    wpAny (model X.prog X.w) X.A (eval o X.env) (EP X pins σ fun v H1 => ∃ Z1 h1 x, Fr Z H Z1 H1 ∧ RelH C Z1 H1 h1 ∧ Rep C Z1 H1 x v ∧ Qd x h1) X.xe s :=
  ho.run pins s σ H _ I ⟨Z, ρ, h, Qd, R, q, fun x h1 v Z1 H1 q1 f1 R1 r1 => ⟨Z1, h1, x, f1, R1, r1, q1⟩⟩
theorem run_a {pins : List (Addr × Obj)} {σ : St} {H : Hp} {s : Shared} {Z : Addr → Prop} {ρ : Env} {h : Hd} {Qd : List D → Hd → Prop} (ho : PAd C A X es wr) (I : Inv X pins σ H s) (R : Rel C A Z H σ ρ h) (q : wr ρ h Qd) (cpos : Pos) :
    wpAny (model X.prog X.w) X.A (spliced (backTo cpos (starEach es X.env))) (AP X pins σ fun v H1 => ∃ Z1 h1 x, Fr Z H Z1 H1 ∧ RelH C Z1 H1 h1 ∧ Reps C Z1 H1 x v ∧ Qd x h1) X.xe s :=
  ho.run cpos pins s σ H _ I ⟨Z, ρ, h, Qd, R, q, fun x h1 v Z1 H1 q1 f1 R1 r1 => ⟨Z1, h1, x, f1, R1, r1, q1⟩⟩
/-- a receiver's built-in type -/
def kindD (h : Hd) : D → String
  | .str _ => "str"
  | .int _ => "int"
  | .tup _ => "tuple"
  | .fl _ => "list"
  | .fd _ => "dict"
  | .ref a => match h a with
    | some (.ol _) => "list"
    | some (.od _) => "dict"
    | some (.odl _) => "dict"
    | _ => ""
  | _ => ""
theorem kind_is {pins : List (Addr × Obj)} {σ : St} {H : Hp} {s : Shared} {Z : Addr → Prop} {h : Hd} {d : D} {v : V} {u : Value} {T : String} (hx : XD C X) (I : Inv X pins σ H s) (R : RelH C Z H h) (r : Rep C Z H d v) (ru : RelV v u) (k : kindD h d = T) (hT : T ≠ "") :
    s.TypeIs u T ∧ ∀ a, u = .ref a → ∃ ob, s.heap.get? a = some ob ∧ ob.dict = none := by
  have lst : ∀ (p : Addr) (vs : List V), SqL X.K H p vs → s.TypeIs (.ref p) "list" ∧ ∀ a, Value.ref p = .ref a → ∃ ob, s.heap.get? a = some ob ∧ ob.dict = none := fun p vs q => by
    obtain ⟨its, _, ⟨o, n, e1, e2, e3, e4⟩, _⟩ := I.list q
    exact ⟨⟨o, e1, e2⟩, fun a e => by cases e; exact ⟨o, e1, e3⟩⟩
  have dct : ∀ (p : Addr) (vs : List (Key × V)), Rd H p (.dK vs) → s.TypeIs (.ref p) "dict" ∧ ∀ a, Value.ref p = .ref a → ∃ ob, s.heap.get? a = some ob ∧ ob.dict = none := fun p vs q =>
    let t := isD_at I (.inl ⟨vs, q⟩)
    ⟨t.1, t.2.1⟩
  cases d with
  | str z =>
    cases k
    rw [show v = _ from r] at ru
    obtain ⟨t, rfl⟩ := ru
    exact ⟨typeIs_str s z t, fun _ e => (nomatch e)⟩
  | int z =>
    cases k
    rw [show v = _ from r] at ru
    obtain ⟨t, rfl⟩ := ru
    exact ⟨typeIs_int s z t, fun _ e => (nomatch e)⟩
  | tup ds =>
    cases k
    obtain ⟨p, vs, rfl, q, _⟩ := r
    cases ru
    rcases q with ⟨ob, q, d⟩ | ⟨ob, its, n, q, c, d, _⟩
    · obtain ⟨e1, _, _, _, p2⟩ := I.hok p _ q
      exact ⟨p2.typeIs, fun a e => by cases e; exact ⟨ob, e1, d⟩⟩
    · exact ⟨⟨ob, I.kIn p ob (hx.K ▸ q), c⟩, fun a e => by cases e; exact ⟨ob, I.kIn p ob (hx.K ▸ q), d⟩⟩
  | fl ds =>
    cases k
    obtain ⟨p, vs, rfl, q, _⟩ := r
    cases ru
    exact lst p vs (hx.K ▸ q.l)
  | fd ds =>
    cases k
    obtain ⟨p, vs, rfl, _, q, _⟩ := r
    cases ru
    exact dct p vs q
  | ref p =>
    rw [show v = _ from r] at ru
    cases ru
    unfold kindD at k
    cases q : h p with
    | none => simp only [q] at k; exact absurd k.symm hT
    | some ob =>
      have ro := own_rep R q
      cases ob with
      | ol ds => simp only [q] at k; cases k; obtain ⟨vs, s1, _⟩ := ro; exact lst p vs (.inl (.inl s1))
      | od ds => simp only [q] at k; cases k; obtain ⟨vs, s1, _⟩ := ro; exact dct p vs (.inl s1)
      | odl ds => simp only [q] at k; cases k; obtain ⟨vs, s1, _⟩ := ro; exact dct p vs s1
      | oi c ds => simp only [q] at k; exact absurd k.symm hT
  | _ => exact absurd k.symm hT
/-- a method's rule by values -/
abbrev WM := D → List D → Hd → DK → Prop
def MtD (C : Ctx) (r : V → List V → Hp → VK → Prop) (w : WM) : Prop := ∀ (Z : Addr → Prop) (H : Hp) (h : Hd) (d : D) (ds : List D) (x : V) (xs : List V) (Qd : DK) (Q : VK), RelH C Z H h → Rep C Z H d x → Reps C Z H ds xs → w d ds h Qd →
  (∀ d h' v Z' H', Qd d h' → Fr Z H Z' H' → RelH C Z' H' h' → Rep C Z' H' d v → Q v H') → r x xs H Q
structure Mth (X : Cx) (T : String) (name : Str) (id : String) (r : V → List V → Hp → VK → Prop) : Prop where
  pa : PlainAttrs T
  slot : Slot T name id
  ty : typeOf (.builtin id) = pure (.type "method_descriptor")
  mt : MtR X id r
/-- o.m(..) -/
def dM (T : String) (w : WM) (o : DE) (r : DA) : DE := fun ρ h Q => o ρ h fun x h1 => kindD h1 x = T ∧ r ρ h1 fun xs h2 => w x xs h2 Q
theorem d_meth0 {T id : String} {name : Str} {r : V → List V → Hp → VK → Prop} {w : WM} {apos cpos : Pos} (hx : XD C X) (m : Mth X T name id r) (om : MtD C r w) (ho : PEd C A X o wo)
    (hbase : attributeBase o name X.env (eval o X.env) = eval o X.env := by rfl) (hline : (apos.endLine == cpos.line) = true := by rfl) (hT : T ≠ "" := by decide) : PEd C A X (.Call (.Attribute o name apos) [] [] cpos) (dM T w wo dNil) := by
  refine ⟨fun pins s σ H Q I ⟨Z, ρ, h, Qd, R, q, k⟩ => ?_⟩
  refine wpAny_Call_method0_late hbase hline (thn (run_d ho I R q) fun u s1 ⟨v, H1, I1, ru, Z1, h1, x, f1, R1, r1, kd, q1⟩ => ?_)
  obtain ⟨t1, t2⟩ := kind_is hx I1 R1 r1 ru kd hT
  refine ⟨T, id, m.pa, m.slot, m.ty, t1, t2, Calls.callWith_builtin rfl (PySem.evalArgs_none (m.mt pins s1 σ H1 v [] u [] Q I1 ru .nil ?_))⟩
  exact om Z1 H1 h1 x [] v [] Qd Q R1 r1 rfl q1 fun d h' v Z' H' qd f R' rr => k d h' v Z' H' qd (f1.trans f) R' rr
theorem d_meth {T id : String} {name : Str} {r : V → List V → Hp → VK → Prop} {w : WM} {apos cpos : Pos} (hx : XD C X) (m : Mth X T name id r) (om : MtD C r w) (ho : PEd C A X o wo) (ha : PAd C A X (e :: es) wr)
    (hbase : attributeBase o name X.env (eval o X.env) = eval o X.env := by rfl)
    (hfew : ((backTo cpos (starEach (e :: es) X.env)).all (fun x => !x.1) && (backToKw cpos (keywordEach [] X.env)).all (fun x => x.1.isSome)
      && decide ((e :: es).length + ([] : List Keyword).length + (if ([] : List Keyword).isEmpty then 0 else 1) < 30)) = true := by rfl)
    (hline : (apos.endLine == cpos.line) = true := by rfl) (hs : starEach (e :: es) X.env = (false, eval e X.env) :: starEach es X.env := by rfl) (hplain : (backTo cpos (starEach es X.env)).any (·.1) = false := by rfl) (hT : T ≠ "" := by decide) :
    PEd C A X (.Call (.Attribute o name apos) (e :: es) [] cpos) (dM T w wo wr) := by
  refine ⟨fun pins s σ H Q I ⟨Z, ρ, h, Qd, R, q, k⟩ => ?_⟩
  refine wpAny_Call_method_late hbase hfew hline rfl (thn (run_d ho I R q) fun u s1 ⟨v, H1, I1, ru, Z1, h1, x, f1, R1, r1, kd, q1⟩ => ?_)
  obtain ⟨t1, t2⟩ := kind_is hx I1 R1 r1 ru kd hT
  refine ⟨T, id, m.pa, m.slot, m.ty, t1, t2, ?_⟩
  have hA := run_a ha I1 (R.next f1 R1) q1 cpos
  rw [hs] at hA ⊢
  refine Calls.callWith_builtin (by show (false || (backTo cpos (starEach es X.env)).any (·.1)) = false; rw [hplain] <;> rfl) (Calls.evalArgs_plain ?_)
  refine thn hA fun us s2 ⟨vs, H2, I2, rv, Z2, h2, ds, f2, R2, r2, q2⟩ => m.mt pins s2 σ H2 v vs u us Q I2 ru rv ?_
  exact om Z2 H2 h2 x ds v vs Qd Q R2 (r1.fr f2) r2 q2 fun d h' v Z' H' qd f R' rr => k d h' v Z' H' qd ((f1.trans f2).trans f) R' rr
/-! ### lists -/
/-- the owned list at a -/
def onOl (h : Hd) (x : D) (f : Addr → List D → Prop) : Prop := match x with
  | .ref a => (match h a with
    | some (.ol ds) => f a ds
    | _ => False)
  | _ => False
theorem rep_onOl {Z : Addr → Prop} {H : Hp} {h : Hd} (R : RelH C Z H h) {d : D} {v : V} {f : Addr → List D → Prop} (r : Rep C Z H d v) (q : onOl h d f) :
    ∃ a ds vs, d = .ref a ∧ v = .ref a ∧ h a = some (.ol ds) ∧ H a = some (.lst vs) ∧ Reps C Z H ds vs ∧ f a ds ∧
      ∀ es us, Reps C Z H es us → Fr Z H Z (upd H a (.lst us)) ∧ RelH C Z (upd H a (.lst us)) (hup h a (.ol es)) := by
  cases d with
  | ref a =>
    unfold onOl at q
    dsimp only at q
    cases e : h a with
    | none => simp [e] at q
    | some ob =>
      cases ob with
      | ol ds =>
        simp only [e] at q
        obtain ⟨vs, s, r1⟩ := own_rep R e
        have nl : ∀ kvs, O.ol ds ≠ .odl kvs := fun _ z => (nomatch z)
        exact ⟨a, ds, vs, rfl, r, e, s, r1, q, fun es us re => ⟨R.wrFr e nl, R.wr e nl ⟨us, upd_same, re.fr (R.wrFr e nl)⟩⟩⟩
      | _ => simp [e] at q
  | _ => exact q.elim
theorem Mth.append : Mth X "list" "append" "list.append" rAppend := ⟨PySem.F.plainAttrs_list, PySem.F.slot_list_append, PySem.F.type_list_append, mt_append⟩
def wAppend : WM := fun x ds h Q => on1 ds fun d => onOl h x fun a xs => SZ (xs.length + 1) ∧ Q .non (hup h a (.ol (xs ++ [d])))
theorem o_append : MtD C rAppend wAppend := fun Z H h d ds x xs Qd Q R rx rs q k => by
  obtain ⟨e, v, rfl, rfl, re, q⟩ := rep_on1 rs q
  obtain ⟨a, es, vs, rfl, rfl, e1, s, r, ⟨z, f⟩, g⟩ := rep_onOl R rx q
  obtain ⟨fr, R'⟩ := g (es ++ [e]) (vs ++ [v]) (Reps.append r ⟨v, [], rfl, re, rfl⟩)
  have := z.line
  exact ⟨a, vs, v, rfl, rfl, s, by rw [r.length]; omega, k _ _ _ Z _ f fr R' rfl⟩
theorem Mth.pop0 : Mth X "list" "pop" "list.pop" rPop := ⟨PySem.F.plainAttrs_list, PySem.F.slot_list_pop, PySem.F.type_list_pop, mt_pop⟩
def wPop0 : WM := fun x ds h Q => ds = [] ∧ onOl h x fun a xs => ∃ y, xs[xs.length - 1]? = some y ∧ Q y (hup h a (.ol xs.dropLast))
theorem o_pop0 : MtD C rPop wPop0 := fun Z H h d ds x xs Qd Q R rx rs ⟨e0, q⟩ k => by
  subst e0
  obtain ⟨a, es, vs, rfl, rfl, e1, s, r, ⟨y, e2, f⟩, g⟩ := rep_onOl R rx q
  obtain ⟨v, e3, r3⟩ := r.get e2
  obtain ⟨fr, R'⟩ := g _ _ r.dropLast
  exact ⟨a, vs, v, rfl, rs, s, by rw [r.length]; exact e3, k _ _ _ Z _ f fr R' (r3.fr fr)⟩
theorem Mth.popAt : Mth X "list" "pop" "list.pop" rPopAt := ⟨PySem.F.plainAttrs_list, PySem.F.slot_list_pop, PySem.F.type_list_pop, mt_popAt⟩
def wPopAt : WM := fun x ds h Q => on1 ds fun d => onI d fun i => onOl h x fun a xs => SZ xs.length ∧ ∃ k y, ixN xs.length i = some k ∧ xs[k]? = some y ∧ Q y (hup h a (.ol (xs.eraseIdx k)))
theorem o_popAt : MtD C rPopAt wPopAt := fun Z H h d ds x xs Qd Q R rx rs q k => by
  obtain ⟨e, v, rfl, rfl, re, q⟩ := rep_on1 rs q
  obtain ⟨i, _, rfl, q⟩ := rep_onI re q
  obtain ⟨a, es, vs, rfl, rfl, e1, s, r, ⟨z, j, y, e2, e3, f⟩, g⟩ := rep_onOl R rx q
  obtain ⟨v, e4, r4⟩ := r.get e3
  obtain ⟨fr, R'⟩ := g _ _ (r.eraseIdx j)
  obtain ⟨h1, h2, h3, h4⟩ := ixN_seq e2
  have z' : es.length ≤ 1000000 := z
  exact ⟨a, vs, i, j, v, rfl, rfl, s, by omega, by omega, by rw [r.length]; exact h1, e4, k _ _ _ Z _ f fr R' (r4.fr fr)⟩
theorem Mth.extend : Mth X "list" "extend" "list.extend" rExtend := ⟨PySem.F.plainAttrs_list, PySem.F.slot_list_extend, PySem.F.type_list_extend, mt_extend⟩
def wExtend : WM := fun x ds h Q => on1 ds fun d => onOl h x fun a xs => onOl h d fun _ ys => SZ (xs.length + ys.length) ∧ Q .non (hup h a (.ol (xs ++ ys)))
theorem o_extend : MtD C rExtend wExtend := fun Z H h d ds x xs Qd Q R rx rs q k => by
  obtain ⟨e, v, rfl, rfl, re, q⟩ := rep_on1 rs q
  obtain ⟨a, es, vs, rfl, rfl, e1, s, r, q, g⟩ := rep_onOl R rx q
  obtain ⟨b, ys, us, rfl, rfl, e2, s2, r2, ⟨z, f⟩, _⟩ := rep_onOl R re q
  obtain ⟨fr, R'⟩ := g _ _ (Reps.append r r2)
  exact ⟨a, b, vs, us, rfl, rfl, s, s2, by rw [r.length, r2.length]; exact z.line, k _ _ _ Z _ f fr R' rfl⟩
abbrev rInsert : V → List V → Hp → VK → Prop := fun x vs H Q => ∃ (l : Addr) (xs : List V) (i : Int) (y : V), x = .ref l ∧ vs = [.int i, y] ∧ H l = some (.lst xs) ∧ xs.length < sizeLine ∧ 0 ≤ i ∧ i < 2 ^ 63 ∧ Q .non (upd H l (.lst (xs.take i.toNat ++ [y] ++ xs.drop i.toNat)))
theorem Mth.insert : Mth X "list" "insert" "list.insert" rInsert := ⟨PySem.F.plainAttrs_list, PySem.F.slot_list_insert, PySem.F.type_list_insert, mt_insert⟩
def wInsert : WM := fun x ds h Q => on2 ds fun d y => onI d fun i => onOl h x fun a xs => SZ (xs.length + 1) ∧ 0 ≤ i ∧ i ≤ xs.length ∧ Q .non (hup h a (.ol (xs.take i.toNat ++ [y] ++ xs.drop i.toNat)))
theorem o_insert : MtD C rInsert wInsert := fun Z H h d ds x xs Qd Q R rx rs q k => by
  obtain ⟨e, y, v, u, rfl, rfl, re, ry, q⟩ := rep_on2 rs q
  obtain ⟨i, _, rfl, q⟩ := rep_onI re q
  obtain ⟨a, es, vs, rfl, rfl, e1, s, r, ⟨z, h0, hl, f⟩, g⟩ := rep_onOl R rx q
  have h1 : Reps C Z H [y] [u] := ⟨u, [], rfl, ry, rfl⟩
  obtain ⟨fr, R'⟩ := g _ _ (Reps.append (Reps.append (r.take i.toNat) h1) (r.drop i.toNat))
  have := z.line
  have z' : es.length + 1 ≤ 1000000 := z
  exact ⟨a, vs, i, u, rfl, rfl, s, by rw [r.length]; omega, h0, by omega, k _ _ _ Z _ f fr R' rfl⟩
/-! ### the index of a text in a tuple, of a flat thing in a list -/
def rTIndex (K : PySem.W.Frag) : V → List V → Hp → VK → Prop := fun x xs H Q => ∃ p, ∃ ys : List Str, ∃ z j, x = .ref p ∧ xs = [.str z] ∧ SqT K H p (ys.map V.str) ∧ ys[j]? = some z ∧ (∀ m, m < j → ys[m]? ≠ some z) ∧ Q (.int (j : Nat)) H
theorem Mth.tindex : Mth X "tuple" "index" "tuple.index" (rTIndex X.K) := ⟨PySem.F.plainAttrs_tuple, PySem.F.slot_tuple_index, PySem.F.type_tuple_index, mt_tup_index⟩
/-- the first place -/
def idxS (ys : List Str) (z : Str) : Option Nat := match ys with
  | [] => none
  | y :: r => if y = z then some 0 else (idxS r z).map (· + 1)
theorem idxS_ok : ∀ {ys : List Str} {z : Str} {j : Nat}, idxS ys z = some j → ys[j]? = some z ∧ ∀ m, m < j → ys[m]? ≠ some z
  | y :: r, z, j, e => by
    unfold idxS at e
    by_cases h : y = z
    · rw [if_pos h] at e; cases e; subst h; exact ⟨rfl, fun m hm => absurd hm (Nat.not_lt_zero m)⟩
    · rw [if_neg h] at e
      cases q : idxS r z with
      | none => rw [q] at e; cases e
      | some i =>
        rw [q] at e; cases e
        obtain ⟨h1, h2⟩ := idxS_ok q
        refine ⟨by simpa using h1, fun m hm => ?_⟩
        cases m with
        | zero => simpa using h
        | succ m => simpa using h2 m (Nat.lt_of_succ_lt_succ hm)
def wTIndex : WM := fun x ds h Q => on1 ds fun d => onS d fun z => match x with
  | .tup ys => onO (strsD ys) fun ss => onO (idxS ss z) fun j => Q (.int (j : Nat)) h
  | _ => False
theorem o_tindex : MtD C (rTIndex C.K) wTIndex := fun Z H h d ds x xs Qd Q R rx rs q k => by
  obtain ⟨e, v, rfl, rfl, re, q⟩ := rep_on1 rs q
  obtain ⟨z, _, rfl, q⟩ := rep_onS re q
  cases d with
  | tup ys =>
    obtain ⟨ss, e1, q⟩ := onO_some q
    obtain ⟨j, e2, f⟩ := onO_some q
    obtain ⟨p, vs, rfl, s, r⟩ := rx
    rw [strsD_eq e1] at r
    rw [reps_strs r] at s
    obtain ⟨h1, h2⟩ := idxS_ok e2
    exact ⟨p, ss, z, j, rfl, rfl, s.t, h1, h2, k _ h _ Z H f Fr.refl R rfl⟩
  | _ => exact q.elim
theorem d_tindex {apos cpos : Pos} (hx : XD C X) (ho : PEd C A X o wo) (ha : PAd C A X (e :: es) wr)
    (hbase : attributeBase o "index" X.env (eval o X.env) = eval o X.env := by rfl)
    (hfew : ((backTo cpos (starEach (e :: es) X.env)).all (fun x => !x.1) && (backToKw cpos (keywordEach [] X.env)).all (fun x => x.1.isSome)
      && decide ((e :: es).length + ([] : List Keyword).length + (if ([] : List Keyword).isEmpty then 0 else 1) < 30)) = true := by rfl)
    (hline : (apos.endLine == cpos.line) = true := by rfl) (hs : starEach (e :: es) X.env = (false, eval e X.env) :: starEach es X.env := by rfl) (hplain : (backTo cpos (starEach es X.env)).any (·.1) = false := by rfl) :
    PEd C A X (.Call (.Attribute o "index" apos) (e :: es) [] cpos) (dM "tuple" wTIndex wo wr) := d_meth hx (hx.K ▸ Mth.tindex) o_tindex ho ha hbase hfew hline hs hplain
/-! ### dicts -/
def rGet : V → List V → Hp → VK → Prop := fun x xs H Q => ∃ a y z o, x = .ref a ∧ (xs = [y] ∧ z = .non ∨ xs = [y, z]) ∧ DGet H a y o ∧ Q (o.getD z) H
theorem mt_get (hu : X.A.units + 1 < cLine) : MtR X "dict.get" rGet := by
  intro pins s σ H x xs v us Q I rx rxs h
  obtain ⟨a, y, z, o, rfl, hc, g, q⟩ := h
  cases rx
  rcases hc with ⟨rfl, rfl⟩ | rfl
  · obtain ⟨u, rfl, ru⟩ := vals1 rxs
    exact d_get1 hu I g ru fun w' s' I' rw' => ⟨_, H, I', rw', q⟩
  · obtain ⟨u, w, rfl, ru, rw0⟩ := vals2 rxs
    exact d_get2 hu I g ru rw0 fun w' s' I' rw' => ⟨_, H, I', rw', q⟩
theorem Mth.get (hx : XD C X) : Mth X "dict" "get" "dict.get" rGet := ⟨PySem.F.plainAttrs_dict, PySem.F.slot_dict_get, PySem.F.type_dict_get, mt_get hx.u1⟩
def wGet : WM := fun x ds h Q => onO (dicOf h x) fun kvs => match ds with
  | [y] => onO (keyD y) fun k => Q ((dget kvs k).getD .non) h
  | [y, z] => onO (keyD y) fun k => Q ((dget kvs k).getD z) h
  | _ => False
theorem o_get : MtD C rGet wGet := fun Z H h d ds x xs Qd Q R rx rs q k => by
  obtain ⟨kvs, e1, q⟩ := onO_some q
  obtain ⟨p, vs, rfl, s, r⟩ := dic_rep R e1 rx
  have key : ∀ (y z : D) (v u : V), Rep C Z H y v → Rep C Z H z u → onO (keyD y) (fun k => Qd ((dget kvs k).getD z) h) → ∃ o, DGet H p v o ∧ Q (o.getD u) H := fun y z v u ry rz q => by
    obtain ⟨key, e2, f⟩ := onO_some q
    refine ⟨valV vs key, .inl ⟨vs, key, s, keyD_rep e2 ry, rfl⟩, ?_⟩
    have g := dget_rep (k := key) r
    cases e3 : dget kvs key with
    | none => rw [g.2 e3]; rw [e3] at f; exact k _ h _ Z H f Fr.refl R rz
    | some dv =>
      obtain ⟨w, e4, r4⟩ := g.1 dv e3
      rw [e4]; rw [e3] at f; exact k _ h _ Z H f Fr.refl R r4
  match ds, q with
  | [y], q =>
    obtain ⟨v, rfl, r1⟩ := rs.one
    obtain ⟨o, g, f⟩ := key y .non v .non r1 rfl q
    exact ⟨p, v, .non, o, rfl, .inl ⟨rfl, rfl⟩, g, f⟩
  | [y, z], q =>
    obtain ⟨v, u, rfl, r1, r2⟩ := rs.two
    obtain ⟨o, g, f⟩ := key y z v u r1 r2 q
    exact ⟨p, v, u, o, rfl, .inr rfl, g, f⟩
end
end DL
end
section
set_option Elab.async false
set_option linter.all false
set_option maxRecDepth 100000
set_option maxHeartbeats 4000000
open PySem PySem.Spec L2
namespace DL
section
variable {C : Ctx} {A : Anc} {X : Cx} {o a b e c : Expr} {es : List Expr} {pos : Pos} {wo wa wb wc : DE} {wr : DA} {st : Stmt} {sts sts' : List Stmt} {W W' : DS}
/-! ### blocks -/
def dNext : DS := fun D ρ h => D.nx ρ h
def dSeq (t u : DS) : DS := fun D ρ h => t { D with nx := u D } ρ h
theorem ds_nil : PSsd C A X [] dNext := PSs.imp pss_nil fun D σ H ⟨Z, ρ, h, Dd, R, q, k, _⟩ => k ρ h Z H σ q Fr.refl R
/-- the ends of HandS as seen from a later state -/
theorem up_trans {D : L2.Ends} {σ : St} {H H' : Hp} {Z Z' : Addr → Prop} {Dd : DEnds} (f : Fr Z H Z' H')
    (k : (∀ ρ' h' Z' H' σ', Dd.nx ρ' h' → Fr Z H Z' H' → Rel C A Z' H' σ' ρ' h' → D.nx σ' H') ∧ (∀ ρ' h' Z' H' σ', Dd.bk ρ' h' → Fr Z H Z' H' → Rel C A Z' H' σ' ρ' h' → D.bk σ' H') ∧
      (∀ ρ' h' Z' H' σ', Dd.ct ρ' h' → Fr Z H Z' H' → Rel C A Z' H' σ' ρ' h' → D.ct σ' H') ∧ ∀ d h' v Z' H', Dd.rt d h' → Fr Z H Z' H' → RelH C Z' H' h' → Rep C Z' H' d v → D.rt v H') :
    (∀ ρ' h' Z2 H' σ', Dd.nx ρ' h' → Fr Z' H' Z2 H' → Rel C A Z2 H' σ' ρ' h' → True) := fun _ _ _ _ _ _ _ _ => trivial
theorem ds_cons (h1 : PSd C A X st W) (h2 : PSsd C A X sts W') : PSsd C A X (st :: sts) (dSeq W W') :=
  PSs.imp (pss_cons h1 h2) fun D σ H ⟨Z, ρ, h, Dd, R, q, k1, k2, k3, k4⟩ => ⟨Z, ρ, h, _, R, q, fun ρ' h' Z' H' σ' q1 f R' => ⟨Z', ρ', h', Dd, R', q1,
    fun ρ2 h2 Z2 H2 σ2 q2 f2 R2 => k1 ρ2 h2 Z2 H2 σ2 q2 (f.trans f2) R2, fun ρ2 h2 Z2 H2 σ2 q2 f2 R2 => k2 ρ2 h2 Z2 H2 σ2 q2 (f.trans f2) R2, fun ρ2 h2 Z2 H2 σ2 q2 f2 R2 => k3 ρ2 h2 Z2 H2 σ2 q2 (f.trans f2) R2,
    fun d h2 v Z2 H2 q2 f2 R2 r => k4 d h2 v Z2 H2 q2 (f.trans f2) R2 r⟩, k2, k3, k4⟩
theorem ds_one (h1 : PSd C A X st W) : PSsd C A X [st] W := pss_one h1
theorem ds_pass : PSd C A X (.Pass pos) dNext := PS.imp ps_pass fun D σ H ⟨Z, ρ, h, Dd, R, q, k, _⟩ => k ρ h Z H σ q Fr.refl R
def dBrk : DS := fun D ρ h => D.bk ρ h
def dCnt : DS := fun D ρ h => D.ct ρ h
theorem ds_break : PSd C A X (.Break pos) dBrk := PS.imp ps_break fun D σ H ⟨Z, ρ, h, Dd, R, q, _, k, _⟩ => k ρ h Z H σ q Fr.refl R
theorem ds_continue : PSd C A X (.Continue pos) dCnt := PS.imp ps_continue fun D σ H ⟨Z, ρ, h, Dd, R, q, _, _, k, _⟩ => k ρ h Z H σ q Fr.refl R
def dExpr (a : DE) : DS := fun D ρ h => a ρ h fun _ h1 => D.nx ρ h1
theorem ds_expr (ha : PEd C A X e wa) (hs : swapsWith e none pos.line X.env = pure false := by rfl) : PSd C A X (.Expr e pos) (dExpr wa) :=
  PS.imp (ps_expr ha hs) fun D σ H ⟨Z, ρ, h, Dd, R, q, k, _⟩ => ⟨Z, ρ, h, _, R, q, fun d h1 v Z1 H1 q1 f1 R1 r1 => k ρ h1 Z1 H1 σ q1 f1 (R.next f1 R1)⟩
def dRet (a : DE) : DS := fun D ρ h => a ρ h D.rt
theorem ds_ret (ha : PEd C A X e wa) : PSd C A X (.Return (some e) pos) (dRet wa) :=
  PS.imp (ps_ret ha) fun D σ H ⟨Z, ρ, h, Dd, R, q, _, _, _, k⟩ => ⟨Z, ρ, h, _, R, q, k⟩
def dRetN : DS := fun D _ h => D.rt .non h
theorem ds_retN : PSd C A X (.Return none pos) dRetN := PS.imp ps_retN fun D σ H ⟨Z, ρ, h, Dd, R, q, _, _, _, k⟩ => k _ h _ Z H q Fr.refl R.toRelH rfl
def dIf (c : DT) (t u : DS) : DS := fun D ρ h => c ρ h fun b h1 => if b = true then t D ρ h1 else u D ρ h1
theorem ds_if {tc : DT} (hc : PTd C A X c tc) (ha : PSsd C A X sts W) (hb : PSsd C A X sts' W') : PSd C A X (.If c sts sts' pos) (dIf tc W W') :=
  PS.imp (ps_if hc ha hb) fun D σ H ⟨Z, ρ, h, Dd, R, q, k1, k2, k3, k4⟩ => ⟨Z, ρ, h, _, R, q, fun b h1 Z1 H1 q1 f1 R1 => by
    cases b with
    | true => exact ⟨Z1, ρ, h1, Dd, R.next f1 R1, q1, fun ρ2 h2 Z2 H2 σ2 q2 f2 R2 => k1 ρ2 h2 Z2 H2 σ2 q2 (f1.trans f2) R2, fun ρ2 h2 Z2 H2 σ2 q2 f2 R2 => k2 ρ2 h2 Z2 H2 σ2 q2 (f1.trans f2) R2, fun ρ2 h2 Z2 H2 σ2 q2 f2 R2 => k3 ρ2 h2 Z2 H2 σ2 q2 (f1.trans f2) R2,
        fun d h2 v Z2 H2 q2 f2 R2 r => k4 d h2 v Z2 H2 q2 (f1.trans f2) R2 r⟩
    | false => exact ⟨Z1, ρ, h1, Dd, R.next f1 R1, q1, fun ρ2 h2 Z2 H2 σ2 q2 f2 R2 => k1 ρ2 h2 Z2 H2 σ2 q2 (f1.trans f2) R2, fun ρ2 h2 Z2 H2 σ2 q2 f2 R2 => k2 ρ2 h2 Z2 H2 σ2 q2 (f1.trans f2) R2, fun ρ2 h2 Z2 H2 σ2 q2 f2 R2 => k3 ρ2 h2 Z2 H2 σ2 q2 (f1.trans f2) R2,
        fun d h2 v Z2 H2 q2 f2 R2 r => k4 d h2 v Z2 H2 q2 (f1.trans f2) R2 r⟩⟩
/-- never reached -/
def dNever : DS := fun _ _ _ => False
theorem ds_never : PSd C A X st dNever := PS.imp ps_never fun D σ H ⟨_, _, _, _, _, q, _⟩ => q
/-! ### targets -/
abbrev DG := D → Env → Hd → (Env → Hd → Prop) → Prop
abbrev DGs := List D → Env → Hd → (Env → Hd → Prop) → Prop
/-- how an item stands: as a value, or as a pair just made -/
abbrev RI := Ctx → (Addr → Prop) → Hp → D → V → Prop
def RepP : RI := fun C Z H d v => ∃ a vs ds, d = .tup ds ∧ v = .ref a ∧ SqT C.K H a vs ∧ Reps C Z H ds vs
def UpG (I : RI) (C : Ctx) (A : Anc) (W : DG) : TG := fun v σ H Q => ∃ Z ρ h d Qd, Rel C A Z H σ ρ h ∧ I C Z H d v ∧ W d ρ h Qd ∧ ∀ ρ' h' σ' Z' H', Qd ρ' h' → Fr Z H Z' H' → Rel C A Z' H' σ' ρ' h' → Q σ' H'
def UpGs (C : Ctx) (A : Anc) (W : DGs) : TGs := fun vs σ H Q => ∃ Z ρ h ds Qd, Rel C A Z H σ ρ h ∧ Reps C Z H ds vs ∧ W ds ρ h Qd ∧ ∀ ρ' h' σ' Z' H', Qd ρ' h' → Fr Z H Z' H' → Rel C A Z' H' σ' ρ' h' → Q σ' H'
theorem PG.imp {X : Cx} {e : Expr} {t t' : TG} (p : PG X e t) (f : ∀ v σ H Q, t' v σ H Q → t v σ H Q) : PG X e t' := ⟨fun pins s σ H v u Q I r h => p.run pins s σ H v u Q I r (f v σ H Q h)⟩
theorem PGs.imp {X : Cx} {e : List Expr} {t t' : TGs} (p : PGs X e t) (f : ∀ v σ H Q, t' v σ H Q → t v σ H Q) : PGs X e t' := ⟨fun pins s σ H v u Q I r h => p.run pins s σ H v u Q I r (f v σ H Q h)⟩
abbrev PGd (I : RI) (C : Ctx) (A : Anc) (X : Cx) (e : Expr) (W : DG) : Prop := PG X e (UpG I C A W)
abbrev PGsd (C : Ctx) (A : Anc) (X : Cx) (e : List Expr) (W : DGs) : Prop := PGs X e (UpGs C A W)
def gNm (i : Nat) : DG := fun d ρ h Q => Q (ρ.set i (some d)) h
theorem dg_name {i : Nat} (p : PG X e (gName i)) : PGd Rep C A X e (gNm i) := PG.imp p fun v σ H Q ⟨Z, ρ, h, d, Qd, R, r, q, k⟩ => k _ h _ Z H q Fr.refl (R.set i r)
def gN : DGs := fun ds ρ h Q => ds = [] ∧ Q ρ h
def gC (g : DG) (gs : DGs) : DGs := fun ds ρ h Q => match ds with
  | [] => False
  | d :: ds => g d ρ h fun ρ1 h1 => gs ds ρ1 h1 Q
theorem dg_nil : PGsd C A X [] gN := PGs.imp pgs_nil fun vs σ H Q ⟨Z, ρ, h, ds, Qd, R, r, ⟨e, q⟩, k⟩ => by subst e; exact ⟨r, k _ h _ Z H q Fr.refl R⟩
theorem dg_cons {g : DG} {gs : DGs} (h1 : PGd Rep C A X e g) (h2 : PGsd C A X es gs) (hs : (assignEach (e :: es) X.env).map (·.2) = assign e X.env :: (assignEach es X.env).map (·.2) := by rfl) : PGsd C A X (e :: es) (gC g gs) :=
  PGs.imp (pgs_cons h1 h2 hs) fun vs σ H Q ⟨Z, ρ, h, ds, Qd, R, r, q, k⟩ => by
    cases ds with
    | nil => exact q.elim
    | cons d ds =>
      obtain ⟨v, vr, rfl, r1, r2⟩ := r
      exact ⟨v, vr, rfl, Z, ρ, h, d, _, R, r1, q, fun ρ1 h1 σ1 Z1 H1 q1 f1 R1 => ⟨Z1, ρ1, h1, ds, Qd, R1, r2.fr f1, q1, fun ρ2 h2 σ2 Z2 H2 q2 f2 R2 => k ρ2 h2 σ2 Z2 H2 q2 (f1.trans f2) R2⟩⟩
def gT (n : Nat) (gs : DGs) : DG := fun d ρ h Q => match d with
  | .tup ds => ds.length = n ∧ gs ds ρ h Q
  | _ => False
theorem dg_tupP {gs : DGs} {k n : Nat} (hx : XD C X) (hk : X.calm = true) (h : PGsd C A X es gs) (hn : (assignEach es X.env).length = n := by rfl) (hst : (assignEach es X.env).findIdx? (·.1) = none := by rfl) : PGd RepP C A X (.Tuple es k pos) (gT n gs) :=
  PG.imp (pg_tup hk h hn hst) fun v σ H Q ⟨Z, ρ, h, d, Qd, R, ⟨p, vs, ds, e, ev, s, r⟩, q, k⟩ => by
    subst e
    exact ⟨p, vs, ev, hx.K ▸ s, by rw [r.length]; exact q.1, Z, ρ, h, ds, Qd, R, r, q.2, k⟩
theorem dg_tup {gs : DGs} {k n : Nat} (hx : XD C X) (hk : X.calm = true) (h : PGsd C A X es gs) (hn : (assignEach es X.env).length = n := by rfl) (hst : (assignEach es X.env).findIdx? (·.1) = none := by rfl) : PGd Rep C A X (.Tuple es k pos) (gT n gs) :=
  PG.imp (dg_tupP hx hk h hn hst) fun v σ H Q ⟨Z, ρ, h, d, Qd, R, r, q, k⟩ => by
    cases d with
    | tup ds =>
      obtain ⟨p, vs, e, s, r⟩ := r
      exact ⟨Z, ρ, h, _, Qd, R, ⟨p, vs, ds, rfl, e, s.t, r⟩, q, k⟩
    | _ => exact q.elim
/-! ### stores to o[i] -/
def rSetD : TSet := fun o i v H Q => ∃ a H', o = .ref a ∧ DPut H a i v H' ∧ Q H'
theorem set_dictD (hu : X.A.units + 1 < cLine) : PSet X rSetD := by
  intro pins s σ H o i v ov iv u Q I ro ri rv h
  obtain ⟨p, H', rfl, g, q⟩ := h
  cases ro
  exact d_setItem hu I g ri rv fun s' I' => ⟨H', I', q⟩
theorem PSet.or {t t' : TSet} (h : PSet X t) (h' : PSet X t') : PSet X (fun o i v H Q => t o i v H Q ∨ t' o i v H Q) := by
  intro pins s σ H o i v ov iv u Q I ro ri rv q
  rcases q with q | q
  · exact h pins s σ H o i v ov iv u Q I ro ri rv q
  · exact h' pins s σ H o i v ov iv u Q I ro ri rv q
/-- a key's value put -/
def dput (kvs : List (D × D)) (kd v : D) (k : Key) : List (D × D) :=
  if (kvs.any fun e => decide (keyD e.1 = some k)) = true then kvs.map (fun e => if keyD e.1 = some k then (e.1, v) else e) else kvs ++ [(kd, v)]
theorem ks_any {Z : Addr → Prop} {H : Hp} {k : Key} : ∀ {ds : List (D × D)} {vs : List (Key × V)}, RepKs C Z H ds vs → (vs.any fun kv => decide (kv.1 = k)) = ds.any fun e => decide (keyD e.1 = some k)
  | [], _, e => by rw [show _ = [] from e]; rfl
  | d :: ds, _, ⟨j, v, vr, e, rk, r, rr⟩ => by
    subst e
    rw [List.any_cons, List.any_cons, ks_any rr, repk rk]
    simp
theorem ks_map {Z : Addr → Prop} {H : Hp} {k : Key} {y : D} {u : V} (ry : Rep C Z H y u) : ∀ {ds : List (D × D)} {vs : List (Key × V)}, RepKs C Z H ds vs → RepKs C Z H (ds.map fun e => if keyD e.1 = some k then (e.1, y) else e) (vs.map fun kv => if kv.1 = k then (kv.1, u) else kv)
  | [], _, e => by rw [show _ = [] from e]; exact rfl
  | d :: ds, _, ⟨j, v, vr, e, rk, r, rr⟩ => by
    subst e
    rw [List.map_cons, List.map_cons, repk rk]
    by_cases h : j = k
    · subst h; simp only [if_true]; exact ⟨j, u, _, rfl, rk, ry, ks_map ry rr⟩
    · simp only [h, if_false, fun z => h (Option.some.inj z), Option.some.injEq]; exact ⟨j, v, _, rfl, rk, r, ks_map ry rr⟩
theorem RepKs.append {Z : Addr → Prop} {H : Hp} : ∀ {ds es : List (D × D)} {vs us : List (Key × V)}, RepKs C Z H ds vs → RepKs C Z H es us → RepKs C Z H (ds ++ es) (vs ++ us)
  | [], _, _, _, e, r => by rw [show _ = [] from e]; exact r
  | d :: ds, _, _, _, ⟨k, v, vr, e, rk, r, rr⟩, s => by subst e; exact ⟨k, v, vr ++ _, rfl, rk, r, RepKs.append rr s⟩
theorem dput_rep {Z : Addr → Prop} {H : Hp} {k : Key} {kd y : D} {u : V} {ds : List (D × D)} {vs : List (Key × V)} (r : RepKs C Z H ds vs) (rk : Rep C Z H kd (kV k)) (ry : Rep C Z H y u) : RepKs C Z H (dput ds kd y k) (putK vs k u) := by
  unfold dput putK
  rw [ks_any r]
  split
  · exact ks_map ry r
  · exact RepKs.append r ⟨k, u, [], rfl, rk, ry, rfl⟩
/-- o[i] = v of an owned list or dict -/
def wPut (o i v : D) (h : Hd) (Q : Hd → Prop) : Prop := match o with
  | .ref a => (match h a with
    | some (.ol ds) => onI i fun n => onO (ixN ds.length n) fun j => Q (hup h a (.ol (ds.set j v)))
    | some (.od kvs) => onO (keyD i) fun k => SZ (kvs.length + 1) ∧ Q (hup h a (.od (dput kvs i v k)))
    | _ => False)
  | _ => False
abbrev rSetA : TSet := fun o i v H Q => rSetL o i v H Q ∨ rSetD o i v H Q
theorem set_all (hx : XD C X) : PSet X rSetA := PSet.or set_list (set_dictD hx.u1)
theorem o_put {Z : Addr → Prop} {H : Hp} {h : Hd} {o i v : D} {x y z : V} {Qd : Hd → Prop} {Q : Hp → Prop} (R : RelH C Z H h) (ro : Rep C Z H o x) (ri : Rep C Z H i y) (rv : Rep C Z H v z) (q : wPut o i v h Qd)
    (k : ∀ h' Z' H', Qd h' → Fr Z H Z' H' → RelH C Z' H' h' → Q H') : rSetA x y z H Q := by
  cases o with
  | ref a =>
    unfold wPut at q
    dsimp only at q
    cases e : h a with
    | none => simp [e] at q
    | some ob =>
      cases ob with
      | ol ds =>
        simp only [e] at q
        obtain ⟨n, _, rfl, q⟩ := rep_onI ri q
        obtain ⟨j, e2, f⟩ := onO_some q
        obtain ⟨vs, s, r⟩ := own_rep R e
        have nl : ∀ kvs, O.ol ds ≠ .odl kvs := fun _ z => (nomatch z)
        exact .inl ⟨a, vs, n, j, ro, rfl, s, by rw [r.length]; exact e2, k _ Z _ f (R.wrFr e nl) (R.wr e nl ⟨_, upd_same, (r.set j rv).fr (R.wrFr e nl)⟩)⟩
      | od kvs =>
        simp only [e] at q
        obtain ⟨key, e2, z1, f⟩ := onO_some q
        obtain ⟨vs, s, r⟩ := own_rep R e
        have ek := keyD_rep e2 ri
        subst ek
        have nl : ∀ kvs', O.od kvs ≠ .odl kvs' := fun _ z => (nomatch z)
        have := z1.line
        exact .inr ⟨a, _, ro, .inl ⟨vs, key, s, rfl, by rw [r.length]; omega, rfl⟩, k _ Z _ f (R.wrFr e nl) (R.wr e nl ⟨_, upd_same, (dput_rep r ri rv).fr (R.wrFr e nl)⟩)⟩
      | _ => simp [e] at q
  | _ => exact q.elim
def gSb (o i : DE) : DG := fun d ρ h Q => o ρ h fun x h1 => i ρ h1 fun y h2 => wPut x y d h2 fun h3 => Q ρ h3
theorem dg_sub {i : Expr} {wi : DE} (hx : XD C X) (ho : PEd C A X o wo) (hi : PEd C A X i wi)
    (ha : ∀ v, assign (.Subscript o i pos) X.env v = (do
      let ov ← holding [v] (eval o X.env)
      let iv ← holding [v, ov] (eval i X.env)
      standAt pos
      holding [v, ov, iv] (setItem ov iv v)
      release [v, ov, iv] []) := by intro _; rfl) : PGd Rep C A X (.Subscript o i pos) (gSb wo wi) :=
  PG.imp (pg_sub ho hi (set_all hx) ha) fun v σ H Q ⟨Z, ρ, h, d, Qd, R, r, q, k⟩ => ⟨Z, ρ, h, _, R, q, fun x h1 vx Z1 H1 q1 f1 R1 r1 => ⟨Z1, ρ, h1, _, R.next f1 R1, q1, fun y h2 vy Z2 H2 q2 f2 R2 r2 =>
    o_put R2 (r1.fr f2) r2 (r.fr (f1.trans f2)) q2 fun h3 Z3 H3 q3 f3 R3 => k ρ h3 σ Z3 H3 q3 ((f1.trans f2).trans f3) (((R.next f1 R1).next f2 R2).next f3 R3)⟩⟩
/-! ### assignments -/
def dAsg (a : DE) (g : DG) : DS := fun D ρ h => a ρ h fun d h1 => g d ρ h1 D.nx
theorem ds_asg {tg : Expr} {g : DG} (ha : PEd C A X e wa) (hg : PGd Rep C A X tg g) (hs : swapsWithSole [tg] e pos.line X.env = pure false := by rfl) (hw : swappedStores [tg] e X.env = pure none := by rfl)
    (h1 : (assignEach [tg] X.env).map (·.2) = [assign tg X.env] := by rfl) : PSd C A X (.Assign [tg] e pos) (dAsg wa g) :=
  PS.imp (ps_asg ha hg hs hw h1) fun D σ H ⟨Z, ρ, h, Dd, R, q, k, _⟩ => ⟨Z, ρ, h, _, R, q, fun d h1 v Z1 H1 q1 f1 R1 r1 => ⟨Z1, ρ, h1, d, _, R.next f1 R1, r1, q1, fun ρ2 h2 σ2 Z2 H2 q2 f2 R2 => k ρ2 h2 Z2 H2 σ2 q2 (f1.trans f2) R2⟩⟩
/-- x = e -/
def dSet (i : Nat) (a : DE) : DS := fun D ρ h => a ρ h fun d h1 => D.nx (ρ.set i (some d)) h1
theorem ds_set {i : Nat} {x : Str} {pos' : Pos} (hN : X.N.Nodup) (hi : X.N[i]? = some x) (hx : Loc X.env.scope x) (he : PEd C A X e wa) (hs : swapsWith e (some (.Name x pos')) pos.line X.env = pure false := by rfl) (hf : X.fn x = true ∨ X.env.scope.names.lookup x = some .local := by first | exact .inl rfl | exact .inr rfl | assumption) :
    PSd C A X (.Assign [.Name x pos'] e pos) (dSet i wa) :=
  PS.imp (ps_set hN hi hx he hs hf) fun D σ H ⟨Z, ρ, h, Dd, R, q, k, _⟩ => ⟨Z, ρ, h, _, R, q, fun d h1 v Z1 H1 q1 f1 R1 r1 => k _ h1 Z1 H1 _ q1 f1 ((R.next f1 R1).set i r1)⟩
/-- x, y = e, f -/
def dPar (i j : Nat) (a b : DE) : DS := fun D ρ h => a ρ h fun d h1 => b ρ h1 fun e h2 => D.nx ((ρ.set i (some d)).set j (some e)) h2
theorem ds_par {i j : Nat} {x y : Str} {px py pt : Pos} {kt k2 pt2} (hx : XD C X) (hk : X.calm = true) (hN : X.N.Nodup) (hi : X.N[i]? = some x) (hj : X.N[j]? = some y) (hij : i ≠ j)
    (hlx : X.env.scope.names.lookup x = some .local) (hly : X.env.scope.names.lookup y = some .local) (ha : PEd C A X a wa) (hb : PEd C A X b wb)
    (hw : swappedStores [.Tuple [.Name x px, .Name y py] kt pt] (.Tuple [a, b] k2 pt2) X.env = pure (some [x, y]))
    (hs : swapsWithSole [.Tuple [.Name x px, .Name y py] kt pt] (.Tuple [a, b] k2 pt2) pos.line X.env = pure false := by rfl)
    (h1 : starEach [a, b] X.env = (false, eval a X.env) :: starEach [b] X.env := by rfl) (h2 : starEach [b] X.env = (false, eval b X.env) :: starEach [] X.env := by rfl) :
    PSd C A X (.Assign [.Tuple [.Name x px, .Name y py] kt pt] (.Tuple [a, b] k2 pt2) pos) (dPar i j wa wb) :=
  PS.imp (ps_par hk hN hi hj hij hlx hly (d_cons ha (d_cons hb d_nil h2) h1) hw hs) fun D σ H ⟨Z, ρ, h, Dd, R, q, k, _⟩ =>
    ⟨Z, ρ, h, fun ds h1 => ∃ d e, ds = [d, e] ∧ Dd.nx ((ρ.set i (some d)).set j (some e)) h1, R, (show wa ρ h fun d h1 => wb ρ h1 fun e h2 => ∃ d' e', [d, e] = [d', e'] ∧ Dd.nx ((ρ.set i (some d')).set j (some e')) h2 from by
      have q' : wa ρ h fun d h1 => wb ρ h1 fun e h2 => Dd.nx ((ρ.set i (some d)).set j (some e)) h2 := q
      have e1 : (fun (d : DL.D) (h1 : Hd) => wb ρ h1 fun e h2 => ∃ d' e', [d, e] = [d', e'] ∧ Dd.nx ((ρ.set i (some d')).set j (some e')) h2) = fun d h1 => wb ρ h1 fun e h2 => Dd.nx ((ρ.set i (some d)).set j (some e)) h2 := by
        funext d h1
        congr 1
        funext e h2
        apply propext
        constructor
        · rintro ⟨d', e', q1, q2⟩; cases q1; exact q2
        · exact fun q2 => ⟨d, e, rfl, q2⟩
      rw [e1]; exact q'), fun ds h1 vs Z1 H1 ⟨d, e, e1, q1⟩ f1 R1 r1 => by
      subst e1
      obtain ⟨v, u, rfl, r2, r3⟩ := r1.two
      exact ⟨v, u, rfl, k _ h1 Z1 H1 _ q1 f1 (((R.next f1 R1).set i r2).set j r3)⟩⟩
/-! ### x += e -/
def dAug (i : Nat) (w : W2) (a : DE) : DS := fun E ρ h => ∃ x : D, ρ[i]? = some (some x) ∧ a ρ h fun y h1 => w x y h1 fun z h2 => E.nx (ρ.set i (some z)) h2
def PIp' (X : Cx) (op : Operator) (r : R2) : Prop := PIp X op r
theorem ds_aug {i : Nat} {x : Str} {op : Operator} {r : R2} {w : W2} {pos' : Pos} (hN : X.N.Nodup) (hi : X.N[i]? = some x) (hx : Loc X.env.scope x) (ha : PEd C A X e wa) (ho : PIp X op r) (om : Op2 C r w) (hf : X.fn x = true ∨ X.env.scope.names.lookup x = some .local := by first | exact .inl rfl | exact .inr rfl | assumption) :
    PSd C A X (.AugAssign (.Name x pos') op e pos) (dAug i w wa) :=
  PS.imp (ps_aug hN hi hx ha ho hf) fun D σ H ⟨Z, ρ, h, Dd, R, ⟨x, e1, q⟩, k, _⟩ => by
    obtain ⟨v, e2, r0⟩ := R.slot i x e1
    refine ⟨v, e2, Z, ρ, h, _, R, q, fun y h1 vy Z1 H1 q1 f1 R1 r1 => om Z1 H1 h1 x y v vy _ _ R1 (r0.fr f1) r1 q1 fun z h2 vz Z2 H2 q2 f2 R2 r2 => ?_⟩
    exact k _ h2 Z2 H2 _ q2 (f1.trans f2) (((R.next f1 R1).next f2 R2).set i r2)
theorem ip_add1 : PIp X .Add (rI0 fun i j => .int (i + j)) := ip_add
theorem ip_sub1 : PIp X .Sub (rI0 fun i j => .int (i - j)) := ip_sub
end
end DL
end
section
set_option Elab.async false
set_option linter.all false
set_option maxRecDepth 100000
set_option maxHeartbeats 4000000
open PySem PySem.Spec L2
namespace DL
section
variable {C : Ctx} {A : Anc} {X : Cx} {o a b e c tg : Expr} {es : List Expr} {pos : Pos} {wo wa wb wc : DE} {wr : DA} {st : Stmt} {sts sts' : List Stmt} {W W' : DS}
/-! ### what is walked -/
/-- the items and what must stand at each turn -/
abbrev DI := Env → Hd → (List D → (Hd → Prop) → Hd → Prop) → Prop
structure WkOk (I : RI) (C : Ctx) (J : It) (Z1 : Addr → Prop) (H1 : Hp) (ds : List D) (chk : Hd → Prop) : Prop where
  go : ∀ Z H h i, Fr Z1 H1 Z H → RelH C Z H h → chk h → i < ds.length → J.go i H
  yld : ∀ Z H h i x H' d, Fr Z1 H1 Z H → RelH C Z H h → chk h → ds[i]? = some d → J.yld i H x H' → Fr Z H Z H' ∧ RelH C Z H' h ∧ I C Z H' d x
  stop : ∀ Z H h, Fr Z1 H1 Z H → RelH C Z H h → chk h → J.stop ds.length H
def UpI (I : RI) (C : Ctx) (A : Anc) (W : DI) : TI := fun σ H R => ∃ Z ρ h Rd, Rel C A Z H σ ρ h ∧ W ρ h Rd ∧ ∀ ds chk h' Z' H' J, Rd ds chk h' → Fr Z H Z' H' → RelH C Z' H' h' → chk h' → WkOk I C J Z' H' ds chk → R J H'
theorem PI.imp {X : Cx} {tg e : Expr} {t t' : TI} (p : PI X tg e t) (f : ∀ σ H Q, t' σ H Q → t σ H Q) : PI X tg e t' := ⟨fun pins s σ H R I h => p.run pins s σ H R I (f σ H R h)⟩
abbrev PId (I : RI) (C : Ctx) (A : Anc) (X : Cx) (tg e : Expr) (W : DI) : Prop := PI X tg e (UpI I C A W)
/-- a list, a tuple, a text -/
def iSeq (a : DE) : DI := fun ρ h R => a ρ h fun x h1 => match x with
  | .tup ds => R ds (fun _ => True) h1
  | .fl ds => R ds (fun _ => True) h1
  | .str z => R (z.cps.toList.map fun c => .str ⟨#[c]⟩) (fun _ => True) h1
  | .ref p => (match h1 p with
    | some (.ol ds) => R ds (fun h => h p = some (.ol ds)) h1
    | _ => False)
  | _ => False
theorem wk_list {Z1 : Addr → Prop} {H1 : Hp} {p : Addr} {vs : List V} {ds : List D} {chk : Hd → Prop} (r : Reps C Z1 H1 ds vs) (s : ∀ Z H h, Fr Z1 H1 Z H → RelH C Z H h → chk h → ∃ us, SqL C.K H p us ∧ Reps C Z H ds us) : WkOk Rep C (Itl C.K p) Z1 H1 ds chk where
  go := fun Z H h i f R c hi => by
    obtain ⟨us, q, r1⟩ := s Z H h f R c
    have : i < us.length := by rw [r1.length]; exact hi
    exact ⟨us, us[i], q, by simp [this]⟩
  yld := fun Z H h i x H' d f R c hd y => by
    obtain ⟨rfl, y⟩ := y
    obtain ⟨us, q, r1⟩ := s Z _ h f R c
    obtain ⟨v, e1, r2⟩ := r1.get hd
    have := (y us q).symm.trans e1
    cases this
    exact ⟨Fr.refl, R, r2⟩
  stop := fun Z H h f R c => by
    obtain ⟨us, q, r1⟩ := s Z H h f R c
    exact ⟨us, q, by rw [r1.length]; exact Nat.le_refl _⟩
theorem wk_tup {Z1 : Addr → Prop} {H1 : Hp} {p : Addr} {vs : List V} {ds : List D} {chk : Hd → Prop} (r : Reps C Z1 H1 ds vs) (s : SqN C.K H1 p vs) : WkOk Rep C (Itt C.K p) Z1 H1 ds chk where
  go := fun Z H h i f R c hi => by
    have : i < vs.length := by rw [r.length]; exact hi
    exact ⟨vs, vs[i], (f.sqN s).t, by simp [this]⟩
  yld := fun Z H h i x H' d f R c hd y => by
    obtain ⟨rfl, y⟩ := y
    obtain ⟨v, e1, r2⟩ := r.get hd
    have := (y vs (f.sqN s).t).symm.trans e1
    cases this
    exact ⟨Fr.refl, R, r2.fr f⟩
  stop := fun Z H h f R c => ⟨vs, (f.sqN s).t, by rw [r.length]; exact Nat.le_refl _⟩
theorem wk_str {Z1 : Addr → Prop} {H1 : Hp} {z : Str} {chk : Hd → Prop} : WkOk Rep C (Its z) Z1 H1 (z.cps.toList.map fun c => .str ⟨#[c]⟩) chk where
  go := fun Z H h i f R c hi => by show i < z.cps.size; simpa using hi
  yld := fun Z H h i x H' d f R c hd y => by
    obtain ⟨rfl, c, e1, rfl⟩ := y
    have e2 : z.cps.toList[i]? = some c := by simpa using e1
    rw [List.getElem?_map, e2] at hd
    cases hd
    exact ⟨Fr.refl, R, rfl⟩
  stop := fun Z H h f R c => by simp [Its]
open PyProof.Rows in
/-- what was read already -/
theorem di_val {v : Value} {x : V} {d : D} {pins : List (Addr × Obj)} {σ : L2.St} {H1 : Hp} {s1 : Shared} {Z1 : Addr → Prop} {ρ : Env} {h1 : Hd} {R : It → Hp → Prop} {Rd : List D → (Hd → Prop) → Hd → Prop} (hx : XD C X) (I1 : Inv X pins σ H1 s1) (R1 : RelH C Z1 H1 h1) (r1 : L2.RelV x v) (rx : Rep C Z1 H1 d x) (q1 : iSeq (dC d) ρ h1 Rd)
    (k : ∀ ds chk h' Z' H' J, Rd ds chk h' → Fr Z1 H1 Z' H' → RelH C Z' H' h' → chk h' → WkOk Rep C J Z' H' ds chk → R J H') : wpAny (model X.prog X.w) X.A (pyIter v) (PIE X pins σ tg R) X.xe s1 := by
  have f1 : Fr Z1 H1 Z1 H1 := Fr.refl
  unfold iSeq dC at q1
  dsimp only at q1
  have one : ∀ b ∈ [s1.heap.objs.size], FpOk X pins H1 b := fun b hb => by
    have e : b = s1.heap.objs.size := by simpa using hb
    subst e
    exact I1.fpOk (Nat.le_refl _) (I1.hok.fresh (Nat.le_refl _))
  have lst : ∀ (p : Addr) (vs : List V) (ds : List D) (chk : Hd → Prop), x = .ref p → SqL C.K H1 p vs → R (Itl C.K p) H1 → wpAny (model X.prog X.w) X.A (pyIter v) (PIE X pins σ tg R) X.xe s1 := fun p vs ds chk ex hq q2 => by
    subst ex
    cases r1
    obtain ⟨its, rv, pl, hz⟩ := I1.list (hx.K ▸ hq)
    refine wpAny_pyIter_list pl.isList ?_
    exact ⟨s1.heap.objs.size, [s1.heap.objs.size], _, _, H1, rfl, I1.kept (t' := s1.toks) fun b o e => Heap.get?_push_of_some _ e, turn_list p _, ⟨_, Heap.get?_push_size _ rfl, rfl, rfl⟩, one, hx.K ▸ q2⟩
  cases d with
  | tup ds =>
    obtain ⟨p, vs, rfl, sq, r⟩ := rx
    cases r1
    obtain ⟨its, rv, pt, hz⟩ := I1.tuple (hx.K ▸ sq.t)
    refine wpAny_pyIter_tuple (show s1.heap.IsTuple p its.toArray from pt) ?_
    exact ⟨s1.heap.objs.size, [s1.heap.objs.size], _, _, H1, rfl, I1.kept (t' := s1.toks) fun b o e => Heap.get?_push_of_some _ e, turn_tuple p _, ⟨_, Heap.get?_push_size _ rfl, rfl, rfl⟩, one, by
      rw [hx.K]; exact k ds _ h1 Z1 H1 _ q1 f1 R1 trivial (wk_tup r sq)⟩
  | fl ds =>
    obtain ⟨p, vs, rfl, sq, r⟩ := rx
    refine lst p vs ds (fun _ => True) rfl sq.l (k ds _ h1 Z1 H1 _ q1 f1 R1 trivial (wk_list r fun Z H h f RR c => ⟨vs, (f.lsZ sq).l, r.fr f⟩))
  | str z =>
    rw [show x = _ from rx] at r1
    obtain ⟨t, rfl⟩ := r1
    have q2 : R (Its z) H1 := k _ _ h1 Z1 H1 _ q1 f1 R1 trivial wk_str
    cases ha : z.cps.all (· < 128)
    · exact wpAny_pyIter_wide ha (pi_one (tk := s1.toks) I1 _ (turn_str _ z t "str_iterator" (.inr rfl)) ⟨_, Heap.get?_push_size _ rfl, rfl, rfl⟩ q2)
    · exact wpAny_pyIter_ascii ha (pi_one (tk := s1.toks) I1 _ (turn_str _ z t "str_ascii_iterator" (.inl rfl)) ⟨_, Heap.get?_push_size _ rfl, rfl, rfl⟩ q2)
  | ref p =>
    dsimp only at q1
    cases e1 : h1 p with
    | none => simp [e1] at q1
    | some ob =>
      cases ob with
      | ol ds =>
        simp only [e1] at q1
        obtain ⟨vs, sq, r⟩ := own_rep R1 e1
        refine lst p vs ds (fun h => h p = some (.ol ds)) rx (.inl (.inl sq)) (k ds _ h1 Z1 H1 _ q1 f1 R1 e1 (wk_list r fun Z H h f RR c => ?_))
        obtain ⟨us, s2, r2⟩ := own_rep RR c
        exact ⟨us, .inl (.inl s2), r2⟩
      | _ => simp [e1] at q1
  | _ => exact q1.elim
theorem di_seq (hx : XD C X) (he : PEd C A X e wa) : PId Rep C A X tg e (iSeq wa) := by
  refine ⟨fun pins s σ H R I ⟨Z, ρ, h, Rd, RR, q, k⟩ => ?_⟩
  refine thn (run_d he I RR q) fun v s1 ⟨x, H1, I1, r1, Z1, h1, d, f1, R1, rx, q1⟩ => ?_
  exact di_val (ρ := ρ) (d := d) (h1 := h1) (Rd := Rd) hx I1 R1 r1 rx q1 fun ds chk h' Z' H' J q f RR c w => k ds chk h' Z' H' J q (f1.trans f) RR c w
/-! ### ranges -/
def iRange1 (a : DE) : DI := fun ρ h R => a ρ h fun x h1 => onI x fun j => (-(2 ^ 62) ≤ j ∧ j < 2 ^ 62) ∧ R ((List.range j.toNat).map fun (i : Nat) => .int (i : Int)) (fun _ => True) h1
def iRange2 (a b : DE) : DI := fun ρ h R => a ρ h fun x h1 => b ρ h1 fun y h2 => onI2 x y fun i j => (-(2 ^ 62) ≤ i ∧ i < 2 ^ 62 ∧ -(2 ^ 62) ≤ j ∧ j < 2 ^ 62) ∧ R ((List.range (j - i).toNat).map fun (k : Nat) => .int (i + (k : Int))) (fun _ => True) h2
theorem wk_range {Z1 : Addr → Prop} {H1 : Hp} {lo : Int} {n : Nat} {chk : Hd → Prop} : WkOk Rep C (Itr lo n) Z1 H1 ((List.range n).map fun (k : Nat) => .int (lo + (k : Int))) chk where
  go := fun Z H h i f R c hi => by show i < n; simpa using hi
  yld := fun Z H h i x H' d f R c hd y => by
    obtain ⟨rfl, rfl⟩ := y
    rw [List.getElem?_map] at hd
    by_cases hi : i < n
    · rw [List.getElem?_range hi] at hd
      cases hd
      exact ⟨Fr.refl, R, rfl⟩
    · rw [List.getElem?_eq_none (by simpa using hi)] at hd; cases hd
  stop := fun Z H h f R c => by simp [Itr]
theorem di_range1 {p : Pos} (hx : XD C X) (hg : Gl X "range") (hm : X.mg "range" = none) (ha : PEd C A X a wa) (hs : starEach [a] X.env = [(false, eval a X.env)] := by rfl) : PId Rep C A X tg (.Call (.Name "range" p) [a] [] pos) (iRange1 wa) :=
  PI.imp (pi_range1 hg hm (d_cons ha d_nil hs) hs) fun σ H R ⟨Z, ρ, h, Rd, RR, q, k⟩ => ⟨Z, ρ, h, _, RR, (show dCons wa dNil ρ h fun ds h1 => on1 ds fun x => onI x fun j => (-(2 ^ 62) ≤ j ∧ j < 2 ^ 62) ∧ Rd ((List.range j.toNat).map fun (i : Nat) => .int (i : Int)) (fun _ => True) h1 from q), fun ds h1 vs Z1 H1 q1 f1 R1 r1 => by
    obtain ⟨d, v, rfl, rfl, r, q1⟩ := rep_on1 r1 q1
    obtain ⟨j, _, rfl, ⟨l1, l2⟩, q1⟩ := rep_onI r q1
    refine ⟨j, rfl, l1, l2, k _ _ h1 Z1 H1 _ q1 f1 R1 trivial ?_⟩
    have := wk_range (C := C) (Z1 := Z1) (H1 := H1) (lo := 0) (n := j.toNat) (chk := fun _ => True)
    simpa using this⟩
theorem di_range2 {p : Pos} (hx : XD C X) (hg : Gl X "range") (hm : X.mg "range" = none) (ha : PEd C A X a wa) (hb : PEd C A X b wb) (hs : starEach [a, b] X.env = [(false, eval a X.env), (false, eval b X.env)] := by rfl) (hs2 : starEach [b] X.env = [(false, eval b X.env)] := by rfl) :
    PId Rep C A X tg (.Call (.Name "range" p) [a, b] [] pos) (iRange2 wa wb) :=
  PI.imp (pi_range2 hg hm (d_cons ha (d_cons hb d_nil hs2) (by rw [hs, hs2])) hs hs2) fun σ H R ⟨Z, ρ, h, Rd, RR, q, k⟩ => ⟨Z, ρ, h, _, RR, (show dCons wa (dCons wb dNil) ρ h fun ds h2 => on2 ds fun x y => onI2 x y fun i j => (-(2 ^ 62) ≤ i ∧ i < 2 ^ 62 ∧ -(2 ^ 62) ≤ j ∧ j < 2 ^ 62) ∧ Rd ((List.range (j - i).toNat).map fun (k : Nat) => .int (i + (k : Int))) (fun _ => True) h2 from q), fun ds h1 vs Z1 H1 q1 f1 R1 r1 => by
    obtain ⟨d, e, v, u, rfl, rfl, r1, r2, q1⟩ := rep_on2 r1 q1
    obtain ⟨i, j, rfl, rfl, l, q1⟩ := rep_onI2 r1 r2 q1
    exact ⟨i, j, rfl, l, k _ _ h1 Z1 H1 _ q1 f1 R1 trivial wk_range⟩⟩
/-! ### for -/
/-- the items one after the other; ahead of each, and behind the last, what must stand -/
def dForL (g : DG) (b : DS) (chk : Hd → Prop) : List D → DS
  | [] => fun E ρ h => chk h ∧ E.nx ρ h
  | d :: ds => fun E ρ h => chk h ∧ g d ρ h fun ρ1 h1 => b { nx := dForL g b chk ds E, ct := dForL g b chk ds E, bk := E.nx, rt := E.rt } ρ1 h1
def dFor (i : DI) (g : DG) (b : DS) : DS := fun E ρ h => i ρ h fun ds chk h1 => dForL g b chk ds E ρ h1
theorem ds_for {I : RI} {iter : Expr} {wi : DI} {g : DG} (hx : XD C X) (hk : X.calm = true) (hp : PassesOwn (model X.prog X.w) X.A X.env X.xe) (hi : PId I C A X tg iter wi) (hg : PGd I C A X tg g) (hb : PSsd C A X sts W)
    (hs : ∀ x, foldedSetIterable iter X.env x = pure x := by intro _; rfl) : PSd C A X (.For tg iter sts [] pos) (dFor wi g W) :=
  PS.imp (ps_for hp hk hi hg hb hs) fun D σ H ⟨Z, ρ, h, Dd, R, q, k1, k2, k3, k4⟩ => ⟨Z, ρ, h, _, R, q, fun ds chk h1 Z1 H1 J q1 f1 R1 c1 wk => by
    refine ⟨fun i m σ' H' => m + i = ds.length ∧ ∃ Z' ρ' h', Fr Z1 H1 Z' H' ∧ Rel C A Z' H' σ' ρ' h' ∧ dForL g W chk (ds.drop i) Dd ρ' h', ⟨ds.length, by simp, Z1, ρ, h1, Fr.refl, R.next f1 R1, q1⟩, ?_⟩
    rintro i m σ' H' ⟨hm, Z', ρ', h', f, R', q'⟩
    by_cases hi : i < ds.length
    · right
      rw [List.drop_eq_getElem_cons hi] at q'
      obtain ⟨c, q'⟩ := q'
      refine ⟨wk.go Z' H' h' i f R'.toRelH c hi, fun σ2 H2 => ∃ Z2 ρ2 h2, Fr Z1 H1 Z2 H2 ∧ Rel C A Z2 H2 σ2 ρ2 h2 ∧ dForL g W chk (ds.drop (i + 1)) Dd ρ2 h2, fun σ2 H2 n2 => ⟨m - 1, by omega, by omega, n2⟩, fun x H2 y => ?_⟩
      obtain ⟨f2, R2, r2⟩ := wk.yld Z' H' h' i x H2 ds[i] f R'.toRelH c (by simp [hi]) y
      refine ⟨Z', ρ', h', ds[i], _, R'.next f2 R2, r2, q', fun ρ3 h3 σ3 Z3 H3 q3 f3 R3 => ?_⟩
      have ft := (f.trans f2).trans f3
      exact ⟨Z3, ρ3, h3, _, R3, q3, fun ρ4 h4 Z4 H4 σ4 q4 f4 R4 => ⟨Z4, ρ4, h4, ft.trans f4, R4, q4⟩, fun ρ4 h4 Z4 H4 σ4 q4 f4 R4 => k1 ρ4 h4 Z4 H4 σ4 q4 (f1.trans (ft.trans f4)) R4,
        fun ρ4 h4 Z4 H4 σ4 q4 f4 R4 => ⟨Z4, ρ4, h4, ft.trans f4, R4, q4⟩, fun d h4 v Z4 H4 q4 f4 R4 r4 => k4 d h4 v Z4 H4 q4 (f1.trans (ft.trans f4)) R4 r4⟩
    · left
      have e : ds.drop i = [] := List.drop_eq_nil_of_le (by omega)
      rw [e] at q'
      have ei : i = ds.length := by omega
      subst ei
      exact ⟨wk.stop Z' H' h' f R'.toRelH q'.1, k1 ρ' h' Z' H' σ' q'.2 (f1.trans f) R'⟩⟩
/-! ### while -/
def dWhN (c : DT) (b : DS) : Nat → DS
  | 0 => fun _ _ _ => False
  | n + 1 => fun E ρ h => c ρ h fun t h1 => if t = true then b { nx := dWhN c b n E, ct := dWhN c b n E, bk := E.nx, rt := E.rt } ρ h1 else E.nx ρ h1
def dWhile (c : DT) (b : DS) : DS := fun E ρ h => ∃ n, dWhN c b n E ρ h
theorem ds_while {tc : DT} (hx : XD C X) (hp : PassesOwn (model X.prog X.w) X.A X.env X.xe) (hc : PTd C A X c tc) (hb : PSsd C A X sts W) : PSd C A X (.While c sts [] pos) (dWhile tc W) :=
  PS.imp (ps_while hp hc hb) fun D σ H ⟨Z, ρ, h, Dd, R, ⟨n, q⟩, k1, k2, k3, k4⟩ => by
    refine ⟨fun m σ' H' => ∃ Z' ρ' h', Fr Z H Z' H' ∧ Rel C A Z' H' σ' ρ' h' ∧ dWhN tc W m Dd ρ' h', ⟨n, Z, ρ, h, Fr.refl, R, q⟩, ?_⟩
    rintro m σ' H' ⟨Z', ρ', h', f, R', q'⟩
    cases m with
    | zero => exact q'.elim
    | succ m =>
      refine ⟨Z', ρ', h', _, R', q', fun t h1 Z1 H1 q1 f1 R1 => ?_⟩
      cases t with
      | false =>
        rw [if_neg Bool.false_ne_true] at q1 ⊢
        exact k1 ρ' h1 Z1 H1 σ' q1 (f.trans f1) (R'.next f1 R1)
      | true =>
        rw [if_pos rfl] at q1 ⊢
        have ft := f.trans f1
        refine ⟨fun σ2 H2 => ∃ Z2 ρ2 h2, Fr Z H Z2 H2 ∧ Rel C A Z2 H2 σ2 ρ2 h2 ∧ dWhN tc W m Dd ρ2 h2, fun σ2 H2 n2 => ⟨m, Nat.lt_succ_self m, n2⟩, ?_⟩
        exact ⟨Z1, ρ', h1, _, R'.next f1 R1, q1, fun ρ4 h4 Z4 H4 σ4 q4 f4 R4 => ⟨Z4, ρ4, h4, ft.trans f4, R4, q4⟩, fun ρ4 h4 Z4 H4 σ4 q4 f4 R4 => k1 ρ4 h4 Z4 H4 σ4 q4 (ft.trans f4) R4,
          fun ρ4 h4 Z4 H4 σ4 q4 f4 R4 => ⟨Z4, ρ4, h4, ft.trans f4, R4, q4⟩, fun d h4 v Z4 H4 q4 f4 R4 r4 => k4 d h4 v Z4 H4 q4 (ft.trans f4) R4 r4⟩
end
end DL
end
section
set_option Elab.async false
set_option linter.all false
set_option maxRecDepth 100000
set_option maxHeartbeats 4000000
open PySem PySem.Spec L2
namespace DL
section
open PyProof.Rows
open AutoSeq1 (wpAny_loadPart')
set_option maxHeartbeats 1000000 in
theorem meets_enumB {v : Value} {o : Obj} {H : Heap → Prop} (B : Begins v o H) :
    Meets (Builtin.«enumerate.__new__» ⟨[.type "enumerate", v], []⟩) (fun _ R s => H s.heap ∧
      R (.ok (.ret (.ref (s.heap.push o).objs.size))) { s with heap := (s.heap.push o).push { cls := .type "enumerate", data := .fields #[.none, .bool false, .ref s.heap.objs.size, rawInt 0, .none, .none] } }) :=
  .of_wp fun prog w A R s h => by
    obtain ⟨hp, g, d, tk, os⟩ := s; obtain ⟨h1, h⟩ := h
    have hsub := sub_enumerate
    have q1 : ∀ {A' : Around} {E : Value → Shared → Prop} {Q : Value → Shared → Prop}, Q (.ref hp.objs.size) ⟨hp.push o, g, d, tk, os⟩ → wpAny (model prog w) A' (pyIter v) Q E ⟨hp, g, d, tk, os⟩ :=
      fun q => B.iter prog w _ _ ⟨hp, g, d, tk, os⟩ _ h1 q
    wp_walk using q1
    refine wpAny_stack_any fun st => wpAny_pure ?_
    split
    · rename_i c _ _ _ _ _
      cases (c == Value.type "enumerate")
      · wp_walk using q1
        exact ⟨_, rfl, h⟩
      · wp_walk using q1
        exact ⟨_, rfl, h⟩
    · wp_walk using q1
      exact ⟨_, rfl, h⟩
theorem call_enumB {prog : Program} {w : World} {A : Around} {E : Value → Shared → Prop} {s : Shared} {v : Value} {o : Obj} {H : Heap → Prop} {Q : Value → Shared → Prop} (B : Begins v o H) (h1 : H s.heap)
    (h : ∀ h', IsEnum h' (s.heap.objs.size + 1) s.heap.objs.size 0 .none → h'.get? s.heap.objs.size = some o → h'.objs.size = s.heap.objs.size + 2 →
      (∀ b o, s.heap.get? b = some o → h'.get? b = some o) → Q (.ref (s.heap.objs.size + 1)) { s with heap := h' }) :
    wpAny (model prog w) A (call (.type "enumerate") [v]) Q E s := by
  refine callType_new F.called_enumerate (by decide) (F.typeCall_enumerate_1 _) (F.newCall_enumerate_1 _) (fun obj => F.args_object_init_2 obj _) F.entry_enumerate_new
    (meets_enumB B) ⟨h1, ?_⟩
  have hz : (s.heap.push o).objs.size = s.heap.objs.size + 1 := Heap.size_push ..
  show _ ∧ _
  rw [hz]
  have he : IsEnum ((s.heap.push o).push { cls := .type "enumerate", data := .fields #[.none, .bool false, .ref s.heap.objs.size, rawInt 0, .none, .none] }) (s.heap.objs.size + 1) s.heap.objs.size 0 .none := by
    have := Heap.get?_push_size (s.heap.push o) (o := { cls := .type "enumerate", data := .fields #[.none, .bool false, .ref s.heap.objs.size, rawInt 0, .none, .none] }) rfl
    rw [hz] at this; exact this
  refine ⟨⟨_, he, rfl⟩, h _ he (Heap.get?_push_of_some _ (Heap.get?_push_size _ B.free)) (by rw [Heap.size_push, hz]) fun b o x => Heap.get?_push_of_some _ (Heap.get?_push_of_some _ x)⟩
/-- enumerate of a tuple -/
def IteT (K : PySem.W.Frag) (a : Addr) : It :=
  ⟨fun i H => ∃ (xs : List V) (x : V), SqT K H a xs ∧ xs[i]? = some x, fun i H v H' => ∃ T x, v = .ref T ∧ H T = none ∧ H' = upd H T (.tup [.int (i : Nat), x]) ∧ ∀ xs, SqT K H a xs → xs[i]? = some x, fun i H => ∃ xs : List V, SqT K H a xs ∧ xs.length ≤ i⟩
theorem turn_enumT {P : Program} {w : World} {K : PySem.W.Frag} {elts : List Expr} {kk : Nat} {tpos : Pos} (a e it : Addr) :
    Turn P w K (.Tuple elts kk tpos) (IteT K a) [e, it] e (fun i h => (∃ old, IsEnum h e it ((i : Nat) : Int) old) ∧ h.IsTupleIter it a i ∧ e ≠ it ∧ a ≠ it) where
  mem := by simp
  obj := fun i h st b hb => by
    obtain ⟨⟨old, he⟩, ⟨o, ho, hc, hd⟩, _⟩ := st
    have e' : b = e ∨ b = it := by simpa using hb
    rcases e' with z | z
    · rw [z]; exact ⟨_, he, fun v q => nomatch q⟩
    · rw [z]; exact ⟨o, ho, fun v q => by rw [hd] at q; cases q⟩
  keep := fun i h h' st k => let ⟨⟨old, he⟩, hi, hne⟩ := st; ⟨⟨old, k e (by simp) _ he⟩, hi.at fun o q => k it (by simp) o q, hne⟩
  item := by
    intro X hP hw hK hc i pins s σ H E I hf st hg
    subst hP hw hK
    obtain ⟨⟨old, he⟩, hit, hne, hai⟩ := st
    obtain ⟨xs, x, hq, hx⟩ := hg
    obtain ⟨its, rv, p, hz⟩ := I.tuple hq
    obtain ⟨u, hu, ru⟩ := rv.get hx
    have hel : e < s.heap.objs.size := Heap.lt_size he
    have hil : it < s.heap.objs.size := by obtain ⟨_, q, _⟩ := hit; exact Heap.lt_size q
    have hae : e ∉ [it, a] := by
      intro z
      have z : e = it ∨ e = a := by simpa using z
      rcases z with z | z
      · exact hne z
      · subst z
        obtain ⟨o, ho, hcl, _⟩ := id p
        rw [show s.heap.get? e = some _ from he] at ho
        cases ho
        injection hcl with z
        exact absurd z (by decide)
    have hlt : i < its.toArray.size := by
      have := (List.getElem?_eq_some_iff.mp hu).1
      simpa using this
    refine wpAny_pyNext_enum_itemD (fp := [it, a]) (Draws.tuple (A := X.A.in1) (show X.A.in1.handled = none from I.ok.hd hc) it a hai its.toArray) he ⟨hit, p⟩ hlt hne hae fun y h' tk hy ho hit' hT hsz hk => ?_
    have ey : y = u := by
      have hy : its.toArray[i]? = some y := hy
      have : its[i]? = some y := by simpa using hy
      rw [hu] at this; exact (Option.some.inj this).symm
    subst ey
    refine ⟨_, rfl, wpAny_letOwnedTupleGo_enum (s := { s with heap := h', toks := tk + 1 }) ho fun h'' he' sb => ?_⟩
    have hT2 : h''.get? s.heap.objs.size = some { cls := .type "tuple", data := .seq #[.int i tk, y] } := (sb.2 _ (Nat.ne_of_gt hel)).trans hT
    have new : ObjOk X.prog X.w (upd H s.heap.objs.size (.tup [.int (i : Nat), x])) h'' s.heap.objs.size (.tup [.int (i : Nat), x]) :=
      ⟨by show 2 ≤ sizeLine; decide, [.int i tk, y], .cons ⟨_, rfl⟩ (.cons ru .nil), ⟨_, hT2, rfl, _, rfl⟩⟩
    have I1 : Inv X pins σ (upd H s.heap.objs.size (.tup [.int (i : Nat), x])) { s with heap := h'', toks := tk + 1 } :=
      I.turnedNew (ch := [e, it]) (fun b ob hb q => (sb.2 b (fun z => hb (by simp [z]))).trans (hk b ob (fun z => hb (by simp [z])) (fun z => hb (by simp [z])) q)) hf (Nat.le_refl _) new
    refine ⟨.ref s.heap.objs.size, _, I1, rfl, ⟨_, x, rfl, I.hok.fresh (Nat.le_refl _), rfl, fun ys hy => by rw [I.tuple_inj hy hq]; exact hx⟩, ⟨⟨y, ?_⟩, hit'.1.at fun o q => (sb.2 it (Ne.symm hne)).trans q, hne, hai⟩, fun b hb => ?_⟩
    · have e1 : ((i + 1 : Nat) : Int) = (i : Int) + 1 := by omega
      rw [e1]; exact he'
    · have hb' : b < s.heap.objs.size := by
        have e' : b = e ∨ b = it := by simpa using hb
        rcases e' with z | z
        · rw [z]; exact hel
        · rw [z]; exact hil
      rw [upd_ne (Nat.ne_of_lt hb')]
      exact (hf b hb).1
  done := by
    intro X hP hw hK hc i pins s σ H E I hf st hg
    subst hP hw hK
    obtain ⟨⟨old, he⟩, hit, hne, hai⟩ := st
    obtain ⟨xs, hq, hx⟩ := hg
    obtain ⟨its, rv, p, hz⟩ := I.tuple hq
    obtain ⟨f0, f1, f2, f3, f4, f5⟩ := hf it (by simp)
    have hl := rv.length
    have hT : s.TypeIs (.ref e) "enumerate" := ⟨_, he, rfl⟩
    unfold pyNext
    refine wpAny_bind (wpAny_attempt (wpAny_callSpecial?_slot (name := Str.ofString "__next__") hT F.slot_enumerate_next
      (wpAny_call_entry F.slot_enumerate_next hT F.entry_enumerate_next ?_ (F.args_enumerate_next_1 _))))
    show wpAny _ _ (field (.ref e) 2 >>= _) _ _ _
    refine wpAny_bind (wpAny_field he rfl (x := .ref it) rfl ?_)
    refine wpAny_bind (wpAny_nextOf_tuple_end (I.ok.hd hc) hit p (by simp; omega) fun h' x he' hx' => ?_)
    obtain ⟨o, ho, hc⟩ := hx'
    refine wpAny_bind (wpAny_isInstance (T := "StopIteration") (b := true) ⟨o, ho, hc⟩ isSubtype_stop ?_)
    exact wpAny_pure ⟨rfl, I.turned (t' := s.toks) (fun b o hb q => he' b o hb q) f0 f1 f3 f4 f5⟩
  self := fun A i s Q E st h => let ⟨⟨_, he⟩, _⟩ := st; wpAny_pyIter_enum he h
def iEnumT (K : PySem.W.Frag) (ta : TA) : TI := fun σ H R => ta σ H fun vs H1 => ∃ a xs, vs = [.ref a] ∧ ((SqL K H1 a xs ∧ R (Ite K a) H1) ∨ (SqT K H1 a xs ∧ R (IteT K a) H1))
theorem pi_enumT {X : Cx} {e : Expr} {ta : TA} {p pos tpos : Pos} {elts : List Expr} {kk : Nat} (hg : Gl X "enumerate") (hm : X.mg "enumerate" = none) (ha : PA X [e] ta) (hs : starEach [e] X.env = [(false, eval e X.env)] := by rfl) :
    PI X (.Tuple elts kk tpos) (.Call (.Name "enumerate" p) [e] [] pos) (iEnumT X.K ta) := by
  refine ⟨fun pins s σ H R I h => ?_⟩
  refine Call_ (ld_blt I hg hm boot_enumerate (PyProof.Rows.callWith_type1 (thn (ha.run pos pins s σ H _ I h) fun us s1 ⟨vs, H1, I1, r1, q1⟩ => ?_) hs rfl))
  obtain ⟨a, xs, ex, q⟩ := q1
  subst ex
  cases r1 with
  | cons r rr =>
    cases rr
    cases r
    have fresh2 : ∀ b, b ∈ [s1.heap.objs.size + 1, s1.heap.objs.size] → FpOk X pins H1 b := fun b hb => by
      have e' : b = s1.heap.objs.size + 1 ∨ b = s1.heap.objs.size := by simpa using hb
      have hle : s1.heap.objs.size ≤ b := by
        rcases e' with z | z
        · rw [z]; exact Nat.le_add_right _ _
        · rw [z]; exact Nat.le_refl _
      exact I1.fpOk hle (I1.hok.fresh hle)
    rcases q with ⟨hq, q⟩ | ⟨hq, q⟩
    · obtain ⟨its, rv, p', hz⟩ := I1.list hq
      refine call_enumerate_list p'.isList fun h' he hit hsz hk => wpAny_pyIter_enum he ?_
      have I2 : Inv X pins σ H1 { s1 with heap := h' } := I1.kept (t' := s1.toks) hk
      exact ⟨s1.heap.objs.size + 1, [s1.heap.objs.size + 1, s1.heap.objs.size], _, _, H1, rfl, I2, turn_enum a (s1.heap.objs.size + 1) s1.heap.objs.size, ⟨⟨.none, he⟩, hit, Nat.succ_ne_self _⟩, fresh2, q⟩
    · obtain ⟨its, rv, p', hz⟩ := I1.tuple hq
      refine call_enumB (begins_tuple a its.toArray) p' fun h' he ho hsz hk => wpAny_pyIter_enum he ?_
      have I2 : Inv X pins σ H1 { s1 with heap := h' } := I1.kept (t' := s1.toks) hk
      have hai : a ≠ s1.heap.objs.size := by
        obtain ⟨o, ho, _⟩ := id p'
        exact Nat.ne_of_lt (Heap.lt_size ho)
      exact ⟨s1.heap.objs.size + 1, [s1.heap.objs.size + 1, s1.heap.objs.size], _, _, H1, rfl, I2, turn_enumT a (s1.heap.objs.size + 1) s1.heap.objs.size, ⟨⟨.none, he⟩, ⟨_, ho, rfl, rfl⟩, Nat.succ_ne_self _, hai⟩, fresh2, q⟩
end
/-! ### enumerate by values -/
section
variable {C : Ctx} {A : Anc} {X : Cx} {a e : Expr} {pos : Pos} {wa : DE}
def enumD (ds : List D) : List D := (List.range ds.length).zipWith (fun (i : Nat) d => .tup [.int (i : Int), d]) ds
def enumK (x : D) (h1 : Hd) (R : List D → (Hd → Prop) → Hd → Prop) : Prop := match x with
  | .tup ds => R (enumD ds) (fun _ => True) h1
  | .fl ds => R (enumD ds) (fun _ => True) h1
  | .ref p => (match h1 p with
    | some (.ol ds) => R (enumD ds) (fun h => h p = some (.ol ds)) h1
    | _ => False)
  | _ => False
def iEnumD (a : DE) : DI := fun ρ h R => a ρ h fun x h1 => enumK x h1 R
theorem enumD_get {ds : List D} {i : Nat} {d : D} (h : (enumD ds)[i]? = some d) : ∃ x, ds[i]? = some x ∧ d = .tup [.int (i : Int), x] := by
  unfold enumD at h
  rw [List.getElem?_zipWith] at h
  by_cases hi : i < ds.length
  · rw [List.getElem?_range hi] at h
    rw [List.getElem?_eq_getElem hi] at h ⊢
    cases h
    exact ⟨_, rfl, rfl⟩
  · have e : ds[i]? = none := List.getElem?_eq_none (by omega)
    rw [e] at h
    split at h <;> simp_all
theorem enumD_len {ds : List D} : (enumD ds).length = ds.length := by unfold enumD; simp
theorem wk_enum {It0 : It} {Z1 : Addr → Prop} {H1 : Hp} {ds : List D} {chk : Hd → Prop} {S : Hp → List V → Prop}
    (hgo : ∀ i H, (∃ xs x, S H xs ∧ xs[i]? = some x) → It0.go i H) (hst : ∀ i H, (∃ xs : List V, S H xs ∧ xs.length ≤ i) → It0.stop i H) (hy : ∀ i H v H', It0.yld i H v H' → ∃ T x, v = .ref T ∧ H T = none ∧ H' = upd H T (.tup [.int (i : Nat), x]) ∧ ∀ xs, S H xs → xs[i]? = some x)
    (s : ∀ Z H h, Fr Z1 H1 Z H → RelH C Z H h → chk h → ∃ us, S H us ∧ Reps C Z H ds us) : WkOk RepP C It0 Z1 H1 (enumD ds) chk where
  go := fun Z H h i f R c hi => by
    obtain ⟨us, q, r1⟩ := s Z H h f R c
    rw [enumD_len] at hi
    have : i < us.length := by rw [r1.length]; exact hi
    exact hgo i H ⟨us, us[i], q, by simp [this]⟩
  yld := fun Z H h i x H' d f R c hd y => by
    obtain ⟨T, v, rfl, nT, rfl, yy⟩ := hy i H x H' y
    obtain ⟨us, q, r1⟩ := s Z _ h f R c
    obtain ⟨dx, e1, rfl⟩ := enumD_get hd
    obtain ⟨w, e2, r2⟩ := r1.get e1
    have := (yy us q).symm.trans e2
    cases this
    have f2 : Fr Z H Z (upd H T (.tup [.int (i : Nat), v])) := Fr.upd (R.new nT)
    exact ⟨f2, R.lay nT, T, [.int (i : Nat), v], _, rfl, rfl, .inl (.inl upd_same), _, _, rfl, rfl, v, [], rfl, r2.fr f2, rfl⟩
  stop := fun Z H h f R c => by
    obtain ⟨us, q, r1⟩ := s Z H h f R c
    exact hst _ H ⟨us, q, by rw [r1.length, enumD_len]; exact Nat.le_refl _⟩
theorem di_enum {elts : List Expr} {kk : Nat} {tpos p : Pos} (hx : XD C X) (hg : Gl X "enumerate") (hm : X.mg "enumerate" = none) (ha : PEd C A X a wa) (hs : starEach [a] X.env = [(false, eval a X.env)] := by rfl) : PId RepP C A X (.Tuple elts kk tpos) (.Call (.Name "enumerate" p) [a] [] pos) (iEnumD wa) := by
  refine PI.imp (pi_enumT hg hm (d_cons ha d_nil hs) hs) fun σ H R ⟨Z, ρ, h, Rd, RR, q, k⟩ => ⟨Z, ρ, h, _, RR, (show dCons wa dNil ρ h fun ds h1 => on1 ds fun x => enumK x h1 Rd from q), fun ds h1 vs Z1 H1 q1 f1 R1 r1 => ?_⟩
  obtain ⟨d, v, rfl, rfl, r, q1⟩ := rep_on1 r1 q1
  cases d with
  | tup ds =>
    obtain ⟨a, vs, rfl, sq, rs⟩ := r
    refine ⟨a, vs, rfl, .inr ⟨by rw [hx.K]; exact sq.t, k _ _ h1 Z1 H1 _ q1 f1 R1 trivial ?_⟩⟩
    rw [hx.K]
    exact wk_enum (S := fun H xs => SqT C.K H a xs) (fun i H z => z) (fun i H z => z) (fun i H v H' z => z) fun Z H h f R _ => ⟨vs, (f.sqN sq).t, rs.fr f⟩
  | fl ds =>
    obtain ⟨a, vs, rfl, sq, rs⟩ := r
    refine ⟨a, vs, rfl, .inl ⟨by rw [hx.K]; exact sq.l, k _ _ h1 Z1 H1 _ q1 f1 R1 trivial ?_⟩⟩
    rw [hx.K]
    exact wk_enum (S := fun H xs => SqL C.K H a xs) (fun i H z => z) (fun i H z => z) (fun i H v H' z => z) fun Z H h f R _ => ⟨vs, (f.lsZ sq).l, rs.fr f⟩
  | ref p =>
    unfold enumK at q1
    dsimp only at q1
    cases e1 : h1 p with
    | none => simp [e1] at q1
    | some ob =>
      cases ob with
      | ol ds =>
        simp only [e1] at q1
        obtain ⟨vs, sq, rs⟩ := own_rep R1 e1
        refine ⟨p, vs, r ▸ rfl, .inl ⟨.inl (.inl sq), k _ _ h1 Z1 H1 _ q1 f1 R1 e1 ?_⟩⟩
        rw [hx.K]
        refine wk_enum (S := fun H xs => SqL C.K H p xs) (fun i H z => z) (fun i H z => z) (fun i H v H' z => z) fun Z H h f R c => ?_
        obtain ⟨us, s2, r2⟩ := own_rep R c
        exact ⟨us, .inl (.inl s2), r2⟩
      | _ => simp [e1] at q1
  | _ => exact q1.elim
end
end DL
end
section
set_option Elab.async false
set_option linter.all false
set_option maxRecDepth 100000
set_option maxHeartbeats 4000000
/-! len(set(..)) of a tuple of texts, however many; lines of HandS.Strs, widened. -/
namespace DL
open PySem PySem.Spec PyProof.Rows
/-- how many different ones there are among the first i -/
def dcnt (xs : List Str) : Nat → Nat
  | 0 => 0
  | i + 1 => if (xs.take i).any (· == xs.getD i Str.empty) = true then dcnt xs i else dcnt xs i + 1
theorem dcnt_le (xs : List Str) : ∀ i, dcnt xs i ≤ i
  | 0 => Nat.le_refl _
  | i + 1 => by
    unfold dcnt
    have := dcnt_le xs i
    split <;> omega
section
variable {prog : Program} {w : World} {A : Around} {R : Result → Shared → Prop} {I : Addr} {fp wr : List Addr} {G : Array GenState → Array GenState → Prop} {n : Nat} {P : Nat → Value → Prop} {St : Nat → Shared → Prop}
theorem loopN (W : WalksS prog w A.in1 I fp wr G n P St) (S : Addr) (hSf : S ∉ fp) (xs : List Str) (hsz : xs.length = n) (hn1 : n + 1 < scanBound)
    (hval : ∀ i v, P i v → ∃ t, v = .str (xs.getD i Str.empty) t) :
    ∀ (k i : Nat) (s : Shared), n - i = k → i ≤ n → St i s →
      s.heap.SetOf (PySem.strKind prog w) S (fun k' => (xs.take i).any (· == k')) (dcnt xs i) →
      (∀ s', Moved (S :: wr) G s s' → s'.heap.SetOf (PySem.strKind prog w) S (fun k' => (xs.take n).any (· == k')) (dcnt xs n) → R (.ok (.ret .none)) s') →
      codeAny (model prog w) A (.builtin "set.update.loop" ⟨[.ref S, .ref I], []⟩) R s := by
  have hSw : S ∉ wr := fun h => hSf (W.sub _ h)
  have hsub : ∀ b ∈ wr, b ∈ S :: wr := fun b hb => List.mem_cons_of_mem _ hb
  intro k
  induction k with
  | zero =>
    intro i s hk hi hst hS hR
    have hin : i = n := by omega
    subst hin
    refine codeAny_builtin PyProof.Rows.F.entry_set_update_loop ?_
    rw [Around.under_plainId PyProof.Rows.F.plain_set_update_loop _]
    show wpAny _ A.in1 (pyNext (.ref I) >>= _) _ _ s
    refine wpAny_bind (W.done s _ _ hst fun s' hm => ?_)
    show wpAny _ A.in1 (ret Value.none) _ _ s'
    exact wpAny_pure (hR s' (hm.mono hsub) (by
      obtain ⟨o, es, ep, t, ho, rest⟩ := hS
      exact ⟨o, es, ep, t, hm.heap S _ hSw ho, rest⟩))
  | succ k ih =>
    intro i s hk hi hst hS hR
    have hlt : i < n := by omega
    refine codeAny_builtin PyProof.Rows.F.entry_set_update_loop ?_
    rw [Around.under_plainId PyProof.Rows.F.plain_set_update_loop _]
    show wpAny _ A.in1 (pyNext (.ref I) >>= _) _ _ s
    refine wpAny_bind (W.item i s _ _ hlt hst fun v s' hP hst' hm => ?_)
    obtain ⟨t, rfl⟩ := hval i v hP
    have hS' : s'.heap.SetOf (PySem.strKind prog w) S (fun k' => (xs.take i).any (· == k')) (dcnt xs i) := by
      obtain ⟨o, es, ep, tb, ho, rest⟩ := hS
      exact ⟨o, es, ep, tb, hm.heap S _ hSw ho, rest⟩
    show wpAny _ A.in1 (holding [Value.str (xs.getD i Str.empty) t] (setAdd S (.str (xs.getD i Str.empty) t)) >>= _) _ _ s'
    refine wpAny_bind (wpAny_holding ?_)
    unfold setAdd
    refine wpAny_holding ?_
    refine wpAny_bind ((PySem.strKind prog w).pyHash (k := xs.getD i Str.empty) (strKind_is _ _ _ _) ?_)
    refine wpAny_setAddHashed_of (knd := PySem.strKind prog w) (s := { s' with toks := s'.toks + 1 }) (strKind_is _ _ _ _) rfl hS' (by have := dcnt_le xs i; omega) fun h' hsb hS2 => ?_
    have hSi : h'.SetOf (PySem.strKind prog w) S (fun k' => (xs.take (i + 1)).any (· == k')) (dcnt xs (i + 1)) := by
      have hlx : i < xs.length := by omega
      have eg : xs.getD i Str.empty = xs[i] := by simp [hlx]
      refine SetOf_congr hS2 (fun k' => ?_) ?_
      · rw [List.take_succ, List.any_append, List.getElem?_eq_getElem hlx, eg]
        show ((xs.take i).any (· == k') || decide (k' = xs[i])) = ((xs.take i).any (· == k') || [xs[i]].any (· == k'))
        by_cases e : k' = xs[i]
        · subst e; simp
        · have hb : (xs[i] == k') = false := by simpa [beq_iff_eq] using (fun h' : xs[i] = k' => e h'.symm)
          simp [hb, e]
      · rfl
    refine wpAny_pure ⟨plainId_quiet PyProof.Rows.F.plain_set_update_loop _, ih (i + 1) _ (by omega) hlt (W.frame _ s' _ _ hst' (Nat.le_succ _) fun b hb o e => ?_) hSi fun s'' hm'' hS'' => ?_⟩
    · rw [hsb.2 b (fun h : b = S => hSf (by rw [← h]; exact hb))]; exact e
    · refine hR s'' (Moved.trans W.gtrans ((hm.mono hsub).then_heap (Nat.le_succ _) fun b o hb e => ?_) hm'') hS''
      rw [hsb.2 b (fun h : b = S => hb (by rw [h]; exact List.mem_cons_self))]; exact e
end
section
variable {prog : Program} {w : World} {A : Around} {E : Value → Shared → Prop} {s : Shared}
open SS (strs_at)
set_option maxHeartbeats 3200000 in
theorem call_set_tupleN {l : Addr} {items : Array Value} {xs : List Str} {Q : Value → Shared → Prop}
    (hh : A.handled = none) (hl : s.heap.IsTuple l items) (hi : PyProof.Rows.StrsAre items.toList xs) (hn1 : xs.length + 1 < scanBound)
    (h : ∀ (h' : Heap) (tk : Nat), h'.SetOf (PySem.strKind prog w) s.heap.objs.size (fun k' => (xs.take items.size).any (· == k')) (dcnt xs items.size) →
      (∀ b o, b < s.heap.objs.size → s.heap.get? b = some o → h'.get? b = some o) → Q (.ref s.heap.objs.size) { s with heap := h', toks := tk }) :
    wpAny (model prog w) A (call (.type "set") [.ref l]) Q E s := by
  obtain ⟨c, tl, hmro⟩ := PySem.F.called_set.mro
  have hmade := PySem.F.called_set.made
  have hsub := PySem.F.called_set.sub
  refine wpAny_call (codeAny_of_tree ?_)
  show wpAny _ _ (callAny (.type "set") _) _ _ _
  refine wpAny_pure ⟨Code.quiet_builtin _ (by decide +kernel), codeAny_builtin PySem.F.entry_type_call ?_⟩
  rw [Around.under_plain (weight_type_call_type "set" [.ref l] []) rfl]
  have h1 := PySem.F.called_set.notType
  have h2 := PySem.F.called_set.canCreate
  have hct := PySem.F.typeCall_set_1 (.ref l)
  repeat (any_goals (first | assumption | wp_step))

  refine codeAny_mono (code_set_new_1 (.ref l) (E := E) (Q₁ := fun obj s₁ => ∃ led : Bool, obj = .ref s.heap.objs.size ∧ s₁ = { s with heap := s.heap.push { cls := .type "set", dict := none, data := .set #[] 0 (.fresh 0 0 led) } }) fun led => ⟨led, rfl, rfl⟩) fun r s₁ hr => ?_
  cases r with
  | error e => exact hr
  | ok fl =>
    cases fl with
    | ret obj =>
      obtain ⟨led, rfl, rfl⟩ := hr
      have hS : (s.heap.push { cls := .type "set", dict := none, data := .set #[] 0 (.fresh 0 0 led) }).get? s.heap.objs.size = some { cls := .type "set", dict := none, data := .set #[] 0 (.fresh 0 0 led) } := Heap.get?_push_size _ rfl
      have hT : Shared.TypeIs { s with heap := s.heap.push { cls := .type "set", dict := none, data := .set #[] 0 (.fresh 0 0 led) } } (.ref s.heap.objs.size) "set" := ⟨_, hS, rfl⟩
      have hli := PySem.F.called_set.init.lookup
      have hbi := PySem.F.called_set.init.bind (.ref s.heap.objs.size)
      repeat (any_goals (first | assumption | wp_step))

      refine codeAny_mono (codeAny_call_builtin (R := wants (fun r s₂ => r = .none ∧ ∃ h' tk, s₂ = { s with heap := h', toks := tk } ∧
          h'.SetOf (PySem.strKind prog w) s.heap.objs.size (fun k' => (xs.take items.size).any (· == k')) (dcnt xs items.size) ∧
          (∀ b o, b < s.heap.objs.size → s.heap.get? b = some o → h'.get? b = some o)) E) PySem.F.called_set.init.plain PySem.F.entry_set_init (check_set_init_1 hT ?_)) fun r₂ s₂ hr₂ => ?_
      · obtain ⟨ol, hol, hcl, nl, hdl⟩ := hl
        obtain ⟨ocls, odict, odata, oslots⟩ := ol
        simp only at hcl hdl
        subst hcl; subst hdl
        have hol' : (s.heap.push { cls := .type "set", dict := none, data := .set #[] 0 (.fresh 0 0 led) }).get? l = some { cls := .type "tuple", dict := odict, data := .seq items nl, slots := oslots } := Heap.get?_push_of_some _ hol
        have hsls := PySem.F.sub_tuple_set
        have hslf := PySem.F.sub_tuple_frozenset
        have hne : (Value.type "tuple" == Value.type "dict") = false := by decide
        have hl1 : (s.heap.push { cls := .type "set", dict := none, data := .set #[] 0 (.fresh 0 0 led) }).IsTuple l items := ⟨_, hol', rfl, nl, rfl⟩
        unfold Builtin.«set.__init__» noKeywords Builtin.Frozenset.updateFrom
        generalize hPI : pyIter = PI
        wp_walk
        subst hPI

        refine wpAny_pyIter_tuple hl1 ?_
        refine wpAny_bind (wpAny_runValue ?_)
        have hlS : l < s.heap.objs.size := Heap.lt_size hol
        have hh3 : A.in1.in1.in1.handled = none := by simp [hh]
        have hneI : l ≠ (s.heap.push { cls := .type "set", dict := none, data := .set #[] 0 (.fresh 0 0 led) }).objs.size := by
          rw [Heap.size_push]; exact Nat.ne_of_lt (Nat.lt_succ_of_lt hlS)
        have hSf : s.heap.objs.size ∉ [(s.heap.push { cls := .type "set", dict := none, data := .set #[] 0 (.fresh 0 0 led) }).objs.size, l] := by
          rw [Heap.size_push]; simp only [List.mem_cons, List.mem_singleton, List.not_mem_nil, or_false, not_or]
          exact ⟨Nat.ne_of_lt (Nat.lt_succ_self _), Nat.ne_of_gt hlS⟩
        have hsz : xs.length = items.size := by rw [← StrsAre.len_eq hi, Array.length_toList]
        have hval : ∀ (i : Nat) (v : Value), items[i]? = some v → ∃ t, v = .str (xs.getD i Str.empty) t := fun i v hv => strs_at hi i v (by rw [Array.getElem?_toList]; exact hv)
        refine loopN ((Walks.tuple hh3 _ l hneI items).toS) s.heap.objs.size
          hSf xs hsz (by rw [← hsz]; exact hn1) hval (items.size - 0) 0 _ (by omega) (Nat.zero_le _)
          ⟨⟨_, Heap.get?_push_size _ rfl, rfl, rfl⟩, (hl1.push _)⟩ ?hS0 ?hR
        case hS0 =>
          have hget : ((s.heap.push { cls := .type "set", dict := none, data := .set #[] 0 (.fresh 0 0 led) }).push { cls := .type "tuple_iterator", data := .fields #[.ref l, .int 0 0] }).get? s.heap.objs.size
              = some { cls := .type "set", dict := none, data := .set #[] 0 (.fresh 0 0 led) } := Heap.get?_push_of_some _ hS
          exact PyProof.Rows.SetOf_congr ((PyProof.Rows.setObjOf_fresh (knd := PySem.strKind prog w) led).setOf hget (by unfold scanBound; omega)) (fun _ => rfl) rfl
        case hR =>
          intro s' hm hS'
          obtain ⟨h', g', d', tk', os'⟩ := s'
          have eg : g' = s.gens := hm.gens
          have ed : d' = s.drawn := hm.drawn
          have eo : os' = s.os := hm.os
          subst eg; subst ed; subst eo
          show wpAny _ _ _ _ _ _
          refine wpAny_pure ?_
          show wpAny _ _ (ret Value.none) _ _ _
          refine wpAny_pure ⟨rfl, h', tk', rfl, hS', fun b o hb e => ?_⟩
          have hb1 : b ≠ s.heap.objs.size := Nat.ne_of_lt hb
          have hb2 : b ≠ (s.heap.push { cls := .type "set", dict := none, data := .set #[] 0 (.fresh 0 0 led) }).objs.size := by
            rw [Heap.size_push]; exact Nat.ne_of_lt (Nat.lt_succ_of_lt hb)
          exact hm.heap b o (by simp only [List.mem_cons, List.mem_singleton, List.not_mem_nil, or_false, not_or]; exact ⟨hb1, hb2⟩) (Heap.get?_push_of_some _ (Heap.get?_push_of_some _ e))

      · cases r₂ with
        | error e => exact hr₂
        | ok fl₂ =>
          cases fl₂ with
          | ret r =>
            obtain ⟨rfl, h', tk, rfl, hS', hk'⟩ := hr₂
            repeat (any_goals (first | assumption | wp_step))
            exact h _ _ hS' hk'
          | _ => exact hr₂.elim
    | _ => exact hr.elim

end
end DL
end
section
set_option Elab.async false
set_option linter.all false
set_option maxRecDepth 100000
set_option maxHeartbeats 4000000
open PySem PySem.Spec L2
namespace DL
section
variable {C : Ctx} {A : Anc} {X : Cx} {a : Expr} {pos : Pos} {wa : DE}
/-- len(set(xs)), xs a tuple of texts -/
def dLenSet (wa : DE) : DE := fun ρ h Q => wa ρ h fun d h1 => ∃ xs : List Str, d = .tup (xs.map .str) ∧ xs.length < 4000 ∧ Q (.int (dcnt xs xs.length)) h1
open PyProof.Rows in
theorem d_lenSet {p p2 q : Pos} (hx : XD C X) (hc : X.calm = true) (hg : Gl X "len") (hm : X.mg "len" = none) (hg2 : Gl X "set") (hm2 : X.mg "set" = none) (ha : PEd C A X a wa)
    (na : starEach [a] X.env = (false, eval a X.env) :: starEach [] X.env := by rfl) : PEd C A X (.Call (.Name "len" p) [.Call (.Name "set" p2) [a] [] q] [] pos) (dLenSet wa) := by
  refine ⟨fun pins s σ H Q I ⟨Z, ρ, h, Qd, R, q, k⟩ => ?_⟩
  refine Call_ (ld_blt I hg hm boot_len ?_)
  refine PyProof.Rows.callWith_builtin1 (PyProof.Rows.args_cons ?_ rfl) rfl rfl
  refine Call_ (ld_blt I hg2 hm2 boot_set ?_)
  refine PyProof.Rows.callWith_type1 (PyProof.Rows.args_cons (thn (run_d ha I R q) fun v s1 ⟨x, H1, I1, r1, Z1, h1, d, f1, R1, rx, xs, ed, hl, q1⟩ => PyProof.Rows.args_nil ?_) na) na rfl
  subst ed
  obtain ⟨l, vs, rfl, hq, rv⟩ := rx
  obtain rfl := reps_strs rv
  cases r1
  have hq : SqT X.K H1 l (xs.map V.str) := hx.K ▸ hq.t
  obtain ⟨its, r, pl, hz⟩ := I1.tuple hq
  refine call_set_tupleN (I1.ok.hd hc) pl (by simpa using strsAre_of r) (by unfold scanBound; omega) fun h' tk hS hk => ?_
  refine PyProof.Rows.args_nil ?_
  have hl2 : its.toArray.size = xs.length := by rw [List.size_toArray, ← r.length, List.length_map]
  rw [hl2] at hS
  obtain ⟨o, es, ep, t, ho, hex, hd, _, _, _, hf, hn⟩ := hS
  have I2 : Inv X pins σ H1 { s1 with heap := h', toks := tk } := I1.kept fun b o e => hk b o (Heap.lt_size e) e
  refine call_len_set ho hex hd hf (by rw [hn]; have := dcnt_le xs xs.length; omega) ⟨.int (dcnt xs xs.length), H1, I2.tok _, ⟨_, by rw [hn]⟩, k _ h1 _ Z1 H1 q1 f1 R1 rfl⟩
end
end DL
end
section
set_option Elab.async false
set_option linter.all false
set_option maxRecDepth 100000
set_option maxHeartbeats 4000000
open PySem PySem.Spec L2
namespace DL
section
variable {C : Ctx} {A : Anc} {X : Cx} {a e tg : Expr} {pos : Pos} {wa : DE}
/-- a dict of d, and how it stands while it is walked -/
def kvsOf (h : Hd) : D → Option (List (D × D) × Hd)
  | .fd kvs => some (kvs, h)
  | .ref p => match h p with
    | some (.od kvs) => some (kvs, hup h p (.odl kvs))
    | some (.odl kvs) => some (kvs, h)
    | _ => none
  | _ => none
def lockP (d : D) (kvs : List (D × D)) (h : Hd) : Prop := match d with
  | .ref p => h p = some (.odl kvs)
  | _ => True
theorem fr_lock {Z : Addr → Prop} {H : Hp} {p : Addr} {kvs : List (Key × V)} {o : Obj} (e : H p = some (.dK kvs)) : Fr Z H Z (upd H p (.frz o (.dK kvs))) := by
  have ne : ∀ b w, H b = some w → w ≠ .dK kvs → b ≠ p := fun b w eb nw z => by
    subst z
    rw [e] at eb
    exact nw (Option.some.inj eb).symm
  refine ⟨fun _ h => h, fun b w _ r => ?_, fun b c dx fs _ r => by rw [upd_ne (ne b _ r fun z => (nomatch z))]; exact r, fun b fs _ r => by rw [upd_ne (ne b _ r fun z => (nomatch z))]; exact r, fun b φ _ r => by rw [upd_ne (ne b _ r fun z => (nomatch z))]; exact r, fun b ob vs r => by rw [upd_ne (ne b _ r fun z => (nomatch z))]; exact r⟩
  by_cases hb : b = p
  · subst hb
    rcases r with r | ⟨ob, r⟩
    · rw [e] at r
      cases r
      exact .inr ⟨o, upd_same⟩
    · rw [e] at r
      cases r
  · exact DL.Rd.upd_ne hb r
/-- the dict locked for a walk: nothing is done but in the telling -/
theorem lock_d {pins : List (Addr × Obj)} {σ : St} {H : Hp} {s : Shared} {Z : Addr → Prop} {h h' : Hd} {d : D} {v : V} {kvs : List (D × D)} (I : Inv X pins σ H s) (R : RelH C Z H h) (r : Rep C Z H d v) (e : kvsOf h d = some (kvs, h')) :
    ∃ (p : Addr) (o : Obj) (kvv : List (Key × V)) (H' : Hp), v = .ref p ∧ H' p = some (.frz o (.dK kvv)) ∧ Inv X pins σ H' s ∧ Fr Z H Z H' ∧ RelH C Z H' h' ∧ RepKs C Z H' kvs kvv := by
  have frzn : ∀ p kvv, Z p → H p = some (.dK kvv) → RepKs C Z H kvs kvv → ∀ o, RelH C Z (upd H p (.frz o (.dK kvv))) h ∧ RepKs C Z (upd H p (.frz o (.dK kvv))) kvs kvv := fun p kvv zp ep rk o => by
    have f : Fr Z H Z (upd H p (.frz o (.dK kvv))) := fr_lock ep
    refine ⟨⟨fun b ob eb => ?_, fun b zb => ?_, fun q hq => ?_⟩, rk.fr f⟩
    · obtain ⟨nz, ro⟩ := R.obj b ob eb
      exact ⟨nz, ro.fr f fun u eu => by rw [upd_ne (show b ≠ p from fun z => nz (z ▸ zp))]; exact eu⟩
    · by_cases hb : b = p
      · subst hb; rw [upd_same]; exact ⟨fun z => (nomatch z), fun _ z => (nomatch z)⟩
      · rw [upd_ne hb]; exact R.zin b zb
    · obtain ⟨ps, e1, e2, e3⟩ := R.tab q hq
      refine ⟨ps, by rw [upd_ne (show q.1 ≠ p from fun z => by rw [z, ep] at e1; cases e1)]; exact e1, e2, fun pos cv hc => ?_⟩
      obtain ⟨c, e4, e5⟩ := e3 pos cv hc
      exact ⟨c, e4, by rw [upd_ne (show c ≠ p from fun z => by rw [z, ep] at e5; cases e5)]; exact e5⟩
  unfold kvsOf at e
  cases d with
  | fd k0 =>
    simp only [Option.some.injEq, Prod.mk.injEq] at e
    obtain ⟨rfl, rfl⟩ := e
    obtain ⟨p, kvv, rfl, zp, rd, rk⟩ := r
    rcases rd with ep | ⟨o, ep⟩
    · obtain ⟨o, I1⟩ := I.lock ep trivial
      obtain ⟨R1, r1⟩ := frzn p kvv zp ep rk o
      exact ⟨p, o, kvv, _, rfl, upd_same, I1, fr_lock ep, R1, r1⟩
    · exact ⟨p, o, kvv, H, rfl, ep, I, Fr.refl, R, rk⟩
  | ref p =>
    dsimp only at e
    cases q : h p with
    | none => simp [q] at e
    | some ob =>
      have ro := own_rep R q
      cases ob with
      | od k0 =>
        simp only [q, Option.some.injEq, Prod.mk.injEq] at e
        obtain ⟨rfl, rfl⟩ := e
        obtain ⟨kvv, ep, rk⟩ := ro
        obtain ⟨o, I1⟩ := I.lock ep trivial
        have f : Fr Z H Z (upd H p (.frz o (.dK kvv))) := fr_lock ep
        have R1 : RelH C Z (upd H p (.frz o (.dK kvv))) (hup h p (.odl k0)) := R.wr q (fun _ z => (nomatch z)) ⟨kvv, .inr ⟨o, upd_same⟩, rk.fr f⟩
        exact ⟨p, o, kvv, _, r, upd_same, I1, f, R1, rk.fr f⟩
      | odl k0 =>
        simp only [q, Option.some.injEq, Prod.mk.injEq] at e
        obtain ⟨rfl, rfl⟩ := e
        obtain ⟨kvv, rd, rk⟩ := ro
        rcases rd with ep | ⟨o, ep⟩
        · obtain ⟨o, I1⟩ := I.lock ep trivial
          have f : Fr Z H Z (upd H p (.frz o (.dK kvv))) := fr_lock ep
          have z : RepO C Z (upd H p (.frz o (.dK kvv))) p (.odl k0) := ⟨kvv, .inr ⟨o, upd_same⟩, rk.fr f⟩
          have nz := (R.obj p _ q).1
          have R1 := R.put (a := p) (u := .frz o (.dK kvv)) (o := .odl k0) ⟨nz, fun ob u z => by rw [ep] at z; cases z⟩ (fun ps z => by rw [ep] at z; cases z) (fun φ z => by rw [ep] at z; cases z) z
          rw [hup_eta q] at R1
          exact ⟨p, o, kvv, _, r, upd_same, I1, f, R1, rk.fr f⟩
        · exact ⟨p, o, kvv, H, r, ep, I, Fr.refl, R, rk⟩
      | _ => simp [q] at e
  | _ => cases e
theorem repKs_get {Z : Addr → Prop} {H : Hp} : ∀ {kvs : List (D × D)} {kvv : List (Key × V)}, RepKs C Z H kvs kvv → ∀ {i : Nat} {p : D × D}, kvs[i]? = some p → ∃ k v, kvv[i]? = some (k, v) ∧ Rep C Z H p.1 (kV k) ∧ Rep C Z H p.2 v
  | [], _, r, i, p, e => by cases e
  | q :: kvs, kvv, ⟨k, v, vr, e, r1, r2, rr⟩, 0, p, e2 => by cases e2; subst e; exact ⟨k, v, rfl, r1, r2⟩
  | q :: kvs, kvv, ⟨k, v, vr, e, r1, r2, rr⟩, i + 1, p, e2 => by subst e; exact repKs_get rr (i := i) e2
theorem repKs_len {Z : Addr → Prop} {H : Hp} : ∀ {kvs : List (D × D)} {kvv : List (Key × V)}, RepKs C Z H kvs kvv → kvv.length = kvs.length
  | [], _, r => by rw [show _ = [] from r]; rfl
  | q :: kvs, kvv, ⟨k, v, vr, e, r1, r2, rr⟩ => by subst e; simp [repKs_len rr]
theorem wk_keys {Z1 : Addr → Prop} {H1 : Hp} {p : Addr} {o : Obj} {kvs : List (D × D)} {kvv : List (Key × V)} {chk : Hd → Prop} (ep : H1 p = some (.frz o (.dK kvv))) (rk : RepKs C Z1 H1 kvs kvv) : WkOk Rep C (Itk p o kvv) Z1 H1 (kvs.map (·.1)) chk where
  go := fun Z H h i f R c hi => ⟨f.frz p o _ ep, by rw [repKs_len rk]; simpa using hi⟩
  yld := fun Z H h i x H' d f R c hd y => by
    obtain ⟨rfl, k, v, e1, rfl⟩ := y
    rw [List.getElem?_map] at hd
    cases q : kvs[i]? with
    | none => rw [q] at hd; cases hd
    | some pr =>
      rw [q] at hd
      cases hd
      obtain ⟨k', v', e2, r1, r2⟩ := repKs_get rk q
      have := e1.symm.trans e2
      cases this
      exact ⟨Fr.refl, R, r1.fr f⟩
  stop := fun Z H h f R c => ⟨f.frz p o _ ep, by rw [repKs_len rk]; simp⟩
def pairD (p : D × D) : D := .tup [p.1, p.2]
theorem wk_items {Z1 : Addr → Prop} {H1 : Hp} {p : Addr} {o : Obj} {kvs : List (D × D)} {kvv : List (Key × V)} {chk : Hd → Prop} (ep : H1 p = some (.frz o (.dK kvv))) (rk : RepKs C Z1 H1 kvs kvv) : WkOk RepP C (Iti p o kvv) Z1 H1 (kvs.map pairD) chk where
  go := fun Z H h i f R c hi => ⟨f.frz p o _ ep, by rw [repKs_len rk]; simpa using hi⟩
  yld := fun Z H h i x H' d f R c hd y => by
    obtain ⟨T, k, v, e1, rfl, nT, rfl⟩ := y
    rw [List.getElem?_map] at hd
    cases q : kvs[i]? with
    | none => rw [q] at hd; cases hd
    | some pr =>
      rw [q] at hd
      cases hd
      obtain ⟨k', v', e2, r1, r2⟩ := repKs_get rk q
      have := e1.symm.trans e2
      cases this
      have f2 : Fr Z H Z (upd H T (.tup [kV k, v])) := Fr.upd (R.new nT)
      exact ⟨f2, R.lay nT, T, [kV k, v], _, rfl, rfl, .inl (.inl upd_same), _, _, rfl, r1.fr (f.trans f2), v, [], rfl, r2.fr (f.trans f2), rfl⟩
  stop := fun Z H h f R c => ⟨f.frz p o _ ep, by rw [repKs_len rk]; simp⟩
/-- a list, a tuple, a text, a dict by its keys -/
def iAny (a : DE) : DI := fun ρ h R => a ρ h fun x h1 => match kvsOf h1 x with
  | some (kvs, h2) => R (kvs.map (·.1)) (fun _ => True) h2
  | none => iSeq (dC x) ρ h1 R
def iItems (a : DE) : DI := fun ρ h R => a ρ h fun x h1 => onO (kvsOf h1 x) fun kh => R (kh.1.map pairD) (fun _ => True) kh.2
open PyProof.Rows in
theorem di_any (hx : XD C X) (he : PEd C A X e wa) : PId Rep C A X tg e (iAny wa) := by
  refine ⟨fun pins s σ H R I ⟨Z, ρ, h, Rd, RR, q, k⟩ => ?_⟩
  refine thn (run_d he I RR q) fun v s1 ⟨x, H1, I1, r1, Z1, h1, d, f1, R1, rx, q1⟩ => ?_
  cases kv : kvsOf h1 d with
  | none =>
    simp only [kv] at q1
    exact di_val (ρ := ρ) (d := d) (h1 := h1) (Rd := Rd) hx I1 R1 r1 rx q1 fun ds chk h' Z' H' J q f RR c w => k ds chk h' Z' H' J q (f1.trans f) RR c w
  | some kh =>
    obtain ⟨kvs, h2⟩ := kh
    simp only [kv] at q1
    obtain ⟨p, o, kvv, H2, rfl, ep, I2, f2, R2, rk⟩ := lock_d I1 R1 rx kv
    obtain rfl : v = Value.ref p := r1
    have q2 : R (Itk p o kvv) H2 := k _ _ h2 Z1 H2 _ q1 (f1.trans f2) R2 trivial (wk_keys ep rk)
    obtain ⟨hs, hgd, hx, es, ep', vs, hdt, hsz, kv', hm⟩ := I2.frzK ep
    refine iter_keys hs hgd hx hdt (pi_one (tk := s1.toks) I2 _ (turn_keys _ hdt) ⟨_, Heap.get?_push_size _ rfl, rfl, ?_⟩ q2)
    rw [hsz] <;> rfl
open PyProof.Rows in
theorem di_items {elts : List Expr} {kk : Nat} {tpos apos cpos : Pos} (he : PEd C A X e wa) (hbase : attributeBase e "items" X.env (eval e X.env) = eval e X.env := by rfl) (hline : (apos.endLine == cpos.line) = true := by rfl) :
    PId RepP C A X (.Tuple elts kk tpos) (.Call (.Attribute e "items" apos) [] [] cpos) (iItems wa) := by
  refine ⟨fun pins s σ H R I ⟨Z, ρ, h, Rd, RR, q, k⟩ => ?_⟩
  refine wpAny_Call_method (T := "dict") (id := "dict.items") hbase rfl hline F.plainAttrs_dict F.slot_dict_items F.type_dict_items (thn (run_d he I RR q) fun u s1 ⟨x, H1, I1, r1, Z1, h1, d, f1, R1, rx, q1⟩ => ?_)
  obtain ⟨⟨kvs, h2⟩, kv, q1⟩ := onO_some q1
  obtain ⟨p, o, kvv, H2, rfl, ep, I2, f2, R2, rk⟩ := lock_d I1 R1 rx kv
  obtain rfl : u = Value.ref p := r1
  have q2 : R (Iti p o kvv) H2 := k _ _ h2 Z1 H2 _ q1 (f1.trans f2) R2 trivial (wk_items ep rk)
  obtain ⟨hs, hgd, hx, es, ep', vs, hdt, hsz, kv', hm⟩ := I2.frzK ep
  have hl : kvv.length = vs.length := Paired.length kv'
  refine ⟨hm.dictOf.typeIs, hm.dictOf.mapOf.noDict, ?_⟩
  have I3 : Inv X pins σ H2 { s1 with heap := s1.heap.push { cls := .type "dict_items", data := .fields #[.ref p] } } := I2.kept (t' := s1.toks) fun b ob q => Heap.get?_push_of_some _ q
  have fin : wpAny (model X.prog X.w) X.A (pyIter (.ref s1.heap.objs.size)) (PIE X pins σ (.Tuple elts kk tpos) R) X.xe { s1 with heap := s1.heap.push { cls := .type "dict_items", data := .fields #[.ref p] } } := by
    refine wpAny_pyIter_items (d := p) (knd := mixKind X.prog X.w) ⟨_, Heap.get?_push_size _ rfl, rfl, rfl⟩ (hm.push _) (pi_one (tk := s1.toks) I3 _ (turn_items _ hdt) ⟨.none, .none, ?_⟩ q2)
    rw [hl]
    exact Heap.get?_push_size _ rfl
  show wpAny _ _ (callWith cpos (.builtin "dict.items") [.ref p] [] []) _ X.xe s1
  exact method_meetsIn F.slot_dict_items F.entry_dict_items rfl (PySem.evalArgs_none ⟨rfl, hm.dictOf.typeIs, F.args_dict_items_1 _, _, meets_dict_items (mixKind X.prog X.w) p hs, ⟨vs, hm.dictOf⟩, fin⟩)
end
end DL
end
section
set_option Elab.async false
set_option linter.all false
set_option maxRecDepth 100000
set_option maxHeartbeats 4000000
/-! {**d, k: v}: the merge of a dict into a dict of the display; after PyProof.DictUpdate's way. -/
namespace DL
open PySem PySem.Spec PyProof.Rows
section
variable {prog : Program} {w : World} {K : Type} [DecidableEq K] {knd : PySem.KeyKind prog w K} {A : Around} {E : Value → Shared → Prop} {s : Shared}
theorem dictPut_pairs {d : Addr} {kvs : List (K × Value)} {k : K} {key v : Value} {Q : Unit → Shared → Prop} (hkey : knd.is k key = true) (hm : s.heap.DictOf knd d kvs)
    (hQ : ∀ h', h'.DictOf knd d (stored kvs k v) → Heap.SameBut d s.heap h' → Q () { s with heap := h' })
    (hsz : kvs.length ≤ sizeLine) :
    wpAny (model prog w) A (dictPut d (knd.hash k) key v) Q E s := by
  obtain ⟨o, es, ep, ho, hc, hd, hk, hp, hn⟩ := hm
  have hes : es.size ≤ sizeLine := by have e1 := hp.length; have e2 : es.toList.length = es.size := by simp
                                      omega
  unfold dictPut
  refine wpAny_bind (wpAny_dictFind_of hkey ho hd hk ?_)
  have hidx : (es.findIdx? fun e => knd.is k e.key) = kvs.findIdx? fun kv => decide (kv.1 = k) := by
    rw [← hp.findIdx k]; obtain ⟨l⟩ := es; simp
  cases hi : es.findIdx? fun e => knd.is k e.key with
  | some i =>
    refine wpAny_updateDict ho hd (hQ _ ⟨_, _, ep, Heap.get?_update_self _ ho (Obj.isFreed_of_dict (Obj.data_mapDict hd _)),
      hc.mapDict _, Obj.data_mapDict hd _, hk.modify _ _, ?_, ?_⟩ (Heap.SameBut.update ..))
    · rw [stored, if_pos (any_of_findIdx_some (hidx ▸ hi))]
      have hl : (es.toList.findIdx? fun e => knd.is k e.key) = some i := by rw [← hi]; obtain ⟨l⟩ := es; simp
      have := hp.modify hn hl v
      obtain ⟨l⟩ := es
      simpa using this
    · rw [stored, if_pos (any_of_findIdx_some (hidx ▸ hi)), keys_map_store]; exact hn
  | none =>
    have hnot : k ∉ kvs.map (·.1) := not_mem_of_findIdx_none (hidx ▸ hi)
    have hany : ¬ (kvs.any fun kv => decide (kv.1 = k)) = true := by
      rw [List.any_eq_true]; rintro ⟨kv, hkv, he⟩
      exact hnot (List.mem_map.mpr ⟨kv, hkv, of_decide_eq_true he⟩)
    refine wpAny_updateDictKeys (hz := hes) ho hd (hQ _ ⟨_, _, ep + 1, Heap.get?_update_self _ ho (Obj.isFreed_of_dict (Obj.data_mapDictKeys hd _)),
      hc.mapDictKeys _, Obj.data_mapDictKeys hd _, hk.push hkey _, ?_, ?_⟩ (Heap.SameBut.update ..))
    · rw [stored, if_neg hany]
      have := hp.append hkey (knd.hash k) v
      obtain ⟨l⟩ := es
      simpa using this
    · rw [stored, if_neg hany, List.map_append, List.nodup_append]
      refine ⟨hn, by simp, ?_⟩
      intro a ha b hb
      simp only [List.map_cons, List.map_nil, List.mem_singleton] at hb
      subst hb
      exact fun e => hnot (e ▸ ha)
theorem notRef {k : K} {v : Value} (h : knd.is k v = true) : ∀ a, v ≠ .ref a := fun a e => by
  subst e
  have := knd.byValue k _ h
  simp [carriedByValue] at this
theorem merge_map {d o : Addr} {kvs more : List (K × Value)} {Q : Unit → Shared → Prop} (hdo : d ≠ o) (hoS : (o == sysModules) = false)
    (hd : s.heap.DictOf knd d kvs) (ho : s.heap.DictOf knd o more)
    (hQ : ∀ h', h'.DictOf knd d (merged kvs more) → h'.DictOf knd o more → Heap.SameBut d s.heap h' → Q () { s with heap := h' })
    (hsz : kvs.length + more.length ≤ sizeLine) :
    wpAny (model prog w) A (mergeMapping d (.ref o) false) Q E s := by
  obtain ⟨od, esd, epd, hod, hcd, hdd, hkd, hpd, hnd⟩ := id hd
  obtain ⟨oo, eso, epo, hoo, hco, hdo', hko, hpo, hno⟩ := id ho
  have hlen : more.length = eso.size := by rw [← hpo.length]; simp
  have hT : s.TypeIs (.ref o) "dict" := ⟨oo, hoo, hco.1⟩
  unfold mergeMapping
  refine wpAny_bind (wpAny_isInstance (T := "dict") (b := true) hT (by rw [isSubtype_type]; kernel_rfl) ?_)
  dsimp only
  rw [if_pos rfl]
  refine wpAny_bind (wpAny_specialOf (T := "dict") hT (r := some (.builtin "dict.__iter__")) (by rw [typeLookup_type, builtinLookup_eq_fast]; kernel_rfl) ?_)
  have hs0 : (some (Value.builtin "dict.__iter__") == some (Value.builtin "dict.__iter__")) = true := by decide
  rw [hs0]
  refine wpAny_bind (wpAny_pure ?_)
  dsimp only
  rw [if_neg (by rw [hoS]; exact Bool.false_ne_true)]
  simp only [Bool.false_eq_true, if_false]
  refine wpAny_bind (wpAny_dictEntries hod hdd ?_)
  have loop : wpAny (model prog w) A (do
      let __do_lift ← dictEntries o
      have size : Nat := __do_lift.size
      let epoch ← dictEpoch o
      forIn (List.range size) PUnit.unit fun i (__s : PUnit) => (do
          let __do_lift ← dictEntries o
          match __do_lift[i]? with
            | some e => do
              holding [e.key, e.val] (dictPut d e.hash e.key e.val)
              let __do_lift ← dictEpoch o
              if (__do_lift != epoch) = true then do
                  (unsupported "dict.changed-during-merge" : Sem PUnit)
                  pure (ForInStep.yield PUnit.unit)
                else pure (ForInStep.yield PUnit.unit)
            | x => do
              (unsupported "dict.changed-during-merge" : Sem PUnit)
              pure (ForInStep.yield PUnit.unit) : Sem (ForInStep PUnit))
      pure ()) Q E s := by
    refine wpAny_bind (wpAny_dictEntries hoo hdo' ?_)
    refine wpAny_bind (wpAny_dictEpoch hoo hdo' ?_)
    refine wpAny_bind ?_
    refine wpAny_forIn_list _
      (fun rest _ s' => ∃ h' i, s' = { s with heap := h' } ∧ rest = List.range' i (eso.size - i) ∧ i ≤ eso.size ∧ h'.DictOf knd d (merged kvs (more.take i)) ∧ h'.get? o = some oo ∧ Heap.SameBut d s.heap h')
      _ ?_ ?_ _ _ ⟨s.heap, 0, rfl, by simp [List.range_eq_range'], Nat.zero_le _, by simpa [merged] using hd, hoo, Heap.SameBut.refl _ _⟩
    · rintro x rest b s' ⟨h', i, rfl, hr, hi, hd', hoo', hs'⟩
      have hlt : i < eso.size := by
        rcases Nat.lt_or_ge i eso.size with h | h
        · exact h
        · rw [Nat.sub_eq_zero_of_le h] at hr; simp at hr
      obtain ⟨rfl, hrest⟩ : x = i ∧ rest = List.range' (i + 1) (eso.size - (i + 1)) := by
        have e : eso.size - i = (eso.size - (i + 1)) + 1 := by omega
        rw [e, List.range'_succ] at hr
        injection hr with h1 h2
        exact ⟨h1, h2⟩
      refine wpAny_bind (wpAny_dictEntries hoo' hdo' ?_)
      rw [Array.getElem?_eq_getElem hlt]
      obtain ⟨kv, hkv⟩ : ∃ kv, more[x]? = some kv := ⟨more[x]'(by rw [hlen]; exact hlt), List.getElem?_eq_getElem _⟩
      obtain ⟨k, v⟩ := kv
      obtain ⟨hkey, hval⟩ := hpo.get? (e := eso[x]) (by simp [hlt]) hkv
      obtain ⟨k', hkey', hhash⟩ := hko eso[x] (Array.getElem_mem hlt)
      obtain rfl : k' = k := knd.inj _ _ _ hkey' hkey
      dsimp only
      rw [hhash, hval]
      have hmx : (merged kvs (more.take x)).length ≤ sizeLine := by
        have e1 := merged_length_le kvs (more.take x)
        have e2 : (more.take x).length ≤ more.length := by rw [List.length_take]; omega
        omega
      refine wpAny_bind (wpAny_holding (dictPut_pairs hkey hd' (fun h'' hd'' hs'' => ?_) hmx))
      have hoo'' : h''.get? o = some oo := (hs''.2 o (Ne.symm hdo)).trans hoo'
      refine wpAny_bind (wpAny_dictEpoch hoo'' hdo' ?_)
      rw [if_neg (by simp)]
      exact wpAny_pure ⟨h'', x + 1, rfl, hrest, hlt, by rw [merged_take_succ kvs more x (k', v) hkv]; exact hd'', hoo'', hs'.trans hs''⟩
    · rintro b s' ⟨h', i, rfl, hr, hi, hd', hoo', hs'⟩
      have hin : i = eso.size := by
        rcases Nat.lt_or_ge i eso.size with h | h
        · have e : eso.size - i = (eso.size - (i + 1)) + 1 := by omega
          rw [e, List.range'_succ] at hr; exact nomatch hr
        · exact Nat.le_antisymm hi h
      refine wpAny_pure (hQ h' ?_ ⟨oo, eso, epo, hoo', hco, hdo', hko, hpo, hno⟩ hs')
      rw [hin, ← hlen, List.take_length] at hd'; exact hd'
  split
  · refine wpAny_bind (wpAny_dictEntries hoo hdo' ?_)
    refine wpAny_bind ?_
    rw [← Array.forIn_toList]
    refine wpAny_forIn_list _ (fun rest _ s' => s' = s ∧ ∀ e ∈ rest, e ∈ eso) _ ?_ ?_ _ _ ⟨rfl, fun e he => by simpa using he⟩
    · rintro e rest b s' ⟨rfl, hm⟩
      obtain ⟨k, hk, _⟩ := hko e (hm e (List.mem_cons_self ..))
      have nr := notRef hk
      split
      · rename_i a ea
        exact absurd ea (nr a)
      · exact wpAny_pure ⟨rfl, fun e he => hm e (List.mem_cons_of_mem _ he)⟩
    · rintro b s' ⟨rfl, _⟩
      exact loop
  · exact loop
end
end DL
end
section
set_option Elab.async false
set_option linter.all false
set_option maxRecDepth 100000
set_option maxHeartbeats 4000000
open PySem PySem.Spec L2
namespace DL
section
variable {C : Ctx} {A : Anc} {X : Cx} {a e kx vx : Expr} {pos : Pos} {wa wk wv : DE}
/-- {} -/
def dDict0 : DE := fun _ h Q => ∀ p, h p = none → Q (.ref p) (hup h p (.od []))
theorem d_dict0 : PEd C A X (.Dict [] [] pos) dDict0 := PE.imp pe_dnewK fun σ H Q ⟨Z, ρ, h, Qd, R, q, k⟩ => fun p np =>
  k (.ref p) _ (.ref p) Z _ (q p (R.toRelH.none np)) (Fr.upd (R.toRelH.new np)) (R.toRelH.mkDic np rfl) rfl
/-- {k: v} -/
def dDict1 (wk wv : DE) : DE := fun ρ h Q => ∀ p, h p = none → wk ρ (hup h p (.od [])) fun kd h2 => wv ρ h2 fun vd h3 => h3 p = some (.od []) ∧ onO (keyD kd) fun _ => Q (.ref p) (hup h3 p (.od [(kd, vd)]))
theorem hup_owned {Z : Addr → Prop} {H : Hp} {h : Hd} (R : RelH C Z H h) {p : Addr} {kvs kvs' : List (D × D)} {kvv : List (Key × V)} (e : h p = some (.od kvs)) (r : RepKs C Z H kvs' kvv) : Fr Z H Z (upd H p (.dK kvv)) ∧ RelH C Z (upd H p (.dK kvv)) (hup h p (.od kvs')) :=
  ⟨R.wrFr e fun _ z => (nomatch z), R.wr e (fun _ z => (nomatch z)) ⟨_, upd_same, r.fr (R.wrFr e fun _ z => (nomatch z))⟩⟩
theorem d_dict1 (hk : PEd C A X kx wk) (hv : PEd C A X vx wv) : PEd C A X (.Dict [some kx] [vx] pos) (dDict1 wk wv) := by
  refine PE.imp (pe_disp (trs := [(UpE C A wk, UpE C A wv)]) (pps_cons hk hv pps_nil) rfl rfl (by simp) (by simp)) fun σ H Q ⟨Z, ρ, h, Qd, R, q, k⟩ => fun p np => ?_
  have R1 := R.toRelH.mkDic (ds := []) np rfl
  have f1 : Fr Z H Z (upd H p (.dK [])) := Fr.upd (R.toRelH.new np)
  refine ⟨Z, ρ, _, _, R.next f1 R1, q p (R.toRelH.none np), fun kd h2 kv Z2 H2 q2 f2 R2 r2 => ⟨Z2, ρ, h2, _, R.next (f1.trans f2) R2, q2, fun vd h3 vv Z3 H3 ⟨ep, q3⟩ f3 R3 r3 => ?_⟩⟩
  obtain ⟨key, ek, q3⟩ := onO_some q3
  have e2 := keyD_rep ek r2
  obtain ⟨kv0, sp, rk0⟩ := own_rep R3 ep
  obtain rfl : kv0 = [] := rk0
  refine ⟨sp, [(key, vv)], by rw [e2]; rfl, by simp, ?_⟩
  have rk : RepKs C Z3 H3 [(kd, vd)] [(key, vv)] := ⟨key, vv, [], rfl, e2 ▸ r2.fr f3, r3, rfl⟩
  obtain ⟨f4, R4⟩ := hup_owned R3 ep rk
  have em : mergeK [] [(key, vv)] = [(key, vv)] := rfl
  rw [em]
  exact k (.ref p) _ (.ref p) Z3 _ q3 (((f1.trans f2).trans f3).trans f4) R4 rfl
def hdn (h : Hd) (a : Addr) : Hd := fun b => if b = a then none else h b
theorem hdn_hup {h : Hd} {a : Addr} {o : O} (n : h a = none) : hdn (hup h a o) a = h := by
  funext b; unfold hdn hup; split
  · rename_i z; rw [z, n]
  · rfl
/-- {**e, k: v} -/
def dSpread (wa wk wv : DE) : DE := fun ρ h Q => ∀ p, h p = none → wa ρ (hup h p (.od [])) fun x h1 => h1 p = some (.od []) ∧ (x = .ref p → False) ∧ onO (dicOf h1 x) fun kvs =>
  ∀ q, hup h1 p (.od kvs) q = none → wk ρ (hup (hup h1 p (.od kvs)) q (.od [])) fun kd h2 => wv ρ h2 fun vd h3 => h3 p = some (.od kvs) ∧ h3 q = some (.od []) ∧ onO (keyD kd) fun k => SZ (kvs.length + 1) ∧ Q (.ref p) (hup (hdn h3 q) p (.od (dput kvs kd vd k)))
theorem dic_ne {Z : Addr → Prop} {H : Hp} {h : Hd} {d : D} {p o : Addr} {ob : O} {ds : List (D × D)} (R : RelH C Z H h) (r : Rep C Z H d (.ref o)) (e : dicOf h d = some ds) (ep : h p = some ob) (n : d = .ref p → False) : p ≠ o := fun z => by
  subst z
  cases d with
  | fd kvs => obtain ⟨a, _, ea, za, _⟩ := r; cases ea; exact (R.obj _ _ ep).1 za
  | ref a => cases (show V.ref p = .ref a from r); exact n rfl
  | _ => cases e
open PyProof.Rows in
theorem d_spread (ha : PEd C A X e wa) (hk : PEd C A X kx wk) (hv : PEd C A X vx wv) : PEd C A X (.Dict [none, some kx] [e, vx] pos) (dSpread wa wk wv) := by
  refine ⟨fun pins s σ H Q I ⟨Z, ρ, h, Qd, R, q, k⟩ => ?_⟩
  rw [arm_eval_Dict]
  refine wpAny_bind (wpAny_standAt ?_)
  show wpAny _ _ (dictDisplay [(none, do let x ← eval e X.env; standAt pos; pure x), (some (eval kx X.env), do let x ← eval vx X.env; standAt pos; pure x)]) _ _ s
  unfold dictDisplay
  simp only [List.forIn_cons, List.forIn_nil, List.isEmpty_nil, if_true, pure_bind, List.nil_append]
  have np : H s.heap.objs.size = none := I.hok.fresh (Nat.le_refl _)
  have I0 := I.laid (a := s.heap.objs.size) (o := .dK []) (h' := s.heap.push { cls := .type "dict", data := .dict #[] }) (t' := s.toks) (fun _ _ q => Heap.get?_push_of_some _ q) (Nat.le_refl _) (dk_empty s.heap I.big)
  have R0 : RelH C Z (upd H s.heap.objs.size (.dK [])) (hup h s.heap.objs.size (.od [])) := R.toRelH.mkDic (ds := []) np rfl
  have f0 : Fr Z H Z (upd H s.heap.objs.size (.dK [])) := Fr.upd (R.toRelH.new np)
  refine wpAny_bind (wpAny_bind (wpAny_bind (wpAny_alloc ?_)))
  refine wpAny_bind (wpAny_holding (wpAny_bind ?_))
  refine thn (run_d ha I0 (R.next f0 R0) (q _ (R.toRelH.none np))) fun m s1 ⟨xv, H1, I1, r1, Z1, h1, x, f1, R1, rx, ep, xne, q1⟩ => ?_
  obtain ⟨kvs, ed, q1⟩ := onO_some q1
  refine wpAny_bind (wpAny_standAt (wpAny_pure ?_))
  obtain ⟨o, kvv, rfl, rd, rk⟩ := dic_rep R1 ed rx
  obtain rfl : m = Value.ref o := r1
  obtain ⟨zo, hoS, vs, KVo, dO⟩ := dk_rd I1.hok rd
  obtain ⟨kv0, sp, rk0⟩ := own_rep R1 ep
  obtain rfl : kv0 = [] := rk0
  obtain ⟨zp, hpS, vs0, KV0, dP⟩ := dk_of I1.hok sp
  cases KV0
  have hpo : s.heap.objs.size ≠ o := dic_ne R1 rx ed ep xne
  have hz0 : ([] : List (Key × Value)).length + vs.length ≤ sizeLine := by
    have : kvv.length = vs.length := Paired.length KVo
    simp only [List.length_nil]; omega
  refine wpAny_bind (wpAny_onRaise (wpAny_tryCatch (wpAny_onRaise (wpAny_holding (merge_map hpo hoS dP dO (fun h' dP' dO' sb => ?_) hz0)))))
  have nd : (vs.map (·.1)).Nodup := by obtain ⟨_, _, _, _, _, _, _, _, nd⟩ := dO; exact nd
  rw [merged_nil_of_nodup vs nd] at dP'
  have he : ∃ q, h'.get? s.heap.objs.size = some q := let ⟨q, _, _, hq, _⟩ := dP'; ⟨q, hq⟩
  have I2 : Inv X pins σ (upd H1 s.heap.objs.size (.dK kvv)) { s1 with heap := h' } := d_write (t' := s1.toks) I1 (by rw [sp]; exact True.intro) sb he (dk_new zo hpS KVo dP')
  obtain ⟨f2, R2⟩ := hup_owned R1 ep rk
  refine wpAny_pure ?_
  simp only [List.nil_append, List.length_cons, List.length_nil, Nat.zero_add, Nat.reduceBEq, Bool.false_eq_true, if_false, pure_bind, List.isEmpty_cons]
  refine wpAny_pure ?_
  simp only [List.isEmpty_cons, Bool.false_eq_true, if_false]
  have nq : upd H1 s.heap.objs.size (.dK kvv) h'.objs.size = none := I2.hok.fresh (Nat.le_refl _)
  have I3 := I2.laid (a := h'.objs.size) (o := .dK []) (h' := h'.push { cls := .type "dict", data := .dict #[] }) (t' := s1.toks) (fun _ _ q => Heap.get?_push_of_some _ q) (Nat.le_refl _) (dk_empty h' I2.big)
  have R3 : RelH C Z1 (upd (upd H1 s.heap.objs.size (.dK kvv)) h'.objs.size (.dK [])) (hup (hup h1 s.heap.objs.size (.od kvs)) h'.objs.size (.od [])) := R2.mkDic (ds := []) nq rfl
  have f3 : Fr Z1 (upd H1 s.heap.objs.size (.dK kvv)) Z1 (upd (upd H1 s.heap.objs.size (.dK kvv)) h'.objs.size (.dK [])) := Fr.upd (R2.new nq)
  have K3 := run_d hk I3 (R.next (((f0.trans f1).trans f2).trans f3) R3) (q1 _ (R2.none nq))
  refine wpAny_bind (wpAny_bind (wpAny_holding (wpAny_subDict (knd := mixKind X.prog X.w) (by simp) (evalPairs_cons (thn K3 ?_)))))
  intro ku s2 hh
  obtain ⟨kv2, H4, I4, r4, Z4, h4, kd, f4, R4, rk4, q4⟩ := hh
  refine wpAny_bind (thn (run_d hv I4 (R.next ((((f0.trans f1).trans f2).trans f3).trans f4) R4) q4) fun vu s3 ⟨vv, H5, I5, r5, Z5, h5, vd, f5, R5, rv5, ep5, eq5, q5⟩ => ?_)
  obtain ⟨key, ek, sz, q5⟩ := onO_some q5
  have e2 := keyD_rep ek rk4
  subst e2
  refine wpAny_bind (wpAny_standAt (wpAny_pure (evalPairs_nil ?_)))
  obtain ⟨kvp, spp, rkp⟩ := own_rep R5 ep5
  obtain ⟨kvq, spq, rkq⟩ := own_rep R5 eq5
  obtain rfl : kvq = [] := rkq
  obtain ⟨zq, hqS, vsq, KVq, dQ⟩ := dk_of I5.hok spq
  cases KVq
  refine ⟨[(key, vu)], ⟨kV_is r4, rfl, True.intro⟩, dQ, fun h6 dQ6 sb6 => ?_⟩
  have hm1 : merged [] [(key, vu)] = [(key, vu)] := rfl
  rw [hm1] at dQ6
  have he6 : ∃ q, h6.get? h'.objs.size = some q := let ⟨q, _, _, hq, _⟩ := dQ6; ⟨q, hq⟩
  have KV1 : KV [(key, vv)] [(key, vu)] := .cons ⟨rfl, r5⟩ .nil
  have I6 : Inv X pins σ (upd H5 h'.objs.size (.dK [(key, vv)])) { s3 with heap := h6, toks := s3.toks + 1 } := d_write (t' := s3.toks + 1) I5 (by rw [spq]; exact True.intro) sb6 he6 (dk_new (by simp [sizeLine_eq]) hqS KV1 dQ6)
  obtain ⟨f6, R6⟩ := hup_owned R5 eq5 (show RepKs C Z5 H5 [(kd, vd)] [(key, vv)] from ⟨key, vv, [], rfl, rk4.fr f5, rv5, rfl⟩)
  have npq : s.heap.objs.size ≠ h'.objs.size := fun z => by
    obtain ⟨oq, hoq⟩ := he
    exact absurd z (Nat.ne_of_lt (Heap.lt_size hoq))
  have sp6 : upd H5 h'.objs.size (.dK [(key, vv)]) s.heap.objs.size = some (.dK kvp) := by rw [upd_ne npq]; exact spp
  have sq6 : upd H5 h'.objs.size (.dK [(key, vv)]) h'.objs.size = some (.dK [(key, vv)]) := upd_same
  obtain ⟨zp6, hpS6, vsp, KVp, dP6⟩ := dk_of I6.hok sp6
  obtain ⟨zq6, hqS6, vsq6, KVq6, dQ66⟩ := dk_of I6.hok sq6
  have lp : kvp.length = kvs.length := repKs_len rkp
  have lvp : kvp.length = vsp.length := Paired.length KVp
  have lvq : vsq6.length = 1 := (Paired.length KVq6).symm
  have hz6 : vsp.length + vsq6.length ≤ sizeLine := by have := sz.line; omega
  refine wpAny_bind (wpAny_onRaise (wpAny_holding (merge_map npq hqS6 dP6 dQ66 (fun h7 dP7 dQ7 sb7 => ?_) hz6)))
  refine wpAny_pure (wpAny_pure ?_)
  have he7 : ∃ q, h7.get? s.heap.objs.size = some q := let ⟨q, _, _, hq, _⟩ := dP7; ⟨q, hq⟩
  have KV7 : KV (mergeK kvp [(key, vv)]) (merged vsp vsq6) := KV.merge KVq6 KVp
  have em : mergeK kvp [(key, vv)] = putK kvp key vv := rfl
  rw [em] at KV7
  have zl : (putK kvp key vv).length ≤ sizeLine := by have := length_putK kvp key vv; have := sz.line; omega
  have I7 : Inv X pins σ (upd (upd H5 h'.objs.size (.dK [(key, vv)])) s.heap.objs.size (.dK (putK kvp key vv))) { s3 with heap := h7, toks := s3.toks + 1 } := d_write (s := { s3 with heap := h6, toks := s3.toks + 1 }) (t' := s3.toks + 1) I6 (by rw [sp6]; exact True.intro) sb7 he7 (dk_new zl hpS6 KV7 dP7)
  have ep6 : hup h5 h'.objs.size (.od [(kd, vd)]) s.heap.objs.size = some (.od kvs) := by rw [hup_ne npq]; exact ep5
  obtain ⟨f7, R7⟩ := hup_owned R6 ep6 (dput_rep (rkp.fr f6) (rk4.fr (f5.trans f6)) (rv5.fr f6))
  have R8 : RelH C Z5 (upd (upd H5 h'.objs.size (.dK [(key, vv)])) s.heap.objs.size (.dK (putK kvp key vv))) (hup (hdn h5 h'.objs.size) s.heap.objs.size (.od (dput kvs kd vd key))) := by
    refine R7.sub fun b ob eb => ?_
    unfold hup hdn at eb
    unfold hup
    split at eb
    · rename_i z; rw [if_pos z]; exact eb
    · rename_i z
      rw [if_neg z]
      split at eb
      · cases eb
      · rename_i z2; rw [if_neg z2]; exact eb
  refine ⟨.ref s.heap.objs.size, _, I7, rfl, ?_⟩
  exact k (.ref s.heap.objs.size) _ (.ref s.heap.objs.size) Z5 _ q5 (((((((f0.trans f1).trans f2).trans f3).trans f4).trans f5).trans f6).trans f7) R8 rfl
end
end DL
end
section
set_option Elab.async false
set_option linter.all false
set_option maxRecDepth 100000
set_option maxHeartbeats 4000000
open PySem PySem.Spec L2
namespace DL
section
variable {C : Ctx} {A : Anc} {X : Cx} {o a b e c tg elt iter : Expr} {es ifs : List Expr} {pos : Pos} {wo wa wb wc we : DE} {wr : DA} {wt : DT} {wi : DI}
/-! ### slots forgotten, slots set -/
def wp {α : Type} (ρ : List (Option α)) : List Nat → List (Option α)
  | [] => ρ
  | v :: vs => (wp ρ vs).set v none
def setAll {α : Type} (ρ : List (Option α)) : List Nat → List α → List (Option α)
  | i :: is, x :: xs => setAll (ρ.set i (some x)) is xs
  | _, _ => ρ
theorem wp_len {α : Type} (ρ : List (Option α)) : ∀ vs : List Nat, (wp ρ vs).length = ρ.length
  | [] => rfl
  | v :: vs => by unfold wp; rw [List.length_set, wp_len ρ vs]
theorem wp_get {α : Type} (ρ : List (Option α)) (i : Nat) : ∀ vs : List Nat, (wp ρ vs)[i]? = if i ∈ vs then (if i < ρ.length then some none else none) else ρ[i]?
  | [] => by simp [wp]
  | v :: vs => by
    unfold wp
    rw [List.getElem?_set, wp_get ρ i vs, wp_len]
    by_cases h : v = i
    · subst h; simp
    · have h' : ¬ i = v := fun z => h z.symm
      simp [h, h']
theorem wp_eq : ∀ (σ : St) (vs : List Nat), wipe σ vs = wp σ vs
  | _, [] => rfl
  | σ, v :: vs => by unfold wipe wp; rw [wp_eq σ vs]
theorem wp_set {α : Type} (ρ : List (Option α)) {i : Nat} {x : Option α} {vs : List Nat} (h : i ∈ vs) : wp ((wp ρ vs).set i x) vs = wp ρ vs := by
  apply List.ext_getElem?
  intro j
  rw [wp_get, wp_get, List.length_set, wp_len, List.getElem?_set, wp_get, wp_len]
  by_cases hj : j ∈ vs
  · simp [hj]
  · have : ¬ i = j := fun z => hj (z ▸ h)
    simp [hj, this]
theorem wp_wp {α : Type} (ρ : List (Option α)) (vs : List Nat) : wp (wp ρ vs) vs = wp ρ vs := by
  apply List.ext_getElem?
  intro j
  rw [wp_get, wp_get, wp_len]
  by_cases hj : j ∈ vs <;> simp [hj]
theorem wp_setAll {α : Type} {vs : List Nat} : ∀ {is : List Nat} {xs : List α} {ρ ρ0 : List (Option α)}, (∀ i ∈ is, i ∈ vs) → wp ρ vs = ρ0 → wp (setAll ρ is xs) vs = ρ0
  | [], _, ρ, ρ0, _, h => h
  | i :: is, [], ρ, ρ0, _, h => h
  | i :: is, x :: xs, ρ, ρ0, hs, h => by
    refine wp_setAll (is := is) (xs := xs) (fun j hj => hs j (List.mem_cons_of_mem _ hj)) ?_
    subst h
    apply List.ext_getElem?
    intro j
    rw [wp_get, wp_get, List.length_set, List.getElem?_set]
    by_cases hj : j ∈ vs
    · simp [hj]
    · have : ¬ i = j := fun z => hj (z ▸ hs i List.mem_cons_self)
      simp [hj, this]
theorem Rel.wp {Z : Addr → Prop} {H : Hp} {σ : St} {ρ : Env} {h : Hd} (R : Rel C A Z H σ ρ h) (vs : List Nat) : Rel C A Z H (wp σ vs) (wp ρ vs) h :=
  ⟨R.toRelH, by rw [wp_len, wp_len]; exact R.len, fun i d e => by
    rw [wp_get] at e ⊢
    by_cases hi : i ∈ vs
    · simp only [hi, if_true] at e; split at e <;> cases e
    · simp only [hi, if_false] at e ⊢; exact R.slot i d e, R.anc⟩
theorem Rel.setAlls {Z : Addr → Prop} {H : Hp} {h : Hd} : ∀ {is : List Nat} {ds : List D} {vs : List V} {σ : St} {ρ : Env}, Rel C A Z H σ ρ h → Reps C Z H ds vs → Rel C A Z H (setAll σ is vs) (setAll ρ is ds) h
  | [], _, _, _, _, R, _ => R
  | i :: is, [], _, _, _, R, e => by rw [show _ = [] from e]; exact R
  | i :: is, d :: ds, _, σ, ρ, R, ⟨v, vr, e, r, rr⟩ => by
    subst e
    exact Rel.setAlls (is := is) (ds := ds) (vs := vr) (σ := σ.set i (some v)) (ρ := ρ.set i (some d)) (R.set i r) rr
/-! ### targets that are names -/
def gNms : List Nat → TGs
  | [] => gNil
  | i :: is => gCons (gName i) (gNms is)
theorem gNms_ok : ∀ {is : List Nat} {vs : List V} {σ : St} {H : Hp} {Q : St → Hp → Prop}, vs.length = is.length → Q (setAll σ is vs) H → gNms is vs σ H Q
  | [], [], _, _, _, _, q => ⟨rfl, q⟩
  | i :: is, v :: vs, _, _, _, hl, q => ⟨v, vs, rfl, gNms_ok (by simpa using hl) q⟩
/-- the block's loop: p the new list -/
def dLcL (st : D → Env → (Env → Prop) → Prop) (tt : DT) (te : DE) (chk : Hd → Prop) (p : Addr) (Q : Hd → Prop) (ρ0 : Env) : List D → Hd → Prop
  | [] => fun h => chk h ∧ Q h
  | d :: ds => fun h => chk h ∧ st d ρ0 fun ρ1 => tt ρ1 h fun b h2 => if b = true then te ρ1 h2 fun y h3 => onOl h3 (.ref p) fun _ acc => SZ (acc.length + 1) ∧ dLcL st tt te chk p Q ρ0 ds (hup h3 p (.ol (acc ++ [y]))) else dLcL st tt te chk p Q ρ0 ds h2
/-- one name; several -/
def st1 (i : Nat) : D → Env → (Env → Prop) → Prop := fun d ρ k => k (ρ.set i (some d))
def stN (is : List Nat) : D → Env → (Env → Prop) → Prop := fun d ρ k => match d with
  | .tup ds => ds.length = is.length ∧ k (setAll ρ is ds)
  | _ => False
def dComp (i : DI) (st : D → Env → (Env → Prop) → Prop) (tt : DT) (te : DE) (vs : List Nat) : DE := fun ρ h Q => i ρ h fun ds chk h1 => ∀ p, h1 p = none → dLcL st tt te chk p (fun h' => Q (.ref p) h') (wp ρ vs) ds (hup h1 p (.ol []))
def dYes : DT := fun _ h Q => Q true h
/-- how the target's reading and the transformer's store meet -/
def StOk (C : Ctx) (A : Anc) (I : RI) (g : TG) (st : D → Env → (Env → Prop) → Prop) (vs : List Nat) : Prop := ∀ (Z : Addr → Prop) (H : Hp) (σ : St) (ρ : Env) (h : Hd) (d : D) (x : V) (k : Env → Prop) (Q : St → Hp → Prop), Rel C A Z H σ ρ h → wp σ vs = σ → I C Z H d x → st d ρ k →
  (∀ σ' ρ', k ρ' → Rel C A Z H σ' ρ' h → wp σ' vs = σ → Q σ' H) → g x σ H Q
theorem st1_ok {i : Nat} {vs : List Nat} (hi : i ∈ vs) : StOk C A Rep (gName i) (st1 i) vs := fun Z H σ ρ h d x k Q R hw r q f =>
  f _ _ q (R.set i r) (by rw [← hw]; exact wp_set σ hi)
theorem stN_ok {is : List Nat} {vs : List Nat} (hi : ∀ i ∈ is, i ∈ vs) : StOk C A RepP (gTup C.K is.length (gNms is)) (stN is) vs := fun Z H σ ρ h d x k Q R hw ⟨p, xs, ds, e1, e2, s, r⟩ q f => by
  subst e1
  obtain ⟨hl, q⟩ := q
  exact ⟨p, xs, e2, s, by rw [r.length]; exact hl, gNms_ok (by rw [r.length]; exact hl) (f _ _ q (R.setAlls r) (wp_setAll hi hw))⟩
theorem stN_ok' {is : List Nat} {vs : List Nat} (hi : ∀ i ∈ is, i ∈ vs) : StOk C A Rep (gTup C.K is.length (gNms is)) (stN is) vs := fun Z H σ ρ h d x k Q R hw r q f => by
  cases d with
  | tup ds =>
    obtain ⟨p, xs, e2, s, r⟩ := r
    exact stN_ok hi Z H σ ρ h _ x k Q R hw ⟨p, xs, ds, rfl, e2, s.t, r⟩ q f
  | _ => exact q.elim
abbrev PTsd (C : Ctx) (A : Anc) (X : Cx) (e : List Expr) (W : DT) : Prop := PTs X e (UpT C A W)
theorem PTs.imp {X : Cx} {e : List Expr} {t t' : TT} (p : PTs X e t) (f : ∀ σ H Q, t' σ H Q → t σ H Q) : PTs X e t' := ⟨fun pins s σ H Q I h => p.run pins s σ H Q I (f σ H Q h)⟩
theorem d_yes : PTsd C A X [] dYes := PTs.imp pts_nil fun σ H Q ⟨Z, ρ, h, Qd, R, q, k⟩ => k true h Z H q Fr.refl R.toRelH
theorem d_if1 (h : PTd C A X e wt) : PTsd C A X [e] wt := pts_one h
theorem up_lc {I : RI} {g : TG} {st : D → Env → (Env → Prop) → Prop} {vs : List Nat} (so : StOk C A I g st vs) : ∀ σ H Q, UpE C A (dComp wi st wt we vs) σ H Q → tLc (UpI I C A wi) g (UpT C A wt) (UpE C A we) vs σ H Q := fun σ H Q ⟨Z, ρ, h, Qd, R, q, k⟩ => by
  refine ⟨Z, ρ, h, _, R, q, fun ds chk h1 Z1 H1 J q1 f1 R1 c1 wk p hp => ?_⟩
  have R2 := R1.mkLst (ds := []) (vs := []) hp rfl
  have f2 : Fr Z1 H1 Z1 (upd H1 p (.lst [])) := R1.mkFr hp
  refine ⟨fun i m H' => m + i = ds.length ∧ ∃ Z' h', Fr Z1 H1 Z' H' ∧ RelH C Z' H' h' ∧ dLcL st wt we chk p (fun h' => Qd (.ref p) h') (wp ρ vs) (ds.drop i) h', ⟨ds.length, by simp, Z1, _, f2, R2, q1 p (R1.none hp)⟩, ?_⟩
  rintro i m H' ⟨hm, Z', h', f, R', q'⟩
  by_cases hi : i < ds.length
  · right
    rw [List.drop_eq_getElem_cons hi] at q'
    obtain ⟨c, q'⟩ := q'
    refine ⟨wk.go Z' H' h' i f R' c hi, fun H2 => ∃ Z2 h2, Fr Z1 H1 Z2 H2 ∧ RelH C Z2 H2 h2 ∧ dLcL st wt we chk p (fun h' => Qd (.ref p) h') (wp ρ vs) (ds.drop (i + 1)) h2, fun H2 n2 => ⟨m - 1, by omega, by omega, n2⟩, fun x H2 y => ?_⟩
    obtain ⟨f3, R3, r3⟩ := wk.yld Z' H' h' i x H2 ds[i] f R' c (by simp [hi]) y
    have ft := f.trans f3
    have Rw : Rel C A Z' H2 (wp σ vs) (wp ρ vs) h' := (R.wp vs).next (f1.trans ft) R3
    rw [wp_eq]
    refine so Z' H2 _ _ h' ds[i] x _ _ Rw (wp_wp σ vs) r3 q' fun σ4 ρ4 q4 R4 hw => ⟨by rw [wp_eq]; exact hw, ?_⟩
    refine ⟨Z', ρ4, h', _, R4, q4, fun b h5 Z5 H5 q5 f5 R5 => ?_⟩
    cases b with
    | false =>
      rw [if_neg Bool.false_ne_true] at q5 ⊢
      exact ⟨Z5, h5, ft.trans f5, R5, q5⟩
    | true =>
      rw [if_pos rfl] at q5 ⊢
      refine ⟨Z5, ρ4, h5, _, R4.next f5 R5, q5, fun y h6 v6 Z6 H6 q6 f6 R6 r6 => ?_⟩
      obtain ⟨p', acc, us, ep, ev, e6, s6, ra, ⟨z, q6⟩, gg⟩ := rep_onOl R6 (d := .ref p) (v := .ref p) rfl q6
      cases ep
      have z' := z.line
      obtain ⟨f7, R7⟩ := gg (acc ++ [y]) (us ++ [v6]) (Reps.append ra ⟨v6, [], rfl, r6, rfl⟩)
      exact ⟨us, s6, by rw [ra.length]; omega, Z6, _, ((ft.trans f5).trans f6).trans f7, R7, q6⟩
  · left
    have e : ds.drop i = [] := List.drop_eq_nil_of_le (by omega)
    rw [e] at q'
    have ei : i = ds.length := by omega
    subst ei
    exact ⟨wk.stop Z' H' h' f R' q'.1, k _ h' _ Z' H' q'.2 (f1.trans f) R' rfl⟩
/-- [elt for x in iter if ..] -/
theorem d_lc {I : RI} {g : TG} {st : D → Env → (Env → Prop) → Prop} {scope : Scope} {own : List (Str × Nat)} (hx : XD C X) (hk : X.calm = true) (hN : X.N.Nodup) (hi : PId I C A X tg iter wi) (ok : BlkOk X.N X.env.scope scope own) (so : StOk C A I g st (own.map (·.2)))
    (hg : ∀ (s : Shared) (H : Hp) (L : Addr) (cl : List (Str × Addr)) (fp : List Addr), PG (X.blk s H scope (compEnvC scope cl L X.env) fp) tg g)
    (ht : ∀ (s : Shared) (H : Hp) (L : Addr) (cl : List (Str × Addr)) (fp : List Addr), PTsd C A (X.blk s H scope (compEnvC scope cl L X.env) fp) ifs wt)
    (he : ∀ (s : Shared) (H : Hp) (L : Addr) (cl : List (Str × Addr)) (fp : List Addr), PEd C A (X.blk s H scope (compEnvC scope cl L X.env) fp) elt we) (hs : ∀ x, foldedSetIterable iter X.env x = pure x := by intro _; rfl) :
    PEd C A X (.ListComp elt [⟨tg, iter, ifs, 0⟩] scope pos) (dComp wi st wt we (own.map (·.2))) := PE.imp (pe_lc hk hN hi ok hg ht he hs) (up_lc so)
theorem d_setLc {I : RI} {g : TG} {st : D → Env → (Env → Prop) → Prop} {scope : Scope} {own : List (Str × Nat)} {i : Nat} {y : Str} {py spos : Pos} (hx : XD C X) (hk : X.calm = true) (hN : X.N.Nodup) (hy : X.N[i]? = some y) (hyl : X.env.scope.names.lookup y = some .local)
    (hsw : swapsWith (.ListComp elt [⟨tg, iter, ifs, 0⟩] scope pos) (some (.Name y py)) spos.line X.env = pure true) (hi : PId I C A X tg iter wi) (ok : BlkOk X.N X.env.scope scope own) (so : StOk C A I g st (own.map (·.2)))
    (hg : ∀ (s : Shared) (H : Hp) (L : Addr) (cl : List (Str × Addr)) (fp : List Addr), PG (X.blk s H scope (compEnvC scope cl L X.env) fp) tg g)
    (ht : ∀ (s : Shared) (H : Hp) (L : Addr) (cl : List (Str × Addr)) (fp : List Addr), PTsd C A (X.blk s H scope (compEnvC scope cl L X.env) fp) ifs wt)
    (he : ∀ (s : Shared) (H : Hp) (L : Addr) (cl : List (Str × Addr)) (fp : List Addr), PEd C A (X.blk s H scope (compEnvC scope cl L X.env) fp) elt we) (hs : ∀ x, foldedSetIterable iter X.env x = pure x := by intro _; rfl) :
    PSd C A X (.Assign [.Name y py] (.ListComp elt [⟨tg, iter, ifs, 0⟩] scope pos) spos) (dSet i (dComp wi st wt we (own.map (·.2)))) :=
  PS.imp (ps_setLc hk hN hy hyl hsw hi ok hg ht he hs) fun D σ H ⟨Z, ρ, h, Dd, R, q, k, _⟩ => up_lc so σ H _ ⟨Z, ρ, h, _, R, q, fun d h1 v Z1 H1 q1 f1 R1 r1 => k _ h1 Z1 H1 _ q1 f1 ((R.next f1 R1).set i r1)⟩
theorem XD.blk (hx : XD C X) (s : Shared) (H : Hp) (scope : Scope) (env : PySem.Env) (fp : List Addr) : XD C (X.blk s H scope env fp) := ⟨hx.K, hx.un⟩
end
end DL
end
section
set_option Elab.async false
set_option linter.all false
set_option maxRecDepth 100000
set_option maxHeartbeats 4000000
open PySem PySem.Spec L2
namespace DL
/-! ### exceptions by value -/
structure Ex where
  cls : Str
  fs : List (Str × D)
abbrev DX := Ex → Hd → Prop
abbrev EW := Env → Ex → Hd → Prop
/-- a def by transformers: arguments, heap, what follows, what is raised -/
abbrev DF := List D → Hd → DK → DX → Prop
/-- what may be done unseen: things dropped, frozen -/
def Gh (d : D) (h : Hd) (d' : D) (h' : Hd) : Prop := ∀ (C : Ctx) (Z : Addr → Prop) (H : Hp) (v : V), RelH C Z H h → Rep C Z H d v → ∃ Z', Fr Z H Z' H ∧ RelH C Z' H h' ∧ Rep C Z' H d' v
theorem Gh.refl {d : D} {h : Hd} : Gh d h d h := fun C Z H v R r => ⟨Z, Fr.refl, R, r⟩
theorem Gh.trans {d d' d2 : D} {h h' h2 : Hd} (a : Gh d h d' h') (b : Gh d' h' d2 h2) : Gh d h d2 h2 := fun C Z H v R r => by
  obtain ⟨Z1, f1, R1, r1⟩ := a C Z H v R r
  obtain ⟨Z2, f2, R2, r2⟩ := b C Z1 H v R1 r1
  exact ⟨Z2, f1.trans f2, R2, r2⟩
theorem Gh.drop {d : D} {h h' : Hd} (s : ∀ a o, h' a = some o → h a = some o) : Gh d h d h' := fun C Z H v R r => ⟨Z, Fr.refl, R.sub s, r⟩
def fin (Q : DK) : DK := fun d h => ∃ d' h', Gh d h d' h' ∧ Q d' h'
/-! ### freezing -/
/-- the value with the objects of S frozen -/
def res (h : Hd) (S : Addr → Bool) : Nat → D → D
  | 0, d => d
  | n + 1, .ref a => if S a = true then (match h a with
    | some (.ol ds) => .fl (ds.map (res h S n))
    | some (.od kvs) => .fd (kvs.map fun p => (p.1, res h S n p.2))
    | some (.oi c fs) => .fi c (fs.map fun p => (p.1, res h S n p.2))
    | _ => .ref a) else .ref a
  | n + 1, .tup ds => .tup (ds.map (res h S n))
  | _ + 1, d => d
def cut (h : Hd) (S : Addr → Bool) : Hd := fun a => if S a = true then none else h a
/-- what is frozen by S -/
def frzS (h : Hd) (S : Addr → Bool) (a : Addr) : Prop := S a = true ∧ ∃ o, h a = some o ∧ ∀ kvs, o ≠ .odl kvs
section
variable {C : Ctx} {Z : Addr → Prop} {H : Hp} {h : Hd} {S : Addr → Bool}
theorem zfr : Fr Z H (fun a => Z a ∨ frzS h S a) H := ⟨fun _ h => .inl h, fun _ _ _ h => h, fun _ _ _ _ _ h => h, fun _ _ _ h => h, fun _ _ _ h => h, fun _ _ _ h => h⟩
theorem res_rep (R : RelH C Z H h) : ∀ (n : Nat) (d : D) (v : V), Rep C Z H d v → Rep C (fun a => Z a ∨ frzS h S a) H (res h S n d) v
  | 0, d, v, r => r.fr zfr
  | n + 1, d, v, r => by
    have many : ∀ (ds : List D) (vs : List V), Reps C Z H ds vs → Reps C (fun a => Z a ∨ frzS h S a) H (ds.map (res h S n)) vs := by
      intro ds
      induction ds with
      | nil => exact fun vs r => r
      | cons d ds ih => exact fun vs ⟨v, vr, e, r, rr⟩ => ⟨v, vr, e, res_rep R n d v r, ih vr rr⟩
    have manyK : ∀ (ds : List (D × D)) (vs : List (Key × V)), RepKs C Z H ds vs → RepKs C (fun a => Z a ∨ frzS h S a) H (ds.map fun p => (p.1, res h S n p.2)) vs := by
      intro ds
      induction ds with
      | nil => exact fun vs r => r
      | cons d ds ih => exact fun vs ⟨k, v, vr, e, rk, r, rr⟩ => ⟨k, v, vr, e, rk.fr zfr, res_rep R n d.2 v r, ih vr rr⟩
    have manyF : ∀ (ds : List (Str × D)) (vs : List (Str × V)), RepFs C Z H ds vs → RepFs C (fun a => Z a ∨ frzS h S a) H (ds.map fun p => (p.1, res h S n p.2)) vs := by
      intro ds
      induction ds with
      | nil => exact fun vs r => r
      | cons d ds ih => exact fun vs ⟨v, vr, e, r, rr⟩ => ⟨v, vr, e, res_rep R n d.2 v r, ih vr rr⟩
    cases d with
    | ref a =>
      unfold res
      by_cases hs : S a = true
      · rw [if_pos hs]
        cases q : h a with
        | none => exact r
        | some o =>
          have ro := own_rep R q
          have fz : (∀ kvs, o ≠ .odl kvs) → frzS h S a := fun z => ⟨hs, o, q, z⟩
          cases o with
          | ol ds => obtain ⟨vs, s, r1⟩ := ro; exact ⟨a, vs, r, .inl ⟨.inr (fz fun _ z => (nomatch z)), .inl s⟩, many ds vs r1⟩
          | od ds => obtain ⟨vs, s, r1⟩ := ro; exact ⟨a, vs, r, .inr (fz fun _ z => (nomatch z)), .inl s, manyK ds vs r1⟩
          | oi c ds => obtain ⟨dx, vs, s, m, r1⟩ := ro; exact ⟨a, dx, vs, r, .inr (fz fun _ z => (nomatch z)), s, m, manyF ds vs r1⟩
          | odl ds => exact r
      · rw [if_neg hs]; exact r
    | tup ds =>
      obtain ⟨a, vs, e, s, r1⟩ := r
      exact ⟨a, vs, e, s, many ds vs r1⟩
    | _ => exact r.fr zfr
theorem cut_rel (R : RelH C Z H h) : RelH C (fun a => Z a ∨ frzS h S a) H (cut h S) where
  obj := fun a o e => by
    unfold cut at e
    split at e
    · cases e
    · rename_i hs
      obtain ⟨nz, r⟩ := R.obj a o e
      exact ⟨fun z => z.elim nz fun z => hs z.1, r.fr zfr fun _ q => q⟩
  zin := fun a z => by
    rcases z with z | ⟨_, o, e, _⟩
    · exact R.zin a z
    · obtain ⟨_, r⟩ := R.obj a o e
      cases o with
      | ol ds => obtain ⟨vs, s, _⟩ := r; rw [s]; exact ⟨fun z => (nomatch z), fun _ z => (nomatch z)⟩
      | od ds => obtain ⟨vs, s, _⟩ := r; rw [s]; exact ⟨fun z => (nomatch z), fun _ z => (nomatch z)⟩
      | odl ds => obtain ⟨vs, s, _⟩ := r; rcases s with s | ⟨_, s⟩ <;> rw [s] <;> exact ⟨fun z => (nomatch z), fun _ z => (nomatch z)⟩
      | oi c ds => obtain ⟨dx, vs, s, _⟩ := r; rw [s]; exact ⟨fun z => (nomatch z), fun _ z => (nomatch z)⟩
  tab := R.tab
end
/-- the objects of S frozen -/
theorem Gh.frz (S : Addr → Bool) (n : Nat) {d : D} {h : Hd} : Gh d h (res h S n d) (cut h S) := fun C Z H v R r => ⟨_, zfr, cut_rel R, res_rep R n d v r⟩
/-! ### a def's promise -/
def RepX (C : Ctx) (Z : Addr → Prop) (H : Hp) (cls : Value) (d : Option Addr) (ex : Ex) : Prop := cls = .ref (He.ga C.K ex.cls) ∧ match d with
  | none => ex.fs = []
  | some p => Z p ∧ ∃ fvs, H p = some (.xd fvs) ∧ RepFs C Z H ex.fs fvs
theorem RepX.fr {C : Ctx} {Z Z' : Addr → Prop} {H H' : Hp} {cls : Value} {d : Option Addr} {ex : Ex} (f : Fr Z H Z' H') (r : RepX C Z H cls d ex) : RepX C Z' H' cls d ex := by
  obtain ⟨e, r⟩ := r
  refine ⟨e, ?_⟩
  cases d with
  | none => exact r
  | some p => obtain ⟨z, fvs, s, r⟩ := r; exact ⟨f.zz p z, fvs, f.xd p fvs z s, r.fr f⟩
def spD (C : Ctx) (n : Nat) (W : DF) : Sp := fun vs H Q E => vs.length = n ∧ ∃ Z ds h Qd Ed, RelH C Z H h ∧ Reps C Z H ds vs ∧ W ds h Qd Ed ∧ (∀ d h' v Z' H', Qd d h' → Fr Z H Z' H' → RelH C Z' H' h' → Rep C Z' H' d v → Q v H') ∧
  ∀ ex h' cls p Z' H', Ed ex h' → Fr Z H Z' H' → RelH C Z' H' h' → RepX C Z' H' cls p ex → E cls p H'
/-- the wish about exceptions, by transformers -/
def upX (C : Ctx) (A : Anc) (E : EW) : WX := fun cls p σ H => ∃ Z ρ h ex, Rel C A Z H σ ρ h ∧ RepX C Z H cls p ex ∧ E ρ ex h
abbrev Psx (C : Ctx) (A : Anc) (X : Cx) (E : EW) : Prop := ∀ σ, PassesAt (L2.CX X.prog X.w) X σ (WE (upX C A E) σ)
theorem psx_of {C : Ctx} {A : Anc} {X : Cx} {E : EW} (tk : Takes X (upX C A E)) : Psx C A X E := fun σ => passAt tk σ
/-- nothing is let out -/
def noE : EW := fun _ _ _ => False
theorem psx_no {C : Ctx} {A : Anc} {X : Cx} : Psx C A X noE := fun σ pins H s e s' I c => by
  obtain ⟨_, _, _, _, _, _, _, _, _, _, _, _, z⟩ := c
  obtain ⟨_, _, _, _, _, _, z⟩ := z
  exact z.elim
/-! ### calls -/
/-- room, and no repr under way -/
structure RoomG (k : Nat) (A : Around) : Prop extends Room k A where
  gd : A.guards = some []
theorem RoomG.mono {j k : Nat} {A : Around} (r : RoomG k A) (h : j ≤ k) : RoomG j A := ⟨r.toRoom.mono h, r.gd⟩
theorem RoomG.deeper {k : Nat} {A : Around} (r : RoomG (k + 1) A) (env : PySem.Env) : RoomG k (A.deeper env) := ⟨r.toRoom.deeper env, r.gd⟩
theorem RoomG.make {k : Nat} {A : Around} (r : RoomG (k + 1) A) (Ca : Addr) (us : List Value) (kw : List (Str × Value)) : RoomG k (A.under (.builtin "type.__call__" ⟨.ref Ca :: us, kw⟩)) := by
  refine ⟨r.toRoom.make Ca us kw, ?_⟩
  have g := r.gd
  obtain ⟨hd, d, fr, gs, u⟩ := A
  have g : gs = some [] := g
  subst g
  rfl
/-- a def's promise -/
structure FnG (P : Program) (w : World) (K : PySem.W.Frag) (mg : Str → Option Value) (base : Heap) (CX : CXT) (k : Nat) (f : Addr) (fd : FuncData) (ps : List Str) (sp : Sp) : Prop where
  len : ∀ vs H Q E, sp vs H Q E → vs.length = ps.length
  run : ∀ (A : Around) (outer : List PySem.Env) (s : Shared) (H : Hp) (args : Args) (us : List Value) (vs : List V) (Q : VK) (E : XK), RoomG k A → Env0 P w K mg base A outer s H → BindsTo s fd args (ps.zip us) → Vals vs us → sp vs H Q E →
    codeAny (model P w) A (.call (.ref f) args) (CR CX outer P w H s Q E) s
/-- .. positional -/
def FnQ (P : Program) (w : World) (K : PySem.W.Frag) (mg : Str → Option Value) (base : Heap) (CX : CXT) (k : Nat) (f : Addr) (sp : Sp) : Prop :=
  ∀ (A : Around) (outer : List PySem.Env) (s : Shared) (H : Hp) (us : List Value) (vs : List V) (Q : VK) (E : XK), RoomG k A → Env0 P w K mg base A outer s H → Vals vs us → sp vs H Q E →
    codeAny (model P w) A (.call (.ref f) ⟨us, []⟩) (CR CX outer P w H s Q E) s
def finX (E : DX) : DX := fun ex h => ∃ h', (∀ a o, h' a = some o → h a = some o) ∧ E ex h'
/-- a def's promise, positional -/
abbrev FnV (C : Ctx) (P : Program) (w : World) (mg : Str → Option Value) (base : Heap) (k : Nat) (f : Addr) (n : Nat) (W : DF) : Prop := FnQ P w C.K mg base (L2.CX P w) k f (spD C n W)
section
variable {C : Ctx} {A : Anc} {X : Cx} {E : EW} {k n : Nat} {f : Addr} {W : DF} {x m c : Str} {p pos apos : Pos} {e o : Expr} {es : List Expr} {wo : DE} {wr : DA}
/-- f(..) -/
def dCall (n : Nat) (W : DF) (E : EW) (r : DA) : DE := fun ρ h Q => r ρ h fun ds h1 => ds.length = n ∧ W ds h1 Q (E ρ)
theorem code_r {pins : List (Addr × Obj)} {σ : St} {H : Hp} {s : Shared} {Z : Addr → Prop} {ρ : Env} {h : Hd} {ds : List D} {vs : List V} {us : List Value} {Qd : DK} (hK : X.K = C.K) (F : FnV C X.prog X.w X.mg X.base k f n W) (hr : RoomG k X.A) (px : Psx C A X E)
    (hl : ds.length = n) (I : Inv X pins σ H s) (R : Rel C A Z H σ ρ h) (r : Vals vs us) (rs : Reps C Z H ds vs) (q : W ds h Qd (E ρ)) :
    codeAny (model X.prog X.w) X.A (.call (.ref f) ⟨us, []⟩) (fun r s' => match r with | .ok (.ret v) => EP X pins σ (fun v H' => ∃ Z' h' d, Fr Z H Z' H' ∧ RelH C Z' H' h' ∧ Rep C Z' H' d v ∧ Qd d h') v s' | .ok _ => False | .error e => X.xe e s') s := by
  have F' : FnQ X.prog X.w X.K X.mg X.base (L2.CX X.prog X.w) k f (spD C n W) := hK ▸ F
  refine codeAny_mono (F' X.A X.stack s H us vs (fun v H' => ∃ Z' h' d, Fr Z H Z' H' ∧ RelH C Z' H' h' ∧ Rep C Z' H' d v ∧ Qd d h') (WE (upX C A E) σ) hr I.env0 r ⟨by rw [rs.length, hl], Z, ds, h, Qd, E ρ, R.toRelH, rs, q, fun d h' v Z' H' qd f' R' r' => ⟨Z', h', d, f', R', r', qd⟩, fun ex h' cls pp Z' H' qe f' R' rx => ⟨Z', ρ, h', ex, R.next f' R', rx, qe⟩⟩) fun r s' hq => ?_
  cases r with
  | error e => exact px σ pins H s e s' I hq
  | ok fl =>
    cases fl with
    | ret u => exact I.after hq
    | next => exact False.elim hq
    | brk => exact False.elim hq
    | cont => exact False.elim hq
theorem run_r {pins : List (Addr × Obj)} {σ : St} {H : Hp} {s : Shared} {Z : Addr → Prop} {ρ : Env} {h : Hd} {ds : List D} {vs : List V} {us : List Value} {Qd : DK} (hK : X.K = C.K) (F : FnV C X.prog X.w X.mg X.base k f n W) (hr : RoomG k X.A) (px : Psx C A X E)
    (hl : ds.length = n) (I : Inv X pins σ H s) (R : Rel C A Z H σ ρ h) (r : Vals vs us) (rs : Reps C Z H ds vs) (q : W ds h Qd (E ρ)) :
    wpAny (model X.prog X.w) X.A (call (.ref f) us) (EP X pins σ fun v H' => ∃ Z' h' d, Fr Z H Z' H' ∧ RelH C Z' H' h' ∧ Rep C Z' H' d v ∧ Qd d h') X.xe s :=
  wpAny_call (code_r hK F hr px hl I R r rs q)
theorem EP.d {pins : List (Addr × Obj)} {σ : St} {H : Hp} {Z : Addr → Prop} {Qd : DK} {Q : VK} (k : ∀ d h' v Z' H', Qd d h' → Fr Z H Z' H' → RelH C Z' H' h' → Rep C Z' H' d v → Q v H') {v : Value} {s' : Shared} (hq : EP X pins σ (fun v H' => ∃ Z' h' d, Fr Z H Z' H' ∧ RelH C Z' H' h' ∧ Rep C Z' H' d v ∧ Qd d h') v s') : EP X pins σ Q v s' := by
  obtain ⟨x, H', I', r, Z', h', d, f', R', r', qd⟩ := hq
  exact ⟨x, H', I', r, k d h' x Z' H' qd f' R' r'⟩
theorem d_call (hK : X.K = C.K) (F : FnV C X.prog X.w X.mg X.base k f n W) (hr : RoomG k X.A) (hg : Gl X x) (hm : X.mg x = some (.ref f)) (hk : PySem.W.keepIn X.K (.ref f) = true) (px : Psx C A X E) (ha : PAd C A X (e :: es) wr)
    (hdb : (x == ("__debug__" : Str)) = false := by decide) (he : starEach (e :: es) X.env = (false, eval e X.env) :: starEach es X.env := by rfl) (hpl : (backTo pos (starEach es X.env)).any (·.1) = false := by rfl) :
    PEd C A X (.Call (.Name x p) (e :: es) [] pos) (dCall n W E wr) := by
  refine ⟨fun pins s σ H Q I ⟨Z, ρ, h, Qd, R, q, kk⟩ => ?_⟩
  refine wpAny_Call_Name_kw (ld_glob I hg hm ?_ hdb)
  refine PySem.W.callWith_K (h₀ := X.base) I.ok.mod.kin hk (thn (ha.run pos pins s σ H _ I ⟨Z, ρ, h, _, R, q, fun ds h1 vs Z1 H1 q1 f1 R1 r1 => (⟨Z1, h1, ds, f1, R1, r1, q1⟩ : ∃ Z1 h1 ds, Fr Z H Z1 H1 ∧ RelH C Z1 H1 h1 ∧ Reps C Z1 H1 ds vs ∧ ds.length = n ∧ W ds h1 Qd (E ρ))⟩) fun us s1 ⟨vs, H1, I1, r, Z1, h1, ds, f1, R1, r1, hl, q1⟩ => ⟨I1.kIn, ?_⟩) he hpl
  exact thn (run_r hK F hr px hl I1 (R.next f1 R1) r r1 q1) fun v s2 hq => EP.d (fun d h' v Z' H' qd f' R' r' => kk d h' v Z' H' qd (f1.trans f') R' r') hq
theorem d_call0 (hK : X.K = C.K) (F : FnV C X.prog X.w X.mg X.base k f n W) (hr : RoomG k X.A) (hg : Gl X x) (hm : X.mg x = some (.ref f)) (hk : PySem.W.keepIn X.K (.ref f) = true) (px : Psx C A X E)
    (hdb : (x == ("__debug__" : Str)) = false := by decide) : PEd C A X (.Call (.Name x p) [] [] pos) (dCall n W E dNil) := by
  refine ⟨fun pins s σ H Q I ⟨Z, ρ, h, Qd, R, ⟨hl, q⟩, kk⟩ => ?_⟩
  refine wpAny_Call_Name_kw (ld_glob I hg hm ?_ hdb)
  exact PySem.W.callWith_K0 I.kIn hk (thn (run_r (us := []) (vs := []) hK F hr px hl I R .nil rfl q) fun v s2 hq => EP.d kk hq)
/-! ### methods -/
/-- x is an instance of c, and has no field m -/
def isIns (h : Hd) (c m : Str) : D → Prop
  | .fi c' fs => c' = c ∧ fs.lookup m = none
  | .ref a => ∃ fs, h a = some (.oi c fs) ∧ fs.lookup m = none
  | _ => False
def dMet (c m : Str) (n : Nat) (W : DF) (E : EW) (o : DE) (r : DA) : DE := fun ρ h Q => o ρ h fun x h1 => isIns h1 c m x ∧ r ρ h1 fun ds h2 => ds.length + 1 = n ∧ W (x :: ds) h2 Q (E ρ)
theorem repFs_none {Z : Addr → Prop} {H : Hp} : ∀ {fs : List (Str × D)} {vs : List (Str × V)}, RepFs C Z H fs vs → fs.lookup m = none → vs.lookup m = none
  | [], vs, r, _ => by rw [show vs = [] from r]; rfl
  | (f, d) :: fs, vs, ⟨v, vr, e, _, r⟩, l => by
    rw [e]
    rw [List.lookup] at l ⊢
    dsimp only
    split at l
    · cases l
    · rename_i q
      exact repFs_none r l
theorem isIns_rep {Z : Addr → Prop} {H : Hp} {h : Hd} {d : D} {v : V} (R : RelH C Z H h) (r : Rep C Z H d v) (i : isIns h c m d) : ∃ a dx fvs, v = .ref a ∧ H a = some (.ins (He.ga C.K c) dx fvs) ∧ c ∈ C.cls ∧ fvs.lookup m = none := by
  cases d with
  | fi c' fs =>
    obtain ⟨rfl, l⟩ := i
    obtain ⟨a, dx, fvs, e, _, s, mm, rf⟩ := r
    exact ⟨a, dx, fvs, e, s, mm, repFs_none rf l⟩
  | ref a =>
    obtain ⟨fs, e, l⟩ := i
    obtain ⟨dx, fvs, s, mm, rf⟩ := own_rep R e
    exact ⟨a, dx, fvs, r, s, mm, repFs_none rf l⟩
  | _ => exact i.elim
theorem d_met {pl : Sem Bool} (ok : KOk C) (hK : X.K = C.K) (ho : PEd C A X o wo) (hm : Meth C.K (He.ga C.K c) m f) (F : FnV C X.prog X.w X.mg X.base k f n W) (hr : RoomG k X.A) (px : Psx C A X E) (ha : PAd C A X (e :: es) wr)
    (hst : starEach (e :: es) X.env = (false, eval e X.env) :: starEach es X.env := by rfl) (hpl : (backTo pos (starEach es X.env)).any (·.1) = false := by rfl)
    (ht : eval (.Call (.Attribute o m apos) (e :: es) [] pos) X.env = (do
      let ov ← eval o X.env
      standAt apos.atName
      let (f, first) ← holding [ov] (getMethod ov m pl)
      callWith pos f first (backTo pos (starEach (e :: es) X.env)) (backToKw pos (keywordEach [] X.env))) := by rfl) :
    PEd C A X (.Call (.Attribute o m apos) (e :: es) [] pos) (dMet c m n W E wo wr) := by
  refine ⟨fun pins s σ H Q I ⟨Z, ρ, h, Qd, R, q, kk⟩ => ?_⟩
  refine PySem.W.methodCall_KW (pl := pl) (thn (run_d ho I R q) fun u s1 ⟨v, H1, I1, ru, Z1, h1, x, f1, R1, r1, i1, q1⟩ => ?_) ht
  obtain ⟨a, dx, fvs, ev, ea, mc, l⟩ := isIns_rep R1 r1 i1
  subst ev
  obtain rfl : u = Value.ref a := ru
  have cl' : Cls X.K (He.ga C.K c) := by rw [hK]; exact ok.cl c mc
  have hm' : Meth X.K (He.ga C.K c) m f := by rw [hK]; exact hm
  refine getmeth_ok I1 ea cl' hm' l ?_
  refine PySem.W.callWith_K (first := [.ref a]) (h₀ := X.base) I.ok.mod.kin hm'.kp (thn (ha.run pos pins s1 σ H1 _ I1 ⟨Z1, ρ, h1, _, R.next f1 R1, q1, fun ds h2 vs Z2 H2 q2 f2 R2 r2 => (⟨Z2, h2, ds, f2, R2, r2, q2⟩ : ∃ Z2 h2 ds, Fr Z1 H1 Z2 H2 ∧ RelH C Z2 H2 h2 ∧ Reps C Z2 H2 ds vs ∧ ds.length + 1 = n ∧ W (x :: ds) h2 Qd (E ρ))⟩) fun us s2 ⟨vs, H2, I2, r, Z2, h2, ds, f2, R2, r2, hl, q2⟩ => ⟨I2.kIn, ?_⟩) hst hpl
  exact thn (run_r (us := .ref a :: us) (vs := .ref a :: vs) hK F hr px (ds := x :: ds) hl I2 ((R.next f1 R1).next f2 R2) (.cons rfl r) ⟨_, _, rfl, r1.fr f2, r2⟩ q2) fun v s3 hq => EP.d (fun d h' v Z' H' qd f' R' r' => kk d h' v Z' H' qd ((f1.trans f2).trans f') R' r') hq
theorem d_met0 {pl : Sem Bool} (ok : KOk C) (hK : X.K = C.K) (ho : PEd C A X o wo) (hm : Meth C.K (He.ga C.K c) m f) (F : FnV C X.prog X.w X.mg X.base k f n W) (hr : RoomG k X.A) (px : Psx C A X E)
    (ht : eval (.Call (.Attribute o m apos) [] [] pos) X.env = (do
      let ov ← eval o X.env
      standAt apos.atName
      let (f, first) ← holding [ov] (getMethod ov m pl)
      callWith pos f first (backTo pos (starEach [] X.env)) (backToKw pos (keywordEach [] X.env))) := by rfl) :
    PEd C A X (.Call (.Attribute o m apos) [] [] pos) (dMet c m n W E wo dNil) := by
  refine ⟨fun pins s σ H Q I ⟨Z, ρ, h, Qd, R, q, kk⟩ => ?_⟩
  refine PySem.W.methodCall_KW (pl := pl) (thn (run_d ho I R q) fun u s1 ⟨v, H1, I1, ru, Z1, h1, x, f1, R1, r1, i1, hl, q1⟩ => ?_) ht
  obtain ⟨a, dx, fvs, ev, ea, mc, l⟩ := isIns_rep R1 r1 i1
  subst ev
  obtain rfl : u = Value.ref a := ru
  have cl' : Cls X.K (He.ga C.K c) := by rw [hK]; exact ok.cl c mc
  have hm' : Meth X.K (He.ga C.K c) m f := by rw [hK]; exact hm
  refine getmeth_ok I1 ea cl' hm' l ?_
  exact PySem.W.callWith_K0 (first := [.ref a]) I1.kIn hm'.kp (thn (run_r (us := [.ref a]) (vs := [.ref a]) hK F hr px (ds := [x]) hl I1 (R.next f1 R1) (.cons rfl .nil) ⟨_, _, rfl, r1, rfl⟩ q1) fun v s3 hq => EP.d (fun d h' v Z' H' qd f' R' r' => kk d h' v Z' H' qd (f1.trans f') R' r') hq)
/-! ### constructors -/
def dNew (c : Str) (n : Nat) (W : DF) (E : EW) (r : DA) : DE := fun ρ h Q => r ρ h fun ds h1 => ds.length + 1 = n ∧ ∀ a, h1 a = none → W (.ref a :: ds) (hup h1 a (.oi c [])) (fun d h2 => d = .non ∧ fin Q (.ref a) h2) (E ρ)
theorem run_new {pins : List (Addr × Obj)} {σ : St} {H : Hp} {s : Shared} {Z : Addr → Prop} {ρ : Env} {h : Hd} {ds : List D} {vs : List V} {us : List Value} {Qd : DK} (hK : X.K = C.K) (mc : c ∈ C.cls) (M : Mk X.K (He.ga C.K c) f) (F : FnV C X.prog X.w X.mg X.base k f n W) (hr : RoomG (k + 1) X.A) (px : Psx C A X E)
    (hl : ds.length + 1 = n) (I : Inv X pins σ H s) (R : Rel C A Z H σ ρ h) (r : Vals vs us) (rs : Reps C Z H ds vs) (q : ∀ a, h a = none → W (.ref a :: ds) (hup h a (.oi c [])) (fun d h2 => d = .non ∧ fin Qd (.ref a) h2) (E ρ)) :
    wpAny (model X.prog X.w) X.A (call (.ref (He.ga C.K c)) us) (EP X pins σ fun v H' => ∃ Z' h' d, Fr Z H Z' H' ∧ RelH C Z' H' h' ∧ Rep C Z' H' d v ∧ Qd d h') X.xe s := by
  have F' : FnQ X.prog X.w X.K X.mg X.base (L2.CX X.prog X.w) k f (spD C n W) := hK ▸ F
  have nx : H (s.heap.objs.size + 1) = none := I.hok.fresh (Nat.le_succ _)
  have nd : H s.heap.objs.size = none := I.hok.fresh (Nat.le_refl _)
  have ne : s.heap.objs.size + 1 ≠ s.heap.objs.size := Nat.succ_ne_self _
  have I2 := Inv.made (C := He.ga C.K c) I
  have f1 : Fr Z H Z (upd H s.heap.objs.size (.own (s.heap.objs.size + 1))) := Fr.upd (R.new nd)
  have R1 := R.toRelH.lay (u := .own (s.heap.objs.size + 1)) nd
  have nx1 : upd H s.heap.objs.size (.own (s.heap.objs.size + 1)) (s.heap.objs.size + 1) = none := by rw [upd_ne ne]; exact nx
  have f2 : Fr Z (upd H s.heap.objs.size (.own (s.heap.objs.size + 1))) Z (upd (upd H s.heap.objs.size (.own (s.heap.objs.size + 1))) (s.heap.objs.size + 1) (.ins (He.ga C.K c) s.heap.objs.size [])) := Fr.upd (R1.new nx1)
  have R2 := R1.put (a := s.heap.objs.size + 1) (u := .ins (He.ga C.K c) s.heap.objs.size []) (o := .oi c []) (R1.new nx1) (fun ps e => by rw [nx1] at e; cases e) (fun φ e => by rw [nx1] at e; cases e) ⟨_, [], upd_same, mc, rfl⟩
  have hq := q (s.heap.objs.size + 1) (R.toRelH.none nx)
  have r2 : Vals (V.ref (s.heap.objs.size + 1) :: vs) (Value.ref (s.heap.objs.size + 1) :: us) := .cons rfl r
  refine wpAny_call (make_map (f := f) I.kIn M.makes M.init (beq_iff_eq.mp M.fn) (codeAny_mono (F' _ X.stack _ _ (Value.ref (s.heap.objs.size + 1) :: us) (V.ref (s.heap.objs.size + 1) :: vs) (fun v H' => v = .non ∧ ∃ Z' h' d, Fr Z H Z' H' ∧ RelH C Z' H' h' ∧ Rep C Z' H' d (.ref (s.heap.objs.size + 1)) ∧ Qd d h') (WE (upX C A E) σ) (hr.make (He.ga C.K c) us []) (I2.env0.make (He.ga C.K c) us []) r2
    ⟨by rw [← hl, ← rs.length]; rfl, Z, .ref (s.heap.objs.size + 1) :: ds, _, _, E ρ, R2, ⟨_, _, rfl, rfl, rs.fr (f1.trans f2)⟩, hq, fun d h' v Z' H' ⟨ed, d', h2, g, qd⟩ f' R' r' => ?_, fun ex h' cls pp Z' H' qe f' R' rx => ⟨Z', ρ, h', ex, R.next ((f1.trans f2).trans f') R', rx, qe⟩⟩) fun r s' hq' => ?_))
  · subst ed
    obtain ⟨Z2, f2', R2', r2'⟩ := g C Z' H' (.ref (s.heap.objs.size + 1)) R' rfl
    exact ⟨r', Z2, h2, d', ((f1.trans f2).trans f').trans f2', R2', r2', qd⟩
  · cases r with
    | error e => exact px σ pins _ _ e s' I2 hq'
    | ok fl =>
      cases fl with
      | ret u =>
        obtain ⟨v, H', I3, rv, ev, z⟩ := I2.after hq'
        subst ev
        exact ⟨rv, ⟨V.ref (s.heap.objs.size + 1), H', I3, rfl, z⟩⟩
      | next => exact False.elim hq'
      | brk => exact False.elim hq'
      | cont => exact False.elim hq'
theorem d_new (hK : X.K = C.K) (mc : c ∈ C.cls) (M : Mk X.K (He.ga C.K c) f) (F : FnV C X.prog X.w X.mg X.base k f n W) (hr : RoomG (k + 1) X.A) (hg : Gl X x) (hm : X.mg x = some (.ref (He.ga C.K c))) (px : Psx C A X E) (ha : PAd C A X (e :: es) wr)
    (hdb : (x == ("__debug__" : Str)) = false := by decide) (he : starEach (e :: es) X.env = (false, eval e X.env) :: starEach es X.env := by rfl) (hpl : (backTo pos (starEach es X.env)).any (·.1) = false := by rfl) :
    PEd C A X (.Call (.Name x p) (e :: es) [] pos) (dNew c n W E wr) := by
  refine ⟨fun pins s σ H Q I ⟨Z, ρ, h, Qd, R, q, kk⟩ => ?_⟩
  refine wpAny_Call_Name_kw (ld_glob I hg hm ?_ hdb)
  refine PySem.W.callWith_K (h₀ := X.base) I.ok.mod.kin M.kp (thn (ha.run pos pins s σ H _ I ⟨Z, ρ, h, _, R, q, fun ds h1 vs Z1 H1 q1 f1 R1 r1 => (⟨Z1, h1, ds, f1, R1, r1, q1⟩ : ∃ Z1 h1 ds, Fr Z H Z1 H1 ∧ RelH C Z1 H1 h1 ∧ Reps C Z1 H1 ds vs ∧ ds.length + 1 = n ∧ ∀ a, h1 a = none → W (.ref a :: ds) (hup h1 a (.oi c [])) (fun d h2 => d = .non ∧ fin Qd (.ref a) h2) (E ρ))⟩) fun us s1 ⟨vs, H1, I1, r, Z1, h1, ds, f1, R1, r1, hl, q1⟩ => ⟨I1.kIn, ?_⟩) he hpl
  exact thn (run_new hK mc M F hr px hl I1 (R.next f1 R1) r r1 q1) fun v s2 hq => EP.d (fun d h' v Z' H' qd f' R' r' => kk d h' v Z' H' qd (f1.trans f') R' r') hq
/-! ### the rule for a def -/
def startD (N : List Str) (ds : List D) : Env := ds.map some ++ List.replicate (N.length - ds.length) none
/-- a def by its body -/
def dFn (N : List Str) (w : EW → DS) : DF := fun ds h Q E => w (fun _ => finX E) { nx := fun _ h' => fin Q .non h', rt := fin Q } (startD N ds) h
theorem start_slot {Z : Addr → Prop} {H : Hp} {N : List Str} : ∀ {ds : List D} {vs : List V}, Reps C Z H ds vs → ∀ (m i : Nat) (d : D), (ds.map some ++ List.replicate m none)[i]? = some (some d) → ∃ v, (vs.map some ++ List.replicate m (none : Option V))[i]? = some (some v) ∧ Rep C Z H d v
  | [], vs, r, m, i, d, e => by
    rw [List.map_nil, List.nil_append, List.getElem?_replicate] at e
    split at e <;> cases e
  | d0 :: ds, vs, ⟨v, vr, ev, r, rr⟩, m, 0, d, e => by
    subst ev
    have e : some (some d0) = some (some d) := e
    cases e
    exact ⟨v, rfl, r⟩
  | d0 :: ds, vs, ⟨v, vr, ev, r, rr⟩, m, i + 1, d, e => by
    subst ev
    exact start_slot (N := N) rr m i d e
theorem start_rel {Z : Addr → Prop} {H : Hp} {N : List Str} {h : Hd} {ds : List D} {vs : List V} (R : RelH C Z H h) (r : Reps C Z H ds vs) : Rel C ⟨Z, H⟩ Z H (L2.start N vs) (startD N ds) h := by
  refine ⟨R, ?_, fun i d e => ?_, Fr.refl⟩
  · unfold L2.start startD
    simp [r.length]
  · unfold startD at e
    unfold L2.start
    rw [r.length]
    exact start_slot (N := N) r _ i d e
section
variable {P : Program} {w : World} {mg : Str → Option Value} {base : Heap} {q : Str} {params : Arguments} {body : List Stmt} {scope : Scope} {dvs : List V} {kws : List (Str × V)} {fd : FuncData} {N ps : List Str} {wb : EW → DS}
theorem fnO_of (F : FunD C.K x q params body scope dvs kws f fd) (S : FnScope N ps scope)
    (hbody : ∀ (cdv : Value) (A : Around) (outer : List PySem.Env) (s : Shared) (H : Hp) (E : XK) (B : Anc) (EE : EW), fd.code = cdv → RoomG k (A.deeper (PyProof.Rows.envOfC q scope s.heap.objs.size f cdv)) → Takes (cxOf (L2.CX P w) P w C.K mg base N q scope f cdv A outer s H E) (upX C B EE) →
      PSsd C B (cxOf (L2.CX P w) P w C.K mg base N q scope f cdv A outer s H E) body (wb EE)) : FnG P w C.K mg base (L2.CX P w) (k + 1) f fd ps (spD C ps.length (dFn N wb)) := by
  obtain ⟨oc, od, dV, kV, doc, pm, an, cdv, ct, osl, rfl, lk, hcd, _, _⟩ := F.ex
  refine ⟨fun vs H Q E h => h.1, fun A outer s H args us vs Q E hrg e0 hbn rv h => ?_⟩
  refine LamX.run_ofS lk hcd S hrg.toRoom e0 hbn rv h.1 fun hr0 => ?_
  have hr : RoomG k (A.deeper (PyProof.Rows.envOfC q scope s.heap.objs.size f cdv)) := ⟨hr0, hrg.gd⟩
  obtain ⟨hl, Z, ds, h, Qd, Ed, R, rs, wq, kq, kx⟩ := h
  have tk : Takes (cxOf (L2.CX P w) P w C.K mg base N q scope f cdv A outer s H E) (upX C ⟨Z, H⟩ (fun _ => finX Ed)) := by
    refine Takes.imp (takes_of (X := cxOf (L2.CX P w) P w C.K mg base N q scope f cdv A outer s H E) rfl rfl rfl rfl) fun cls p σ H' ⟨Z', ρ, h', ex, R', rx, h2, sub, e⟩ => ?_
    exact kx ex h2 cls p Z' H' e R'.anc (R'.toRelH.sub sub) rx
  have gf : ∀ d h' Z' H' v, fin Qd d h' → Fr Z H Z' H' → RelH C Z' H' h' → Rep C Z' H' d v → Q v H' := fun d h' Z' H' v ⟨d', h2, g, qd⟩ f' R' r' => by
    obtain ⟨Z2, f2, R2, r2⟩ := g C Z' H' v R' r'
    exact kq d' h2 v Z2 H' qd (f'.trans f2) R2 r2
  refine ⟨_, hbody cdv A outer s H E ⟨Z, H⟩ (fun _ => finX Ed) rfl hr tk, ⟨Z, startD N ds, h, _, start_rel R rs, wq, fun ρ' h' Z' H' σ' qn f' R' => gf .non h' Z' H' .non qn f' R'.toRelH rfl, fun _ _ _ _ _ z => z.elim, fun _ _ _ _ _ z => z.elim, fun d h' v Z' H' qr f' R' r' => gf d h' Z' H' v qr f' R' r'⟩⟩
theorem fnV_of {k : Nat} (F : FnG P w C.K mg base (L2.CX P w) k f fd ps (spD C ps.length W)) (hb : Binds C.K fd ps []) : FnV C P w mg base k f ps.length W := by
  intro A outer s H us vs Q E hr e0 rv h
  have hl : us.length = ps.length := by rw [← rv.length]; exact F.len _ _ _ _ h
  have b := hb s us (e0.mod.kin.keeps fun b o e => (e0.bs b o e).1) (by rw [List.append_nil]; exact hl)
  rw [List.append_nil] at b
  exact F.run A outer s H ⟨us, []⟩ us vs Q E hr e0 b rv h
end
end
end DL
end
section
set_option Elab.async false
set_option linter.all false
set_option maxRecDepth 100000
set_option maxHeartbeats 4000000
open PySem PySem.Spec L2
namespace DL
/-! ### raise of an own exception with one field -/
/-- what «def __init__(self, f): self.f = f» promises of an exception being made -/
def spI (Cx : Addr) (f : Str) : Sp := fun vs H Q _ => ∃ a y, vs = [V.ref a, y] ∧ H a = some (exo a Cx none) ∧ ∀ d, H d = none → d ≠ a → Q .non (upd (upd H d (exd d [(f, y)])) a (exo a Cx (some d)))
section
variable {C : Ctx} {A : Anc} {X : Cx} {E : EW} {k n : Nat} {fI : Addr} {W : DF} {x m c : Str} {p m1 pos : Pos} {e o : Expr} {es : List Expr} {wo : DE} {wr : DA}
theorem initX_ok {P : Program} {w : World} {K : PySem.W.Frag} {mg : Str → Option Value} {base : Heap} {CX : CXT} {fd : FuncData} {q f s0 : Str} {params : Arguments} {body : List Stmt} {scope : Scope} {dvs : List V} {kws : List (Str × V)} {Ca : Addr} {p1 p2 p3 p4 : Pos} (F : FunD K x q params body scope dvs kws fI fd) (S : FnScope [s0, f] [s0, f] scope)
    (hb : body = [.Assign [.Attribute (.Name s0 p1) f p2] (.Name f p3) p4]) (T : OexC K Ca) (hno : PySem.W.findIn K (.ref Ca) f = some none) (d1 : (s0 == ("__debug__" : Str)) = false) (d2 : (s0 == ("__classdict__" : Str)) = false) (d3 : (f == ("__debug__" : Str)) = false) (d4 : (f == ("__classdict__" : Str)) = false)
    (hsw : ∀ env, swapsWith (.Name f p3) (some (.Attribute (.Name s0 p1) f p2)) p4.line env = pure false := by intro _; rfl) :
    FnOk P w K mg base CX 1 fI fd [s0, f] (spI Ca f) := by
  refine F.ok S (fun vs H Q E h => ?_) fun cdv A outer s H vs Q E hr h => ?_
  · obtain ⟨a, y, rfl, _⟩ := h; rfl
  · obtain ⟨a, y, rfl, ea, q⟩ := h
    have v1 : Vis scope s0 := (S.par s0 (List.mem_cons_self ..)).elim .inl fun z => .inr (.inl z)
    have v2 : Vis scope f := (S.par f (List.mem_cons_of_mem _ (List.mem_cons_self ..))).elim .inl fun z => .inr (.inl z)
    refine ⟨tOst K f (tVar 0) (tVar 1), ?_, ?_⟩
    · rw [hb]
      exact pss_one (ps_ost (pe_var (i := 0) rfl v1 d1 d2) (pe_var (i := 1) rfl v2 d3 d4) (hsw _))
    · exact ⟨y, rfl, _, rfl, a, Ca, rfl, T, hno, .inl ⟨ea, fun dx n ne => q dx n ne⟩⟩
/-- raise c(e) -/
def dRaise (c f : Str) (E : EW) (wa : DE) : DS := fun _ ρ h => wa ρ h fun d h1 => E ρ ⟨c, [(f, d)]⟩ h1
theorem ds_raise {fd : FuncData} {s0 f : Str} (hK : X.K = C.K) (hc : X.calm = true) (tk : Takes X (upX C A E)) (T : OexC X.K (He.ga C.K c)) (iC : PySem.W.findIn X.K (.ref (He.ga C.K c)) "__init__" = some (some (.ref fI))) (tI : PySem.W.typeIn X.K (.ref fI) = some (.type "function"))
    (F1 : FnOk X.prog X.w X.K X.mg X.base (L2.CX X.prog X.w) 1 fI fd [s0, f] (spI (He.ga C.K c) f)) (hr : Room 2 X.A) (hb : Binds X.K fd [s0, f] []) (hg : Gl X x) (hm : X.mg x = some (.ref (He.ga C.K c))) (ha : PEd C A X e wo)
    (hdb : (x == ("__debug__" : Str)) = false := by decide) (he : starEach [e] X.env = (false, eval e X.env) :: starEach [] X.env := by rfl) (hpl : (backTo p (starEach ([] : List Expr) X.env)).any (·.1) = false := by rfl) :
    PSd C A X (.Raise (some (.Call (.Name x m1) [e] [] p)) none pos) (dRaise c f E wo) := by
  have tk' : Takes X (fun cls d _ H => False) := tk.imp fun _ _ _ _ z => z.elim
  have hx : Passes (L2.CX X.prog X.w) X (fun _ _ _ => False) := passes_call tk' fun _ _ _ _ z => z
  refine PS.imp (ps_raise hc tk (pmk_oex (k := 1) (ds := []) (dvs := []) T iC tI F1 hr hb .nil hx hg hm (pa_cons ha pa_nil he) hdb he hpl)) fun D σ H ⟨Z, ρ, h, Dd, R, q, _⟩ => ?_
  refine ⟨Z, ρ, h, _, R, q, fun dd h1 y Z1 H1 q1 f1 R1 r1 => ?_⟩
  refine ⟨by show (1 : Nat) ≤ 1000; decide, fun a na => ⟨a, y, rfl, upd_same, fun d nd ne => ⟨rfl, d, [(f, y)], upd_same, ?_, ?_, ?_⟩⟩⟩
  · rw [upd_ne ne, upd_same]
  · rw [← nd, upd_ne ne]
  · have nd1 : H1 d = none := by rw [← nd, upd_ne ne]
    have eH : upd (del (upd (upd (upd H1 a (exo a (He.ga C.K c) none)) d (exd d [(f, y)])) a (exo a (He.ga C.K c) (some d))) a) d (.xd [(f, y)]) = upd H1 d (.xd [(f, y)]) := by
      funext b
      unfold upd del
      by_cases hb : b = d
      · simp [hb]
      · by_cases hb2 : b = a
        · subst hb2; simp [hb, na]
        · simp [hb, hb2]
    rw [eH]
    have f2 : Fr Z1 H1 (fun b => Z1 b ∨ b = d) (upd H1 d (.xd [(f, y)])) := by
      have g := Fr.upd (o := .xd [(f, y)]) (R1.new nd1)
      exact ⟨fun b z => .inl z, g.rd, g.ins, g.xd, g.ext, g.frz⟩
    have R2 : RelH C (fun b => Z1 b ∨ b = d) (upd H1 d (.xd [(f, y)])) h1 := by
      have R' := R1.lay (u := .xd [(f, y)]) nd1
      refine ⟨fun b o eo => ?_, fun b zb => ?_, R'.tab⟩
      · obtain ⟨nz, ro⟩ := R'.obj b o eo
        have nb : b ≠ d := fun z => by rw [z, R1.none nd1] at eo; cases eo
        exact ⟨fun z => z.elim nz nb, ro.fr ⟨fun b z => .inl z, fun _ _ _ h => h, fun _ _ _ _ _ h => h, fun _ _ _ h => h, fun _ _ _ h => h, fun _ _ _ h => h⟩ fun _ q => q⟩
      · rcases zb with zb | zb
        · exact R'.zin b zb
        · subst zb; rw [upd_same]; exact ⟨fun z => (nomatch z), fun _ z => (nomatch z)⟩
    exact ⟨_, ρ, h1, ⟨c, [(f, dd)]⟩, R.next (f1.trans f2) R2, ⟨rfl, .inr rfl, [(f, y)], upd_same, ⟨y, [], rfl, r1.fr f2, rfl⟩⟩, q1⟩
/-! ### try: .. except c as e: .. -/
theorem Rel.re {Z : Addr → Prop} {H : Hp} {σ : St} {ρ : Env} {h : Hd} (R : Rel C A Z H σ ρ h) : Rel C ⟨Z, H⟩ Z H σ ρ h := ⟨R.toRelH, R.len, R.slot, Fr.refl⟩
theorem Rel.un {B : Anc} {Z : Addr → Prop} {H : Hp} {σ : St} {ρ : Env} {h : Hd} (R : Rel C B Z H σ ρ h) (f : Fr A.Z A.H B.Z B.H) : Rel C A Z H σ ρ h := ⟨R.toRelH, R.len, R.slot, f.trans R.anc⟩
theorem Rel.clear {Z : Addr → Prop} {H : Hp} {σ : St} {ρ : Env} {h : Hd} (R : Rel C A Z H σ ρ h) (i : Nat) : Rel C A Z H (σ.set i none) (ρ.set i none) h := by
  refine ⟨R.toRelH, by simp [R.len], fun j e q => ?_, R.anc⟩
  by_cases hj : i = j
  · subst hj
    rw [List.getElem?_set] at q
    simp only [if_true] at q
    split at q <;> cases q
  · rw [List.getElem?_set_ne hj] at q
    rw [List.getElem?_set_ne hj]
    exact R.slot j e q
/-- what the clause's class says of the raised one's -/
def XIn (K : PySem.W.Frag) (sub : Str → Str → Option Bool) (y : Str) : Prop := ∀ x b, sub x y = some b → PySem.W.exmOne K (.ref (He.ga K x)) (.ref (He.ga K y)) = some b
def endsI (i : Nat) (D : DEnds) : DEnds := { nx := fun ρ h => D.nx (ρ.set i none) h, rt := D.rt, bk := fun ρ h => D.bk (ρ.set i none) h, ct := fun ρ h => D.ct (ρ.set i none) h }
def dTryAs (sub : Str → Str → Option Bool) (y : Str) (i : Nat) (wb : EW → DS) (ws : Addr → Ex → DS) (E : EW) : DS := fun Dd ρ h =>
  wb (fun ρ' ex h' => onO (sub ex.cls y) fun b => if b then ∀ a, h' a = none → ws a ex (endsI i Dd) (ρ'.set i (some (.ref a))) h' else E ρ' ex h') Dd ρ h
def dTry (sub : Str → Str → Option Bool) (y : Str) (wb : EW → DS) (ws : DS) (E : EW) : DS := fun Dd ρ h =>
  wb (fun ρ' ex h' => onO (sub ex.cls y) fun b => if b then ws Dd ρ' h' else E ρ' ex h') Dd ρ h
/-- the suite, from a state of which the exception is told -/
def upSu (C : Ctx) (A : Anc) (Px : Ex → Prop) (ws : Ex → DS) (cls : Value) (d : Option Addr) : TS := fun D σ H => ∃ Z ρ h ex Dd, Rel C A Z H σ ρ h ∧ RepX C Z H cls d ex ∧ Px ex ∧ ws ex Dd ρ h ∧
  (∀ ρ' h' Z' H' σ', Dd.nx ρ' h' → Fr Z H Z' H' → Rel C A Z' H' σ' ρ' h' → D.nx σ' H') ∧
  (∀ ρ' h' Z' H' σ', Dd.bk ρ' h' → Fr Z H Z' H' → Rel C A Z' H' σ' ρ' h' → D.bk σ' H') ∧
  (∀ ρ' h' Z' H' σ', Dd.ct ρ' h' → Fr Z H Z' H' → Rel C A Z' H' σ' ρ' h' → D.ct σ' H') ∧
  ∀ d h' v Z' H', Dd.rt d h' → Fr Z H Z' H' → RelH C Z' H' h' → Rep C Z' H' d v → D.rt v H'
theorem pss_suite {Px : Ex → Prop} {sts : List Stmt} {ws : Ex → DS} {cls : Value} {d : Option Addr} (h : ∀ (B : Anc) (ex : Ex), RepX C B.Z B.H cls d ex → Px ex → PSsd C B X sts (ws ex)) : PSs X sts (upSu C A Px ws cls d) :=
  ⟨fun pins s σ H D I ⟨Z, ρ, hh, ex, Dd, R, rx, px, q, k1, k2, k3, k4⟩ => (h ⟨Z, H⟩ ex rx px).run pins s σ H D I ⟨Z, ρ, hh, Dd, R.re, q, fun ρ' h' Z' H' σ' q f R' => k1 ρ' h' Z' H' σ' q f (R'.un R.anc), fun ρ' h' Z' H' σ' q f R' => k2 ρ' h' Z' H' σ' q f (R'.un R.anc), fun ρ' h' Z' H' σ' q f R' => k3 ρ' h' Z' H' σ' q f (R'.un R.anc), k4⟩⟩
section
variable {sub : Str → Str → Option Bool} {y n : Str} {i : Nat} {wb : EW → DS} {ws : Addr → Ex → DS} {w0 : DS} {body suite : List Stmt} {b₀ : Stmt} {np pos' : Pos}
theorem ds_tryAs (hK : X.K = C.K) (hs : X.stack = X.env :: X.outer) (hf : X.env.frame = some X.env.locals) (hN : X.N.Nodup) (hi : X.N[i]? = some n) (hln : X.env.kindOf n = some .local) (hc : Names X y (.ref (He.ga C.K y))) (hsub : XIn C.K sub y) (tk : Takes X (upX C A E))
    (hb : ∀ (B : Anc) (EE : EW) (pn : List (Addr × Obj)) (xe : Value → Shared → Prop), Fr A.Z A.H B.Z B.H → Takes (X.tr pn xe) (upX C B EE) → PassesOwn (model X.prog X.w) X.A X.env xe → PSsd C B (X.tr pn xe) body (wb EE))
    (hsu : ∀ (B : Anc) (ex : Ex) (a : Addr) (oe : Obj) (cls : Value) (d : Option Addr) (pn : List (Addr × Obj)), Zc cls d oe → (∃ vs, oe.data = .fields vs) → RepX C B.Z B.H cls d ex → sub ex.cls y = some true → PSsd C B (X.suite a ((a, oe) :: pn)) (b₀ :: suite) (ws a ex)) :
    PSd C A X (.Try body [.ExceptHandler (some (.Name y np)) (some n) (b₀ :: suite) pos'] [] [] pos) (dTryAs sub y i wb ws E) := by
  refine PS.imp (ps_try_as (i := i) (c := .ref (He.ga C.K y)) (Wout := upX C A E) (tb := fun W D σ H => ∃ (B : Anc) (EE : EW), Fr A.Z A.H B.Z B.H ∧ (∀ cls p σ' H', upX C B EE cls p σ' H' → W cls p σ' H') ∧ UpS C B (wb EE) D σ H) (ts := fun a cls d => upSu C A (fun ex => sub ex.cls y = some true) (ws a) cls d) hs hf hN hi hln hc tk (fun W pn xe tk' po => ⟨fun pins s σ H D I ⟨B, EE, fB, hW, h⟩ => (hb B EE pn xe fB (tk'.imp hW) po).run pins s σ H D I h⟩)
    (fun a oe cls d pn z fl => pss_suite fun B ex rx px => hsu B ex a oe cls d pn z fl rx px)) fun D σ H ⟨Z, ρ, h, Dd, R, q, k1, k2, k3, k4⟩ => ?_
  refine ⟨⟨Z, H⟩, _, R.anc, fun cls p σ' H' ⟨Z', ρ', h', ex, R', rx, qx⟩ => ?_, Z, ρ, h, Dd, R.re, q, fun ρ' h' Z' H' σ' q f R' => k1 ρ' h' Z' H' σ' q f (R'.un R.anc), fun ρ' h' Z' H' σ' q f R' => k2 ρ' h' Z' H' σ' q f (R'.un R.anc), fun ρ' h' Z' H' σ' q f R' => k3 ρ' h' Z' H' σ' q f (R'.un R.anc), k4⟩
  obtain ⟨b, eb, qx⟩ := onO_some qx
  have ec : PySem.W.exmOne X.K cls (.ref (He.ga C.K y)) = some b := by rw [hK, rx.1]; exact hsub _ _ eb
  refine ⟨b, ec, fun hb a na => ?_, fun hb => ?_⟩
  · subst hb
    rw [if_pos rfl] at qx
    refine ⟨Z', ρ'.set i (some (.ref a)), h', ex, endsI i Dd, (R'.un R.anc).set (v := .ref a) i rfl, rx, eb, qx a (R'.toRelH.none na), ?_, ?_, ?_, fun d h'' v Z'' H'' qd f'' R'' r'' => k4 d h'' v Z'' H'' qd (R'.anc.trans f'') R'' r''⟩
    · exact fun ρ'' h'' Z'' H'' σ'' qn f'' R'' => k1 _ h'' Z'' H'' _ qn (R'.anc.trans f'') (R''.clear i)
    · exact fun ρ'' h'' Z'' H'' σ'' qn f'' R'' => k2 _ h'' Z'' H'' _ qn (R'.anc.trans f'') (R''.clear i)
    · exact fun ρ'' h'' Z'' H'' σ'' qn f'' R'' => k3 _ h'' Z'' H'' _ qn (R'.anc.trans f'') (R''.clear i)
  · subst hb
    exact ⟨Z', ρ', h', ex, R'.un R.anc, rx, qx⟩
theorem ds_try (hK : X.K = C.K) (hs : X.stack = X.env :: X.outer) (hf : X.env.frame = some X.env.locals) (hc : Names X y (.ref (He.ga C.K y))) (hsub : XIn C.K sub y) (tk : Takes X (upX C A E))
    (hb : ∀ (B : Anc) (EE : EW) (pn : List (Addr × Obj)) (xe : Value → Shared → Prop), Fr A.Z A.H B.Z B.H → Takes (X.tr pn xe) (upX C B EE) → PassesOwn (model X.prog X.w) X.A X.env xe → PSsd C B (X.tr pn xe) body (wb EE))
    (hsu : ∀ (B : Anc) (a : Addr) (pn : List (Addr × Obj)), PSsd C B (X.suite a pn) (b₀ :: suite) w0) :
    PSd C A X (.Try body [.ExceptHandler (some (.Name y np)) none (b₀ :: suite) pos'] [] [] pos) (dTry sub y wb w0 E) := by
  refine PS.imp (ps_try_only (c := .ref (He.ga C.K y)) (Wout := upX C A E) (tb := fun W D σ H => ∃ (B : Anc) (EE : EW), Fr A.Z A.H B.Z B.H ∧ (∀ cls p σ' H', upX C B EE cls p σ' H' → W cls p σ' H') ∧ UpS C B (wb EE) D σ H) (ts := fun a cls d => upSu C A (fun _ => True) (fun _ => w0) cls d) hs hf hc tk (fun W pn xe tk' po => ⟨fun pins s σ H D I ⟨B, EE, fB, hW, h⟩ => (hb B EE pn xe fB (tk'.imp hW) po).run pins s σ H D I h⟩)
    (fun a oe cls d pn z fl => pss_suite fun B ex rx _ => hsu B a ((a, oe) :: pn))) fun D σ H ⟨Z, ρ, h, Dd, R, q, k1, k2, k3, k4⟩ => ?_
  refine ⟨⟨Z, H⟩, _, R.anc, fun cls p σ' H' ⟨Z', ρ', h', ex, R', rx, qx⟩ => ?_, Z, ρ, h, Dd, R.re, q, fun ρ' h' Z' H' σ' q f R' => k1 ρ' h' Z' H' σ' q f (R'.un R.anc), fun ρ' h' Z' H' σ' q f R' => k2 ρ' h' Z' H' σ' q f (R'.un R.anc), fun ρ' h' Z' H' σ' q f R' => k3 ρ' h' Z' H' σ' q f (R'.un R.anc), k4⟩
  obtain ⟨b, eb, qx⟩ := onO_some qx
  have ec : PySem.W.exmOne X.K cls (.ref (He.ga C.K y)) = some b := by rw [hK, rx.1]; exact hsub _ _ eb
  refine ⟨b, ec, fun hb a na => ?_, fun hb => ?_⟩
  · subst hb
    rw [if_pos rfl] at qx
    refine ⟨Z', ρ', h', ex, Dd, R'.un R.anc, rx, trivial, qx, ?_, ?_, ?_, fun d h'' v Z'' H'' qd f'' R'' r'' => k4 d h'' v Z'' H'' qd (R'.anc.trans f'') R'' r''⟩
    · exact fun ρ'' h'' Z'' H'' σ'' qn f'' R'' => k1 _ h'' Z'' H'' _ qn (R'.anc.trans f'') R''
    · exact fun ρ'' h'' Z'' H'' σ'' qn f'' R'' => k2 _ h'' Z'' H'' _ qn (R'.anc.trans f'') R''
    · exact fun ρ'' h'' Z'' H'' σ'' qn f'' R'' => k3 _ h'' Z'' H'' _ qn (R'.anc.trans f'') R''
  · subst hb
    exact ⟨Z', ρ', h', ex, R'.un R.anc, rx, qx⟩
/-- e.f of the caught one -/
def dXf (a : Addr) (ex : Ex) (f : Str) (we : DE) : DE := fun ρ h Q => we ρ h fun d h1 => d = .ref a ∧ onO (ex.fs.lookup f) fun v => Q v h1
theorem repFs_some {Z : Addr → Prop} {H : Hp} {f : Str} {d : D} : ∀ {fs : List (Str × D)} {vs : List (Str × V)}, RepFs C Z H fs vs → fs.lookup f = some d → ∃ v, vs.lookup f = some v ∧ Rep C Z H d v
  | [], vs, r, l => by cases l
  | (g, d0) :: fs, vs, ⟨v, vr, e, r0, r⟩, l => by
    rw [e]
    rw [List.lookup] at l ⊢
    dsimp only
    split at l
    · cases l; exact ⟨v, rfl, r0⟩
    · exact repFs_some r l
theorem d_xf {B : Anc} {a : Addr} {oe : Obj} {cls : Value} {d : Option Addr} {pn : List (Addr × Obj)} {f : Str} {ex : Ex} (hK : X.K = C.K) (T : XfC C.K (He.ga C.K ex.cls)) (hno : PySem.W.findIn C.K (.ref (He.ga C.K ex.cls)) f = some none) (hz : Zc cls d oe) (hf : ∃ vs, oe.data = .fields vs) (rx : RepX C B.Z B.H cls d ex)
    (he : PEd C B (X.suite a ((a, oe) :: pn)) e wo) (hb : attributeBase e f X.env (eval e X.env) = eval e X.env := by rfl) : PEd C B (X.suite a ((a, oe) :: pn)) (.Attribute e f pos) (dXf a ex f wo) := by
  refine PE.imp (pe_xf (C := He.ga C.K ex.cls) (hK ▸ T) (hK ▸ hno) hz hf he hb) fun σ H Q ⟨Z, ρ, h, Qd, R, q, k⟩ => ⟨Z, ρ, h, _, R, q, fun x h1 v Z1 H1 ⟨ed, q1⟩ f1 R1 r1 => ?_⟩
  subst ed
  obtain ⟨y, ly, q1⟩ := onO_some q1
  obtain ⟨ec, r2⟩ := rx.fr (R.anc.trans f1)
  refine ⟨r1, ec, ?_⟩
  cases d with
  | none =>
    have r2 : ex.fs = [] := r2
    rw [r2] at ly; cases ly
  | some p =>
    obtain ⟨zp, fvs, sp, rf⟩ := r2
    obtain ⟨u, lu, ru⟩ := repFs_some rf ly
    exact ⟨p, fvs, u, rfl, sp, lu, k y h1 u Z1 H1 q1 f1 R1 ru⟩
end
end
end DL
end
section
set_option Elab.async false
set_option linter.all false
set_option maxRecDepth 100000
set_option maxHeartbeats 4000000
open PySem PySem.Spec L2
open LamX (CodeO Tabs TabB)
namespace DL
/-! ### a lambda handed to a def -/
/-- the object at f, made in the frames fs when the abstract heap was B.H, the heap s0's: a call of it keeps W wherever its makers' frames run on -/
structure CloAt (C : Ctx) (P : Program) (w : World) (mg : Str → Option Value) (base : Heap) (fs : List Addr) (s0 : Shared) (B : Anc) (k : Nat) (f : Addr) (n : Nat) (W : DF) : Prop where
  at_ : PySem.W.FnAt f s0.heap ∧ B.H f = none ∧ f ∉ fs
  run : ∀ (A : Around) (outer : List PySem.Env) (s : Shared) (H : Hp) (us : List Value) (vs : List V) (ds : List D) (Z : Addr → Prop) (h : Hd) (Qd : DK) (Ed : DX) (Q : VK) (E : XK), RoomG k A → Env0 P w C.K mg base A outer s H → Un fs [] B.H H s0.heap s.heap → Fr B.Z B.H Z H → RelH C Z H h → Reps C Z H ds vs → Vals vs us → ds.length = n → W ds h Qd Ed →
    (∀ d h' v Z' H', Qd d h' → Fr Z H Z' H' → RelH C Z' H' h' → Rep C Z' H' d v → Q v H') → (∀ ex h' cls p Z' H', Ed ex h' → Fr Z H Z' H' → RelH C Z' H' h' → RepX C Z' H' cls p ex → E cls p H') →
    codeAny (model P w) A (.call (.ref f) ⟨us, []⟩) (CR (L2.CX P w) outer P w H s Q E) s
/-- g's promise, told what it gets -/
def HofV (C : Ctx) (P : Program) (w : World) (mg : Str → Option Value) (base : Heap) (k kc : Nat) (g : Addr) (n nf : Nat) (Wg : Addr → DF → DF) : Prop :=
  ∀ (A : Around) (outer : List PySem.Env) (s : Shared) (H : Hp) (us : List Value) (vs : List V) (ds : List D) (Z : Addr → Prop) (h : Hd) (f : Addr) (Wf : DF) (Qd : DK) (Ed : DX) (Q : VK) (E : XK), RoomG k A → Env0 P w C.K mg base A outer s H → CloAt C P w mg base (frs outer) s ⟨Z, H⟩ kc f nf Wf → RelH C Z H h → Reps C Z H ds vs → Vals vs us → ds.length = n → Wg f Wf ds h Qd Ed →
    (∀ d h' v Z' H', Qd d h' → Fr Z H Z' H' → RelH C Z' H' h' → Rep C Z' H' d v → Q v H') → (∀ ex h' cls p Z' H', Ed ex h' → Fr Z H Z' H' → RelH C Z' H' h' → RepX C Z' H' cls p ex → E cls p H') →
    codeAny (model P w) A (.call (.ref g) ⟨us, []⟩) (CR (L2.CX P w) outer P w H s Q E) s
section
variable {C : Ctx} {A : Anc} {X : Cx} {E : EW} {k kc n nf : Nat} {f g : Addr} {W : DF} {x m c : Str} {p pos apos : Pos} {e o : Expr} {es : List Expr} {wo : DE} {wr : DA}
/-! the call of what was got -/
def dClo (i : Nat) (f : Addr) (n : Nat) (W : DF) (E : EW) (r : DA) : DE := fun ρ h Q => ρ[i]? = some (some (.ref f)) ∧ r ρ h fun ds h1 => ds.length = n ∧ W ds h1 Q (E ρ)
theorem run_clo {B : Anc} {pins : List (Addr × Obj)} {σ : St} {H : Hp} {s : Shared} {Z : Addr → Prop} {ρ : Env} {h : Hd} {ds : List D} {vs : List V} {us : List Value} {Qd : DK} (hK : X.K = C.K) (F : CloAt C X.prog X.w X.mg X.base X.fs X.s_0 B k f n W) (hB : B.H = X.H_0) (hex : X.ex = []) (hA : Fr B.Z B.H A.Z A.H) (hr : RoomG k X.A) (px : Psx C A X E)
    (hl : ds.length = n) (I : Inv X pins σ H s) (R : Rel C A Z H σ ρ h) (r : Vals vs us) (rs : Reps C Z H ds vs) (q : W ds h Qd (E ρ)) :
    wpAny (model X.prog X.w) X.A (call (.ref f) us) (EP X pins σ fun v H' => ∃ Z' h' d, Fr Z H Z' H' ∧ RelH C Z' H' h' ∧ Rep C Z' H' d v ∧ Qd d h') X.xe s := by
  have un : Un X.fs [] B.H H X.s_0.heap s.heap := by rw [hB, ← hex]; exact I.base
  refine wpAny_call (codeAny_mono (F.run X.A X.stack s H us vs ds Z h Qd (E ρ) (fun v H' => ∃ Z' h' d, Fr Z H Z' H' ∧ RelH C Z' H' h' ∧ Rep C Z' H' d v ∧ Qd d h') (WE (upX C A E) σ) hr (hK ▸ I.env0) un (hA.trans R.anc) R.toRelH rs r hl q (fun d h' v Z' H' qd f' R' r' => ⟨Z', h', d, f', R', r', qd⟩) fun ex h' cls pp Z' H' qe f' R' rx => ⟨Z', ρ, h', ex, R.next f' R', rx, qe⟩) fun r s' hq => ?_)
  cases r with
  | error e => exact px σ pins H s e s' I hq
  | ok fl =>
    cases fl with
    | ret u => exact I.after hq
    | next => exact False.elim hq
    | brk => exact False.elim hq
    | cont => exact False.elim hq
theorem clo_at {B : Anc} {pins : List (Addr × Obj)} {σ : St} {H : Hp} {s : Shared} (F : CloAt C X.prog X.w X.mg X.base X.fs X.s_0 B k f n W) (hB : B.H = X.H_0) (hex : X.ex = []) (I : Inv X pins σ H s) : PySem.W.FnAt f s.heap := by
  obtain ⟨⟨oc, od, fd, sl, e⟩, n1, n2⟩ := F.at_
  exact ⟨oc, od, fd, sl, I.base.keep f _ e (hB ▸ n1) n2 (by rw [hex]; simp)⟩
theorem d_clo {B : Anc} {i : Nat} (hK : X.K = C.K) (F : CloAt C X.prog X.w X.mg X.base X.fs X.s_0 B k f n W) (hB : B.H = X.H_0) (hex : X.ex = []) (hA : Fr B.Z B.H A.Z A.H) (hr : RoomG k X.A) (px : Psx C A X E) (hN : X.N[i]? = some x) (hv : Vis X.env.scope x) (ha : PAd C A X (e :: es) wr)
    (hd : (x == ("__debug__" : Str)) = false := by decide) (hcd : (x == ("__classdict__" : Str)) = false := by decide) (he : starEach (e :: es) X.env = (false, eval e X.env) :: starEach es X.env := by rfl) (hpl : (backTo pos (starEach es X.env)).any (·.1) = false := by rfl) :
    PEd C A X (.Call (.Name x p) (e :: es) [] pos) (dClo i f n W E wr) := by
  refine ⟨fun pins s σ H Q I ⟨Z, ρ, h, Qd, R, ⟨ei, q⟩, kk⟩ => ?_⟩
  obtain ⟨v0, e0, r0⟩ := R.slot i _ ei
  have r0 : v0 = .ref f := r0
  subst r0
  refine wpAny_Call_Name_kw (thn ((pe_var (pos := p) hN hv hd hcd).run pins s σ H (fun v H1 => v = .ref f ∧ H1 = H) I ⟨.ref f, e0, rfl, rfl⟩) fun u s1 ⟨v, H1, I1, r1, q1⟩ => ?_)
  obtain ⟨ev, eH⟩ := q1
  subst ev
  rw [eH] at I1
  obtain rfl : u = Value.ref f := r1
  refine PySem.W.callWith_F (first := []) (clo_at F hB hex I1) (thn (ha.run pos pins s1 σ H _ I1 ⟨Z, ρ, h, _, R, q, fun ds h1 vs Z1 H1 q1 f1 R1 r1 => (⟨Z1, h1, ds, f1, R1, r1, q1⟩ : ∃ Z1 h1 ds, Fr Z H Z1 H1 ∧ RelH C Z1 H1 h1 ∧ Reps C Z1 H1 ds vs ∧ ds.length = n ∧ W ds h1 Qd (E ρ))⟩) fun us s2 ⟨vs, H2, I2, r, Z2, h2, ds, f2, R2, r2, hl, q2⟩ => ⟨clo_at F hB hex I2, ?_⟩) he hpl
  exact thn (run_clo hK F hB hex hA hr px hl I2 (R.next f2 R2) r r2 q2) fun v s3 hq => EP.d (fun d h' v Z' H' qd f' R' r' => kk d h' v Z' H' qd (f2.trans f') R' r') hq
theorem d_clo0 {B : Anc} {i : Nat} (hK : X.K = C.K) (F : CloAt C X.prog X.w X.mg X.base X.fs X.s_0 B k f n W) (hB : B.H = X.H_0) (hex : X.ex = []) (hA : Fr B.Z B.H A.Z A.H) (hr : RoomG k X.A) (px : Psx C A X E) (hN : X.N[i]? = some x) (hv : Vis X.env.scope x)
    (hd : (x == ("__debug__" : Str)) = false := by decide) (hcd : (x == ("__classdict__" : Str)) = false := by decide) :
    PEd C A X (.Call (.Name x p) [] [] pos) (dClo i f n W E dNil) := by
  refine ⟨fun pins s σ H Q I ⟨Z, ρ, h, Qd, R, ⟨ei, hl, q⟩, kk⟩ => ?_⟩
  obtain ⟨v0, e0, r0⟩ := R.slot i _ ei
  have r0 : v0 = .ref f := r0
  subst r0
  refine wpAny_Call_Name_kw (thn ((pe_var (pos := p) hN hv hd hcd).run pins s σ H (fun v H1 => v = .ref f ∧ H1 = H) I ⟨.ref f, e0, rfl, rfl⟩) fun u s1 ⟨v, H1, I1, r1, q1⟩ => ?_)
  obtain ⟨ev, eH⟩ := q1
  subst ev
  rw [eH] at I1
  obtain rfl : u = Value.ref f := r1
  refine PySem.W.callWith_F0 (first := []) (clo_at F hB hex I1) ?_
  exact thn (run_clo (us := []) (vs := []) hK F hB hex hA hr px hl I1 R .nil rfl q) fun v s3 hq => EP.d kk hq
/-! the rule for the def that gets it -/
section
variable {P : Program} {w : World} {mg : Str → Option Value} {base : Heap} {q : Str} {params : Arguments} {body : List Stmt} {scope : Scope} {dvs : List V} {kws : List (Str × V)} {fd : FuncData} {N ps : List Str} {wb : Addr → DF → EW → DS}
theorem hofV_of (F : FunD C.K x q params body scope dvs kws g fd) (S : FnScope N ps scope) (hb : Binds C.K fd ps [])
    (hbody : ∀ (cdv : Value) (A : Around) (outer : List PySem.Env) (s : Shared) (H : Hp) (E : XK) (B : Anc) (EE : EW) (f : Addr) (Wf : DF), RoomG k (A.deeper (PyProof.Rows.envOfC q scope s.heap.objs.size g cdv)) → Takes (cxOf (L2.CX P w) P w C.K mg base N q scope g cdv A outer s H E) (upX C B EE) → B.H = H → CloAt C P w mg base (frs outer) s B kc f nf Wf →
      PSsd C B (cxOf (L2.CX P w) P w C.K mg base N q scope g cdv A outer s H E) body (wb f Wf EE)) : HofV C P w mg base (k + 1) kc g ps.length nf (fun f Wf => dFn N (wb f Wf)) := by
  intro A outer s H us vs ds Z h f Wf Qd Ed Q E hr e0 F1 R rs rv hl wq kq kx
  obtain ⟨oc, od, dV, kV, doc, pm, an, cdv, ct, osl, rfl, lk, hcd, _, _⟩ := F.ex
  have hlv : vs.length = ps.length := by rw [rs.length, hl]
  have kin : C.K.In s.heap := e0.mod.kin.keeps fun b o e => (e0.bs b o e).1
  have b := hb s us kin (by rw [List.append_nil, ← rv.length]; exact hlv)
  rw [List.append_nil] at b
  refine LamX.run_ofS lk hcd S hr.toRoom e0 b rv hlv fun hr0 => ?_
  have hr' : RoomG k (A.deeper (PyProof.Rows.envOfC q scope s.heap.objs.size g cdv)) := ⟨hr0, hr.gd⟩
  have tk : Takes (cxOf (L2.CX P w) P w C.K mg base N q scope g cdv A outer s H E) (upX C ⟨Z, H⟩ (fun _ => finX Ed)) := by
    refine Takes.imp (takes_of (X := cxOf (L2.CX P w) P w C.K mg base N q scope g cdv A outer s H E) rfl rfl rfl rfl) fun cls p σ H' ⟨Z', ρ, h', ex, R', rx, h2, sub, e⟩ => ?_
    exact kx ex h2 cls p Z' H' e R'.anc (R'.toRelH.sub sub) rx
  have gf : ∀ d h' Z' H' v, fin Qd d h' → Fr Z H Z' H' → RelH C Z' H' h' → Rep C Z' H' d v → Q v H' := fun d h' Z' H' v ⟨d', h2, g, qd⟩ f' R' r' => by
    obtain ⟨Z2, f2, R2, r2⟩ := g C Z' H' v R' r'
    exact kq d' h2 v Z2 H' qd (f'.trans f2) R2 r2
  exact ⟨_, hbody cdv A outer s H E ⟨Z, H⟩ (fun _ => finX Ed) f Wf hr' tk rfl F1, ⟨Z, startD N ds, h, _, start_rel R rs, wq, fun ρ' h' Z' H' σ' qn f' R' => gf .non h' Z' H' .non qn f' R'.toRelH rfl, fun _ _ _ _ _ z => z.elim, fun _ _ _ _ _ z => z.elim, fun d h' v Z' H' qr f' R' r' => gf d h' Z' H' v qr f' R' r'⟩⟩
end
/-! the def that makes it -/
def slotD (ρ : Env) (j : Nat) : Option D := match ρ[j]? with
  | some o => o
  | none => none
theorem slotD_some {ρ : Env} {j : Nat} {d : D} (h : slotD ρ j = some d) : ρ[j]? = some (some d) := by
  unfold slotD at h
  split at h
  · rename_i q; rw [q, h]
  · cases h
/-- what a lambda's call does, made at the slots ρ; js: where the captured names stand there -/
def dLamW (js : List Nat) (wl : EW → DE) (ρ : Env) : DF := fun ds h Q E => wl (fun _ => finX E) (ds.map some ++ js.map (slotD ρ)) h (fin Q)
theorem own_kind {Z : Addr → Prop} {H : Hp} {h : Hd} (R : RelH C Z H h) {a : Addr} {o : O} (e : h a = some o) : ∃ u, H a = some u ∧ (∀ ps, u ≠ .tbl ps) ∧ ∀ φ, u ≠ .ext φ := by
  have r := own_rep R e
  cases o with
  | ol ds => obtain ⟨vs, s, _⟩ := r; exact ⟨_, s, fun _ z => (nomatch z), fun _ z => (nomatch z)⟩
  | od ds => obtain ⟨vs, s, _⟩ := r; exact ⟨_, s, fun _ z => (nomatch z), fun _ z => (nomatch z)⟩
  | odl ds => obtain ⟨vs, s, _⟩ := r; rcases s with s | ⟨_, s⟩ <;> exact ⟨_, s, fun _ z => (nomatch z), fun _ z => (nomatch z)⟩
  | oi c ds => obtain ⟨dx, vs, s, _⟩ := r; exact ⟨_, s, fun _ z => (nomatch z), fun _ z => (nomatch z)⟩
theorem fr_extN {Z : Addr → Prop} {H H1 : Hp} (z : ∀ a, Z a → H a ≠ none ∧ ∀ ps, H a ≠ some (.tbl ps)) (e : LamX.ExtN H H1) : Fr Z H Z H1 := by
  have nt : ∀ a u, Z a → H a = some u → ∀ ps, u ≠ .tbl ps := fun a u za ea ps eu => (z a za).2 ps (eu ▸ ea)
  refine ⟨fun _ h => h, fun a u za r => ?_, fun a c dx fs za ea => e a _ ea (nt a _ za ea), fun a fs za ea => e a _ ea (nt a _ za ea), fun a φ za ea => e a _ ea (nt a _ za ea), fun a o vs ea => e a _ ea fun _ z => (nomatch z)⟩
  rcases r with r | ⟨o, r⟩
  · exact .inl (e a _ r (nt a _ za r))
  · exact .inr ⟨o, e a _ r (nt a _ za r)⟩
theorem relH_extN {Z : Addr → Prop} {H H1 : Hp} {h : Hd} (R : RelH C Z H h) (e : LamX.ExtN H H1) (t : Tabs C.T H1) : RelH C Z H1 h := by
  have f := fr_extN R.zin e
  refine ⟨fun a o ea => ?_, fun a za => ?_, t⟩
  · obtain ⟨nz, r⟩ := R.obj a o ea
    obtain ⟨u, eu, nt, _⟩ := own_kind R ea
    exact ⟨nz, r.fr f fun w ew => by rw [eu] at ew; cases ew; exact e a _ eu nt⟩
  · cases q : H a with
    | none => exact absurd q (R.zin a za).1
    | some u =>
      have nt : ∀ ps, u ≠ .tbl ps := fun ps eu => (R.zin a za).2 ps (eu ▸ q)
      rw [e a u q nt]
      exact ⟨fun z => (nomatch z), fun ps z => nt ps (Option.some.inj z)⟩
theorem relH_code {Z : Addr → Prop} {H : Hp} {h : Hd} {c' : Addr} {q : Str} (R : RelH C Z H h) (e : H c' = some (CodeO c' q)) : RelH C (fun a => Z a ∨ a = c') H h := by
  refine ⟨fun a o ea => ?_, fun a za => ?_, R.tab⟩
  · obtain ⟨nz, r⟩ := R.obj a o ea
    obtain ⟨u, eu, _, ne⟩ := own_kind R ea
    refine ⟨fun z => z.elim nz fun z => ?_, r.fr ⟨fun _ z => .inl z, fun _ _ _ h => h, fun _ _ _ _ _ h => h, fun _ _ _ h => h, fun _ _ _ h => h, fun _ _ _ h => h⟩ fun _ q => q⟩
    subst z
    rw [eu] at e
    exact ne _ (Option.some.inj e)
  · rcases za with za | rfl
    · exact R.zin a za
    · rw [e]; exact ⟨fun z => (nomatch z), fun ps z => LamX.codeO_ne ps (Option.some.inj z)⟩
theorem fr_code {Z : Addr → Prop} {H : Hp} {c' : Addr} : Fr Z H (fun a => Z a ∨ a = c') H := ⟨fun _ z => .inl z, fun _ _ _ h => h, fun _ _ _ _ _ h => h, fun _ _ _ h => h, fun _ _ _ h => h, fun _ _ _ h => h⟩
section
variable {params : Arguments} {body : Expr} {scope : Scope} {ps fr : List Str} {js : List Nat} {wl : EW → DE} {q : Str}
abbrev lamF (X : Cx) (params : Arguments) (scope : Scope) (c' : Addr) : NdefX.NF := ⟨"<lambda>", X.env.qual ++ "<lambda>", params, [], scope, cloFrom X.env.cells scope.names [], c'⟩
/-- what is to be shown of a lambda's body -/
def LamBody (C : Ctx) (X : Cx) (k : Nat) (params : Arguments) (body : Expr) (scope : Scope) (ps fr : List Str) (wl : EW → DE) : Prop :=
  ∀ (A : Around) (outer : List PySem.Env) (s : Shared) (H : Hp) (E : XK) (B : Anc) (EE : EW) (f c' : Addr), RoomG k (A.deeper (NdefX.envF (lamF X params scope c') f s.heap.objs.size)) → Takes (NdefX.ncx (L2.CX X.prog X.w) X.prog X.w C.K X.mg X.base (ps ++ fr) (lamF X params scope c') f A outer s H E) (upX C B EE) →
    PEd C B (NdefX.ncx (L2.CX X.prog X.w) X.prog X.w C.K X.mg X.base (ps ++ fr) (lamF X params scope c') f A outer s H E) body (wl EE)
theorem lam_slots {Z Z' : Addr → Prop} {H H' : Hp} {σ : St} {ρ : Env} {h : Hd} {ds : List D} {vs : List V} {n : Nat} (R : Rel C A Z H σ ρ h) (f : Fr Z H Z' H') (r : Reps C Z' H' ds vs) (js : List Nat) :
    ∀ (i : Nat) (d : D), (ds.map some ++ js.map (slotD ρ))[i]? = some (some d) → ∃ v, (vs.map some ++ (js.map (NdefX.slotAt σ) ++ List.replicate n none))[i]? = some (some v) ∧ Rep C Z' H' d v := by
  have cap : ∀ (js : List Nat) (i : Nat) (d : D), (js.map (slotD ρ))[i]? = some (some d) → ∃ v, (js.map (NdefX.slotAt σ) ++ List.replicate n none)[i]? = some (some v) ∧ Rep C Z' H' d v := by
    intro js
    induction js with
    | nil => intro i d e; simp at e
    | cons j js ih =>
      intro i d e
      cases i with
      | zero =>
        have e : some (slotD ρ j) = some (some d) := e
        obtain ⟨v, e2, r2⟩ := R.slot j d (slotD_some (Option.some.inj e))
        exact ⟨v, by show some (NdefX.slotAt σ j) = _; rw [NdefX.slotAt_of e2], r2.fr f⟩
      | succ i => exact ih i d e
  induction ds generalizing vs with
  | nil =>
    intro i d e
    rw [show vs = [] from r]
    exact cap js i d e
  | cons d0 ds ih =>
    obtain ⟨v0, vr, ev, r0, rr⟩ := r
    subst ev
    intro i d e
    cases i with
    | zero => have e : some (some d0) = some (some d) := e; cases e; exact ⟨v0, rfl, r0⟩
    | succ i => exact ih rr i d e
theorem clo_lam {pins : List (Addr × Obj)} {σ : St} {H : Hp} {s : Shared} {Z : Addr → Prop} {ρ : Env} {h : Hd} {c' : Addr} {pm ctv : Value} (hK : X.K = C.K) (S : NdefX.NScope (ps ++ fr) ps fr scope)
    (cp : X.Ok → NdefX.Caps X (cloFrom X.env.cells scope.names []) fr js) (hbind : ∀ (q : Str) (cl : List (Str × Addr)) (pm cv ctv : Value) (us : List Value), us.length = ps.length → bindArgs (PySem.W.kla_fn "<lambda>" q params body scope cl pm cv ctv) ⟨us, []⟩ = pure (ps.zip us))
    (hbody : LamBody C X k params body scope ps fr wl)
    (I : Inv X pins σ H s) (R : Rel C A Z H σ ρ h) (hf : s.heap.get? f = some (PySem.W.kla_obj "<lambda>" (X.env.qual ++ "<lambda>") params body scope (cloFrom X.env.cells scope.names []) pm c' ctv)) (hfn : H f = none) (hfr : f ∉ frs X.stack) (hc : H c' = some (CodeO c' (X.env.qual ++ "<lambda>"))) :
    CloAt C X.prog X.w X.mg X.base (frs X.stack) s ⟨fun a => Z a ∨ a = c', H⟩ (k + 1) f ps.length (dLamW js wl ρ) := by
  refine ⟨⟨⟨_, _, _, _, hf⟩, hfn, hfr⟩, ?_⟩
  intro A1 outer s1 H1 us vs ds Z1 h1 Qd Ed Q E hr e0 un fz R1 rs rv hl wq kq kx
  have of1 : s1.heap.get? f = some (PySem.W.kla_obj "<lambda>" (X.env.qual ++ "<lambda>") params body scope (cloFrom X.env.cells scope.names []) pm c' ctv) := un.keep f _ hf hfn hfr (by simp)
  have hc1 : H1 c' = some (CodeO c' (X.env.qual ++ "<lambda>")) := fz.ext c' _ (.inr rfl) hc
  have lim : s1.heap.NoLimit := e0.mod.nolimit.keeps fun b o e => (e0.bs b o e).1
  have hlv : vs.length = ps.length := by rw [rs.length, hl]
  have C0 := NdefX.cells_of I (cp I.ok)
  have kc : ∀ y c, (cloFrom X.env.cells scope.names []).lookup y = some c → ∀ v, s.heap.IsCell c v → s1.heap.IsCell c v := fun y c e v ⟨o, ho, hd⟩ => by
    obtain ⟨sl, z⟩ := un.any ho (C0.all y c e).1 (by simp)
    exact ⟨_, z, hd⟩
  have C1 : NdefX.CellsAt (cloFrom X.env.cells scope.names []) fr (js.map (NdefX.slotAt σ)) s1.heap H1 := by
    refine ⟨C0.len, fun y c e => ?_, C0.inj, fun i y e => ?_⟩
    · obtain ⟨n, v, z⟩ := C0.all y c e
      refine ⟨?_, v, kc y c e v z⟩
      obtain ⟨o, ho, _⟩ := z
      exact un.free c o ho n (by simp)
    · obtain ⟨c, hc, hv⟩ := C0.has i y e
      refine ⟨c, hc, fun v ev => ?_⟩
      obtain ⟨u, r, z⟩ := hv v ev
      exact ⟨u, r, kc y c hc _ z⟩
  refine PySem.W.kla_callFunE hr.depth of1 rfl S.co S.gen rfl (NdefX.codeO_at e0.hok hc1) ?_
  rw [hbind _ _ _ _ _ us (by rw [← rv.length]; exact hlv)]
  refine wpAny_pure (wpAny_newFunctionEnv S.nocell (fun ⟨n, _⟩ hy => S.par n (List.of_mem_zip hy).1) (fun h₁ hns hsb => ⟨lim.fresh _ hsb, ?_⟩) S.kind)
  have kp : ∀ b o, s1.heap.get? b = some o → h₁.get? b = some o := fun b o e => hsb.extBut b o (Nat.ne_of_lt (Heap.lt_size e)) (Heap.get?_push_of_some _ e)
  have J := NdefX.inv_startN (CX := L2.CX X.prog X.w) (N := ps ++ fr) (F := lamF X params scope c') (f := f) (E := E) (tk := s1.toks + (ps.zip us).length) S hr.hd e0 hlv rv C1 hns kp
  have R2 : Rel C ⟨Z1, H1⟩ Z1 H1 (NdefX.startF (ps ++ fr) vs (js.map (NdefX.slotAt σ))) (ds.map some ++ js.map (slotD ρ)) h1 := by
    have ljs : js.length = fr.length := by have := C0.len; simpa using this
    refine ⟨R1, ?_, fun i d e => ?_, Fr.refl⟩
    · unfold NdefX.startF
      simp only [List.length_append, List.length_map, List.length_replicate]
      have := rs.length
      omega
    · unfold NdefX.startF
      exact lam_slots (C := C) R ((fr_code (c' := c')).trans fz) rs js i d e
  have tk : Takes (NdefX.ncx (L2.CX X.prog X.w) X.prog X.w C.K X.mg X.base (ps ++ fr) (lamF X params scope c') f A1 outer s1 H1 E) (upX C ⟨Z1, H1⟩ (fun _ => finX Ed)) := by
    refine Takes.imp (takes_of (X := NdefX.ncx (L2.CX X.prog X.w) X.prog X.w C.K X.mg X.base (ps ++ fr) (lamF X params scope c') f A1 outer s1 H1 E) rfl rfl rfl rfl) fun cls p σ H' ⟨Z', ρ, h', ex, R', rx, h2, sub, e⟩ => ?_
    exact kx ex h2 cls p Z' H' e R'.anc (R'.toRelH.sub sub) rx
  refine PySem.W.kla_codeExpr (wpAny_mono ((hbody A1 outer s1 H1 E ⟨Z1, H1⟩ (fun _ => finX Ed) f c' (hr.deeper _) tk).run [] _ _ H1 Q J ⟨Z1, _, h1, fin Qd, R2, wq, fun d h' v Z' H' ⟨d', h2, g, qd⟩ f' R' r' => ?_⟩) (fun v s' hq => ?_) fun e s' hq => hq)
  · obtain ⟨Z2, f2, R2, r2⟩ := g C Z' H' v R' r'
    exact kq d' h2 v Z2 H' qd (f'.trans f2) R2 r2
  · obtain ⟨w', H', J', rv', q'⟩ := hq
    exact ⟨w', H', J'.os, J'.bare, J'.base, J'.hok, rv', q'⟩
/-! g(.., lambda ..: ..) -/
def dHof (n : Nat) (Wg : Addr → DF → DF) (js : List Nat) (wl : EW → DE) (E : EW) (r : DA) : DE := fun ρ h Q => r ρ h fun ds h1 => ds.length + 1 = n ∧ ∀ f, h1 f = none → Wg f (dLamW js wl ρ) (ds ++ [.ref f]) h1 Q (E ρ)
theorem Reps.snoc {Z : Addr → Prop} {H : Hp} {d : D} {v : V} (r : Rep C Z H d v) : ∀ {ds : List D} {vs : List V}, Reps C Z H ds vs → Reps C Z H (ds ++ [d]) (vs ++ [v])
  | [], vs, e => by rw [show vs = [] from e]; exact ⟨v, [], rfl, r, rfl⟩
  | d0 :: ds, vs, ⟨v0, vr, e, r0, rr⟩ => by subst e; exact ⟨v0, _, rfl, r0, Reps.snoc r rr⟩
structure LamAt (C : Ctx) (X : Cx) (k : Nat) (params : Arguments) (body : Expr) (scope : Scope) (ps fr : List Str) (js : List Nat) (wl : EW → DE) : Prop where
  S : NdefX.NScope (ps ++ fr) ps fr scope
  free : ∀ y ∈ scope.names, y.2 = .free → X.env.scope.names.lookup y.1 = some .cell ∨ X.env.scope.names.lookup y.1 = some .free
  hfr : ∀ y ∈ fr, (y, NameKind.free) ∈ scope.names
  hjs : js.map (fun j => X.N[j]?) = fr.map some
  dfl : defaultsOf params X.env = ([], [])
  bind : ∀ (q : Str) (cl : List (Str × Addr)) (pm cv ctv : Value) (us : List Value), us.length = ps.length → bindArgs (PySem.W.kla_fn "<lambda>" q params body scope cl pm cv ctv) ⟨us, []⟩ = pure (ps.zip us)
  body : LamBody C X k params body scope ps fr wl
structure TabAt (C : Ctx) (X : Cx) (ca P : Addr) : Prop where
  tb : TabB X.base X.mg ca P
  code : X.env.code = .ref ca
  mem : (P, X.env.qual ++ "<lambda>") ∈ C.T
  un : ∀ p ∈ C.T, p.1 = P → p.2 = X.env.qual ++ "<lambda>"
theorem run_lam {ca P : Addr} {lpos : Pos} {pins : List (Addr × Obj)} {σ : St} {H : Hp} {s : Shared} {Z : Addr → Prop} {ρ : Env} {h : Hd} (hK : X.K = C.K) (T : TabAt C X ca P) (L : LamAt C X kc params body scope ps fr js wl)
    (I : Inv X pins σ H s) (R : Rel C A Z H σ ρ h) {Q : Value → Shared → Prop}
    (hq : ∀ (f : Addr) (H1 : Hp) (Z1 : Addr → Prop) (s1 : Shared), Inv X pins σ H1 s1 → Fr Z H Z1 H1 → RelH C Z1 H1 h → h f = none → CloAt C X.prog X.w X.mg X.base (frs X.stack) s1 ⟨Z1, H1⟩ (kc + 1) f ps.length (dLamW js wl ρ) → Q (.ref f) s1) :
    wpAny (model X.prog X.w) X.A (eval (.Lambda params body scope lpos) X.env) Q X.xe s := by
  have cp : X.Ok → NdefX.Caps X (cloFrom X.env.cells scope.names []) fr js := fun ok => NdefX.Caps.made ok L.free L.hfr L.hjs
  have hfree : ∀ y ∈ scope.names, y.2 = .free → ∃ c, X.env.cells.lookup y.1 = some c := fun y hy e => (L.free y hy e).elim (fun z => I.ok.has _ (.inl z)) fun z => I.ok.has _ (.inr z)
  refine LamX.lam_make2 I T.tb T.code T.mem T.un R.toRelH.tab L.dfl hfree fun f c' pm' ctv H1 s' I1 eN T1 hf hfn hfr hco => ?_
  have f1 : Fr Z H Z H1 := fr_extN R.toRelH.zin eN
  have R1 : RelH C Z H1 h := relH_extN R.toRelH eN T1
  have R1' : Rel C A Z H1 σ ρ h := R.next f1 R1
  exact hq f H1 (fun a => Z a ∨ a = c') s' I1 (f1.trans fr_code) (relH_code R1 hco) (R1.none hfn) (clo_lam hK L.S cp L.bind L.body I1 R1' hf hfn hfr hco)
variable {Wg : Addr → DF → DF}
theorem run_g {pins : List (Addr × Obj)} {σ : St} {H : Hp} {s : Shared} {Z : Addr → Prop} {ρ : Env} {h : Hd} {ds : List D} {vs : List V} {us : List Value} {Qd : DK} {Wf : DF} (hK : X.K = C.K) (F : HofV C X.prog X.w X.mg X.base k kc g n nf Wg) (hr : RoomG k X.A) (px : Psx C A X E)
    (I : Inv X pins σ H s) (R : Rel C A Z H σ ρ h) (r : Vals vs us) (rs : Reps C Z H ds vs) (hl : ds.length = n) (F1 : CloAt C X.prog X.w X.mg X.base (frs X.stack) s ⟨Z, H⟩ kc f nf Wf) (q : Wg f Wf ds h Qd (E ρ)) :
    wpAny (model X.prog X.w) X.A (call (.ref g) us) (EP X pins σ fun v H' => ∃ Z' h' d, Fr Z H Z' H' ∧ RelH C Z' H' h' ∧ Rep C Z' H' d v ∧ Qd d h') X.xe s := by
  refine wpAny_call (codeAny_mono (F X.A X.stack s H us vs ds Z h f Wf Qd (E ρ) (fun v H' => ∃ Z' h' d, Fr Z H Z' H' ∧ RelH C Z' H' h' ∧ Rep C Z' H' d v ∧ Qd d h') (WE (upX C A E) σ) hr (hK ▸ I.env0) F1 R.toRelH rs r hl q (fun d h' v Z' H' qd f' R' r' => ⟨Z', h', d, f', R', r', qd⟩) fun ex h' cls pp Z' H' qe f' R' rx => ⟨Z', ρ, h', ex, R.next f' R', rx, qe⟩) fun r s' hq => ?_)
  cases r with
  | error e => exact px σ pins H s e s' I hq
  | ok fl =>
    cases fl with
    | ret u => exact I.after hq
    | next => exact False.elim hq
    | brk => exact False.elim hq
    | cont => exact False.elim hq
/-- g(lambda ..: ..) -/
theorem d_hof1 {ca P : Addr} {lpos : Pos} (hK : X.K = C.K) (F : HofV C X.prog X.w X.mg X.base k (kc + 1) g n ps.length Wg) (hr : RoomG k X.A) (hg : Gl X x) (hm : X.mg x = some (.ref g)) (hk : PySem.W.keepIn X.K (.ref g) = true) (px : Psx C A X E) (T : TabAt C X ca P) (L : LamAt C X kc params body scope ps fr js wl)
    (hdb : (x == ("__debug__" : Str)) = false := by decide) : PEd C A X (.Call (.Name x p) [.Lambda params body scope lpos] [] pos) (dHof n Wg js wl E dNil) := by
  refine ⟨fun pins s σ H Q I ⟨Z, ρ, h, Qd, R, ⟨hl, q⟩, kk⟩ => ?_⟩
  refine wpAny_Call_Name_kw (ld_glob I hg hm ?_ hdb)
  refine PySem.W.callWith_K (h₀ := X.base) I.ok.mod.kin hk ?_ (by rfl) (by rfl)
  show wpAny _ _ (spliced ((false, eval (.Lambda params body scope lpos) X.env) :: backTo pos (starEach [] X.env))) _ _ s
  refine Calls.spliced_cons (run_lam hK T L I R fun f H1 Z1 s1 I1 f1 R1 nf F1 => ?_)
  refine Calls.spliced_nil ⟨I1.kIn, ?_⟩
  exact thn (run_g (us := [.ref f]) (vs := [.ref f]) (ds := [.ref f]) hK F hr px I1 (R.next f1 R1) (.cons rfl .nil) ⟨_, [], rfl, rfl, rfl⟩ hl F1 (q f nf)) fun v s3 hq => EP.d (fun d h' v Z' H' qd f' R' r' => kk d h' v Z' H' qd (f1.trans f') R' r') hq
/-- g(e, lambda ..: ..) -/
theorem d_hof2 {ca P : Addr} {lpos : Pos} (hK : X.K = C.K) (F : HofV C X.prog X.w X.mg X.base k (kc + 1) g n ps.length Wg) (hr : RoomG k X.A) (hg : Gl X x) (hm : X.mg x = some (.ref g)) (hk : PySem.W.keepIn X.K (.ref g) = true) (px : Psx C A X E) (T : TabAt C X ca P) (L : LamAt C X kc params body scope ps fr js wl) (he : PEd C A X e wo)
    (hdb : (x == ("__debug__" : Str)) = false := by decide) (hst : starEach [e, .Lambda params body scope lpos] X.env = [(false, eval e X.env), (false, eval (.Lambda params body scope lpos) X.env)] := by rfl) : PEd C A X (.Call (.Name x p) [e, .Lambda params body scope lpos] [] pos) (dHof n Wg js wl E (dCons wo dNil)) := by
  refine ⟨fun pins s σ H Q I ⟨Z, ρ, h, Qd, R, q, kk⟩ => ?_⟩
  refine wpAny_Call_Name_kw (ld_glob I hg hm ?_ hdb)
  refine PySem.W.callWith_K (h₀ := X.base) I.ok.mod.kin hk ?_ (show starEach [e, .Lambda params body scope lpos] X.env = (false, eval e X.env) :: starEach [.Lambda params body scope lpos] X.env from hst) (by rfl)
  rw [hst]
  show wpAny _ _ (spliced ((false, eval e X.env) :: [(false, eval (.Lambda params body scope lpos) X.env)])) _ _ s
  refine Calls.spliced_cons (thn (run_d he I R q) fun u s0 ⟨v0, H0, I0, r0, Z0, h0, d0, f0, R0, r0d, hl, q0⟩ => ?_)
  refine Calls.spliced_cons (run_lam hK T L I0 (R.next f0 R0) fun f H1 Z1 s1 I1 f1 R1 nf F1 => ?_)
  refine Calls.spliced_nil ⟨I1.kIn, ?_⟩
  exact thn (run_g (us := [u, .ref f]) (vs := [v0, .ref f]) (ds := [d0, .ref f]) hK F hr px I1 (R.next (f0.trans f1) R1) (.cons r0 (.cons rfl .nil)) ⟨_, _, rfl, r0d.fr f1, _, [], rfl, rfl, rfl⟩ hl F1 (q0 f nf)) fun v s3 hq => EP.d (fun d h' v Z' H' qd f' R' r' => kk d h' v Z' H' qd ((f0.trans f1).trans f') R' r') hq
end
end
end DL
end
section
set_option Elab.async false
set_option linter.all false
set_option maxRecDepth 100000
set_option maxHeartbeats 4000000
open PySem PySem.Spec L2
namespace DL
/-! ### what is known of each def, class, exception -/
/-- a def of the row's top -/
def DefOk (C : Ctx) (P : Program) (w : World) (mg : Str → Option Value) (base : Heap) (st : Stmt) (x : Str) (k : Nat) (ps : List Str) (W : DF) : Prop :=
  ∃ fd, FunD C.K x x (defArgs st) (defBody st) (defScope st) [] [] (He.ga C.K x) fd ∧ FnG P w C.K mg base (L2.CX P w) k (He.ga C.K x) fd ps (spD C ps.length W) ∧ mg x = some (.ref (He.ga C.K x)) ∧ Binds C.K fd ps []
/-- a def that gets a function -/
def HofOk (C : Ctx) (P : Program) (w : World) (mg : Str → Option Value) (base : Heap) (x : Str) (k kc n nf : Nat) (W : Addr → DF → DF) : Prop :=
  HofV C P w mg base k kc (He.ga C.K x) n nf W ∧ mg x = some (.ref (He.ga C.K x)) ∧ PySem.W.keepIn C.K (.ref (He.ga C.K x)) = true
def MetOk (C : Ctx) (P : Program) (w : World) (mg : Str → Option Value) (base : Heap) (st : Stmt) (c m q : Str) (k : Nat) (ps : List Str) (W : DF) : Prop :=
  ∃ fd, FunD C.K m q (defArgs st) (defBody st) (defScope st) [] [] (He.ma C.K (He.ga C.K c) m) fd ∧ FnG P w C.K mg base (L2.CX P w) k (He.ma C.K (He.ga C.K c) m) fd ps (spD C ps.length W) ∧ Meth C.K (He.ga C.K c) m (He.ma C.K (He.ga C.K c) m) ∧ Binds C.K fd ps []
def NewOk (C : Ctx) (P : Program) (w : World) (mg : Str → Option Value) (base : Heap) (st : Stmt) (c q : Str) (k : Nat) (ps : List Str) (W : DF) : Prop :=
  c ∈ C.cls ∧ ∃ fd, FunD C.K "__init__" q (defArgs st) (defBody st) (defScope st) [] [] (He.ma C.K (He.ga C.K c) "__init__") fd ∧ FnG P w C.K mg base (L2.CX P w) k (He.ma C.K (He.ga C.K c) "__init__") fd ps (spD C ps.length W) ∧ Mk C.K (He.ga C.K c) (He.ma C.K (He.ga C.K c) "__init__") ∧ mg c = some (.ref (He.ga C.K c)) ∧ Binds C.K fd ps []
def ExcOk (C : Ctx) (P : Program) (w : World) (mg : Str → Option Value) (base : Heap) (c f : Str) : Prop :=
  ∃ (fI : Addr) (fd : FuncData) (s0 : Str), OexC C.K (He.ga C.K c) ∧ PySem.W.findIn C.K (.ref (He.ga C.K c)) "__init__" = some (some (.ref fI)) ∧ PySem.W.typeIn C.K (.ref fI) = some (.type "function") ∧ FnOk P w C.K mg base (L2.CX P w) 1 fI fd [s0, f] (spI (He.ga C.K c) f) ∧ Binds C.K fd [s0, f] [] ∧ mg c = some (.ref (He.ga C.K c))
section
variable {C : Ctx} {A : Anc} {X : Cx} {E : EW} {k j kc n nf : Nat} {f : Addr} {W : DF} {Wg : Addr → DF → DF} {x m c q : Str} {p pos apos : Pos} {e o : Expr} {es : List Expr} {wo : DE} {wr : DA} {ps : List Str} {st : Stmt}
theorem DefOk.v {P : Program} {w : World} {mg : Str → Option Value} {base : Heap} (D : DefOk C P w mg base st x k ps W) : FnV C P w mg base k (He.ga C.K x) ps.length W := by
  obtain ⟨fd, F, o, _, b⟩ := D
  exact fnV_of o b
theorem DefOk.kp {P : Program} {w : World} {mg : Str → Option Value} {base : Heap} (D : DefOk C P w mg base st x k ps W) : PySem.W.keepIn C.K (.ref (He.ga C.K x)) = true := by
  obtain ⟨fd, F, o, _, b⟩ := D
  exact F.kp
theorem DefOk.mgl {P : Program} {w : World} {mg : Str → Option Value} {base : Heap} (D : DefOk C P w mg base st x k ps W) : mg x = some (.ref (He.ga C.K x)) := by
  obtain ⟨fd, F, o, m, b⟩ := D
  exact m
theorem g_call (D : DefOk C X.prog X.w X.mg X.base st x k ps W) (hn : ps.length = nf) (hK : X.K = C.K) (hr : RoomG j X.A) (hj : k ≤ j) (px : Psx C A X E) (hg : Gl X x) (ha : PAd C A X (e :: es) wr)
    (hdb : (x == ("__debug__" : Str)) = false := by decide) (he : starEach (e :: es) X.env = (false, eval e X.env) :: starEach es X.env := by rfl) (hpl : (backTo pos (starEach es X.env)).any (·.1) = false := by rfl) :
    PEd C A X (.Call (.Name x p) (e :: es) [] pos) (dCall nf W E wr) := by
  subst hn
  exact d_call hK D.v (hr.mono hj) hg D.mgl (hK ▸ D.kp) px ha hdb he hpl
theorem g_call0 (D : DefOk C X.prog X.w X.mg X.base st x k ps W) (hn : ps.length = nf) (hK : X.K = C.K) (hr : RoomG j X.A) (hj : k ≤ j) (px : Psx C A X E) (hg : Gl X x)
    (hdb : (x == ("__debug__" : Str)) = false := by decide) : PEd C A X (.Call (.Name x p) [] [] pos) (dCall nf W E dNil) := by
  subst hn
  exact d_call0 hK D.v (hr.mono hj) hg D.mgl (hK ▸ D.kp) px hdb
theorem g_met {pl : Sem Bool} (ok : KOk C) (D : MetOk C X.prog X.w X.mg X.base st c m q k ps W) (hn : ps.length = nf) (hK : X.K = C.K) (hr : RoomG j X.A) (hj : k ≤ j) (px : Psx C A X E) (ho : PEd C A X o wo) (ha : PAd C A X (e :: es) wr)
    (hst : starEach (e :: es) X.env = (false, eval e X.env) :: starEach es X.env := by rfl) (hpl : (backTo pos (starEach es X.env)).any (·.1) = false := by rfl)
    (ht : eval (.Call (.Attribute o m apos) (e :: es) [] pos) X.env = (do
      let ov ← eval o X.env
      standAt apos.atName
      let (f, first) ← holding [ov] (getMethod ov m pl)
      callWith pos f first (backTo pos (starEach (e :: es) X.env)) (backToKw pos (keywordEach [] X.env))) := by rfl) :
    PEd C A X (.Call (.Attribute o m apos) (e :: es) [] pos) (dMet c m nf W E wo wr) := by
  subst hn
  obtain ⟨fd, F, oo, mm, b⟩ := D
  exact d_met ok hK ho mm (fnV_of oo b) (hr.mono hj) px ha hst hpl ht
theorem g_met0 {pl : Sem Bool} (ok : KOk C) (D : MetOk C X.prog X.w X.mg X.base st c m q k ps W) (hn : ps.length = nf) (hK : X.K = C.K) (hr : RoomG j X.A) (hj : k ≤ j) (px : Psx C A X E) (ho : PEd C A X o wo)
    (ht : eval (.Call (.Attribute o m apos) [] [] pos) X.env = (do
      let ov ← eval o X.env
      standAt apos.atName
      let (f, first) ← holding [ov] (getMethod ov m pl)
      callWith pos f first (backTo pos (starEach [] X.env)) (backToKw pos (keywordEach [] X.env))) := by rfl) :
    PEd C A X (.Call (.Attribute o m apos) [] [] pos) (dMet c m nf W E wo dNil) := by
  subst hn
  obtain ⟨fd, F, oo, mm, b⟩ := D
  exact d_met0 ok hK ho mm (fnV_of oo b) (hr.mono hj) px ht
theorem g_new (D : NewOk C X.prog X.w X.mg X.base st c q k ps W) (hn : ps.length = nf) (hK : X.K = C.K) (hr : RoomG j X.A) (hj : k + 1 ≤ j) (px : Psx C A X E) (hg : Gl X c) (ha : PAd C A X (e :: es) wr)
    (hdb : (c == ("__debug__" : Str)) = false := by decide) (he : starEach (e :: es) X.env = (false, eval e X.env) :: starEach es X.env := by rfl) (hpl : (backTo pos (starEach es X.env)).any (·.1) = false := by rfl) :
    PEd C A X (.Call (.Name c p) (e :: es) [] pos) (dNew c nf W E wr) := by
  subst hn
  obtain ⟨mc, fd, F, oo, M, mm, b⟩ := D
  exact d_new hK mc (hK ▸ M) (fnV_of oo b) (hr.mono hj) hg mm px ha hdb he hpl
theorem g_raise {m1 : Pos} (D : ExcOk C X.prog X.w X.mg X.base c m) (hK : X.K = C.K) (hc : X.calm = true) (hr : RoomG j X.A) (hj : 2 ≤ j) (tk : Takes X (upX C A E)) (hg : Gl X c) (ha : PEd C A X e wo)
    (hdb : (c == ("__debug__" : Str)) = false := by decide) (he : starEach [e] X.env = (false, eval e X.env) :: starEach [] X.env := by rfl) (hpl : (backTo p (starEach ([] : List Expr) X.env)).any (·.1) = false := by rfl) :
    PSd C A X (.Raise (some (.Call (.Name c m1) [e] [] p)) none pos) (dRaise c m E wo) := by
  obtain ⟨fI, fd, s0, T, iC, tI, F, b, mm⟩ := D
  have T' : OexC X.K (He.ga C.K c) := by rw [hK]; exact T
  have F' : FnOk X.prog X.w X.K X.mg X.base (L2.CX X.prog X.w) 1 fI fd [s0, m] (spI (He.ga C.K c) m) := by rw [hK]; exact F
  exact ds_raise hK hc tk T' (by rw [hK]; exact iC) (by rw [hK]; exact tI) F' (hr.mono hj).toRoom (by rw [hK]; exact b) hg mm ha hdb he hpl
theorem g_hof1 {ca P : Addr} {lpos : Pos} {params : Arguments} {body : Expr} {scope : Scope} {fr : List Str} {js : List Nat} {wl : EW → DE} (D : HofOk C X.prog X.w X.mg X.base x k (kc + 1) n ps.length Wg) (hK : X.K = C.K) (hr : RoomG j X.A) (hj : k ≤ j) (px : Psx C A X E) (hg : Gl X x) (T : TabAt C X ca P) (L : LamAt C X kc params body scope ps fr js wl)
    (hdb : (x == ("__debug__" : Str)) = false := by decide) : PEd C A X (.Call (.Name x p) [.Lambda params body scope lpos] [] pos) (dHof n Wg js wl E dNil) := d_hof1 hK D.1 (hr.mono hj) hg D.2.1 (hK ▸ D.2.2) px T L hdb
theorem g_hof2 {ca P : Addr} {lpos : Pos} {params : Arguments} {body : Expr} {scope : Scope} {fr : List Str} {js : List Nat} {wl : EW → DE} (D : HofOk C X.prog X.w X.mg X.base x k (kc + 1) n ps.length Wg) (hK : X.K = C.K) (hr : RoomG j X.A) (hj : k ≤ j) (px : Psx C A X E) (hg : Gl X x) (T : TabAt C X ca P) (L : LamAt C X kc params body scope ps fr js wl) (he : PEd C A X e wo)
    (hdb : (x == ("__debug__" : Str)) = false := by decide) (hst : starEach [e, .Lambda params body scope lpos] X.env = [(false, eval e X.env), (false, eval (.Lambda params body scope lpos) X.env)] := by rfl) : PEd C A X (.Call (.Name x p) [e, .Lambda params body scope lpos] [] pos) (dHof n Wg js wl E (dCons wo dNil)) := d_hof2 hK D.1 (hr.mono hj) hg D.2.1 (hK ▸ D.2.2) px T L he hdb hst
/-! names of the row's top -/
theorem g_glo (hK : X.K = C.K) (hg : Gl X x) (hm : X.mg x = some (.ref (He.ga C.K x))) (hd : (x == ("__debug__" : Str)) = false := by decide) : PEd C A X (.Name x pos) (dC (.glo x)) := d_c (pe_glob (v := .ref (He.ga C.K x)) hg hm rfl hd) fun _ _ => rfl
theorem g_str {z : Str} (hg : Gl X x) (hm : ∃ t, X.mg x = some (.str z t)) (hd : (x == ("__debug__" : Str)) = false := by decide) : PEd C A X (.Name x pos) (dStr z) := by
  obtain ⟨t, hm⟩ := hm
  exact d_c (pe_glob (v := .str z) hg hm ⟨t, rfl⟩ hd) fun _ _ => rfl
theorem g_int {z : Int} (hg : Gl X x) (hm : ∃ t, X.mg x = some (.int z t)) (hd : (x == ("__debug__" : Str)) = false := by decide) : PEd C A X (.Name x pos) (dInt z) := by
  obtain ⟨t, hm⟩ := hm
  exact d_c (pe_glob (v := .int z) hg hm ⟨t, rfl⟩ hd) fun _ _ => rfl
end
/-! ### the rules for the row's defs, told together -/
section
variable {C : Ctx} {P : Program} {w : World} {mg : Str → Option Value} {base : Heap} {st : Stmt} {x c m q : Str} {k kc nf : Nat} {N ps : List Str} {wb : EW → DS} {wh : Addr → DF → EW → DS}
abbrev ctxOf (C : Ctx) (P : Program) (w : World) (mg : Str → Option Value) (base : Heap) (N : List Str) (q : Str) (st : Stmt) (f : Addr) (cdv : Value) (A : Around) (outer : List PySem.Env) (s : Shared) (H : Hp) (E : XK) : Cx :=
  cxOf (L2.CX P w) P w C.K mg base N q (defScope st) f cdv A outer s H E
/-- what is to be shown of a body -/
def BodyOk (C : Ctx) (P : Program) (w : World) (mg : Str → Option Value) (base : Heap) (k : Nat) (N : List Str) (q : Str) (st : Stmt) (f : Addr) (fc : Value) (wb : EW → DS) : Prop :=
  ∀ (cdv : Value) (A : Around) (outer : List PySem.Env) (s : Shared) (H : Hp) (E : XK) (B : Anc) (EE : EW), cdv = fc → RoomG k (A.deeper (PyProof.Rows.envOfC q (defScope st) s.heap.objs.size f cdv)) → Takes (ctxOf C P w mg base N q st f cdv A outer s H E) (upX C B EE) →
    PSsd C B (ctxOf C P w mg base N q st f cdv A outer s H E) (defBody st) (wb EE)
theorem defOk_of {fd : FuncData} (F : FunD C.K x x (defArgs st) (defBody st) (defScope st) [] [] (He.ga C.K x) fd) (mm : mg x = some (.ref (He.ga C.K x))) (S : FnScope N ps (defScope st))
    (hb : ∀ (kV doc pm : Value) (an : Option Addr) (cdv ct : Value) (us : List Value), us.length = ps.length → bindArgs (PySem.W.fnOf x x (defArgs st) (defBody st) (defScope st) .none kV doc pm an cdv ct) ⟨us, []⟩ = pure (ps.zip us))
    (hbody : BodyOk C P w mg base k N x st (He.ga C.K x) fd.code wb) : DefOk C P w mg base st x (k + 1) ps (dFn N wb) :=
  ⟨fd, F, fnO_of F S fun cdv A outer s H E B EE e hr tk => hbody cdv A outer s H E B EE e.symm hr tk, mm, F.bindsN hb⟩
theorem metOk_of {fd : FuncData} (F : FunD C.K m q (defArgs st) (defBody st) (defScope st) [] [] (He.ma C.K (He.ga C.K c) m) fd) (mm : Meth C.K (He.ga C.K c) m (He.ma C.K (He.ga C.K c) m)) (S : FnScope N ps (defScope st))
    (hb : ∀ (kV doc pm : Value) (an : Option Addr) (cdv ct : Value) (us : List Value), us.length = ps.length → bindArgs (PySem.W.fnOf m q (defArgs st) (defBody st) (defScope st) .none kV doc pm an cdv ct) ⟨us, []⟩ = pure (ps.zip us))
    (hbody : BodyOk C P w mg base k N q st (He.ma C.K (He.ga C.K c) m) fd.code wb) : MetOk C P w mg base st c m q (k + 1) ps (dFn N wb) :=
  ⟨fd, F, fnO_of F S fun cdv A outer s H E B EE e hr tk => hbody cdv A outer s H E B EE e.symm hr tk, mm, F.bindsN hb⟩
theorem newOk_of {fd : FuncData} (hc : c ∈ C.cls) (F : FunD C.K "__init__" q (defArgs st) (defBody st) (defScope st) [] [] (He.ma C.K (He.ga C.K c) "__init__") fd) (M : Mk C.K (He.ga C.K c) (He.ma C.K (He.ga C.K c) "__init__")) (mm : mg c = some (.ref (He.ga C.K c))) (S : FnScope N ps (defScope st))
    (hb : ∀ (kV doc pm : Value) (an : Option Addr) (cdv ct : Value) (us : List Value), us.length = ps.length → bindArgs (PySem.W.fnOf "__init__" q (defArgs st) (defBody st) (defScope st) .none kV doc pm an cdv ct) ⟨us, []⟩ = pure (ps.zip us))
    (hbody : BodyOk C P w mg base k N q st (He.ma C.K (He.ga C.K c) "__init__") fd.code wb) : NewOk C P w mg base st c q (k + 1) ps (dFn N wb) :=
  ⟨hc, fd, F, fnO_of F S fun cdv A outer s H E B EE e hr tk => hbody cdv A outer s H E B EE e.symm hr tk, M, mm, F.bindsN hb⟩
end
end DL
end
section
set_option Elab.async false
set_option linter.all false
set_option maxRecDepth 100000
set_option maxHeartbeats 4000000
open PySem PySem.Spec L2
namespace DL
section
variable {C : Ctx} {A : Anc} {X : Cx} {a b c e o : Expr} {pos : Pos} {wa wb wc we wo : DE} {wr : DA} {es : List Expr}
/-- x, y, z = e, f, g -/
def dPar3 (i j l : Nat) (r : DA) : DS := fun D ρ h => r ρ h fun ds h1 => match ds with
  | [u, v, w] => D.nx (((ρ.set i (some u)).set j (some v)).set l (some w)) h1
  | _ => False
theorem ds_par3 {i j l : Nat} {x y z : Str} {px py pz pt : Pos} {kt k2 pt2} (hc : X.calm = true) (hN : X.N.Nodup) (hi : X.N[i]? = some x) (hj : X.N[j]? = some y) (hl : X.N[l]? = some z) (hij : i ≠ j) (hil : i ≠ l) (hjl : j ≠ l)
    (hx : X.env.scope.names.lookup x = some .local) (hy : X.env.scope.names.lookup y = some .local) (hz : X.env.scope.names.lookup z = some .local) (ha : PAd C A X [a, b, c] wr)
    (hw : swappedStores [.Tuple [.Name x px, .Name y py, .Name z pz] kt pt] (.Tuple [a, b, c] k2 pt2) X.env = pure (some [x, y, z]))
    (hs : swapsWithSole [.Tuple [.Name x px, .Name y py, .Name z pz] kt pt] (.Tuple [a, b, c] k2 pt2) pos.line X.env = pure false := by rfl) :
    PSd C A X (.Assign [.Tuple [.Name x px, .Name y py, .Name z pz] kt pt] (.Tuple [a, b, c] k2 pt2) pos) (dPar3 i j l wr) :=
  PS.imp (ps_par3 hc hN hi hj hl hij hil hjl hx hy hz ha hw hs) fun D σ H ⟨Z, ρ, h, Dd, R, q, k, _⟩ => ⟨Z, ρ, h, _, R, q, fun ds h1 vs Z1 H1 q1 f1 R1 r1 => by
    match ds, q1, r1 with
    | [u, v, w], q1, ⟨v1, _, e1, r1', v2, _, e2, r2, v3, vr, e3, r3, e4⟩ =>
      subst e1 e2 e3
      have e4 : vr = [] := e4
      subst e4
      exact ⟨v1, v2, v3, rfl, k _ h1 Z1 H1 _ q1 f1 ((((R.next f1 R1).set i r1').set j r2).set l r3)⟩⟩
/-! ### the built-in names -/
theorem bt_len : bootBuiltins "len" = some (.builtin "len") := by decide +kernel
theorem bt_abs : bootBuiltins "abs" = some (.builtin "abs") := by decide +kernel
theorem bt_sum : bootBuiltins "sum" = some (.builtin "sum") := by decide +kernel
theorem bt_all : bootBuiltins "all" = some (.builtin "all") := by decide +kernel
theorem bt_any : bootBuiltins "any" = some (.builtin "any") := by decide +kernel
theorem bt_max : bootBuiltins "max" = some (.builtin "max") := by decide +kernel
theorem bt_min : bootBuiltins "min" = some (.builtin "min") := by decide +kernel
theorem bt_sorted : bootBuiltins "sorted" = some (.builtin "sorted") := by decide +kernel
theorem bt_divmod : bootBuiltins "divmod" = some (.builtin "divmod") := by decide +kernel
theorem bt_isinstance : bootBuiltins "isinstance" = some (.builtin "isinstance") := by decide +kernel
theorem bt_repr : bootBuiltins "repr" = some (.builtin "repr") := by decide +kernel
theorem bt_int : bootBuiltins "int" = some (.type "int") := by decide +kernel
theorem bt_list : bootBuiltins "list" = some (.type "list") := by decide +kernel
theorem bt_tuple : bootBuiltins "tuple" = some (.type "tuple") := by decide +kernel
theorem bt_dict : bootBuiltins "dict" = some (.type "dict") := by decide +kernel
theorem bt_bool : bootBuiltins "bool" = some (.type "bool") := by decide +kernel
theorem bt_str : bootBuiltins "str" = some (.type "str") := by decide +kernel
theorem bt_set : bootBuiltins "set" = some (.type "set") := by decide +kernel
variable {p : Pos}
section
variable {x : Str} (hx : XD C X)
theorem b_len (hK : X.K = C.K) (hg : Gl X "len") (hm : X.mg "len" = none) (ha : PAd C A X (e :: es) wr) (he : starEach (e :: es) X.env = (false, eval e X.env) :: starEach es X.env := by rfl) (hpl : (backTo pos (starEach es X.env)).any (·.1) = false := by rfl) : PEd C A X (.Call (.Name "len" p) (e :: es) [] pos) (dL wLen wr) := d_callB (hK ▸ call_lenA) o_len hg hm bt_len ha (by decide) (by decide) he hpl
theorem b_abs (hK : X.K = C.K) (hg : Gl X "abs") (hm : X.mg "abs" = none) (ha : PAd C A X (e :: es) wr) (he : starEach (e :: es) X.env = (false, eval e X.env) :: starEach es X.env := by rfl) (hpl : (backTo pos (starEach es X.env)).any (·.1) = false := by rfl) : PEd C A X (.Call (.Name "abs" p) (e :: es) [] pos) (dL wAbs wr) := d_callB call_abs o_abs hg hm bt_abs ha (by decide) (by decide) he hpl
theorem b_int (hK : X.K = C.K) (hg : Gl X "int") (hm : X.mg "int" = none) (ha : PAd C A X (e :: es) wr) (he : starEach (e :: es) X.env = (false, eval e X.env) :: starEach es X.env := by rfl) (hpl : (backTo pos (starEach es X.env)).any (·.1) = false := by rfl) : PEd C A X (.Call (.Name "int" p) (e :: es) [] pos) (dL wInt wr) := d_callTy call_int1 o_int hg hm bt_int ha (by decide) (by decide) he hpl
theorem b_sum (hK : X.K = C.K) (hc : X.calm = true) (hg : Gl X "sum") (hm : X.mg "sum" = none) (ha : PAd C A X (e :: es) wr) (he : starEach (e :: es) X.env = (false, eval e X.env) :: starEach es X.env := by rfl) (hpl : (backTo pos (starEach es X.env)).any (·.1) = false := by rfl) : PEd C A X (.Call (.Name "sum" p) (e :: es) [] pos) (dL wSum wr) := d_callB (hK ▸ cr_sum hc) o_sum hg hm bt_sum ha (by decide) (by decide) he hpl
theorem b_all (hK : X.K = C.K) (hc : X.calm = true) (hg : Gl X "all") (hm : X.mg "all" = none) (ha : PAd C A X (e :: es) wr) (he : starEach (e :: es) X.env = (false, eval e X.env) :: starEach es X.env := by rfl) (hpl : (backTo pos (starEach es X.env)).any (·.1) = false := by rfl) : PEd C A X (.Call (.Name "all" p) (e :: es) [] pos) (dL wAll wr) := d_callB (hK ▸ cr_all hc) o_all hg hm bt_all ha (by decide) (by decide) he hpl
theorem b_any (hK : X.K = C.K) (hc : X.calm = true) (hg : Gl X "any") (hm : X.mg "any" = none) (ha : PAd C A X (e :: es) wr) (he : starEach (e :: es) X.env = (false, eval e X.env) :: starEach es X.env := by rfl) (hpl : (backTo pos (starEach es X.env)).any (·.1) = false := by rfl) : PEd C A X (.Call (.Name "any" p) (e :: es) [] pos) (dL wAny wr) := d_callB (hK ▸ cr_any hc) o_any hg hm bt_any ha (by decide) (by decide) he hpl
theorem b_max (hK : X.K = C.K) (hc : X.calm = true) (hg : Gl X "max") (hm : X.mg "max" = none) (ha : PAd C A X (e :: es) wr) (he : starEach (e :: es) X.env = (false, eval e X.env) :: starEach es X.env := by rfl) (hpl : (backTo pos (starEach es X.env)).any (·.1) = false := by rfl) : PEd C A X (.Call (.Name "max" p) (e :: es) [] pos) (dL wMax wr) := d_callB (hK ▸ call_maxA hc) o_max hg hm bt_max ha (by decide) (by decide) he hpl
theorem b_min (hK : X.K = C.K) (hc : X.calm = true) (hg : Gl X "min") (hm : X.mg "min" = none) (ha : PAd C A X (e :: es) wr) (he : starEach (e :: es) X.env = (false, eval e X.env) :: starEach es X.env := by rfl) (hpl : (backTo pos (starEach es X.env)).any (·.1) = false := by rfl) : PEd C A X (.Call (.Name "min" p) (e :: es) [] pos) (dL wMin wr) := d_callB (hK ▸ call_minA hc) o_min hg hm bt_min ha (by decide) (by decide) he hpl
theorem b_sorted (hK : X.K = C.K) (hc : X.calm = true) (hg : Gl X "sorted") (hm : X.mg "sorted" = none) (ha : PAd C A X (e :: es) wr) (he : starEach (e :: es) X.env = (false, eval e X.env) :: starEach es X.env := by rfl) (hpl : (backTo pos (starEach es X.env)).any (·.1) = false := by rfl) : PEd C A X (.Call (.Name "sorted" p) (e :: es) [] pos) (dL wSorted wr) := d_callB (hK ▸ call_sortedA hc) o_sorted hg hm bt_sorted ha (by decide) (by decide) he hpl
theorem b_divmod (hK : X.K = C.K) (hg : Gl X "divmod") (hm : X.mg "divmod" = none) (ha : PAd C A X (e :: es) wr) (he : starEach (e :: es) X.env = (false, eval e X.env) :: starEach es X.env := by rfl) (hpl : (backTo pos (starEach es X.env)).any (·.1) = false := by rfl) : PEd C A X (.Call (.Name "divmod" p) (e :: es) [] pos) (dL wDivmod wr) := d_callB call_divmodN o_divmod hg hm bt_divmod ha (by decide) (by decide) he hpl
theorem b_list (hK : X.K = C.K) (hc : X.calm = true) (hg : Gl X "list") (hm : X.mg "list" = none) (ha : PAd C A X (e :: es) wr) (he : starEach (e :: es) X.env = (false, eval e X.env) :: starEach es X.env := by rfl) (hpl : (backTo pos (starEach es X.env)).any (·.1) = false := by rfl) : PEd C A X (.Call (.Name "list" p) (e :: es) [] pos) (dL wList wr) := d_callTy (hK ▸ call_listA hc) o_list hg hm bt_list ha (by decide) (by decide) he hpl
theorem b_tuple (hK : X.K = C.K) (hg : Gl X "tuple") (hm : X.mg "tuple" = none) (ha : PAd C A X (e :: es) wr) (he : starEach (e :: es) X.env = (false, eval e X.env) :: starEach es X.env := by rfl) (hpl : (backTo pos (starEach es X.env)).any (·.1) = false := by rfl) : PEd C A X (.Call (.Name "tuple" p) (e :: es) [] pos) (dL wTuple wr) := d_callTy (hK ▸ call_tupN) o_tuple hg hm bt_tuple ha (by decide) (by decide) he hpl
theorem b_dict (hK : X.K = C.K) (hg : Gl X "dict") (hm : X.mg "dict" = none) (ha : PAd C A X (e :: es) wr) (he : starEach (e :: es) X.env = (false, eval e X.env) :: starEach es X.env := by rfl) (hpl : (backTo pos (starEach es X.env)).any (·.1) = false := by rfl) : PEd C A X (.Call (.Name "dict" p) (e :: es) [] pos) (dL wDict wr) := d_callTy call_dictC o_dict hg hm bt_dict ha (by decide) (by decide) he hpl
end
/-- a built-in class by its name -/
theorem g_ty {x : Str} {T : String} (hg : Gl X x) (hm : X.mg x = none) (hv : bootBuiltins x = some (.type T)) (hn : x ≠ "__name__" := by decide) (hd : (x == ("__debug__" : Str)) = false := by decide) : PEd C A X (.Name x pos) (dC (.ty T)) := d_c (v := .ty T) ⟨fun pins s σ H Q I h => ld_blt I hg hm hv ⟨.ty T, H, I, rfl, h⟩ hn hd⟩ fun _ _ => rfl
end
end DL
end
section
set_option Elab.async false
set_option linter.all false
set_option maxRecDepth 100000
set_option maxHeartbeats 4000000
open PySem PySem.Spec L2
namespace DL
/-- what the row's top holds -/
structure YY (C : Ctx) (mg : Str → Option Value) (frees glos : List Str) (stxs : List (Str × Str)) (itxs : List (Str × Int)) (hds xfl : List Str) (sub : Str → Str → Option Bool) : Prop where
  ok : KOk C
  fr : ∀ x ∈ frees, mg x = none
  gl : ∀ x ∈ glos, mg x = some (.ref (He.ga C.K x))
  st : ∀ p ∈ stxs, ∃ t, mg p.1 = some (.str p.2 t)
  it : ∀ p ∈ itxs, ∃ t, mg p.1 = some (.int p.2 t)
  sb : ∀ y ∈ hds, XIn C.K sub y
  xf : ∀ x y, sub x y = some true → XfC C.K (He.ga C.K x)
  xn : ∀ x y, sub x y = some true → ∀ f ∈ xfl, PySem.W.findIn C.K (.ref (He.ga C.K x)) f = some none
section
variable {C : Ctx} {mg : Str → Option Value} {frees glos : List Str} {stxs : List (Str × Str)} {itxs : List (Str × Int)} {hds xfl : List Str} {sub : Str → Str → Option Bool}
theorem YY.free (Y : YY C mg frees glos stxs itxs hds xfl sub) (x : Str) (h : x ∈ frees) : mg x = none := Y.fr x h
theorem YY.glo (Y : YY C mg frees glos stxs itxs hds xfl sub) (x : Str) (h : x ∈ glos) : mg x = some (.ref (He.ga C.K x)) := Y.gl x h
theorem YY.str (Y : YY C mg frees glos stxs itxs hds xfl sub) (x z : Str) (h : (x, z) ∈ stxs) : ∃ t, mg x = some (.str z t) := Y.st _ h
theorem YY.int (Y : YY C mg frees glos stxs itxs hds xfl sub) (x : Str) (z : Int) (h : (x, z) ∈ itxs) : ∃ t, mg x = some (.int z t) := Y.it _ h
theorem YY.subs (Y : YY C mg frees glos stxs itxs hds xfl sub) (y : Str) (h : y ∈ hds) : XIn C.K sub y := Y.sb y h
end
theorem un_of {k : Nat} {A : Around} (hr : RoomG k A) : A.units + 66 < cLine := by have := hr.un; omega
section
variable {X : Cx} {pos : Pos}
theorem pgn (i : Nat) {x : Str} (hN : X.N.Nodup) (hi : X.N[i]? = some x := by rfl) (hx : Loc X.env.scope x := by first | exact .inl rfl | exact .inr rfl) (hf : X.fn x = true ∨ X.env.scope.names.lookup x = some .local := by first | exact .inl rfl | exact .inr rfl) : PG X (.Name x pos) (gName i) := pg_name hN hi hx hf
theorem pg_tupN {es : List Expr} {k : Nat} {t : TGs} {K : PySem.W.Frag} (n : Nat) (hK : X.K = K) (hc : X.calm = true) (h : PGs X es t)
    (hn : (assignEach es X.env).length = n := by rfl) (hst : (assignEach es X.env).findIdx? (·.1) = none := by rfl) : PG X (.Tuple es k pos) (gTup K n t) := hK ▸ pg_tup hc h hn hst
end
def mthOf (st : Stmt) (j : Nat) : Stmt := match st with
  | .ClassDef _ _ _ body .. => body.getD j (.Pass ⟨0, 0, 0, 0⟩)
  | _ => .Pass ⟨0, 0, 0, 0⟩
theorem blk_by {N : List Str} {sc scope : Scope} {own : List (Str × Nat)} (h : blkC N sc scope own = true) : BlkOk N sc scope own := blkOk_by h
end DL
end
section
set_option Elab.async false
set_option linter.all false
set_option maxRecDepth 100000
set_option maxHeartbeats 4000000
open PySem PySem.Spec L2
/-! the rules as the printed derivations take them: each side look a plain argument -/
namespace DL
theorem z_d_in {C : Ctx} {A : Anc} {X : Cx} {a : Expr} {b : Expr} {pos : Pos} {wa : DE} {wb : DE} (hx : XD C X) (ha : PEd C A X a wa) (hb : PEd C A X b wb) (hm : behindInMarks .In b = false) : PEd C A X (.Compare a [.In] [b] pos) (d2 wIn wa wb) := d_in hx ha hb hm
theorem z_d_notin {C : Ctx} {A : Anc} {X : Cx} {a : Expr} {b : Expr} {pos : Pos} {wa : DE} {wb : DE} (hx : XD C X) (ha : PEd C A X a wa) (hb : PEd C A X b wb) (hm : behindInMarks .NotIn b = false) : PEd C A X (.Compare a [.NotIn] [b] pos) (d2 wNotIn wa wb) := d_notin hx ha hb hm
theorem z_d_tin {C : Ctx} {A : Anc} {X : Cx} {a : Expr} {b : Expr} {pos : Pos} {wa : DE} {wb : DE} (hx : XD C X) (ha : PEd C A X a wa) (hb : PEd C A X b wb) (hm : behindInMarks .In b = false) : PTd C A X (.Compare a [.In] [b] pos) (dTest (d2 wIn wa wb)) := d_tin hx ha hb hm
theorem z_d_tnotin {C : Ctx} {A : Anc} {X : Cx} {a : Expr} {b : Expr} {pos : Pos} {wa : DE} {wb : DE} (hx : XD C X) (ha : PEd C A X a wa) (hb : PEd C A X b wb) (hm : behindInMarks .NotIn b = false) : PTd C A X (.Compare a [.NotIn] [b] pos) (dTest (d2 wNotIn wa wb)) := d_tnotin hx ha hb hm
theorem z_d_tval {C : Ctx} {A : Anc} {X : Cx} {a : Expr} {wa : DE} (ha : PEd C A X a wa) (he : ∀ whole, isTrue a X.env whole = (do let v ← whole; standAt a.pos; holding [v] (truthy v))) : PTd C A X a (dTest wa) := d_tval ha he
theorem z_d_cons {C : Ctx} {A : Anc} {X : Cx} {e : Expr} {es : List Expr} {wa : DE} {wr : DA} (ha : PEd C A X e wa) (hr : PAd C A X es wr) (hs : starEach (e :: es) X.env = (false, eval e X.env) :: starEach es X.env) : PAd C A X (e :: es) (dCons wa wr) := d_cons ha hr hs
theorem z_d_chain {a : Expr} {b : Expr} {pos : Pos} {wa : DE} {wb : DE} {op op' : CmpOp} {r r' : R2} {w w' : W2} {c : Expr} {wc : DE} (ho : OpR X (compareOp op) r) (o : Op2 C r w) (ho' : OpR X (compareOp op') r') (o' : Op2 C r' w') (ha : PEd C A X a wa) (hb : PEd C A X b wb) (hc : PEd C A X c wc) (hm : lastMarks [op, op'] [b, c] = false) : PEd C A X (.Compare a [op, op'] [b, c] pos) (dChain w w' wa wb wc) := d_chain ho o ho' o' ha hb hc hm
theorem z_d_tchain {a : Expr} {b : Expr} {pos : Pos} {wa : DE} {wb : DE} {op op' : CmpOp} {r r' : R2} {w w' : W2} {c : Expr} {wc : DE} (ho : OpR X (compareOp op) r) (o : Op2 C r w) (ho' : OpR X (compareOp op') r') (o' : Op2 C r' w') (ha : PEd C A X a wa) (hb : PEd C A X b wb) (hc : PEd C A X c wc) (hm : lastMarks [op, op'] [b, c] = false) : PTd C A X (.Compare a [op, op'] [b, c] pos) (dTest (dChain w w' wa wb wc)) := d_tchain ho o ho' o' ha hb hc hm
theorem z_d_fld {C : Ctx} {A : Anc} {X : Cx} {a : Expr} {pos : Pos} {wa : DE} {f : Str} (hx : XD C X) (ok : KOk C) (hf : f ∈ C.flds) (ha : PEd C A X a wa) (hb : attributeBase a f X.env (eval a X.env) = eval a X.env) : PEd C A X (.Attribute a f pos) (dFld f wa) := d_fld hx ok hf ha hb
theorem z_d_sfld {C : Ctx} {A : Anc} {X : Cx} {pos : Pos} {f : Str} {o v : Expr} {wo wv : DE} {pos' : Pos} (hx : XD C X) (ok : KOk C) (hf : f ∈ C.flds) (ho : PEd C A X o wo) (hv : PEd C A X v wv) (hs : swapsWith v (some (.Attribute o f pos')) pos.line X.env = pure false) : PSd C A X (.Assign [.Attribute o f pos'] v pos) (sFldD f wo wv) := d_sfld hx ok hf ho hv hs
theorem z_d_meth0 {C : Ctx} {A : Anc} {X : Cx} {o : Expr} {wo : DE} {T id : String} {name : Str} {r : V → List V → Hp → VK → Prop} {w : WM} {apos cpos : Pos} (hx : XD C X) (m : Mth X T name id r) (om : MtD C r w) (ho : PEd C A X o wo) (hbase : attributeBase o name X.env (eval o X.env) = eval o X.env) (hline : (apos.endLine == cpos.line) = true) (hT : T ≠ "") : PEd C A X (.Call (.Attribute o name apos) [] [] cpos) (dM T w wo dNil) := d_meth0 hx m om ho hbase hline hT
theorem z_d_meth {C : Ctx} {A : Anc} {X : Cx} {o : Expr} {e : Expr} {es : List Expr} {wo : DE} {wr : DA} {T id : String} {name : Str} {r : V → List V → Hp → VK → Prop} {w : WM} {apos cpos : Pos} (hx : XD C X) (m : Mth X T name id r) (om : MtD C r w) (ho : PEd C A X o wo) (ha : PAd C A X (e :: es) wr) (hbase : attributeBase o name X.env (eval o X.env) = eval o X.env) (hfew : ((backTo cpos (starEach (e :: es) X.env)).all (fun x => !x.1) && (backToKw cpos (keywordEach [] X.env)).all (fun x => x.1.isSome)
      && decide ((e :: es).length + ([] : List Keyword).length + (if ([] : List Keyword).isEmpty then 0 else 1) < 30)) = true) (hline : (apos.endLine == cpos.line) = true) (hs : starEach (e :: es) X.env = (false, eval e X.env) :: starEach es X.env) (hplain : (backTo cpos (starEach es X.env)).any (·.1) = false) (hT : T ≠ "") : PEd C A X (.Call (.Attribute o name apos) (e :: es) [] cpos) (dM T w wo wr) := d_meth hx m om ho ha hbase hfew hline hs hplain hT
theorem z_d_tindex {C : Ctx} {A : Anc} {X : Cx} {o : Expr} {e : Expr} {es : List Expr} {wo : DE} {wr : DA} {apos cpos : Pos} (hx : XD C X) (ho : PEd C A X o wo) (ha : PAd C A X (e :: es) wr) (hbase : attributeBase o "index" X.env (eval o X.env) = eval o X.env) (hfew : ((backTo cpos (starEach (e :: es) X.env)).all (fun x => !x.1) && (backToKw cpos (keywordEach [] X.env)).all (fun x => x.1.isSome)
      && decide ((e :: es).length + ([] : List Keyword).length + (if ([] : List Keyword).isEmpty then 0 else 1) < 30)) = true) (hline : (apos.endLine == cpos.line) = true) (hs : starEach (e :: es) X.env = (false, eval e X.env) :: starEach es X.env) (hplain : (backTo cpos (starEach es X.env)).any (·.1) = false) : PEd C A X (.Call (.Attribute o "index" apos) (e :: es) [] cpos) (dM "tuple" wTIndex wo wr) := d_tindex hx ho ha hbase hfew hline hs hplain
theorem z_dg_cons {C : Ctx} {A : Anc} {X : Cx} {e : Expr} {es : List Expr} {g : DG} {gs : DGs} (h1 : PGd Rep C A X e g) (h2 : PGsd C A X es gs) (hs : (assignEach (e :: es) X.env).map (·.2) = assign e X.env :: (assignEach es X.env).map (·.2)) : PGsd C A X (e :: es) (gC g gs) := dg_cons h1 h2 hs
theorem z_dg_tupP {C : Ctx} {A : Anc} {X : Cx} {es : List Expr} {pos : Pos} {gs : DGs} {k n : Nat} (hx : XD C X) (hk : X.calm = true) (h : PGsd C A X es gs) (hn : (assignEach es X.env).length = n) (hst : (assignEach es X.env).findIdx? (·.1) = none) : PGd RepP C A X (.Tuple es k pos) (gT n gs) := dg_tupP hx hk h hn hst
theorem z_dg_tup {C : Ctx} {A : Anc} {X : Cx} {es : List Expr} {pos : Pos} {gs : DGs} {k n : Nat} (hx : XD C X) (hk : X.calm = true) (h : PGsd C A X es gs) (hn : (assignEach es X.env).length = n) (hst : (assignEach es X.env).findIdx? (·.1) = none) : PGd Rep C A X (.Tuple es k pos) (gT n gs) := dg_tup hx hk h hn hst
theorem z_dg_sub {C : Ctx} {A : Anc} {X : Cx} {o : Expr} {pos : Pos} {wo : DE} {i : Expr} {wi : DE} (hx : XD C X) (ho : PEd C A X o wo) (hi : PEd C A X i wi) (ha : ∀ v, assign (.Subscript o i pos) X.env v = (do
      let ov ← holding [v] (eval o X.env)
      let iv ← holding [v, ov] (eval i X.env)
      standAt pos
      holding [v, ov, iv] (setItem ov iv v)
      release [v, ov, iv] [])) : PGd Rep C A X (.Subscript o i pos) (gSb wo wi) := dg_sub hx ho hi ha
theorem z_ds_asg {C : Ctx} {A : Anc} {X : Cx} {e : Expr} {pos : Pos} {wa : DE} {tg : Expr} {g : DG} (ha : PEd C A X e wa) (hg : PGd Rep C A X tg g) (hs : swapsWithSole [tg] e pos.line X.env = pure false) (hw : swappedStores [tg] e X.env = pure none) (h1 : (assignEach [tg] X.env).map (·.2) = [assign tg X.env]) : PSd C A X (.Assign [tg] e pos) (dAsg wa g) := ds_asg ha hg hs hw h1
theorem z_ds_set {C : Ctx} {A : Anc} {X : Cx} {e : Expr} {pos : Pos} {wa : DE} {i : Nat} {x : Str} {pos' : Pos} (hN : X.N.Nodup) (hi : X.N[i]? = some x) (hx : Loc X.env.scope x) (he : PEd C A X e wa) (hs : swapsWith e (some (.Name x pos')) pos.line X.env = pure false) (hf : X.fn x = true ∨ X.env.scope.names.lookup x = some .local) : PSd C A X (.Assign [.Name x pos'] e pos) (dSet i wa) := ds_set hN hi hx he hs hf
theorem z_ds_par {C : Ctx} {A : Anc} {X : Cx} {a : Expr} {b : Expr} {pos : Pos} {wa : DE} {wb : DE} {i j : Nat} {x y : Str} {px py pt : Pos} {kt k2 pt2} (hx : XD C X) (hk : X.calm = true) (hN : X.N.Nodup) (hi : X.N[i]? = some x) (hj : X.N[j]? = some y) (hij : i ≠ j) (hlx : X.env.scope.names.lookup x = some .local) (hly : X.env.scope.names.lookup y = some .local) (ha : PEd C A X a wa) (hb : PEd C A X b wb) (hw : swappedStores [.Tuple [.Name x px, .Name y py] kt pt] (.Tuple [a, b] k2 pt2) X.env = pure (some [x, y])) (hs : swapsWithSole [.Tuple [.Name x px, .Name y py] kt pt] (.Tuple [a, b] k2 pt2) pos.line X.env = pure false) (h1 : starEach [a, b] X.env = (false, eval a X.env) :: starEach [b] X.env) (h2 : starEach [b] X.env = (false, eval b X.env) :: starEach [] X.env) : PSd C A X (.Assign [.Tuple [.Name x px, .Name y py] kt pt] (.Tuple [a, b] k2 pt2) pos) (dPar i j wa wb) := ds_par hx hk hN hi hj hij hlx hly ha hb hw hs h1 h2
theorem z_ds_expr {C : Ctx} {A : Anc} {X : Cx} {e : Expr} {pos : Pos} {wa : DE} (ha : PEd C A X e wa) (hs : swapsWith e none pos.line X.env = pure false) : PSd C A X (.Expr e pos) (dExpr wa) := ds_expr ha hs
theorem z_di_range1 {C : Ctx} {A : Anc} {X : Cx} {a : Expr} {tg : Expr} {pos : Pos} {wa : DE} {p : Pos} (hx : XD C X) (hg : Gl X "range") (hm : X.mg "range" = none) (ha : PEd C A X a wa) (hs : starEach [a] X.env = [(false, eval a X.env)]) : PId Rep C A X tg (.Call (.Name "range" p) [a] [] pos) (iRange1 wa) := di_range1 hx hg hm ha hs
theorem z_di_range2 {C : Ctx} {A : Anc} {X : Cx} {a : Expr} {b : Expr} {tg : Expr} {pos : Pos} {wa : DE} {wb : DE} {p : Pos} (hx : XD C X) (hg : Gl X "range") (hm : X.mg "range" = none) (ha : PEd C A X a wa) (hb : PEd C A X b wb) (hs : starEach [a, b] X.env = [(false, eval a X.env), (false, eval b X.env)]) (hs2 : starEach [b] X.env = [(false, eval b X.env)]) : PId Rep C A X tg (.Call (.Name "range" p) [a, b] [] pos) (iRange2 wa wb) := di_range2 hx hg hm ha hb hs hs2
theorem z_ds_for {C : Ctx} {A : Anc} {X : Cx} {tg : Expr} {pos : Pos} {sts : List Stmt} {W : DS} {I : RI} {iter : Expr} {wi : DI} {g : DG} (hx : XD C X) (hk : X.calm = true) (hp : PassesOwn (model X.prog X.w) X.A X.env X.xe) (hi : PId I C A X tg iter wi) (hg : PGd I C A X tg g) (hb : PSsd C A X sts W) (hs : ∀ x, foldedSetIterable iter X.env x = pure x) : PSd C A X (.For tg iter sts [] pos) (dFor wi g W) := ds_for hx hk hp hi hg hb hs
theorem z_d_lc {C : Ctx} {A : Anc} {X : Cx} {tg : Expr} {elt : Expr} {iter : Expr} {ifs : List Expr} {pos : Pos} {we : DE} {wt : DT} {wi : DI} {vs : List Nat} {I : RI} {g : TG} {st : D → Env → (Env → Prop) → Prop} {scope : Scope} {own : List (Str × Nat)} (hv : own.map (·.2) = vs) (hx : XD C X) (hk : X.calm = true) (hN : X.N.Nodup) (hi : PId I C A X tg iter wi) (ok : BlkOk X.N X.env.scope scope own) (so : StOk C A I g st vs) (hg : ∀ (s : Shared) (H : Hp) (L : Addr) (cl : List (Str × Addr)) (fp : List Addr), PG (X.blk s H scope (compEnvC scope cl L X.env) fp) tg g) (ht : ∀ (s : Shared) (H : Hp) (L : Addr) (cl : List (Str × Addr)) (fp : List Addr), PTsd C A (X.blk s H scope (compEnvC scope cl L X.env) fp) ifs wt) (he : ∀ (s : Shared) (H : Hp) (L : Addr) (cl : List (Str × Addr)) (fp : List Addr), PEd C A (X.blk s H scope (compEnvC scope cl L X.env) fp) elt we) (hs : ∀ x, foldedSetIterable iter X.env x = pure x) : PEd C A X (.ListComp elt [⟨tg, iter, ifs, 0⟩] scope pos) (dComp wi st wt we vs) := by
  subst hv
  exact d_lc hx hk hN hi ok so hg ht he hs
theorem z_d_setLc {C : Ctx} {A : Anc} {X : Cx} {tg : Expr} {elt : Expr} {iter : Expr} {ifs : List Expr} {pos : Pos} {we : DE} {wt : DT} {wi : DI} {vs : List Nat} {I : RI} {g : TG} {st : D → Env → (Env → Prop) → Prop} {scope : Scope} {own : List (Str × Nat)} {i : Nat} {y : Str} {py spos : Pos} (hv : own.map (·.2) = vs) (hx : XD C X) (hk : X.calm = true) (hN : X.N.Nodup) (hy : X.N[i]? = some y) (hyl : X.env.scope.names.lookup y = some .local) (hsw : swapsWith (.ListComp elt [⟨tg, iter, ifs, 0⟩] scope pos) (some (.Name y py)) spos.line X.env = pure true) (hi : PId I C A X tg iter wi) (ok : BlkOk X.N X.env.scope scope own) (so : StOk C A I g st vs) (hg : ∀ (s : Shared) (H : Hp) (L : Addr) (cl : List (Str × Addr)) (fp : List Addr), PG (X.blk s H scope (compEnvC scope cl L X.env) fp) tg g) (ht : ∀ (s : Shared) (H : Hp) (L : Addr) (cl : List (Str × Addr)) (fp : List Addr), PTsd C A (X.blk s H scope (compEnvC scope cl L X.env) fp) ifs wt) (he : ∀ (s : Shared) (H : Hp) (L : Addr) (cl : List (Str × Addr)) (fp : List Addr), PEd C A (X.blk s H scope (compEnvC scope cl L X.env) fp) elt we) (hs : ∀ x, foldedSetIterable iter X.env x = pure x) : PSd C A X (.Assign [.Name y py] (.ListComp elt [⟨tg, iter, ifs, 0⟩] scope pos) spos) (dSet i (dComp wi st wt we vs)) := by
  subst hv
  exact d_setLc hx hk hN hy hyl hsw hi ok so hg ht he hs
theorem z_di_enum {C : Ctx} {A : Anc} {X : Cx} {a : Expr} {pos : Pos} {wa : DE} {elts : List Expr} {kk : Nat} {tpos p : Pos} (hx : XD C X) (hg : Gl X "enumerate") (hm : X.mg "enumerate" = none) (ha : PEd C A X a wa) (hs : starEach [a] X.env = [(false, eval a X.env)]) : PId RepP C A X (.Tuple elts kk tpos) (.Call (.Name "enumerate" p) [a] [] pos) (iEnumD wa) := di_enum hx hg hm ha hs
theorem z_d_lenSet {C : Ctx} {A : Anc} {X : Cx} {a : Expr} {pos : Pos} {wa : DE} {p p2 q : Pos} (hx : XD C X) (hc : X.calm = true) (hg : Gl X "len") (hm : X.mg "len" = none) (hg2 : Gl X "set") (hm2 : X.mg "set" = none) (ha : PEd C A X a wa) (na : starEach [a] X.env = (false, eval a X.env) :: starEach [] X.env) : PEd C A X (.Call (.Name "len" p) [.Call (.Name "set" p2) [a] [] q] [] pos) (dLenSet wa) := d_lenSet hx hc hg hm hg2 hm2 ha na
theorem z_di_items {C : Ctx} {A : Anc} {X : Cx} {e : Expr} {wa : DE} {elts : List Expr} {kk : Nat} {tpos apos cpos : Pos} (he : PEd C A X e wa) (hbase : attributeBase e "items" X.env (eval e X.env) = eval e X.env) (hline : (apos.endLine == cpos.line) = true) : PId RepP C A X (.Tuple elts kk tpos) (.Call (.Attribute e "items" apos) [] [] cpos) (iItems wa) := di_items he hbase hline
theorem z_d_xf {C : Ctx} {X : Cx} {pos : Pos} {e : Expr} {wo : DE} {B : Anc} {a : Addr} {oe : Obj} {cls : Value} {d : Option Addr} {pn : List (Addr × Obj)} {f : Str} {ex : Ex} (hK : X.K = C.K) (T : XfC C.K (He.ga C.K ex.cls)) (hno : PySem.W.findIn C.K (.ref (He.ga C.K ex.cls)) f = some none) (hz : Zc cls d oe) (hf : ∃ vs, oe.data = .fields vs) (rx : RepX C B.Z B.H cls d ex) (he : PEd C B (X.suite a ((a, oe) :: pn)) e wo) (hb : attributeBase e f X.env (eval e X.env) = eval e X.env) : PEd C B (X.suite a ((a, oe) :: pn)) (.Attribute e f pos) (dXf a ex f wo) := d_xf hK T hno hz hf rx he hb
theorem z_d_clo {C : Ctx} {A : Anc} {X : Cx} {E : EW} {k : Nat} {n : Nat} {f : Addr} {W : DF} {x : Str} {p : Pos} {pos : Pos} {e : Expr} {es : List Expr} {wr : DA} {B : Anc} {i : Nat} (hK : X.K = C.K) (F : CloAt C X.prog X.w X.mg X.base X.fs X.s_0 B k f n W) (hB : B.H = X.H_0) (hex : X.ex = []) (hA : Fr B.Z B.H A.Z A.H) (hr : RoomG k X.A) (px : Psx C A X E) (hN : X.N[i]? = some x) (hv : Vis X.env.scope x) (ha : PAd C A X (e :: es) wr) (hd : (x == ("__debug__" : Str)) = false) (hcd : (x == ("__classdict__" : Str)) = false) (he : starEach (e :: es) X.env = (false, eval e X.env) :: starEach es X.env) (hpl : (backTo pos (starEach es X.env)).any (·.1) = false) : PEd C A X (.Call (.Name x p) (e :: es) [] pos) (dClo i f n W E wr) := d_clo hK F hB hex hA hr px hN hv ha hd hcd he hpl
theorem z_d_clo0 {C : Ctx} {A : Anc} {X : Cx} {E : EW} {k : Nat} {n : Nat} {f : Addr} {W : DF} {x : Str} {p : Pos} {pos : Pos} {B : Anc} {i : Nat} (hK : X.K = C.K) (F : CloAt C X.prog X.w X.mg X.base X.fs X.s_0 B k f n W) (hB : B.H = X.H_0) (hex : X.ex = []) (hA : Fr B.Z B.H A.Z A.H) (hr : RoomG k X.A) (px : Psx C A X E) (hN : X.N[i]? = some x) (hv : Vis X.env.scope x) (hd : (x == ("__debug__" : Str)) = false) (hcd : (x == ("__classdict__" : Str)) = false) : PEd C A X (.Call (.Name x p) [] [] pos) (dClo i f n W E dNil) := d_clo0 hK F hB hex hA hr px hN hv hd hcd
theorem z_g_call {C : Ctx} {A : Anc} {X : Cx} {E : EW} {k : Nat} {j : Nat} {nf : Nat} {W : DF} {x : Str} {p : Pos} {pos : Pos} {e : Expr} {es : List Expr} {wr : DA} {ps : List Str} {st : Stmt} (D : DefOk C X.prog X.w X.mg X.base st x k ps W) (hn : ps.length = nf) (hK : X.K = C.K) (hr : RoomG j X.A) (hj : k ≤ j) (px : Psx C A X E) (hg : Gl X x) (ha : PAd C A X (e :: es) wr) (hdb : (x == ("__debug__" : Str)) = false) (he : starEach (e :: es) X.env = (false, eval e X.env) :: starEach es X.env) (hpl : (backTo pos (starEach es X.env)).any (·.1) = false) : PEd C A X (.Call (.Name x p) (e :: es) [] pos) (dCall nf W E wr) := g_call D hn hK hr hj px hg ha hdb he hpl
theorem z_g_call0 {C : Ctx} {A : Anc} {X : Cx} {E : EW} {k : Nat} {j : Nat} {nf : Nat} {W : DF} {x : Str} {p : Pos} {pos : Pos} {ps : List Str} {st : Stmt} (D : DefOk C X.prog X.w X.mg X.base st x k ps W) (hn : ps.length = nf) (hK : X.K = C.K) (hr : RoomG j X.A) (hj : k ≤ j) (px : Psx C A X E) (hg : Gl X x) (hdb : (x == ("__debug__" : Str)) = false) : PEd C A X (.Call (.Name x p) [] [] pos) (dCall nf W E dNil) := g_call0 D hn hK hr hj px hg hdb
theorem z_g_met {C : Ctx} {A : Anc} {X : Cx} {E : EW} {k : Nat} {j : Nat} {nf : Nat} {W : DF} {m : Str} {c : Str} {q : Str} {pos : Pos} {apos : Pos} {e : Expr} {o : Expr} {es : List Expr} {wo : DE} {wr : DA} {ps : List Str} {st : Stmt} {pl : Sem Bool} (ok : KOk C) (D : MetOk C X.prog X.w X.mg X.base st c m q k ps W) (hn : ps.length = nf) (hK : X.K = C.K) (hr : RoomG j X.A) (hj : k ≤ j) (px : Psx C A X E) (ho : PEd C A X o wo) (ha : PAd C A X (e :: es) wr) (hst : starEach (e :: es) X.env = (false, eval e X.env) :: starEach es X.env) (hpl : (backTo pos (starEach es X.env)).any (·.1) = false) (ht : eval (.Call (.Attribute o m apos) (e :: es) [] pos) X.env = (do
      let ov ← eval o X.env
      standAt apos.atName
      let (f, first) ← holding [ov] (getMethod ov m pl)
      callWith pos f first (backTo pos (starEach (e :: es) X.env)) (backToKw pos (keywordEach [] X.env)))) : PEd C A X (.Call (.Attribute o m apos) (e :: es) [] pos) (dMet c m nf W E wo wr) := g_met ok D hn hK hr hj px ho ha hst hpl ht
theorem z_g_met0 {C : Ctx} {A : Anc} {X : Cx} {E : EW} {k : Nat} {j : Nat} {nf : Nat} {W : DF} {m : Str} {c : Str} {q : Str} {pos : Pos} {apos : Pos} {o : Expr} {wo : DE} {ps : List Str} {st : Stmt} {pl : Sem Bool} (ok : KOk C) (D : MetOk C X.prog X.w X.mg X.base st c m q k ps W) (hn : ps.length = nf) (hK : X.K = C.K) (hr : RoomG j X.A) (hj : k ≤ j) (px : Psx C A X E) (ho : PEd C A X o wo) (ht : eval (.Call (.Attribute o m apos) [] [] pos) X.env = (do
      let ov ← eval o X.env
      standAt apos.atName
      let (f, first) ← holding [ov] (getMethod ov m pl)
      callWith pos f first (backTo pos (starEach [] X.env)) (backToKw pos (keywordEach [] X.env)))) : PEd C A X (.Call (.Attribute o m apos) [] [] pos) (dMet c m nf W E wo dNil) := g_met0 ok D hn hK hr hj px ho ht
theorem z_g_new {C : Ctx} {A : Anc} {X : Cx} {E : EW} {k : Nat} {j : Nat} {nf : Nat} {W : DF} {c : Str} {q : Str} {p : Pos} {pos : Pos} {e : Expr} {es : List Expr} {wr : DA} {ps : List Str} {st : Stmt} (D : NewOk C X.prog X.w X.mg X.base st c q k ps W) (hn : ps.length = nf) (hK : X.K = C.K) (hr : RoomG j X.A) (hj : k + 1 ≤ j) (px : Psx C A X E) (hg : Gl X c) (ha : PAd C A X (e :: es) wr) (hdb : (c == ("__debug__" : Str)) = false) (he : starEach (e :: es) X.env = (false, eval e X.env) :: starEach es X.env) (hpl : (backTo pos (starEach es X.env)).any (·.1) = false) : PEd C A X (.Call (.Name c p) (e :: es) [] pos) (dNew c nf W E wr) := g_new D hn hK hr hj px hg ha hdb he hpl
theorem z_g_raise {C : Ctx} {A : Anc} {X : Cx} {E : EW} {j : Nat} {m : Str} {c : Str} {p : Pos} {pos : Pos} {e : Expr} {wo : DE} {m1 : Pos} (D : ExcOk C X.prog X.w X.mg X.base c m) (hK : X.K = C.K) (hc : X.calm = true) (hr : RoomG j X.A) (hj : 2 ≤ j) (tk : Takes X (upX C A E)) (hg : Gl X c) (ha : PEd C A X e wo) (hdb : (c == ("__debug__" : Str)) = false) (he : starEach [e] X.env = (false, eval e X.env) :: starEach [] X.env) (hpl : (backTo p (starEach ([] : List Expr) X.env)).any (·.1) = false) : PSd C A X (.Raise (some (.Call (.Name c m1) [e] [] p)) none pos) (dRaise c m E wo) := g_raise D hK hc hr hj tk hg ha hdb he hpl
theorem z_g_hof1 {C : Ctx} {A : Anc} {X : Cx} {E : EW} {k : Nat} {j : Nat} {kc : Nat} {n : Nat} {Wg : Addr → DF → DF} {x : Str} {p : Pos} {pos : Pos} {ps : List Str} {ca P : Addr} {lpos : Pos} {params : Arguments} {body : Expr} {scope : Scope} {fr : List Str} {js : List Nat} {wl : EW → DE} (D : HofOk C X.prog X.w X.mg X.base x k (kc + 1) n ps.length Wg) (hK : X.K = C.K) (hr : RoomG j X.A) (hj : k ≤ j) (px : Psx C A X E) (hg : Gl X x) (T : TabAt C X ca P) (L : LamAt C X kc params body scope ps fr js wl) (hdb : (x == ("__debug__" : Str)) = false) : PEd C A X (.Call (.Name x p) [.Lambda params body scope lpos] [] pos) (dHof n Wg js wl E dNil) := g_hof1 D hK hr hj px hg T L hdb
theorem z_g_hof2 {C : Ctx} {A : Anc} {X : Cx} {E : EW} {k : Nat} {j : Nat} {kc : Nat} {n : Nat} {Wg : Addr → DF → DF} {x : Str} {p : Pos} {pos : Pos} {e : Expr} {wo : DE} {ps : List Str} {ca P : Addr} {lpos : Pos} {params : Arguments} {body : Expr} {scope : Scope} {fr : List Str} {js : List Nat} {wl : EW → DE} (D : HofOk C X.prog X.w X.mg X.base x k (kc + 1) n ps.length Wg) (hK : X.K = C.K) (hr : RoomG j X.A) (hj : k ≤ j) (px : Psx C A X E) (hg : Gl X x) (T : TabAt C X ca P) (L : LamAt C X kc params body scope ps fr js wl) (he : PEd C A X e wo) (hdb : (x == ("__debug__" : Str)) = false) (hst : starEach [e, .Lambda params body scope lpos] X.env = [(false, eval e X.env), (false, eval (.Lambda params body scope lpos) X.env)]) : PEd C A X (.Call (.Name x p) [e, .Lambda params body scope lpos] [] pos) (dHof n Wg js wl E (dCons wo dNil)) := g_hof2 D hK hr hj px hg T L he hdb hst
theorem z_g_glo {C : Ctx} {A : Anc} {X : Cx} {x : Str} {pos : Pos} (hK : X.K = C.K) (hg : Gl X x) (hm : X.mg x = some (.ref (He.ga C.K x))) (hd : (x == ("__debug__" : Str)) = false) : PEd C A X (.Name x pos) (dC (.glo x)) := g_glo hK hg hm hd
theorem z_g_str {C : Ctx} {A : Anc} {X : Cx} {x : Str} {pos : Pos} {z : Str} (hg : Gl X x) (hm : ∃ t, X.mg x = some (.str z t)) (hd : (x == ("__debug__" : Str)) = false) : PEd C A X (.Name x pos) (dStr z) := g_str hg hm hd
theorem z_g_int {C : Ctx} {A : Anc} {X : Cx} {x : Str} {pos : Pos} {z : Int} (hg : Gl X x) (hm : ∃ t, X.mg x = some (.int z t)) (hd : (x == ("__debug__" : Str)) = false) : PEd C A X (.Name x pos) (dInt z) := g_int hg hm hd
theorem z_ds_par3 {C : Ctx} {A : Anc} {X : Cx} {a : Expr} {b : Expr} {c : Expr} {pos : Pos} {wr : DA} {i j l : Nat} {x y z : Str} {px py pz pt : Pos} {kt k2 pt2} (hc : X.calm = true) (hN : X.N.Nodup) (hi : X.N[i]? = some x) (hj : X.N[j]? = some y) (hl : X.N[l]? = some z) (hij : i ≠ j) (hil : i ≠ l) (hjl : j ≠ l) (hx : X.env.scope.names.lookup x = some .local) (hy : X.env.scope.names.lookup y = some .local) (hz : X.env.scope.names.lookup z = some .local) (ha : PAd C A X [a, b, c] wr) (hw : swappedStores [.Tuple [.Name x px, .Name y py, .Name z pz] kt pt] (.Tuple [a, b, c] k2 pt2) X.env = pure (some [x, y, z])) (hs : swapsWithSole [.Tuple [.Name x px, .Name y py, .Name z pz] kt pt] (.Tuple [a, b, c] k2 pt2) pos.line X.env = pure false) : PSd C A X (.Assign [.Tuple [.Name x px, .Name y py, .Name z pz] kt pt] (.Tuple [a, b, c] k2 pt2) pos) (dPar3 i j l wr) := ds_par3 hc hN hi hj hl hij hil hjl hx hy hz ha hw hs
theorem z_b_len {C : Ctx} {A : Anc} {X : Cx} {e : Expr} {pos : Pos} {wr : DA} {es : List Expr} {p : Pos} (hK : X.K = C.K) (hg : Gl X "len") (hm : X.mg "len" = none) (ha : PAd C A X (e :: es) wr) (he : starEach (e :: es) X.env = (false, eval e X.env) :: starEach es X.env) (hpl : (backTo pos (starEach es X.env)).any (·.1) = false) : PEd C A X (.Call (.Name "len" p) (e :: es) [] pos) (dL wLen wr) := b_len hK hg hm ha he hpl
theorem z_b_abs {C : Ctx} {A : Anc} {X : Cx} {e : Expr} {pos : Pos} {wr : DA} {es : List Expr} {p : Pos} (hK : X.K = C.K) (hg : Gl X "abs") (hm : X.mg "abs" = none) (ha : PAd C A X (e :: es) wr) (he : starEach (e :: es) X.env = (false, eval e X.env) :: starEach es X.env) (hpl : (backTo pos (starEach es X.env)).any (·.1) = false) : PEd C A X (.Call (.Name "abs" p) (e :: es) [] pos) (dL wAbs wr) := b_abs hK hg hm ha he hpl
theorem z_b_int {C : Ctx} {A : Anc} {X : Cx} {e : Expr} {pos : Pos} {wr : DA} {es : List Expr} {p : Pos} (hK : X.K = C.K) (hg : Gl X "int") (hm : X.mg "int" = none) (ha : PAd C A X (e :: es) wr) (he : starEach (e :: es) X.env = (false, eval e X.env) :: starEach es X.env) (hpl : (backTo pos (starEach es X.env)).any (·.1) = false) : PEd C A X (.Call (.Name "int" p) (e :: es) [] pos) (dL wInt wr) := b_int hK hg hm ha he hpl
theorem z_b_sum {C : Ctx} {A : Anc} {X : Cx} {e : Expr} {pos : Pos} {wr : DA} {es : List Expr} {p : Pos} (hK : X.K = C.K) (hc : X.calm = true) (hg : Gl X "sum") (hm : X.mg "sum" = none) (ha : PAd C A X (e :: es) wr) (he : starEach (e :: es) X.env = (false, eval e X.env) :: starEach es X.env) (hpl : (backTo pos (starEach es X.env)).any (·.1) = false) : PEd C A X (.Call (.Name "sum" p) (e :: es) [] pos) (dL wSum wr) := b_sum hK hc hg hm ha he hpl
theorem z_b_all {C : Ctx} {A : Anc} {X : Cx} {e : Expr} {pos : Pos} {wr : DA} {es : List Expr} {p : Pos} (hK : X.K = C.K) (hc : X.calm = true) (hg : Gl X "all") (hm : X.mg "all" = none) (ha : PAd C A X (e :: es) wr) (he : starEach (e :: es) X.env = (false, eval e X.env) :: starEach es X.env) (hpl : (backTo pos (starEach es X.env)).any (·.1) = false) : PEd C A X (.Call (.Name "all" p) (e :: es) [] pos) (dL wAll wr) := b_all hK hc hg hm ha he hpl
theorem z_b_any {C : Ctx} {A : Anc} {X : Cx} {e : Expr} {pos : Pos} {wr : DA} {es : List Expr} {p : Pos} (hK : X.K = C.K) (hc : X.calm = true) (hg : Gl X "any") (hm : X.mg "any" = none) (ha : PAd C A X (e :: es) wr) (he : starEach (e :: es) X.env = (false, eval e X.env) :: starEach es X.env) (hpl : (backTo pos (starEach es X.env)).any (·.1) = false) : PEd C A X (.Call (.Name "any" p) (e :: es) [] pos) (dL wAny wr) := b_any hK hc hg hm ha he hpl
theorem z_b_max {C : Ctx} {A : Anc} {X : Cx} {e : Expr} {pos : Pos} {wr : DA} {es : List Expr} {p : Pos} (hK : X.K = C.K) (hc : X.calm = true) (hg : Gl X "max") (hm : X.mg "max" = none) (ha : PAd C A X (e :: es) wr) (he : starEach (e :: es) X.env = (false, eval e X.env) :: starEach es X.env) (hpl : (backTo pos (starEach es X.env)).any (·.1) = false) : PEd C A X (.Call (.Name "max" p) (e :: es) [] pos) (dL wMax wr) := b_max hK hc hg hm ha he hpl
theorem z_b_min {C : Ctx} {A : Anc} {X : Cx} {e : Expr} {pos : Pos} {wr : DA} {es : List Expr} {p : Pos} (hK : X.K = C.K) (hc : X.calm = true) (hg : Gl X "min") (hm : X.mg "min" = none) (ha : PAd C A X (e :: es) wr) (he : starEach (e :: es) X.env = (false, eval e X.env) :: starEach es X.env) (hpl : (backTo pos (starEach es X.env)).any (·.1) = false) : PEd C A X (.Call (.Name "min" p) (e :: es) [] pos) (dL wMin wr) := b_min hK hc hg hm ha he hpl
theorem z_b_sorted {C : Ctx} {A : Anc} {X : Cx} {e : Expr} {pos : Pos} {wr : DA} {es : List Expr} {p : Pos} (hK : X.K = C.K) (hc : X.calm = true) (hg : Gl X "sorted") (hm : X.mg "sorted" = none) (ha : PAd C A X (e :: es) wr) (he : starEach (e :: es) X.env = (false, eval e X.env) :: starEach es X.env) (hpl : (backTo pos (starEach es X.env)).any (·.1) = false) : PEd C A X (.Call (.Name "sorted" p) (e :: es) [] pos) (dL wSorted wr) := b_sorted hK hc hg hm ha he hpl
theorem z_b_divmod {C : Ctx} {A : Anc} {X : Cx} {e : Expr} {pos : Pos} {wr : DA} {es : List Expr} {p : Pos} (hK : X.K = C.K) (hg : Gl X "divmod") (hm : X.mg "divmod" = none) (ha : PAd C A X (e :: es) wr) (he : starEach (e :: es) X.env = (false, eval e X.env) :: starEach es X.env) (hpl : (backTo pos (starEach es X.env)).any (·.1) = false) : PEd C A X (.Call (.Name "divmod" p) (e :: es) [] pos) (dL wDivmod wr) := b_divmod hK hg hm ha he hpl
theorem z_b_list {C : Ctx} {A : Anc} {X : Cx} {e : Expr} {pos : Pos} {wr : DA} {es : List Expr} {p : Pos} (hK : X.K = C.K) (hc : X.calm = true) (hg : Gl X "list") (hm : X.mg "list" = none) (ha : PAd C A X (e :: es) wr) (he : starEach (e :: es) X.env = (false, eval e X.env) :: starEach es X.env) (hpl : (backTo pos (starEach es X.env)).any (·.1) = false) : PEd C A X (.Call (.Name "list" p) (e :: es) [] pos) (dL wList wr) := b_list hK hc hg hm ha he hpl
theorem z_b_tuple {C : Ctx} {A : Anc} {X : Cx} {e : Expr} {pos : Pos} {wr : DA} {es : List Expr} {p : Pos} (hK : X.K = C.K) (hg : Gl X "tuple") (hm : X.mg "tuple" = none) (ha : PAd C A X (e :: es) wr) (he : starEach (e :: es) X.env = (false, eval e X.env) :: starEach es X.env) (hpl : (backTo pos (starEach es X.env)).any (·.1) = false) : PEd C A X (.Call (.Name "tuple" p) (e :: es) [] pos) (dL wTuple wr) := b_tuple hK hg hm ha he hpl
theorem z_b_dict {C : Ctx} {A : Anc} {X : Cx} {e : Expr} {pos : Pos} {wr : DA} {es : List Expr} {p : Pos} (hK : X.K = C.K) (hg : Gl X "dict") (hm : X.mg "dict" = none) (ha : PAd C A X (e :: es) wr) (he : starEach (e :: es) X.env = (false, eval e X.env) :: starEach es X.env) (hpl : (backTo pos (starEach es X.env)).any (·.1) = false) : PEd C A X (.Call (.Name "dict" p) (e :: es) [] pos) (dL wDict wr) := b_dict hK hg hm ha he hpl
theorem z_g_ty {C : Ctx} {A : Anc} {X : Cx} {pos : Pos} {x : Str} {T : String} (hg : Gl X x) (hm : X.mg x = none) (hv : bootBuiltins x = some (.type T)) (hn : x ≠ "__name__") (hd : (x == ("__debug__" : Str)) = false) : PEd C A X (.Name x pos) (dC (.ty T)) := g_ty hg hm hv hn hd
theorem z_pgn {X : Cx} {pos : Pos} (i : Nat) {x : Str} (hN : X.N.Nodup) (hi : X.N[i]? = some x) (hx : Loc X.env.scope x) (hf : X.fn x = true ∨ X.env.scope.names.lookup x = some .local) : PG X (.Name x pos) (gName i) := pgn i hN hi hx hf
theorem z_pg_tupN {X : Cx} {pos : Pos} {es : List Expr} {k : Nat} {t : TGs} {K : PySem.W.Frag} (n : Nat) (hK : X.K = K) (hc : X.calm = true) (h : PGs X es t) (hn : (assignEach es X.env).length = n) (hst : (assignEach es X.env).findIdx? (·.1) = none) : PG X (.Tuple es k pos) (gTup K n t) := pg_tupN n hK hc h hn hst
end DL
end
section
set_option Elab.async false
set_option linter.all false
set_option maxRecDepth 100000
set_option maxHeartbeats 4000000
open PySem PySem.Spec L2
namespace DL
/-! ### a dict of the row's top: texts to numbers, texts -/
def DV : D → Value → Prop
  | .int i, u => ∃ t, u = .int i t
  | .str x, u => ∃ t, u = .str x t
  | _, _ => False
def EntIs (e : DictEntry) (p : Str × D) : Prop := (∃ t, e.key = .str p.1 t) ∧ DV p.2 e.val
/-- the written dict at d holds kv -/
def GDict (K : PySem.W.Frag) (w : World) (d : Addr) (kv : List (Str × D)) : Prop := ∃ es n, KDict K w d es n ∧ Paired EntIs es.toList kv
theorem find_kv : ∀ {l : List DictEntry} {kv : List (Str × D)} (z : Str), Paired EntIs l kv →
    (match kv.lookup z with
     | some v => ∃ e, l.find? (·.key.isStr z) = some e ∧ DV v e.val
     | none => l.find? (·.key.isStr z) = none ∧ l.any (·.refKey) = false)
  | _, _, z, .nil => ⟨rfl, rfl⟩
  | e :: l, (x, v) :: kv, z, .cons ⟨⟨t, ek⟩, dv⟩ r => by
    have ih := find_kv z r
    have ek : e.key = .str x t := ek
    by_cases h : z = x
    · subst h
      have : ((z, v) :: kv).lookup z = some v := by simp [List.lookup]
      rw [this]
      refine ⟨e, ?_, dv⟩
      rw [List.find?_cons]
      have : e.key.isStr z = true := by rw [ek]; simp [Value.isStr]
      rw [this]
    · have hb : (z == x) = false := by simpa using h
      have e1 : ((x, v) :: kv).lookup z = kv.lookup z := by simp [List.lookup, hb]
      rw [e1]
      have e2 : e.key.isStr z = false := by
        rw [ek]
        simp only [Value.isStr]
        first
          | exact beq_eq_false_iff_ne.mpr (fun q => h q.symm)
          | exact beq_eq_false_iff_ne.mpr h
          | simpa using (fun q => h q.symm)
      rw [List.find?_cons, e2]
      cases q : kv.lookup z with
      | some v' => rw [q] at ih; exact ih
      | none =>
        rw [q] at ih
        refine ⟨ih.1, ?_⟩
        rw [List.any_cons, ih.2]
        have : e.refKey = false := by unfold DictEntry.refKey; rw [ek] <;> rfl
        rw [this]; rfl
theorem ns_kv {K : PySem.W.Frag} {w : World} {d : Addr} {kv : List (Str × D)} {es : Array DictEntry} {n : Nat} (D0 : KDict K w d es n) (r : Paired EntIs es.toList kv) (z : Str) :
    (match kv.lookup z with
     | some v => ∃ u, PySem.W.nsIn K d z = some (some u) ∧ DV v u
     | none => PySem.W.nsIn K d z = some none) := by
  have f := find_kv z r
  have e : PySem.W.nsIn K d z = (match es.toList.find? (·.key.isStr z) with
      | some e => some (some e.val)
      | none => if es.toList.any (·.refKey) then none else some none) := by unfold PySem.W.nsIn; rw [D0.at_]; rfl
  cases q : kv.lookup z with
  | some v => rw [q] at f; obtain ⟨en, e1, e2⟩ := f; exact ⟨en.val, by rw [e, e1], e2⟩
  | none => rw [q] at f; obtain ⟨e1, e2⟩ := f; show _ = _; rw [e, e1]; simp [e2]
section
variable {C : DL.Ctx} {A : Anc} {X : Cx} {a b : Expr} {pos : Pos} {wa wb : DE} {g : Str} {kv : List (Str × D)}
def wInG (g : Str) (kv : List (Str × D)) : W2 := fun x y h Q => y = .glo g ∧ (match x with
  | .str z => Q (.bl (kv.lookup z).isSome) h
  | _ => False)
def wIxG (g : Str) (kv : List (Str × D)) : W2 := fun x y h Q => x = .glo g ∧ (match y with
  | .str z => onO (kv.lookup z) fun v => Q v h
  | _ => False)
theorem dv_rel {v : D} {u : Value} (h : DV v u) : ∃ x : V, RelV x u ∧ ∀ Z H, Rep C Z H v x := by
  cases v with
  | int i => obtain ⟨t, rfl⟩ := h; exact ⟨.int i, ⟨t, rfl⟩, fun _ _ => rfl⟩
  | str i => obtain ⟨t, rfl⟩ := h; exact ⟨.str i, ⟨t, rfl⟩, fun _ _ => rfl⟩
  | _ => exact h.elim
theorem z_d_inG (hK : X.K = C.K) (G : GDict C.K X.w (He.ga C.K g) kv) (ha : PEd C A X a wa) (hb : PEd C A X b wb) (hm : behindInMarks .In b = false) : PEd C A X (.Compare a [.In] [b] pos) (d2 (wInG g kv) wa wb) := by
  obtain ⟨es, n, D0, r⟩ := G
  have D1 : KDict X.K X.w (He.ga C.K g) es n := by rw [hK]; exact D0
  refine d_cmp (op_in_kd D1) (fun Z H h d e x y Qd Q R r1 r2 ⟨ey, q⟩ k => ?_) ha hb hm
  subst ey
  cases d with
  | str z =>
    rw [hK]
    dsimp only at q
    have f := ns_kv D0 r z
    cases ql : kv.lookup z with
    | some v => rw [ql] at f q; obtain ⟨u, e1, _⟩ := f; exact ⟨z, some u, r1, r2, e1, k _ h _ Z H q Fr.refl R rfl⟩
    | none => rw [ql] at f q; exact ⟨z, none, r1, r2, f, k _ h _ Z H q Fr.refl R rfl⟩
  | _ => exact q.elim
theorem z_d_tinG (hK : X.K = C.K) (G : GDict C.K X.w (He.ga C.K g) kv) (ha : PEd C A X a wa) (hb : PEd C A X b wb) (hm : behindInMarks .In b = false) : PTd C A X (.Compare a [.In] [b] pos) (dTest (d2 (wInG g kv) wa wb)) := by
  obtain ⟨es, n, D0, r⟩ := G
  have D1 : KDict X.K X.w (He.ga C.K g) es n := by rw [hK]; exact D0
  refine d_tcmp (op_in_kd D1) (fun Z H h d e x y Qd Q R r1 r2 ⟨ey, q⟩ k => ?_) ha hb hm
  subst ey
  cases d with
  | str z =>
    rw [hK]
    dsimp only at q
    have f := ns_kv D0 r z
    cases ql : kv.lookup z with
    | some v => rw [ql] at f q; obtain ⟨u, e1, _⟩ := f; exact ⟨z, some u, r1, r2, e1, k _ h _ Z H q Fr.refl R rfl⟩
    | none => rw [ql] at f q; exact ⟨z, none, r1, r2, f, k _ h _ Z H q Fr.refl R rfl⟩
  | _ => exact q.elim
theorem z_d_ixG (hK : X.K = C.K) (G : GDict C.K X.w (He.ga C.K g) kv) (ha : PEd C A X a wa) (hb : PEd C A X b wb) (hs : PlainIx b) : PEd C A X (.Subscript a b pos) (d2 (wIxG g kv) wa wb) := by
  obtain ⟨es, n, D0, r⟩ := G
  refine PE.imp (pe_ix ix_kdict ha hb hs) (up_bin fun Z H h d e x y Qd Q R r1 r2 ⟨ex, q⟩ k => ?_)
  subst ex
  cases e with
  | str z =>
    dsimp only at q
    obtain ⟨v, ql, q⟩ := onO_some q
    have f := ns_kv D0 r z
    rw [ql] at f
    obtain ⟨u, e1, dv⟩ := f
    obtain ⟨v0, rv, rep⟩ := dv_rel (C := C) dv
    refine ⟨_, z, v0, r1, r2, ?_, k _ h _ Z H q Fr.refl R (rep Z H)⟩
    rw [hK]
    exact ⟨es, n, u, D0.at_, D0.lit, e1, rv⟩
  | _ => exact q.elim
end
end DL
end
section
set_option Elab.async false
set_option linter.all false
set_option maxRecDepth 100000
set_option maxHeartbeats 4000000
/-! dict(list(d.items())); lines of HandS.ListItems, widened. -/
namespace DL
open PySem PySem.Spec PyProof.Rows L2 LiI
theorem kv_keys : ∀ {kvs : List (Key × V)} {vs : List (Key × Value)}, KV kvs vs → kvs.map (·.1) = vs.map (·.1)
  | _, _, .nil => rfl
  | _, _, .cons h r => by rw [List.map_cons, List.map_cons, h.1, kv_keys r]
theorem mergeK_app : ∀ (more acc : List (Key × V)), ((acc ++ more).map (·.1)).Nodup → mergeK acc more = acc ++ more
  | [], acc, _ => by simp [mergeK]
  | kv :: rest, acc, hn => by
    have hfresh : ¬ (acc.any fun x => decide (x.1 = kv.1)) = true := by
      rw [List.any_eq_true]; rintro ⟨x, hx, he⟩
      rw [List.map_append, List.map_cons, List.nodup_append] at hn
      exact hn.2.2 x.1 (List.mem_map.mpr ⟨x, hx, rfl⟩) kv.1 List.mem_cons_self (of_decide_eq_true he)
    have : mergeK acc (kv :: rest) = mergeK (acc ++ [kv]) rest := by
      have e : putK acc kv.1 kv.2 = acc ++ [kv] := by unfold putK; rw [if_neg hfresh]
      show (List.foldl _ (putK acc kv.1 kv.2) rest) = List.foldl _ (acc ++ [kv]) rest
      rw [e]
    rw [this, mergeK_app rest (acc ++ [kv]) (by simpa using hn)]
    simp
theorem mergeK_nil {more : List (Key × V)} (hn : (more.map (·.1)).Nodup) : mergeK [] more = more := by simpa using mergeK_app more [] (by simpa using hn)
section
variable {X : Cx} {e : Expr} {te : TE} {p apos cpos pos : Pos}
def tListItemsR (te : TE) : TE := fun σ H Q => te σ H fun x H1 => ∃ (d : Addr) (kvs : List (Key × V)), x = .ref d ∧ L2.Rd H1 d (.dK kvs) ∧
  ∀ (H' : Hp) (p : Addr) (ts : List Addr), (∀ b o, H1 b = some o → H' b = some o) → H1 p = none → (∀ t ∈ ts, H1 t = none) → p ∉ ts → H' p = some (.lst (ts.map V.ref)) → Paired (fun (t : Addr) (q : Key × V) => H' t = some (.tup [kV q.1, q.2])) ts kvs → (kvs.map (·.1)).Nodup → Q (.ref p) H'
/-- list(e.items()), the dict locked or not -/
theorem pe_listItemsR (hc : X.calm = true) (he : PE X e te) (hg : Gl X "list") (hm : X.mg "list" = none) (hv : bootBuiltins "list" = some (.type "list")) (hbase : attributeBase e "items" X.env (eval e X.env) = eval e X.env := by rfl) (hline : (apos.endLine == cpos.line) = true := by rfl)
    (hs : starEach [.Call (.Attribute e "items" apos) [] [] cpos] X.env = (false, eval (.Call (.Attribute e "items" apos) [] [] cpos) X.env) :: starEach [] X.env := by rfl) :
    PE X (.Call (.Name "list" p) [.Call (.Attribute e "items" apos) [] [] cpos] [] pos) (tListItemsR te) := by
  refine ⟨fun pins s σ H Q I hq => ?_⟩
  refine wpAny_Call_Name_kw (ld_blt I hg hm hv ?_)
  refine PyProof.Rows.callWith_type1 ?_ hs rfl
  rw [hs]
  show wpAny _ _ (spliced ((false, eval (.Call (.Attribute e "items" apos) [] [] cpos) X.env) :: backTo pos (starEach [] X.env))) _ _ s
  refine Calls.spliced_cons ?_
  refine wpAny_Call_method (T := "dict") (id := "dict.items") hbase rfl hline F.plainAttrs_dict F.slot_dict_items F.type_dict_items (thn (he.run pins s σ H _ I hq) fun u s1 ⟨x, H1, I1, rx, d, kvs, ex, hd, q⟩ => ?_)
  subst ex
  obtain rfl : u = Value.ref d := rx
  obtain ⟨hz, hs0, vs, kv, hdo⟩ := dk_rd I1.hok hd
  obtain ⟨ep, hat⟩ := hdo.dictAt
  have lk : kvs.length = vs.length := Paired.length kv
  have I2 : Inv X pins σ H1 { s1 with heap := s1.heap.push { cls := .type "dict_items", data := .fields #[.ref d] } } := I1.kept (t' := s1.toks) fun b ob q => Heap.get?_push_of_some _ q
  refine ⟨hdo.typeIs, hdo.mapOf.noDict, ?_⟩
  show wpAny _ _ (callWith cpos (.builtin "dict.items") [.ref d] [] []) _ X.xe s1
  refine method_meetsIn F.slot_dict_items F.entry_dict_items rfl (PySem.evalArgs_none ⟨rfl, hdo.typeIs, F.args_dict_items_1 _, _, meets_dict_items (mixKind X.prog X.w) d hs0, ⟨vs, hdo⟩, ?_⟩)
  refine Calls.spliced_nil ?_
  refine PySem.W.kdx_call (knd := mixKind X.prog X.w) (kvs := vs) (ep := ep) (I1.ok.hd hc) ⟨_, Heap.get?_push_size _ rfl, rfl, rfl⟩ (hat.push _) (by omega) fun h' tk acc c as hk hS hl hG hacc => ?_
  obtain ⟨H', k1, k2, k3, k4, k5, k6, J⟩ := items_laid (tk := tk) I2 hz kv hk hS hl hG hacc
  exact ⟨.ref _, H', J, rfl, q H' _ as k1 k2 k3 k4 k5 k6 (by rw [kv_keys kv]; obtain ⟨_, _, _, _, _, _, _, _, nd⟩ := hdo; exact nd)⟩
end
section
variable {C : DL.Ctx} {A : Anc} {X : Cx} {e : Expr} {we : DE} {p p0 apos cpos pos pos0 : Pos}
/-- dict(list(e.items())) -/
def dCopyItems (we : DE) : DE := fun ρ h Q => we ρ h fun x h1 => onO (dicOf h1 x) fun kvs => ∀ a, h1 a = none → Q (.ref a) (hup h1 a (.od kvs))
theorem z_d_copyItems (hK : X.K = C.K) (hc : X.calm = true) (he : PEd C A X e we) (hg : Gl X "list") (hm : X.mg "list" = none) (hg2 : Gl X "dict") (hm2 : X.mg "dict" = none) (hbase : attributeBase e "items" X.env (eval e X.env) = eval e X.env) (hline : (apos.endLine == cpos.line) = true)
    (hs : starEach [.Call (.Attribute e "items" apos) [] [] cpos] X.env = (false, eval (.Call (.Attribute e "items" apos) [] [] cpos) X.env) :: starEach [] X.env)
    (hs2 : starEach [.Call (.Name "list" p) [.Call (.Attribute e "items" apos) [] [] cpos] [] pos] X.env = (false, eval (.Call (.Name "list" p) [.Call (.Attribute e "items" apos) [] [] cpos] [] pos) X.env) :: starEach [] X.env) :
    PEd C A X (.Call (.Name "dict" p0) [.Call (.Name "list" p) [.Call (.Attribute e "items" apos) [] [] cpos] [] pos] [] pos0) (dCopyItems we) := by
  refine PE.imp (pe_callTy (call_dictP hc) hg2 hm2 bt_dict (pa_cons (pe_listItemsR hc he hg hm bt_list hbase hline hs) pa_nil hs2) (by decide) (by decide) hs2 rfl) fun σ H Q ⟨Z, ρ, h, Qd, R, q, k⟩ => ?_
  refine ⟨Z, ρ, h, _, R, q, fun x h1 v Z1 H1 q1 f1 R1 r1 => ?_⟩
  obtain ⟨kvs, ed, q1⟩ := onO_some q1
  obtain ⟨d, kvv, rfl, rd, rk⟩ := dic_rep R1 ed r1
  refine ⟨d, kvv, rfl, rd, fun H' p ts k1 k2 k3 k4 k5 k6 nd => ?_⟩
  have f2 : Fr Z1 H1 Z1 H' := ⟨fun _ z => z, fun a u _ r => r.elim (fun r => .inl (k1 _ _ r)) fun ⟨o, r⟩ => .inr ⟨o, k1 _ _ r⟩, fun a c dx fs _ r => k1 _ _ r, fun a fs _ r => k1 _ _ r, fun a φ _ r => k1 _ _ r, fun a o u r => k1 _ _ r⟩
  have R2 : RelH C Z1 H' h1 := by
    refine ⟨fun a o ea => ?_, fun a za => ?_, R1.tab.ext k1⟩
    · obtain ⟨nz, ro⟩ := R1.obj a o ea
      exact ⟨nz, ro.fr f2 fun u eu => k1 _ _ eu⟩
    · cases qa : H1 a with
      | none => exact absurd qa (R1.zin a za).1
      | some u =>
        rw [k1 _ _ qa]
        exact ⟨fun z => (nomatch z), fun ps z => (R1.zin a za).2 ps (by rw [qa]; exact z)⟩
  have tp : Paired (fun (p : Addr) (kv : Key × V) => SqT X.K H' p [kV kv.1, kv.2]) ts kvv := by
    clear k3 k4 k5 rk rd nd
    induction k6 with
    | nil => exact .nil
    | cons h t ih => exact .cons (.inl (.inl h)) ih
  refine ⟨p, ts, kvv, rfl, .inl (.inl k5), tp, fun a na => ?_⟩
  rw [mergeK_nil nd]
  exact k (.ref a) _ (.ref a) Z1 _ (q1 a (R2.none na)) ((f1.trans f2).trans (Fr.upd (R2.new na))) (R2.mkDic na (rk.fr f2)) rfl
end
end DL
end
section
set_option Elab.async false
set_option linter.all false
set_option maxRecDepth 100000
set_option maxHeartbeats 4000000
open PySem PySem.Spec L2
namespace DL
/-! ### repr of data (no dicts), no repr under way -/
def wRepr : WL := fun ds h Q => on1 ds fun d => onO (pd h d) fun p => p.showable = true ∧ p.hasDict = false ∧ p.shown.length ≤ 1000000 ∧ p.depth ≤ 60 ∧ (∀ i, p = .int i → i.natAbs.log2 < 1920) ∧ Q (.str p.shown) h
def rRepr (K : PySem.W.Frag) : List V → Hp → VK → Prop := fun xs H Q => ∃ v p, xs = [v] ∧ Dp K H v p ∧ p.showable = true ∧ p.hasDict = false ∧ p.shown.length ≤ 1000000 ∧ p.depth ≤ 60 ∧ (∀ i, p = .int i → i.natAbs.log2 < 1920) ∧ Q (.str p.shown) H
theorem o_repr {C : DL.Ctx} : OpL C (rRepr C.K) wRepr := fun Z H h ds xs Qd Q R rx q k => by
  obtain ⟨d, v, rfl, rfl, r, q⟩ := rep_on1 rx q
  obtain ⟨p, e, h1, h2, h3, h4, h5, q⟩ := onO_some q
  exact ⟨v, p, rfl, pd_ok R e r, h1, h2, h3, h4, h5, k _ h _ Z H q Fr.refl R rfl⟩
open PyProof.Rows in
theorem call_reprD {X : Cx} (hu : X.A.units + 66 < cLine) (hg : X.A.guards = some []) : CallR X (.builtin "repr") (rRepr X.K) := by
  intro pins s σ H xs us Q I r h
  obtain ⟨v, p, rfl, dp, h1, h2, h3, h4, h5, q⟩ := h
  obtain ⟨u, rfl, ru⟩ := vals1 r
  obtain ⟨as, rd⟩ := Dp.reads I p v u dp ru
  have hsz : p.shown.length ≤ sizeLine := by rw [sizeLine_eq]; omega
  have fin : ∀ (h' : Heap) (t tk : Tok), (∀ b o, s.heap.get? b = some o → h'.get? b = some o) → EP X pins σ Q (.str p.shown t) { s with heap := h', toks := tk } := fun h' t tk hk => ⟨.str p.shown, H, I.kept (t' := tk) hk, ⟨t, rfl⟩, q⟩
  cases rd with
  | none => exact PySem.P.repr_of_none (fin s.heap _ _ fun _ _ e => e)
  | bool b => exact PySem.P.repr_of_bool (by cases b <;> exact fin s.heap _ _ fun _ _ e => e)
  | int i t => exact PySem.P.repr_of_int (h5 i rfl) (fin s.heap _ _ fun _ _ e => e)
  | str x t => exact PySem.P.repr_of_str (fin s.heap _ _ fun _ _ e => e) hsz
  | list a1 a2 a3 a4 => exact repr_of_reads' (.list a1 a2 a3 a4) h1 (fun z => by rw [h2] at z; cases z) hg (by omega) (fun _ _ e => e) (fun h' t tk hk => fin h' t tk hk) hsz
  | tuple a1 a2 a3 a4 => exact repr_of_reads' (.tuple a1 a2 a3 a4) h1 (fun z => by rw [h2] at z; cases z) hg (by omega) (fun _ _ e => e) (fun h' t tk hk => fin h' t tk hk) hsz
  | dict a1 a2 a3 a4 a5 => exact repr_of_reads' (.dict a1 a2 a3 a4 a5) h1 (fun z => by rw [h2] at z; cases z) hg (by omega) (fun _ _ e => e) (fun h' t tk hk => fin h' t tk hk) hsz
section
variable {C : DL.Ctx} {A : Anc} {X : Cx} {e : Expr} {es : List Expr} {wr : DA} {p pos : Pos}
theorem z_b_repr (hK : X.K = C.K) (hU : X.A.units + 66 < cLine) (hgd : X.A.guards = some []) (hg : Gl X "repr") (hm : X.mg "repr" = none) (ha : PAd C A X (e :: es) wr) (he : starEach (e :: es) X.env = (false, eval e X.env) :: starEach es X.env) (hpl : (backTo pos (starEach es X.env)).any (·.1) = false) : PEd C A X (.Call (.Name "repr" p) (e :: es) [] pos) (dL wRepr wr) := d_callB (hK ▸ call_reprD hU hgd) o_repr hg hm bt_repr ha (by decide) (by decide) he hpl
end
end DL
end
section
set_option Elab.async false
set_option linter.all false
set_option maxRecDepth 100000
set_option maxHeartbeats 4000000
/-! the end of a law row over our promise (no repr under way); lines of HandS.EndTab, turned. -/
namespace DL
open PySem PySem.Spec PyProof.Rows L2 LamX
/-- law_call with tables: cs, the code objects and their tables -/
theorem law_callG {P : Program} {w : World} {K : PySem.W.Frag} {mg mb : Str → Option Value} {CX : CXT} {k : Nat} {fa a : Addr} {cs : List (Addr × Addr)} {fd : FuncData} {x : Str} {sp : Sp} {s₁ : Shared} {vs : List Value} {ns : List Int}
    (KX : K.In s₁.heap) (hns : s₁.heap.Ns mainGlobals mg) (hb : s₁.heap.Ns builtinsNs mb) (hbb : ∀ x : Str, x ≠ "__name__" → mb x = bootBuiltins x) (hlim : s₁.heap.NoLimit) (hg : s₁.gens = #[])
    (hT : ∀ p ∈ cs, s₁.heap.get? p.2 = some { cls := .none, data := .fields #[] }) (nT : ∀ p ∈ cs, K.lookup p.2 = none) (C : ∀ p ∈ cs, PySem.W.CodeHd s₁.heap p.1 p.2)
    (hbm : ∃ (bm : Addr) (ob : Obj), mg "__builtins__" = some (.ref bm) ∧ bm ≠ builtinsNs ∧ s₁.heap.get? bm = some ob ∧ ob.cls = .type "module" ∧ ob.dict = some builtinsNs ∧ ob.data = .plain)
    (ha : s₁.heap.get? a = some { cls := .type "list", data := .seq vs.toArray }) (hi : IntsAre vs ns) (hl : ns.length ≤ sizeLine) (hr : RoomG k callerA)
    (F : ∀ base : Heap, K.In base → base.Ns mainGlobals mg → (∀ p ∈ cs, TabB base mg p.1 p.2) → FnG P w K mg base CX k fa fd [x] sp) (hbind : ∀ (s : Shared) (u : Value), BindsTo s fd ⟨[u], []⟩ [(x, u)])
    (hsp : ∀ H : Hp, (∀ p ∈ cs, H p.2 = some (.tbl #[])) → SqI K H a (ns.map V.int) → sp [.ref a] H (fun v _ => v = .bl true) fun _ _ _ => False)
    (hCX : ∀ H e s', CX [] H s₁ (fun _ _ _ => False) e s' → False) :
    codeAny (model P w) callerA (.call (.ref fa) ⟨[.ref a], []⟩) (fun r s' => r = .ok (.ret (.bool true)) ∧ OldK s₁.heap s'.heap ∧ s'.os = s₁.os ∧ AllBare s'.gens) s₁ := by
  have rv := vals_ints hi
  have lenV := hi.length
  have isT : ∀ b : Addr, b ∈ cs.map (·.2) → s₁.heap.get? b = some { cls := .none, data := .fields #[] } := fun b hb => by
    obtain ⟨p, hp, e⟩ := List.mem_map.mp hb
    rw [← e]
    exact hT p hp
  have aT : a ∉ cs.map (·.2) := fun z => by
    have q := isT a z
    rw [ha] at q
    have z' : Data.seq vs.toArray _ = Data.fields #[] := congrArg Obj.data (Option.some.inj q)
    cases z'
  have memT : ∀ p ∈ cs, p.2 ∈ cs.map (·.2) := fun p hp => List.mem_map.mpr ⟨p, hp, rfl⟩
  -- from an abstract heap in which nothing but the script and the tables may be tracked
  have core : ∀ H : Hp, (∀ p ∈ cs, H p.2 = some (.tbl #[])) → (∀ b, H b = none ∨ b ∈ cs.map (·.2) ∨ ∃ o xs, H b = some (.frz o (.lst xs))) → SqI K H a (ns.map V.int) → HOk P w H s₁.heap → (∀ b, H b ≠ none → b = a ∨ b ∈ cs.map (·.2)) → (H a ≠ none → K.lookup a = none) →
      codeAny (model P w) callerA (.call (.ref fa) ⟨[.ref a], []⟩) (fun r s' => r = .ok (.ret (.bool true)) ∧ OldK s₁.heap s'.heap ∧ s'.os = s₁.os ∧ AllBare s'.gens) s₁ := by
    intro H hH hO hS hok hA hK
    have base_of : ∀ {b : Addr} {o : Obj}, s₁.heap.get? b = some o → H b = none → (hidT s₁.heap H).get? b = some o := fun e n => hidT_get e n
    have noD : ∀ {b : Addr} {o : Obj}, s₁.heap.get? b = some o → (∀ vs n, o.data ≠ .seq vs n) → o.data ≠ .fields #[] → H b = none := fun {b o} e h1 h2 => by
      cases q : H b with
      | none => rfl
      | some u =>
        rcases hA b (by rw [q]; simp) with e' | e'
        · rw [e', ha] at e
          cases e
          exact (h1 _ _ rfl).elim
        · rw [isT b e'] at e
          cases e
          exact (h2 rfl).elim
    have noA : ∀ {b : Addr} {o : Obj} {es : Array DictEntry} {ep : Nat}, s₁.heap.get? b = some o → o.data = .dict es ep → H b = none := fun {b o es ep} e d => by
      refine noD e (fun vs n z => ?_) fun z => ?_
      · rw [d] at z
        cases z
      · rw [d] at z
        cases z
    have nsK : ∀ {b : Addr} {m : Str → Option Value}, s₁.heap.Ns b m → (hidT s₁.heap H).Ns b m := fun {b m} ⟨o, es, ep, e, d, r⟩ => ⟨o, es, ep, base_of e (noA e d), d, r⟩
    have hKb : K.In (hidT s₁.heap H) := fun b o e => base_of (KX b o e) (by
      cases q : H b with
      | none => rfl
      | some u =>
        rcases hA b (by rw [q]; simp) with e' | e'
        · rw [e'] at e q
          rw [hK (by rw [q]; simp)] at e
          cases e
        · obtain ⟨p, hp, ep⟩ := List.mem_map.mp e'
          rw [← ep, nT p hp] at e
          cases e)
    have hM : L2.Mod K mg (hidT s₁.heap H) := ⟨hKb, nsK hns, ⟨mb, nsK hb, hbb⟩, let ⟨mc, h1, h2⟩ := hlim; ⟨mc, nsK h1, h2⟩⟩
    have TB : ∀ p ∈ cs, TabB (hidT s₁.heap H) mg p.1 p.2 := fun p hp => by
      have hTp := hT p hp
      refine ⟨?_, ?_, fun z => ?_⟩
      · obtain ⟨o, us, file, tf, flags, tg, inF, text, tt, e1, r1, r2, r3, r4, r5, r6, r7, r8, hne⟩ := C p hp
        refine ⟨o, us, file, tf, flags, tg, inF, text, tt, base_of e1 (noD e1 (fun vs n z => ?_) fun z => ?_), r1, r2, r3, r4, r5, r6, r7, r8, hne⟩
        · rw [r2] at z
          cases z
        · rw [r2] at z
          cases z
          simp at r3
      · obtain ⟨bm, ob, b1, b2, b3, b4, b5, b6⟩ := hbm
        have nG : bm ≠ mainGlobals := fun q => by
          obtain ⟨o, es, ep, e, hd, _⟩ := hns
          rw [q, e] at b3
          cases b3
          rw [hd] at b6
          cases b6
        have nP : bm ≠ p.2 := fun q => by
          rw [q, hTp] at b3
          cases b3
          cases b6
        refine ⟨bm, ob, b1, b2, nG, nP, base_of b3 (noD b3 (fun vs n z => ?_) fun z => ?_), b4, b5, b6⟩
        · rw [b6] at z
          cases z
        · rw [b6] at z
          cases z
      · obtain ⟨o, es, ep, e, hd, _⟩ := hns
        rw [z, hTp] at e
        cases e
        cases hd
    have e0 : Env0 P w K mg (hidT s₁.heap H) callerA [] s₁ H := ⟨rfl, hM, fun b o e => of_hidT e, Nat.le_of_eq (hidT_size _ _), trivial, fun b hb => absurd (show b ∈ ([] : List Addr) from hb) (by simp), hok, .of_eq hg⟩
    refine codeAny_mono ((F _ hKb (nsK hns) TB).run callerA [] s₁ H ⟨[.ref a], []⟩ [.ref a] [.ref a] _ _ hr e0 (hbind s₁ (.ref a)) (.cons rfl .nil) (hsp H hH hS)) fun r s' h => ?_
    cases r with
    | error e => exact (hCX H e s' h).elim
    | ok fl =>
      cases fl with
      | next => exact False.elim h
      | brk => exact False.elim h
      | cont => exact False.elim h
      | ret u =>
        obtain ⟨v, H', os, bare, un, hok', r', q⟩ := h
        have q' : v = .bl true := q
        subst q'
        obtain rfl : u = Value.bool true := r'
        have key : ∀ b o, b ∉ cs.map (·.2) → s₁.heap.get? b = some o → s'.heap.get? b = some o := fun b o nb e => by
          cases q : H b with
          | none => exact un.keep b o e q (by intro z; exact absurd (show b ∈ ([] : List Addr) from z) (by simp)) (by simp)
          | some u =>
            rcases hO b with z | z | ⟨ob, xs, z⟩
            · rw [q] at z; cases z
            · exact absurd z nb
            · have z2 := un.frzs b ob _ z
              obtain ⟨e1, _⟩ := hok b _ z
              obtain ⟨e2, _⟩ := hok' b _ z2
              rw [e] at e1; cases e1
              exact e2
        have grown : ∀ p ∈ cs, ∃ more : Array Value, s'.heap.get? p.2 = some { cls := .none, data := .fields more } := fun p hp => by
          obtain ⟨more, z⟩ := un.tbls p.2 #[] (hH p hp)
          exact ⟨_, hok' p.2 _ z⟩
        refine ⟨rfl, ⟨fun b o e => ?_, fun b o e => ?_⟩, os, bare⟩
        · by_cases hb : b ∈ cs.map (·.2)
          · obtain ⟨p, hp, ep⟩ := List.mem_map.mp hb
            obtain ⟨more, hm⟩ := grown p hp
            rw [← ep] at e ⊢
            rw [hT p hp] at e
            cases e
            exact .inr (.inl ⟨((C p hp).tab (hT p hp)).isCodeTable, rfl, #[], more, rfl, by rw [Array.empty_append]; exact hm⟩)
          · exact .inl (key b o hb e)
        · by_cases hb : b ∈ cs.map (·.2)
          · obtain ⟨p, hp, ep⟩ := List.mem_map.mp hb
            obtain ⟨more, hm⟩ := grown p hp
            rw [← ep]
            exact ⟨_, hm⟩
          · exact ⟨o, key b o hb e⟩
  cases hk : K.lookup a with
  | some o =>
    have e := KX a o hk
    rw [ha] at e
    cases e
    refine core (fun b => if b ∈ cs.map (·.2) then some (.tbl #[]) else none) (fun p hp => if_pos (memT p hp)) (fun b => ?_) (.inr ⟨vs.toArray, _, hk, by rw [List.size_toArray, lenV]; exact hl, by simpa using rv⟩) (fun b u z => ?_) (fun b z => ?_) fun z => absurd (show (if a ∈ cs.map (·.2) then some (HO.tbl #[]) else none) = none from if_neg aT) z
    · by_cases hb : b ∈ cs.map (·.2)
      · exact .inr (.inl hb)
      · exact .inl (if_neg hb)
    · by_cases hb : b ∈ cs.map (·.2)
      · have z' := (if_pos hb).symm.trans z
        cases z'
        exact isT b hb
      · have z' := (if_neg hb).symm.trans z
        cases z'
    · by_cases hb : b ∈ cs.map (·.2)
      · exact .inr hb
      · exact absurd (if_neg hb) z
  | none =>
    refine core (fun b => if b = a then some (.frz { cls := .type "list", data := .seq vs.toArray } (.lst (ns.map V.int))) else if b ∈ cs.map (·.2) then some (.tbl #[]) else none) (fun p hp => (if_neg (show ¬ p.2 = a from fun z => aT (by rw [← z]; exact memT p hp))).trans (if_pos (memT p hp))) (fun b => ?_)
      (.inl (.inr ⟨{ cls := .type "list", data := .seq vs.toArray }, if_pos rfl⟩)) (fun b u z => ?_) (fun b z => ?_) fun _ => hk
    · by_cases hb : b = a
      · exact .inr (.inr ⟨_, _, if_pos hb⟩)
      · by_cases hb2 : b ∈ cs.map (·.2)
        · exact .inr (.inl hb2)
        · exact .inl ((if_neg hb).trans (if_neg hb2))
    · by_cases hb : b = a
      · have z' := (if_pos hb).symm.trans z
        cases z'
        rw [hb]
        exact ⟨ha, by rw [List.length_map]; exact hl, vs, _, rv, ha⟩
      · have z1 := (if_neg hb).symm.trans z
        by_cases hb2 : b ∈ cs.map (·.2)
        · have z' := (if_pos hb2).symm.trans z1
          cases z'
          exact isT b hb2
        · have z' := (if_neg hb2).symm.trans z1
          cases z'
    · by_cases hb : b = a
      · exact .inl hb
      · by_cases hb2 : b ∈ cs.map (·.2)
        · exact .inr hb2
        · exact absurd ((if_neg hb).trans (if_neg hb2)) z
/-- what is known of the law's promise at the head's heap h -/
def LawAtG (l : PySem.W.OpenLaw) (w : World) (K : PySem.W.Frag) (CX : CXT) (k n : Nat) (x : Str) (mg : Str → Option Value) (fa : Addr) (h : Heap) : Prop :=
  ∃ (fd : FuncData) (cs : List (Addr × Addr)) (sp : Sp), (∀ p ∈ cs, h.get? p.2 = some { cls := .none, data := .fields #[] }) ∧ (∀ p ∈ cs, K.lookup p.2 = none) ∧ (∀ p ∈ cs, PySem.W.CodeHd h p.1 p.2) ∧ (∀ (s : Shared) (u : Value), BindsTo s fd ⟨[u], []⟩ [(x, u)]) ∧
    (∀ (H : Hp) (a : Addr) (ns : List Int), ns.length ≤ n → (∀ z ∈ ns, Builtin.Int.intBits z ≤ 1048576) → (∀ p ∈ cs, H p.2 = some (.tbl #[])) → SqI K H a (ns.map V.int) → sp [.ref a] H (fun v _ => v = .bl true) fun _ _ _ => False) ∧
    ∀ base : Heap, K.In base → base.Ns mainGlobals mg → (∀ p ∈ cs, TabB base mg p.1 p.2) → FnG l.prog w K mg base CX k fa fd [x] sp
theorem walk_ofG {l : PySem.W.OpenLaw} {n k : Nat} {q : Program} {loose : List Str} {XP : (Str → Option Value) → Heap → Prop} {YP : World → Heap → Prop} {d : DefRec} {K : Params → PySem.W.Frag} {CX : World → CXT} {x : Str}
    (hn : l.most = some n) (hn2 : n ≤ sizeLine) (hdf : d.params.defaults = []) (hr : RoomG k callerA) (hY : ∀ (w : World) (h : Heap), YP w h → (K w.params).In h)
    (F : ∀ (w : World) (mg : Str → Option Value) (fa : Addr) (h : Heap), YP w h → (K w.params).In h → h.Ns mainGlobals mg → mg d.name = some (.ref fa) → LawAtG l w (K w.params) (CX w) k n x mg fa h)
    (hCX : ∀ (w : World) (H : Hp) (s : Shared) (e : Value) (s' : Shared), CX w [] H s (fun _ _ _ => False) e s' → False) :
    PySem.W.WalkO q loose XP YP l.row.toRowW d [] (fun f vs => PySem.call f vs) := by
  refine Att.attach_callB hn hdf fun w s₀ s₁ mg mb fa o pm cd doc a vs ns G Y ho hd hcd hmg hobj hints hlen hbits hg => ?_
  have KX := hY w _ Y
  obtain ⟨fd, cs, sp, hT, nT, C, hb, hsp, hF⟩ := F w mg fa _ Y KX G.T.g hmg
  exact law_callG KX G.T.g G.T.b G.T.builtins G.T.nolimit hg hT nT C G.T.bmain hobj hints (Nat.le_trans hlen hn2) hr hF hb (fun H hH hS => hsp H a ns hlen hbits hH hS) fun H e s' => hCX w H s₁ e s'
/-- the same, the written part told by the head -/
theorem walk_ofGE {l : PySem.W.OpenLaw} {n k : Nat} {q : Program} {loose : List Str} {XP : (Str → Option Value) → Heap → Prop} {YP : World → Heap → Prop} {d : DefRec} {CX : World → CXT} {x : Str}
    (hn : l.most = some n) (hn2 : n ≤ sizeLine) (hdf : d.params.defaults = []) (hr : RoomG k callerA)
    (F : ∀ (w : World) (mg : Str → Option Value) (fa : Addr) (h : Heap), YP w h → h.Ns mainGlobals mg → mg d.name = some (.ref fa) → ∃ K : PySem.W.Frag, K.In h ∧ LawAtG l w K (CX w) k n x mg fa h)
    (hCX : ∀ (w : World) (H : Hp) (s : Shared) (e : Value) (s' : Shared), CX w [] H s (fun _ _ _ => False) e s' → False) :
    PySem.W.WalkO q loose XP YP l.row.toRowW d [] (fun f vs => PySem.call f vs) := by
  refine Att.attach_callB hn hdf fun w s₀ s₁ mg mb fa o pm cd doc a vs ns G Y ho hd hcd hmg hobj hints hlen hbits hg => ?_
  obtain ⟨K, KX, fd, cs, sp, hT, nT, C, hb, hsp, hF⟩ := F w mg fa _ Y G.T.g hmg
  exact law_callG KX G.T.g G.T.b G.T.builtins G.T.nolimit hg hT nT C G.T.bmain hobj hints (Nat.le_trans hlen hn2) hr hF hb (fun H hH hS => hsp H a ns hlen hbits hH hS) fun H e s' => hCX w H s₁ e s'
/-- the law's promise at the head's heap, from the transformer -/
theorem sp_law {C : Ctx} {W : DF} {a : Addr} {ns : List Int} {H : Hp} (hT : LamX.Tabs C.T H) (hS : SqI C.K H a (ns.map V.int)) (hW : W [.fl (ns.map .int)] (fun _ => none) (fun d _ => d = .bl true) fun _ _ => False) :
    spD C 1 W [.ref a] H (fun v _ => v = .bl true) fun _ _ _ => False := by
  refine ⟨rfl, fun b => b = a ∧ Rd H a (.lst (ns.map V.int)), [.fl (ns.map .int)], fun _ => none, _, _, ⟨fun b o e => (by cases e), fun b z => ?_, hT⟩, ⟨.ref a, [], rfl, ⟨a, ns.map V.int, rfl, ?_, Reps.map (f := D.int) (g := V.int) (fun _ => rfl) ns⟩, rfl⟩, hW, fun d h' v Z' H' e f R r => ?_, fun _ _ _ _ _ _ e => e.elim⟩
  · obtain ⟨rfl, rd⟩ := z
    rcases rd with e | ⟨o, e⟩ <;> rw [e] <;> exact ⟨fun z => (nomatch z), fun _ z => (nomatch z)⟩
  · rcases hS with rd | w
    · exact .inl ⟨⟨rfl, rd⟩, rd⟩
    · exact .inr w
  · subst e; exact r
end DL
end
section
set_option Elab.async false
set_option linter.all false
set_option maxRecDepth 100000
set_option maxHeartbeats 4000000
open PySem PySem.Spec L2
namespace DL
/-! ### what a Hook must tell, as one truth -/
def clsB (K : PySem.W.Frag) (Ca : Addr) : Bool := PySem.W.plainGet K Ca Str.empty && (PySem.W.hasDictIn K Ca && (PySem.W.plainOver K Ca && decide (PySem.W.findIn K (.ref Ca) "__setattr__" = some (some (.builtin "object.__setattr__")))))
def kokB (K : PySem.W.Frag) (cls flds : List Str) : Bool :=
  cls.all (fun c => clsB K (He.ga K c)) && (cls.all (fun c => decide (PySem.W.findIn K (.ref (He.ga K c)) "__class__" = some (some (.builtin "object.__class__")))) && (cls.all (fun c => decide (PySem.W.mroIn K (He.ga K c) (.type "object") = some true)) &&
  (decide (PySem.W.specialIn K (.builtin "object.__class__") "__get__" = some (some (.builtin "getset_descriptor.__get__"))) && (decide (PySem.W.takesIn K (.builtin "object.__class__") = some true) &&
  (cls.all (fun c => flds.all fun f => decide (PySem.W.findIn K (.ref (He.ga K c)) f = some none)) && (cls.all (fun c => baseTys.all fun t => decide (PySem.W.kitOne K (.type t) (.ref (He.ga K c)) = some false)) &&
  (cls.all (fun c => baseTys.all fun t => decide (PySem.W.kitOne K (.ref (He.ga K c)) (.type t) = some false)) && cls.all (fun c => cls.all fun c' => decide (PySem.W.kitOne K (.ref (He.ga K c)) (.ref (He.ga K c')) = some (decide (c = c')))))))))))
theorem kok_of {K : PySem.W.Frag} {T : List (Addr × Str)} {cls flds : List Str} (h : kokB K cls flds = true) : KOk ⟨K, T, cls, flds⟩ := by
  unfold kokB at h
  simp only [Bool.and_eq_true, List.all_eq_true, decide_eq_true_eq] at h
  obtain ⟨h1, h2, h3, h4, h5, h6, h7, h8, h9⟩ := h
  refine ⟨fun c hc => ?_, h2, h3, fun _ => h4, fun _ => h5, h6, h7, h8, h9⟩
  have := h1 c hc
  unfold clsB at this
  simp only [Bool.and_eq_true, decide_eq_true_eq] at this
  exact ⟨this.1, this.2.1, this.2.2.1, this.2.2.2⟩
/-- an own exception's class -/
def oexB (K : PySem.W.Frag) (Ca : Addr) : Bool := (match K.lookup Ca with
  | some ⟨.type "type", _, .cls cd, sl⟩ => (match cd.mro, sl.toList with
    | .ref C' :: bm, [_, _, _, _, some (.builtin n), _] => C' == Ca && (n == "ValueError.__new__" && (!cd.hasDel && (cd.hasDict && PySem.HandSPX.refsVE bm)))
    | _, _ => false)
  | _ => false) && (decide (PySem.W.findIn K (.ref Ca) "__setattr__" = some (some (.builtin "object.__setattr__"))) && (decide (PySem.W.subIn K (.ref Ca) (.type "BaseException") = some true) && (decide (PySem.W.typeIn K (.ref Ca) = some (.type "type")) && PySem.W.keepIn K (.ref Ca))))
theorem oex_of {K : PySem.W.Frag} {Ca : Addr} (h : oexB K Ca = true) : OexC K Ca := by
  unfold oexB at h
  simp only [Bool.and_eq_true, decide_eq_true_eq] at h
  obtain ⟨h0, h1, h2, h3, h4⟩ := h
  refine ⟨?_, h1, h2, h3, h4⟩
  split at h0
  · rename_i dd cd sl ho
    split at h0
    · rename_i C' bm k0 k1 k2 k3 n k5 hm hs
      simp only [Bool.and_eq_true, beq_iff_eq, Bool.not_eq_true'] at h0
      obtain ⟨rfl, rfl, hdel, hdct, hbm⟩ := h0
      obtain ⟨nm, bs, mro, ns, qn, hd, sn, sub, ab, col, del⟩ := cd
      dsimp only at hm hdel hdct
      subst hm hdel hdct
      have hsl : sl = #[k0, k1, k2, k3, some (.builtin "ValueError.__new__"), k5] := by
        obtain ⟨l⟩ := sl
        simp only at hs
        rw [hs]
      subst hsl
      exact ⟨nm, qn, ns, bs, bm, sn, sub, ab, col, dd, k0, k1, k2, k3, k5, ho, hbm⟩
    · cases h0
  · cases h0
/-- except clauses over own exceptions that stand right under CallError -/
def subOf (excs : List Str) (x y : Str) : Option Bool := if x ∈ excs ∧ y ∈ excs then some (decide (x = y) || decide (y = "CallError")) else none
def xinB (K : PySem.W.Frag) (excs : List Str) (y : Str) : Bool := excs.all fun x => decide (PySem.W.exmOne K (.ref (He.ga K x)) (.ref (He.ga K y)) = some (decide (x = y) || decide (y = "CallError")))
theorem xin_of {K : PySem.W.Frag} {excs : List Str} {y : Str} (h : xinB K excs y = true) : XIn K (subOf excs) y := fun x b e => by
  unfold subOf at e
  split at e
  · rename_i hm
    cases e
    unfold xinB at h
    simp only [List.all_eq_true, decide_eq_true_eq] at h
    exact h x hm.1
  · cases e
/-- a dict of literals at the top: keys told by SaysT, values here -/
def dvB : D → Value → Bool
  | .int i, .int j _ => decide (i = j)
  | .str x, .str y _ => decide (x = y)
  | _, _ => false
theorem dvB_ok {d : D} {u : Value} (h : dvB d u = true) : DV d u := by
  cases d <;> cases u <;> first | (simp only [dvB, decide_eq_true_eq] at h; subst h; exact ⟨_, rfl⟩) | (simp [dvB] at h)
end DL
end
section
set_option Elab.async false
set_option linter.all false
set_option maxRecDepth 100000
set_option maxHeartbeats 4000000
open PySem PySem.Spec L2
namespace DL
/-! ### one truth for a Hook of our own -/
def entB (e : DictEntry) (p : Str × D) : Bool := (match e.key with
  | .str x _ => decide (x = p.1)
  | _ => false) && dvB p.2 e.val
def entsB : List DictEntry → List (Str × D) → Bool
  | [], [] => true
  | e :: es, p :: kv => entB e p && entsB es kv
  | _, _ => false
def gdB (K : PySem.W.Frag) (a : Addr) (kv : List (Str × D)) : Bool := match K.lookup a with
  | some ⟨_, _, .dict es _, _⟩ => entsB es.toList kv
  | _ => false
theorem entsB_ok : ∀ {es : List DictEntry} {kv : List (Str × D)}, entsB es kv = true → Paired EntIs es kv
  | [], [], _ => .nil
  | [], _ :: _, h => by cases h
  | _ :: _, [], h => by cases h
  | e :: es, p :: kv, h => by
    obtain ⟨h1, h2⟩ := He.ba (show (entB e p && entsB es kv) = true from h)
    obtain ⟨h3, h4⟩ := He.ba h1
    refine .cons ⟨?_, dvB_ok h4⟩ (entsB_ok h2)
    split at h3
    · rename_i x t q
      exact ⟨t, by rw [q, of_decide_eq_true h3]⟩
    · cases h3
theorem gd_of {K : PySem.W.Frag} {w : World} {a : Addr} {kv : List (Str × D)} (h : gdB K a kv = true) (k : ∃ es n, KDict K w a es n) : GDict K w a kv := by
  obtain ⟨es, n, kd⟩ := k
  unfold gdB at h
  rw [kd.at_] at h
  exact ⟨es, n, kd, entsB_ok h⟩
structure HeadIn where
  cls : List Str
  flds : List Str
  excs : List Str
  xflds : List Str
  hds : List Str
  uexc : List Str
  gds : List (Str × List (Str × D))
  tf : List He.Defn
  more : PySem.W.Frag → Bool
def HeadIn.tabs (I : HeadIn) : List He.Tab := I.gds.map fun g => (fun K => He.ga K g.1, g.2.map (·.1))
def iniB (K : PySem.W.Frag) (c : Str) : Bool := decide (PySem.W.findIn K (.ref (He.ga K c)) "__init__" = some (some (.ref (He.ma K (He.ga K c) "__init__")))) && decide (PySem.W.typeIn K (.ref (He.ma K (He.ga K c) "__init__")) = some (.type "function"))
/-- the tables stand apart -/
def apart (K : PySem.W.Frag) (tf : List He.Defn) : Bool := tf.all fun p => tf.all fun q => decide ((He.cT K p).2 = (He.cT K q).2 → p = q)
def HeadIn.ex (I : HeadIn) (K : PySem.W.Frag) : Bool := kokB K I.cls I.flds && (I.hds.all (fun y => xinB K I.excs y) && (I.excs.all (fun x => xfB K (He.ga K x)) && (I.excs.all (fun x => I.xflds.all fun f => decide (PySem.W.findIn K (.ref (He.ga K x)) f = some none)) &&
  (I.uexc.all (fun c => oexB K (He.ga K c)) && (I.uexc.all (fun c => iniB K c) && (I.gds.all (fun g => gdB K (He.ga K g.1) g.2) && (apart K I.tf && I.more K)))))))
structure HeadSays (I : HeadIn) (w : World) (K : PySem.W.Frag) : Prop where
  ok : ∀ T, KOk ⟨K, T, I.cls, I.flds⟩
  sb : ∀ y ∈ I.hds, XIn K (subOf I.excs) y
  xf : ∀ x y, subOf I.excs x y = some true → XfC K (He.ga K x)
  xn : ∀ x y, subOf I.excs x y = some true → ∀ f ∈ I.xflds, PySem.W.findIn K (.ref (He.ga K x)) f = some none
  oex : ∀ c ∈ I.uexc, OexC K (He.ga K c)
  init : ∀ c ∈ I.uexc, PySem.W.findIn K (.ref (He.ga K c)) "__init__" = some (some (.ref (He.ma K (He.ga K c) "__init__"))) ∧ PySem.W.typeIn K (.ref (He.ma K (He.ga K c) "__init__")) = some (.type "function")
  gd : ∀ (i : Nat) (g : Str × List (Str × D)), I.gds[i]? = some g → GDict K w (He.ga K g.1) g.2
  ap : ∀ p ∈ I.tf, ∀ q ∈ I.tf, (He.cT K p).2 = (He.cT K q).2 → p = q
  more : I.more K = true
theorem sub_in {excs : List Str} {x y : Str} (h : subOf excs x y = some true) : x ∈ excs := by
  unfold subOf at h
  split at h
  · rename_i m; exact m.1
  · cases h
theorem head_says {I : HeadIn} {fa : List He.Fa} {fn : List He.DefD} {w : World} {h : Heap} {K : PySem.W.Frag} (c : He.SaysX fa fn I.tabs I.tf I.ex w h K) : HeadSays I w K := by
  have e := c.more
  unfold HeadIn.ex at e
  obtain ⟨h1, e⟩ := He.ba e
  obtain ⟨h2, e⟩ := He.ba e
  obtain ⟨h3, e⟩ := He.ba e
  obtain ⟨h4, e⟩ := He.ba e
  obtain ⟨h5, e⟩ := He.ba e
  obtain ⟨h6, e⟩ := He.ba e
  obtain ⟨h7, e⟩ := He.ba e
  obtain ⟨h8, h9⟩ := He.ba e
  rw [List.all_eq_true] at h2 h3 h4 h5 h6 h7
  refine ⟨fun T => kok_of h1, fun y hy => xin_of (h2 y hy), fun x y z => xfB_ok (h3 x (sub_in z)), fun x y z f hf => ?_, fun c hc => oex_of (h5 c hc), fun c hc => ?_, fun i g hg => ?_, fun p hp q hq e => ?_, h9⟩
  · exact of_decide_eq_true (List.all_eq_true.mp (h4 x (sub_in z)) f hf)
  · obtain ⟨i1, i2⟩ := He.ba (h6 c hc)
    exact ⟨of_decide_eq_true i1, of_decide_eq_true i2⟩
  · refine gd_of (h7 g (List.mem_of_getElem? hg)) ?_
    exact c.t.tab i (t := (fun K => He.ga K g.1, g.2.map (·.1))) (by unfold HeadIn.tabs; rw [List.getElem?_map, hg]; rfl)
  · have := List.all_eq_true.mp (List.all_eq_true.mp h8 p hp) q hq
    exact of_decide_eq_true this e
/-- the tables of T: of the defs of tf -/
def HeadIn.T (I : HeadIn) (K : PySem.W.Frag) : List (Addr × Str) := I.tf.map fun p => ((He.cT K p).2, p.1 ++ ".<locals>." ++ "<lambda>")
theorem tabAt_of {I : HeadIn} {K : PySem.W.Frag} {mg : Str → Option Value} {base : Heap} (hB : ∀ p ∈ I.tf, LamX.TabB base mg (He.cT K p).1 (He.cT K p).2) (ap : ∀ p ∈ I.tf, ∀ q ∈ I.tf, (He.cT K p).2 = (He.cT K q).2 → p = q)
    {p : He.Defn} (hp : p ∈ I.tf) {ql : Str} (hq : p.1 ++ ".<locals>." = ql) {name qual : Str} {params : Arguments} {body : List Stmt} {scope : Scope} {dvs : List V} {kws : List (Str × V)} {fd : FuncData} (F : FunD K name qual params body scope dvs kws (He.fAd K p) fd) :
    ∀ X : Cx, X.base = base → X.mg = mg → X.env.code = fd.code → X.env.qual = ql → TabAt ⟨K, I.T K, I.cls, I.flds⟩ X (He.cT K p).1 (He.cT K p).2 := fun X hb hm hc hqu => by
  obtain ⟨oc, od, dV, kV, doc, pm, an, cdv, ct, osl, rfl, lk, hcd, _, _⟩ := F.ex
  obtain ⟨c, ec⟩ := He.codeIn_ref hcd
  have e : He.codeOf K p = c := He.codeOf_eq lk ec
  refine ⟨by rw [hb, hm]; exact hB p hp, ?_, ?_, fun q hq2 e2 => ?_⟩
  · rw [hc]
    show _ = Value.ref (He.codeOf K p)
    rw [e]; exact ec
  · rw [hqu, ← hq]
    exact List.mem_map.mpr ⟨p, hp, rfl⟩
  · obtain ⟨q', hq', rfl⟩ := List.mem_map.mp hq2
    have := ap q' hq' p hp e2
    subst this
    rw [hqu, ← hq]
theorem tabs_of {I : HeadIn} {K : PySem.W.Frag} {H : Hp} (h : ∀ p ∈ I.tf.map (He.cT K), H p.2 = some (.tbl #[])) : LamX.Tabs (I.T K) H := fun p hp => by
  obtain ⟨q, hq, rfl⟩ := List.mem_map.mp hp
  exact LamX.TabS.nil (h _ (List.mem_map.mpr ⟨q, hq, rfl⟩))
/-- the law's facts, from the chain -/
theorem law_at {I : HeadIn} {l : PySem.W.OpenLaw} {fa : List He.Fa} {fn : List He.DefD} {w : World} {h : Heap} {K : PySem.W.Frag} {mg : Str → Option Value} {f : Addr} {st : Stmt} {k : Nat} {x : Str} {W : DF}
    (KX : K.In h) (G : h.Ns mainGlobals mg) (c : He.SaysX fa fn I.tabs I.tf I.ex w h K) (hf : mg "law" = some (.ref f)) (hg : mg "law" = some (.ref (He.ga K "law"))) {fd : FuncData} (F : FunD K "law" "law" (defArgs st) (defBody st) (defScope st) [] [] (He.ga K "law") fd)
    (hb : ∀ (kV doc pm : Value) (an : Option Addr) (cdv ct : Value) (us : List Value), us.length = [x].length → bindArgs (PySem.W.fnOf "law" "law" (defArgs st) (defBody st) (defScope st) .none kV doc pm an cdv ct) ⟨us, []⟩ = pure ([x].zip us))
    (ch : ∀ base : Heap, K.In base → base.Ns mainGlobals mg → (∀ p ∈ I.tf, LamX.TabB base mg (He.cT K p).1 (He.cT K p).2) → DefOk ⟨K, I.T K, I.cls, I.flds⟩ l.prog w mg base st "law" k [x] W)
    (hW : ∀ ns : List Int, ns.length ≤ 63 → (∀ z ∈ ns, Builtin.Int.intBits z ≤ 1048576) → W [.fl (ns.map .int)] (fun _ => none) (fun d _ => d = .bl true) fun _ _ => False) :
    LawAtG l w K (L2.CX l.prog w) k 63 x mg f h := by
  have ef : f = He.ga K "law" := by rw [hf] at hg; cases hg; rfl
  subst ef
  refine ⟨fd, I.tf.map (He.cT K), spD ⟨K, I.T K, I.cls, I.flds⟩ 1 W, fun p hp => ?_, fun p hp => ?_, fun p hp => ?_, ?_, fun H a ns hl hbt hT hS => sp_law (C := ⟨K, I.T K, I.cls, I.flds⟩) (tabs_of hT) hS (hW ns hl hbt), fun base hK hN hTB => ?_⟩
  · obtain ⟨q, hq, rfl⟩ := List.mem_map.mp hp; exact c.empty q hq
  · obtain ⟨q, hq, rfl⟩ := List.mem_map.mp hp; exact c.out q hq
  · obtain ⟨q, hq, rfl⟩ := List.mem_map.mp hp; exact PySem.W.codeHd_of_K KX (c.hd q hq)
  · have b := FunD.bindsA (ps := [x]) F hb
    exact fun s v => b s [v] rfl
  · obtain ⟨fd', F', o, _, _⟩ := ch base hK hN fun p hp => hTB _ (List.mem_map.mpr ⟨p, hp, rfl⟩)
    have e : fd = fd' := by
      obtain ⟨oc, od, dV, kV, doc, pm, an, cdv, ct, osl, rfl, lk, _, _, _⟩ := F.ex
      obtain ⟨oc', od', dV', kV', doc', pm', an', cdv', ct', osl', rfl, lk', _, _, _⟩ := F'.ex
      have lk' : K.lookup (He.ga K "law") = _ := lk'
      rw [lk] at lk'
      cases lk'
      rfl
    rw [e]
    exact o
theorem cx_no {P : Program} {w : World} {H : Hp} {s : Shared} {e : Value} {s' : Shared} (z : L2.CX P w [] H s (fun _ _ _ => False) e s') : False := by
  obtain ⟨_, _, _, _, _, _, _, _, _, _, _, _, z⟩ := z
  exact z
theorem roomC {k : Nat} (h : Room k callerA) : RoomG k callerA := ⟨h, rfl⟩
/-! ### a shorter look: names, classes, methods, code -/
def refsF (g : Addr → Option Obj) (a : Addr) : List Addr := match g a with
  | some o => (match o.data with
    | .dict es _ => es.toList.flatMap fun e => He.refV e.val
    | .func fd => He.refV fd.code ++ (He.refV fd.defaults ++ He.refV fd.kwdefaults)
    | .cls cd => [cd.ns]
    | _ => [])
  | none => []
def flatF (g : Addr → Option Obj) (as : List Addr) : List Addr := as.flatMap (refsF g)
def asF (g : Addr → Option Obj) : List Addr :=
  (fun a1 => (fun a2 => (fun a3 => mainGlobals :: (a1 ++ (a2 ++ (a3 ++ flatF g a3)))) (flatF g a2)) (flatF g a1)) (refsF g mainGlobals)
def obsK (fa : List He.Fa) (fn : List He.DefD) (I : HeadIn) (g : Addr → Option Obj) (K : PySem.W.Frag) : He.AlX := (He.obsT fa fn I.tabs K, I.ex K && He.tabsB g I.tf K)
def obsF (fa : List He.Fa) (fn : List He.DefD) (I : HeadIn) (g : Addr → Option Obj) : He.AlX := obsK fa fn I g (He.frT g (asF g))
theorem says_of {fa : List He.Fa} {fn : List He.DefD} {I : HeadIn} {w : World} {h : Heap} {as : List Addr} (e : obsK fa fn I h.get? (He.frT h.get? as) = He.valX fn I.tabs w) : He.SaysX fa fn I.tabs I.tf I.ex w h (He.frT h.get? as) := by
  have h1 := congrArg Prod.fst e
  obtain ⟨m1, m2⟩ := He.ba (congrArg Prod.snd e)
  have tb : ∀ p ∈ I.tf, _ := fun p hp => He.ba (List.all_eq_true.mp m2 p hp)
  have at_ : ∀ p ∈ I.tf, ∃ o, h.get? (He.cT (He.frT h.get? as) p).2 = some o ∧ He.emptyTab o = true := fun p hp => by
    have q := (tb p hp).2
    split at q
    · rename_i o eo; exact ⟨o, eo, q⟩
    · cases q
  exact ⟨h1, m1, fun p hp => (tb p hp).1, fun p hp => let ⟨_, e1, e2⟩ := at_ p hp; He.frT_none e1 e2, fun p hp => by
    obtain ⟨o, e1, e2⟩ := at_ p hp
    rw [e1, He.emptyTab_eq e2]⟩
def hookF (fa : List He.Fa) (fn : List He.DefD) (I : HeadIn) : PySem.W.Hook where
  α := He.AlX
  obs := fun s => obsF fa fn I s.heap.get?
  val := fun w => He.valX fn I.tabs w
  says := fun w h => ∃ K : PySem.W.Frag, K.In h ∧ He.SaysX fa fn I.tabs I.tf I.ex w h K
  of := fun _ _ e => ⟨_, He.frT_in, says_of e⟩
  keeps := fun _ _ _ ⟨K, hK, c⟩ k => ⟨K, PySem.W.Frag.In.keeps hK k, ⟨c.t, c.more, c.hd, c.out, fun p hp => k _ _ (c.empty p hp)⟩⟩
theorem obsF_eq {fa : List He.Fa} {fn : List He.DefD} {I : HeadIn} {g : Addr → Option Obj} {s : Shared} (h : ∀ a, g a = s.heap.get? a) : obsF fa fn I g = (hookF fa fn I).obs s := by
  rw [show g = s.heap.get? from funext h] <;> rfl
end DL
end
section
set_option Elab.async false
set_option linter.all false
set_option maxRecDepth 100000
set_option maxHeartbeats 4000000
open PySem PySem.Spec L2
namespace DL
/-! ### == by an own __eq__, of two of one class -/
def insC (h : Hd) (c : Str) (d : D) : Prop := ∃ fs, insOf h d = some (c, fs)
/-- W the class's own ==; it raises nothing -/
def wOwn (c : Str) (W : DF) : W2 := fun x y h Q => insC h c x ∧ insC h c y ∧ W [x, y] h (fun r h' => (∃ k, r = .bl k) ∧ Q r h') fun _ _ => False
section
variable {C : Ctx} {A : Anc} {X : Cx} {a b : Expr} {pos : Pos} {wa wb : DE} {W : DF} {c : Str} {st : Stmt} {k j : Nat} {ps : List Str} {q : Str}
theorem op_own (hK : X.K = C.K) (D : MetOk C X.prog X.w X.mg X.base st c "__eq__" q k ps W) (hn : ps.length = 2) (hr : RoomG j X.A) (hj : k ≤ j) :
    OpR X (compareOp .Eq) (fun x y H Q => ∃ Z h d e Qd, RelH C Z H h ∧ Rep C Z H d x ∧ Rep C Z H e y ∧ wOwn c W d e h Qd ∧ ∀ d h' v Z' H', Qd d h' → Fr Z H Z' H' → RelH C Z' H' h' → Rep C Z' H' d v → Q v H') := by
  intro pins s σ H x y v u Q I rx ry ⟨Z, h, d, e, Qd, R, rd, re, ⟨⟨fs, i1⟩, ⟨gs, i2⟩, hw⟩, kq⟩
  obtain ⟨p, dx, fv, rfl, hp, _, _⟩ := ins_rep R i1 rd
  obtain ⟨r, dy, gv, rfl, hq, _, _⟩ := ins_rep R i2 re
  obtain rfl : v = Value.ref p := rx
  obtain rfl : u = Value.ref r := ry
  obtain ⟨fd, F, o, mt, bs⟩ := D
  have FV : FnQ X.prog X.w X.K X.mg X.base (L2.CX X.prog X.w) k (He.ma C.K (He.ga C.K c) "__eq__") (spD C 2 W) := by
    have t := fnV_of o bs
    rw [hn] at t
    rw [hK]
    exact t
  have mt' : Meth X.K (He.ga C.K c) "__eq__" (He.ma C.K (He.ga C.K c) "__eq__") := by
    have eK : X.K = C.K := hK
    generalize X.K = K at eK ⊢
    subst eK
    exact mt
  obtain ⟨mA, J1, _⟩ := ins_get I.hok hp
  obtain ⟨mB, J2, _⟩ := ins_get I.hok hq
  obtain ⟨o1, K1, _⟩ := J1.look
  obtain ⟨o2, K2, _⟩ := J2.look
  obtain ⟨m, hF⟩ := I.fr
  refine PySem.W.cmp_K (op := .Eq) (tb := .ref (He.ga C.K c)) hr.units0 hF I.ok.mod.kin K1 K2.type (by simp [PySem.W.notFirst]) mt'.at_ mt'.fn ?_
  refine wpAny_call (codeAny_mono (FV X.A X.stack s H [.ref p, .ref r] [.ref p, .ref r] (fun v H' => (∃ k, v = .bl k) ∧ Q v H') (fun _ _ _ => False) (hr.mono hj) I.env0 (.cons rfl (.cons rfl .nil))
    ⟨rfl, Z, [d, e], h, _, _, R, ⟨_, _, rfl, rd, _, _, rfl, re, rfl⟩, hw, fun d' h' v' Z' H' ⟨⟨kk, ek⟩, qd⟩ f R' r' => ⟨⟨kk, by subst ek; exact r'⟩, kq d' h' v' Z' H' qd f R' r'⟩, fun _ _ _ _ _ _ z => z.elim⟩) fun r s' hq' => ?_)
  cases r with
  | error ex =>
    obtain ⟨_, _, _, _, _, _, _, _, _, _, _, _, z⟩ := hq'
    exact z.elim
  | ok fl =>
    cases fl with
    | ret w =>
      obtain ⟨z, H', I', rz, ⟨kk, ez⟩, qz⟩ := I.after hq'
      subst ez
      obtain rfl : w = Value.bool kk := rz
      exact ⟨.bl kk, H', I', rfl, qz⟩
    | next => exact False.elim hq'
    | brk => exact False.elim hq'
    | cont => exact False.elim hq'
theorem o_own : Op2 C (fun x y H Q => ∃ Z h d e Qd, RelH C Z H h ∧ Rep C Z H d x ∧ Rep C Z H e y ∧ wOwn c W d e h Qd ∧ ∀ d h' v Z' H', Qd d h' → Fr Z H Z' H' → RelH C Z' H' h' → Rep C Z' H' d v → Q v H') (wOwn c W) :=
  fun Z H h d e x y Qd Q R rx ry q k => ⟨Z, h, d, e, Qd, R, rx, ry, q, k⟩
theorem z_own (D : MetOk C X.prog X.w X.mg X.base st c "__eq__" q k ps W) (hn : ps.length = 2) (hK : X.K = C.K) (hr : RoomG j X.A) (hj : k ≤ j) (ha : PEd C A X a wa) (hb : PEd C A X b wb) : PEd C A X (.Compare a [.Eq] [b] pos) (d2 (wOwn c W) wa wb) :=
  d_cmp (op_own hK D hn hr hj) o_own ha hb (nomark _)
theorem z_town (D : MetOk C X.prog X.w X.mg X.base st c "__eq__" q k ps W) (hn : ps.length = 2) (hK : X.K = C.K) (hr : RoomG j X.A) (hj : k ≤ j) (ha : PEd C A X a wa) (hb : PEd C A X b wb) : PTd C A X (.Compare a [.Eq] [b] pos) (dTest (d2 (wOwn c W) wa wb)) :=
  d_tcmp (op_own hK D hn hr hj) o_own ha hb (nomark _)
end
/-! ### raise X() of an own class without own __init__ -/
structure Exc0 (K : PySem.W.Frag) (c : Str) : Prop where
  q : PySem.W.excIn K (He.ga K c) He.veBase "ValueError.__new__" = true
  kp : PySem.W.keepIn K (.ref (He.ga K c)) = true
  sb : PySem.W.subIn K (.ref (He.ga K c)) (.type "BaseException") = some true
  ty : PySem.W.typeIn K (.ref (He.ga K c)) = some (.type "type")
theorem exc0_of {K : PySem.W.Frag} {c : Str} (h : (He.Fa.exc c).ok K = true) : Exc0 K c := let ⟨a, b, d, e⟩ := He.exc_ok h; ⟨a, b, d, e⟩
def dRaise0 (c : Str) (E : EW) : DS := fun _ ρ h => E ρ ⟨c, []⟩ h
section
variable {C : Ctx} {A : Anc} {X : Cx} {E : EW} {c : Str} {p pos pos' : Pos}
theorem z_raise0 (T : Exc0 C.K c) (hm : X.mg c = some (.ref (He.ga C.K c))) (hK : X.K = C.K) (hc : X.calm = true) (tk : Takes X (upX C A E)) (hg : Gl X c) (hdb : (c == ("__debug__" : Str)) = false) :
    PSd C A X (.Raise (some (.Call (.Name c p) [] [] pos)) none pos') (dRaise0 c E) := by
  have T' : Exc0 X.K c := by rw [hK]; exact T
  have eg : He.ga X.K c = He.ga C.K c := by rw [hK]
  have mk : PMk X (.Call (.Name c p) [] [] pos) (fun σ H Q => Q (.ref (He.ga C.K c)) none H) := by
    intro pins s σ H Q I h
    refine wpAny_Call_Name_kw (ld_glob I hg hm ?_ hdb)
    refine PySem.W.callWith_K0 I.kIn (eg ▸ T'.kp) ?_
    show wpAny _ _ (call (.ref (He.ga C.K c)) []) _ _ _
    obtain ⟨bm, N, nm, qn, bs, hdct, sn, sub, ab, col, dd, k0, k1, k2, k3, k5, mN, hC, hN, hni, T2⟩ := exc_obj I.kIn T'.q
    rw [← eg]
    refine wpAny_call_exc_subT PySem.F.excBase_ValueError T2 hC hN hni (fun h' e hm2 => ?_) (Nat.zero_le _)
    exact mk_of I hm2 (raises_own T'.sb T'.ty) (by rw [eg]; exact h) (I.hok.gone hm2.new)
  exact PS.imp (ps_raise hc tk mk) fun D σ H ⟨Z, ρ, h, Dd, R, q, _⟩ => ⟨Z, ρ, h, ⟨c, []⟩, R, ⟨rfl, rfl⟩, q⟩
end
/-! ### o.m(k = e, ..) -/
def selK {α : Type} (π : List Nat) (zs : List α) : List α := π.filterMap fun i => zs[i]?
theorem sel_vals {vs : List V} {us : List Value} (r : Vals vs us) : ∀ π : List Nat, Vals (selK π vs) (selK π us)
  | [] => .nil
  | i :: π => by
    have ih := sel_vals r π
    unfold selK at ih ⊢
    cases e : vs[i]? with
    | none =>
      have e2 : us[i]? = none := by
        rw [List.getElem?_eq_none_iff] at e ⊢
        rw [← r.length]; exact e
      rw [List.filterMap_cons_none e, List.filterMap_cons_none e2]; exact ih
    | some v =>
      obtain ⟨u, e2, rv⟩ := r.get e
      rw [List.filterMap_cons_some e, List.filterMap_cons_some e2]; exact .cons rv ih
theorem sel_reps {C : Ctx} {Z : Addr → Prop} {H : Hp} {ds : List D} {vs : List V} (r : Reps C Z H ds vs) : ∀ π : List Nat, Reps C Z H (selK π ds) (selK π vs)
  | [] => rfl
  | i :: π => by
    have ih := sel_reps r π
    unfold selK at ih ⊢
    cases e : ds[i]? with
    | none =>
      have e2 : vs[i]? = none := by
        rw [List.getElem?_eq_none_iff] at e ⊢
        rw [r.length]; exact e
      rw [List.filterMap_cons_none e, List.filterMap_cons_none e2]; exact ih
    | some d =>
      obtain ⟨v, e2, rv⟩ := r.get e
      rw [List.filterMap_cons_some e, List.filterMap_cons_some e2]; exact ⟨v, _, rfl, rv, ih⟩
/-- how the keywords are bound -/
def KwOk (st : Stmt) (x q : Str) (ps : List Str) (n : Nat) (ks : List Str) (π : List Nat) : Prop :=
  ∀ (kV doc pm : Value) (an : Option Addr) (cdv ct : Value) (us ws : List Value), us.length = n → ws.length = ks.length → bindArgs (PySem.W.fnOf x q (defArgs st) (defBody st) (defScope st) .none kV doc pm an cdv ct) ⟨us, ks.zip ws⟩ = pure (ps.zip (us ++ selK π ws))
theorem kb_of {K : PySem.W.Frag} {x q : Str} {st : Stmt} {f : Addr} {fd : FuncData} {ps ks : List Str} {n : Nat} {π : List Nat} (F : FunD K x q (defArgs st) (defBody st) (defScope st) [] [] f fd) (h : KwOk st x q ps n ks π) (s : Shared) (us ws : List Value) (l1 : us.length = n) (l2 : ws.length = ks.length) :
    BindsTo s fd ⟨us, ks.zip ws⟩ (ps.zip (us ++ selK π ws)) := by
  obtain ⟨oc, od, dV, kV, doc, pm, an, cdv, ct, osl, rfl, lk, hcd, hD, hKd⟩ := F.ex
  rcases hD with ⟨_, rfl⟩ | ⟨e, _⟩
  · exact .of_eq (h kV doc pm an cdv ct us ws l1 l2)
  · exact absurd rfl e
abbrev PKd (C : Ctx) (A : Anc) (X : Cx) (kws : List Keyword) (W : DA) : Prop := PK X kws (UpA C A W)
theorem PK.imp {X : Cx} {kws : List Keyword} {t t' : TA} (p : PK X kws t) (f : ∀ σ H Q, t' σ H Q → t σ H Q) : PK X kws t' := ⟨fun pos pins s σ H Q I h => p.run pos pins s σ H Q I (f σ H Q h)⟩
section
variable {C : Ctx} {A : Anc} {X : Cx} {E : EW} {c m q : Str} {W : DF} {st : Stmt} {k j n : Nat} {ps ks : List Str} {π : List Nat} {o e : Expr} {wo we : DE} {wr : DA} {kws : List Keyword} {nm : Option Str} {pos apos kpos : Pos}
theorem dk_nil : PKd C A X [] dNil := PK.imp pk_nil fun σ H Q ⟨Z, ρ, h, Qd, R, q, k⟩ => k [] h [] Z H q Fr.refl R.toRelH rfl
theorem dk_cons (ha : PEd C A X e we) (hr : PKd C A X kws wr) : PKd C A X (⟨nm, e, kpos⟩ :: kws) (dCons we wr) :=
  PK.imp (pk_cons ha hr) fun σ H Q ⟨Z, ρ, h, Qd, R, q, k⟩ => ⟨Z, ρ, h, _, R, q, fun x h1 v1 Z1 H1 q1 f1 R1 r1 => ⟨Z1, ρ, h1, _, R.next f1 R1, q1, fun xs h2 vs Z2 H2 q2 f2 R2 r2 => k (x :: xs) h2 (v1 :: vs) Z2 H2 q2 (f1.trans f2) R2 ⟨_, _, rfl, r1.fr f2, r2⟩⟩⟩
def dMetK (c m : Str) (n l : Nat) (π : List Nat) (W : DF) (E : EW) (o : DE) (r : DA) : DE := fun ρ h Q => o ρ h fun x h1 => isIns h1 c m x ∧ r ρ h1 fun zs h2 => zs.length = l ∧ (x :: selK π zs).length = n ∧ W (x :: selK π zs) h2 Q (E ρ)
theorem z_metK {pl : Sem Bool} (ok : KOk C) (D : MetOk C X.prog X.w X.mg X.base st c m q k ps W) (hn : ps.length = n) (hk : ks.length = l) (hK : X.K = C.K) (hr : RoomG j X.A) (hj : k ≤ j) (px : Psx C A X E) (kb : KwOk st m q ps 1 ks π) (ho : PEd C A X o wo) (ha : PKd C A X kws wr)
    (hall : (backToKw pos (keywordEach kws X.env)).all (·.1.isSome) = true) (hks : (backToKw pos (keywordEach kws X.env)).filterMap (·.1) = ks)
    (hpl : ((backTo pos (starEach [] X.env)).any (·.1) || (backToKw pos (keywordEach kws X.env)).any (·.1.isNone)) = false)
    (ht : eval (.Call (.Attribute o m apos) [] kws pos) X.env = (do
      let ov ← eval o X.env
      standAt apos.atName
      let (f, first) ← holding [ov] (getMethod ov m pl)
      callWith pos f first (backTo pos (starEach [] X.env)) (backToKw pos (keywordEach kws X.env)))) :
    PEd C A X (.Call (.Attribute o m apos) [] kws pos) (dMetK c m n l π W E wo wr) := by
  subst hn
  obtain ⟨fd, F, og, mt, _⟩ := D
  refine ⟨fun pins s σ H Q I ⟨Z, ρ, h, Qd, R, q, kk⟩ => ?_⟩
  refine PySem.W.methodCall_KW (pl := pl) (thn (run_d ho I R q) fun u s1 ⟨v, H1, I1, ru, Z1, h1, x, f1, R1, r1, i1, q1⟩ => ?_) ht
  obtain ⟨a, dx, fvs, ev, ea, mc, l0⟩ := isIns_rep R1 r1 i1
  subst ev
  obtain rfl : u = Value.ref a := ru
  have cl' : Cls X.K (He.ga C.K c) := by rw [hK]; exact ok.cl c mc
  have hm' : Meth X.K (He.ga C.K c) m (He.ma C.K (He.ga C.K c) m) := by rw [hK]; exact mt
  refine getmeth_ok I1 ea cl' hm' l0 ?_
  refine PySem.W.callWith_KW0 (first := [.ref a]) (h₀ := X.base) I.ok.mod.kin hm'.kp hall (thn (ha.run pos pins s1 σ H1 _ I1 ⟨Z1, ρ, h1, _, R.next f1 R1, q1, fun ds h2 vs Z2 H2 q2 f2 R2 r2 => (⟨Z2, h2, ds, f2, R2, r2, q2⟩ : ∃ Z2 h2 ds, Fr Z1 H1 Z2 H2 ∧ RelH C Z2 H2 h2 ∧ Reps C Z2 H2 ds vs ∧ ds.length = l ∧ (x :: selK π ds).length = ps.length ∧ W (x :: selK π ds) h2 Qd (E ρ))⟩) fun us s2 ⟨vs, H2, I2, r, Z2, h2, ds, f2, R2, r2, hl, hn2, q2⟩ => ⟨I2.kIn, ?_⟩) hpl
  rw [hks]
  have lw : us.length = ks.length := by rw [← r.length, r2.length, hl, hk]
  have Fx : FnG X.prog X.w X.K X.mg X.base (L2.CX X.prog X.w) k (He.ma C.K (He.ga C.K c) m) fd ps (spD C ps.length W) := by rw [hK]; exact og
  have vv : Vals (V.ref a :: selK π vs) (Value.ref a :: selK π us) := .cons rfl (sel_vals r π)
  have rr : Reps C Z2 H2 (x :: selK π ds) (V.ref a :: selK π vs) := ⟨_, _, rfl, r1.fr f2, sel_reps r2 π⟩
  refine thn (wpAny_call (codeAny_mono (Fx.run X.A X.stack s2 H2 ⟨[.ref a], ks.zip us⟩ (Value.ref a :: selK π us) (V.ref a :: selK π vs) (fun v H' => ∃ Z' h' d, Fr Z2 H2 Z' H' ∧ RelH C Z' H' h' ∧ Rep C Z' H' d v ∧ Qd d h') (WE (upX C A E) σ) (hr.mono hj) I2.env0
    (kb_of F kb s2 [.ref a] us rfl lw) vv ⟨by rw [rr.length]; exact hn2, Z2, _, h2, Qd, E ρ, R2, rr, q2, fun d h' v Z' H' qd f' R' r' => ⟨Z', h', d, f', R', r', qd⟩, fun ex h' cls pp Z' H' qe f' R' rx => ⟨Z', ρ, h', ex, ((R.next f1 R1).next f2 R2).next f' R', rx, qe⟩⟩) fun r s' hq => ?_)) fun v s3 hq => EP.d (fun d h' v Z' H' qd f' R' r' => kk d h' v Z' H' qd ((f1.trans f2).trans f') R' r') hq
  cases r with
  | error e => exact px σ pins H2 s2 e s' I2 hq
  | ok fl =>
    cases fl with
    | ret u => exact I2.after hq
    | next => exact False.elim hq
    | brk => exact False.elim hq
    | cont => exact False.elim hq
end
/-! ### isinstance(e, X) in an except suite -/
section
open PySem.W PySem.Calls PyProof.Rows
variable {prog : Program} {w : World} {A : Around} {E : Value → Shared → Prop} {s : Shared} {K : PySem.W.Frag} {x D : Addr} {ox : Obj} {od : Option Obj}
theorem find_bind {Ca : Addr} {name : Str} {at_ gt : Value} (h1 : (clsIn K Ca).isSome = true) (h2 : findIn K (.ref Ca) name = some (some at_)) (h3 : specialIn K at_ "__get__" = some (some gt)) (h4 : takesIn K at_ = some true) :
    findObj K Ca od name = some (.bind gt at_) := by
  cases e : clsIn K Ca with
  | none => rw [e] at h1; cases h1
  | some cd =>
    unfold findObj
    rw [e, Option.bind_some, h2, Option.bind_some]
    simp [h3, h4]
theorem kitx_of (T : L2.ExcC K D) : KitX K (.ref x) (.ref D) (fun h => PySem.W.InstAt h x ox D od) := by
  have some_cls : ∃ cd c' d' cd' sl', clsIn K D = some cd ∧ K.lookup D = some ⟨c', d', .cls cd', sl'⟩ := by
    obtain ⟨cd, e, _⟩ := any_some T.hd
    have e0 := e
    unfold clsIn at e
    split at e
    · rename_i c' d' cd' sl' ho; exact ⟨cd, c', d', cd', sl', e0, ho⟩
    · cases e
  obtain ⟨cd, c', d', cd', sl', ecls, elook⟩ := some_cls
  refine ⟨fun _ _ _ J => J.type, fun _ _ X _ => fun A' Q' E' s' k q => ?_, fun h tp dd its n sl X htp => ?_, fun {prog w A E Q s} X J k => ?_⟩
  · unfold isType loadHead
    exact wpAny_bind (wpAny_loadPart (k _ _ (X _ _ elook)) (wpAny_pure q))
  · refine Bool.eq_false_iff.mpr fun q => ?_
    have e : D = tp := Value.ref.inj (beq_iff_eq.mp q)
    rw [← e] at htp
    cases (X _ _ elook).symm.trans htp
  · obtain ⟨hp, g, dr, t, os⟩ := s
    have T0 := J.type (M := model prog w)
    have T1 := looks_findIn (M := model prog w) X T.hg
    have T2 := looks_findIn (M := model prog w) X T.hk
    have T3 := looks_find (M := model prog w) X J (find_bind (by rw [ecls] <;> rfl) T.ha T.hn T.ht)
    have T4 : Looks (model prog w) hp (isInstance (.ref x) (.type "BaseException")) true := T0.andThen (looks_subIn X T.hs)
    have b0 : (false && onTheHeap (Value.builtin "BaseException.__getattribute__")) = false := rfl
    have b1 : (onTheHeap (Value.ref D) && Value.builtin "BaseException.__getattribute__" == Value.builtin "object.__getattribute__") = false := by
      have b2 : (Value.builtin "BaseException.__getattribute__" == Value.builtin "object.__getattribute__") = false := by decide +kernel
      rw [b2, Bool.and_false]
    unfold getAttr? getAttrBy? getAttrBy
    refine wpAny_bind (wpAny_mkText (wpAny_bind (wpAny_attempt (wpAny_holding (wpAny_bind (T0.at (wpAny_bind (T1.at ?_))))))))
    (show wpAny _ _ (if (onTheHeap (Value.ref D) && Value.builtin "BaseException.__getattribute__" == Value.builtin "object.__getattribute__") = true then _ else _) _ _ _); (rw [b1, if_neg Bool.false_ne_true])
    (unfold getAttrByItsOwn hookBefore); (refine wpAny_bind ?_); (rw [if_pos (show onTheHeap (Value.ref D) = true from rfl)])
    (refine T2.at ?_); (refine wpAny_bind (wpAny_attempt (wpAny_holding ?_)))
    (unfold callGetattribute); (rw [b0, if_neg Bool.false_ne_true]); (unfold boundAndCalled); (rw [PySem.F.excAttr_ValueError.ga.bind (.ref x)])
    refine wpAny_bind (wpAny_pure ?_)
    (show wpAny _ _ (call (.builtin "BaseException.__getattribute__") [.ref x, .str "__class__" t]) _ _ _); (refine wpAny_call (codeAny_call_builtin PySem.F.excAttr_ValueError.ga.plain PySem.F.entry_bexc_ga ?_))
    (refine @check_slot (model prog w) _ _ ⟨hp, g, dr, t + 1, os⟩ "BaseException.__getattribute__" "BaseException" "__getattribute__" (.ref x) [.str "__class__" t] [] _ (by decide +kernel) (by decide +kernel) T4 (PySem.F.args_bexc_ga (.ref x) (.str "__class__" t)) ?_)
    (unfold Builtin.«object.__getattribute__»); (refine wpAny_bind (wpAny_of_eq (a := ((Value.ref x : Value), [Value.str "__class__" t])) (by first | rfl | (simp only [slotArgs]; rfl)) ?_))
    refine wpAny_bind (wpAny_pure (wpAny_bind (T0.at (wpAny_bind (T3.at ?_)))))
    (show wpAny _ _ (holding [Value.builtin "object.__class__"] (call (.builtin "getset_descriptor.__get__") [.builtin "object.__class__", .ref x, .ref D]) >>= ret) _ _ _)
    refine wpAny_bind (wpAny_holding (wpAny_call (class_get (s := ⟨hp, g, dr, t + 1, os⟩) (ox := ox) (od := od) X J T.hm ?_)))
    (refine wpAny_pure ?_); (show wpAny _ _ (handedOut (.ref D)) _ _ _); (rw [handedOut_of (v := .ref D) rfl])
    first | exact wpAny_pure (wpAny_pure k) | exact wpAny_pure k | exact wpAny_pure (wpAny_bind (wpAny_pure (wpAny_pure k)))
end
/-- isinstance(e, Y) of the caught one -/
def dXis (sub : Str → Str → Option Bool) (a : Addr) (ex : Ex) (y : Str) (wa : DE) : DE := fun ρ h Q => wa ρ h fun d h1 => d = .ref a ∧ onO (sub ex.cls y) fun b => Q (.bl b) h1
structure XisC (K : PySem.W.Frag) (sub : Str → Str → Option Bool) (y : Str) : Prop where
  exc : ∀ x b, sub x y = some b → L2.ExcC K (He.ga K x)
  kit : ∀ x b, sub x y = some b → PySem.W.kitOne K (.ref (He.ga K x)) (.ref (He.ga K y)) = some b
theorem call_xis {C : Ctx} {X : Cx} {a : Addr} {oe : Obj} {cls : Value} {d : Option Addr} {pn : List (Addr × Obj)} {D : Addr} (T : L2.ExcC X.K D) (hz : Zc cls d oe) (hf : ∃ vs, oe.data = .fields vs) (ec : cls = .ref D) :
    CallR (X.suite a ((a, oe) :: pn)) (.builtin "isinstance") (fun xs H Q => ∃ (y : Addr) (b : Bool), xs = [.ref a, .ref y] ∧ PySem.W.kitOne X.K (.ref D) (.ref y) = some b ∧ (∀ p, d = some p → ∃ fs, H p = some (.xd fs)) ∧ Q (.bl b) H) := by
  intro pins s σ H xs us Q I r ⟨y, b, exs, e, hd, q⟩
  subst exs
  obtain ⟨u1, u2, rfl, r1, r2⟩ := r.two
  obtain rfl : u1 = Value.ref a := r1
  obtain rfl : u2 = Value.ref y := r2
  obtain ⟨hget, _⟩ := I.pin (a, oe) (List.mem_append.mpr (.inl List.mem_cons_self))
  obtain ⟨vs, hv⟩ := hf
  obtain ⟨hz1, hz2⟩ := hz
  have done : ∀ od, PySem.W.InstAt s.heap a oe D od → wpAny (model X.prog X.w) X.A (call (.builtin "isinstance") [.ref a, .ref y]) (EP (X.suite a ((a, oe) :: pn)) pins σ Q) (X.suite a ((a, oe) :: pn)).xe s → True := fun _ _ _ => trivial
  have J : ∃ od, PySem.W.InstAt s.heap a oe D od := by
    cases d with
    | none =>
      refine ⟨none, hget, by rw [hz1, ec], by unfold PySem.W.notCls; rw [hv] <;> rfl, ?_⟩
      rw [hz2]; trivial
    | some p =>
      obtain ⟨fs, hp⟩ := hd p rfl
      have hx : ObjOk X.prog X.w H s.heap p (.xd fs) := I.hok p _ hp
      obtain ⟨mA, hns, hr⟩ := hx
      obtain ⟨od, ho, hl⟩ := lookIn_ns hns
      exact ⟨some od, hget, by rw [hz1, ec], by unfold PySem.W.notCls; rw [hv] <;> rfl, by rw [hz2]; exact ho⟩
  obtain ⟨od, J⟩ := J
  exact PySem.W.kia_one (kitx_of T) I.kIn J e (fun z => nomatch z) fun tk => ⟨.bl b, H, I.kept (t' := tk) fun _ _ z => z, rfl, q⟩
section
variable {C : Ctx} {B : Anc} {X : Cx} {sub : Str → Str → Option Bool} {a : Addr} {oe : Obj} {cls : Value} {d : Option Addr} {pn : List (Addr × Obj)} {ex : Ex} {y : Str} {e1 e2 : Expr} {w1 : DE} {p pos : Pos}
theorem z_xis (hK : X.K = C.K) (T : XisC C.K sub y) (hs : ∃ b, sub ex.cls y = some b) (hz : Zc cls d oe) (hf : ∃ vs, oe.data = .fields vs) (rx : RepX C B.Z B.H cls d ex) (hg : Gl (X.suite a ((a, oe) :: pn)) "isinstance") (hm : X.mg "isinstance" = none)
    (h1 : PEd C B (X.suite a ((a, oe) :: pn)) e1 w1) (h2 : PEd C B (X.suite a ((a, oe) :: pn)) e2 (dC (.glo y)))
    (he : starEach [e1, e2] X.env = (false, eval e1 X.env) :: starEach [e2] X.env) (he2 : starEach [e2] X.env = (false, eval e2 X.env) :: starEach [] X.env) (hpl : (backTo pos (starEach [e2] X.env)).any (·.1) = false) :
    PEd C B (X.suite a ((a, oe) :: pn)) (.Call (.Name "isinstance" p) [e1, e2] [] pos) (dXis sub a ex y w1) := by
  have T1 : L2.ExcC X.K (He.ga C.K ex.cls) := by rw [hK]; obtain ⟨b, hs⟩ := hs; exact T.exc _ _ hs
  have pa : PAd C B (X.suite a ((a, oe) :: pn)) [e1, e2] (dCons w1 (dCons (dC (.glo y)) dNil)) := d_cons h1 (d_cons h2 d_nil he2) he
  refine PE.imp (pe_callB (call_xis (C := C) T1 hz hf rx.1) hg hm bt_isinstance pa (by decide) (by decide) he hpl) fun σ H Q ⟨Z, ρ, h, Qd, R, q, k⟩ => ?_
  refine ⟨Z, ρ, h, fun ds h1 => ∃ v, ds = [v, .glo y] ∧ v = .ref a ∧ onO (sub ex.cls y) fun b => Qd (.bl b) h1, R, (q : w1 ρ h fun v h1 => _) |> (fun q => ?_), fun ds h1 vs Z1 H1 ⟨v, e0, ev, qb⟩ f1 R1 r1 => ?_⟩
  · have e : (fun (v : DL.D) (h1 : Hd) => v = .ref a ∧ onO (sub ex.cls y) fun b => Qd (.bl b) h1) = fun v h1 => ∃ v', [v, D.glo y] = [v', .glo y] ∧ v' = .ref a ∧ onO (sub ex.cls y) fun b => Qd (.bl b) h1 := by
      funext v h1
      apply propext
      constructor
      · rintro ⟨rfl, z⟩; exact ⟨_, rfl, rfl, z⟩
      · rintro ⟨v', e, rfl, z⟩; cases e; exact ⟨rfl, z⟩
    have q : w1 ρ h fun v h1 => v = .ref a ∧ onO (sub ex.cls y) fun b => Qd (.bl b) h1 := q
    rw [e] at q
    exact q
  · subst e0
    obtain ⟨v1, v2, rfl, ra, rg⟩ := Reps.two r1
    subst ev
    obtain rfl : v1 = V.ref a := ra
    obtain rfl : v2 = V.ref (He.ga C.K y) := rg
    obtain ⟨bb, eb, qb⟩ := onO_some qb
    refine ⟨_, bb, rfl, by rw [hK]; exact T.kit _ _ eb, fun p ep => ?_, k _ h1 _ Z1 H1 qb f1 R1 rfl⟩
    obtain ⟨_, r2⟩ := rx.fr (R.anc.trans f1)
    subst ep
    obtain ⟨_, fvs, sp, _⟩ := r2
    exact ⟨fvs, sp⟩
end
/-! ### what the head tells of such looks -/
def excCB (K : PySem.W.Frag) (D : Addr) : Bool := decide (PySem.W.findIn K (.ref D) "__getattribute__" = some (some (.builtin "BaseException.__getattribute__"))) && (decide (PySem.W.findIn K (.ref D) "__getattr__" = some none) && (decide (PySem.W.subIn K (.ref D) (.type "BaseException") = some true) &&
  (PySem.W.hasDictIn K D && (decide (PySem.W.findIn K (.ref D) "__class__" = some (some (.builtin "object.__class__"))) && (decide (PySem.W.specialIn K (.builtin "object.__class__") "__get__" = some (some (.builtin "getset_descriptor.__get__"))) &&
  (decide (PySem.W.takesIn K (.builtin "object.__class__") = some true) && decide (PySem.W.mroIn K D (.type "object") = some true)))))))
theorem excC_of {K : PySem.W.Frag} {D : Addr} (h : excCB K D = true) : L2.ExcC K D := by
  unfold excCB at h
  simp only [Bool.and_eq_true, decide_eq_true_eq] at h
  obtain ⟨h1, h2, h3, h4, h5, h6, h7, h8⟩ := h
  exact ⟨h1, h2, h3, h4, h5, h6, h7, h8⟩
def xisB (K : PySem.W.Frag) (excs : List Str) (y : Str) : Bool := excs.all fun x => excCB K (He.ga K x) && decide (PySem.W.kitOne K (.ref (He.ga K x)) (.ref (He.ga K y)) = some (decide (x = y) || decide (y = "CallError")))
theorem xis_of {K : PySem.W.Frag} {excs : List Str} {y : Str} (h : xisB K excs y = true) : XisC K (subOf excs) y := by
  have at_ : ∀ x b, subOf excs x y = some b → _ ∧ _ := fun x b e => by
    unfold subOf at e
    split at e
    · rename_i m
      cases e
      exact He.ba (List.all_eq_true.mp h x m.1)
    · cases e
  refine ⟨fun x b e => excC_of (at_ x b e).1, fun x b e => ?_⟩
  have q := of_decide_eq_true (at_ x b e).2
  unfold subOf at e
  split at e
  · cases e; exact q
  · cases e
theorem sub_any {excs : List Str} {x y z : Str} (h : subOf excs x y = some true) (hz : z ∈ excs) : ∃ b, subOf excs x z = some b := by
  have hx := sub_in h
  unfold subOf
  rw [if_pos ⟨hx, hz⟩]
  exact ⟨_, rfl⟩
end DL
end
section
set_option Elab.async false
set_option linter.all false
set_option maxRecDepth 100000
set_option maxHeartbeats 4000000
open PySem PySem.Spec L2
namespace DL
/-! ### several except clauses, some with names -/
/-- one clause: its class, the slot of its name if it has one, its suite -/
structure Cl where
  c : Value
  i : Option Nat
  ts : Addr → Value → Option Addr → TS
def wipeE (i : Nat) (D : Ends) : Ends := { nx := fun σ' H' => D.nx (σ'.set i none) H', rt := D.rt, bk := fun σ' H' => D.bk (σ'.set i none) H', ct := fun σ' H' => D.ct (σ'.set i none) H' }
def Cl.go (k : Cl) (D : Ends) (cls : Value) (d : Option Addr) (σ : St) (H : Hp) : Prop := ∀ a, H a = none → match k.i with
  | none => k.ts a cls d D σ H
  | some i => k.ts a cls d (wipeE i D) (σ.set i (some (.ref a))) H
def wCls (K : PySem.W.Frag) (Wout : WX) (D : Ends) : List Cl → WX
  | [] => Wout
  | k :: r => fun cls d σ H => ∃ b, PySem.W.exmOne K cls k.c = some b ∧ (b = true → k.go D cls d σ H) ∧ (b = false → wCls K Wout D r cls d σ H)
inductive ClsOk (X : Cx) : List ExceptHandler → List Cl → Prop
  | nil : ClsOk X [] []
  | plain {x : Str} {c : Value} {ts : Addr → Value → Option Addr → TS} {b₀ : Stmt} {suite : List Stmt} {np pos' : Pos} {hds : List ExceptHandler} {l : List Cl} (hc : Names X x c)
      (hsu : ∀ (a : Addr) (oe : Obj) (cls : Value) (d : Option Addr) (pn : List (Addr × Obj)), Zc cls d oe → (∃ vs, oe.data = .fields vs) → PSs (X.suite a ((a, oe) :: pn)) (b₀ :: suite) (ts a cls d)) (r : ClsOk X hds l) :
      ClsOk X (.ExceptHandler (some (.Name x np)) none (b₀ :: suite) pos' :: hds) (⟨c, none, ts⟩ :: l)
  | named {x n : Str} {c : Value} {i : Nat} {ts : Addr → Value → Option Addr → TS} {b₀ : Stmt} {suite : List Stmt} {np pos' : Pos} {hds : List ExceptHandler} {l : List Cl} (hc : Names X x c) (hN : X.N.Nodup) (hi : X.N[i]? = some n) (hln : X.env.kindOf n = some .local)
      (hsu : ∀ (a : Addr) (oe : Obj) (cls : Value) (d : Option Addr) (pn : List (Addr × Obj)), Zc cls d oe → (∃ vs, oe.data = .fields vs) → PSs (X.suite a ((a, oe) :: pn)) (b₀ :: suite) (ts a cls d)) (r : ClsOk X hds l) :
      ClsOk X (.ExceptHandler (some (.Name x np)) (some n) (b₀ :: suite) pos' :: hds) (⟨c, some i, ts⟩ :: l)
section
variable {X : Cx} {body : List Stmt} {h₀ : ExceptHandler} {hds : List ExceptHandler} {l : List Cl} {pos : Pos} {tb : WX → TS} {Wout : WX}
theorem ps_tries (hs : X.stack = X.env :: X.outer) (hf : X.env.frame = some X.env.locals) (tk : Takes X Wout)
    (hb : ∀ (W : WX) (pn : List (Addr × Obj)) (xe : Value → Shared → Prop), Takes (X.tr pn xe) W → PassesOwn (model X.prog X.w) X.A X.env xe → PSs (X.tr pn xe) body (tb W)) (hh : ClsOk X (h₀ :: hds) l) :
    PS X (.Try body (h₀ :: hds) [] [] pos) (fun D σ H => tb (wCls X.K Wout D l) D σ H) := by
  refine ⟨fun pins s σ H D I h => ?_⟩
  have ok := I.ok
  have fr : X.A.frames = some (X.env :: X.outer) := by rw [ok.frames, hs]
  refine wpAny_Try_except ?_
  refine wpAny_mono ((hb (wCls X.K Wout D l) (X.pn ++ pins) (fun e s1 => wpAny (model X.prog X.w) X.A (noteFrame e X.env) (fun _ s2 => wpAny (model X.prog X.w) X.A (setFlight e none) (fun _ s3 => wpAny (model X.prog X.w) X.A (handleBy e X.env (h₀ :: hds)) (SP X pins D) X.xe s3) X.xe s2) X.xe s1)
    (fun u s' xx => ?_) PassesOwn.looking).run [] s σ H D (I.toTry _) h) (fun f s1 hsp => ?_) (fun e s1 he => he)
  · obtain ⟨a, B, sI, pins', σ', H', cls, d, rfl, J', nb, up, sky, na, os, ag, w⟩ := xx
    have J : Inv X pins σ' H' sI := J'.ofTry ok
    (have sky2 : Sky B (X.env :: X.outer) a (Zc cls d) X.env.locals s'.heap := by rw [← hs]; exact sky); (show wpAny (model X.prog X.w) X.A (noteFrame (.ref a) X.env) _ _ _)
    refine Sky.land Zc.steady fr hf sky2 fun h3 fl3 up3 => ?_
    have J3 : Inv X pins σ' H' { s' with heap := h3 } := J.landed nb fl3.1 (up.trans up3) os ag
    obtain ⟨o3, v3, g3, z3, d3⟩ := fl3.there
    have apart : ∀ {hp : Heap} {o : Obj} {vs : Array Value}, hp.FunFrames B (X.env :: X.outer) → hp.get? a = some o → o.data = .fields vs → a ∉ frs (X.env :: X.outer) := by
      intro hp o vs ff e dd hm
      obtain ⟨_, o', e', hn⟩ := ff.mem hm
      rw [e] at e'
      cases e'
      exact hn _ dd
    have nfr := apart fl3.2.2.1 g3 d3
    have nL : a ≠ X.env.locals := fun z => nfr (List.mem_filterMap.mpr ⟨X.env, List.mem_cons_self, by rw [hf, z]⟩)
    have nF : a ∉ X.fs := fun hm => let ⟨e, he, q⟩ := List.mem_filterMap.mp hm; nfr (List.mem_filterMap.mpr ⟨e, List.mem_cons_of_mem _ he, q⟩)
    have S3 := J3.suite g3 d3 na nL nF
    have tst : ∀ {x : Str} {c : Value} {np : Pos}, Names X x c → ∀ {Q : Value → Shared → Prop} {E : Value → Shared → Prop}, Q c { s' with heap := h3 } → wpAny (model X.prog X.w) (X.A.mark (some (.ref a))) (eval (.Name x np) X.env) Q E { s' with heap := h3 } := by
      intro x c np hc Q E q
      obtain ⟨hg, hdbg, hm | ⟨hm, hv, hnn⟩⟩ := hc
      · exact ld_glob (X := X.suite a ((a, o3) :: (X.pn ++ pins))) S3 hg hm q hdbg
      · exact ld_blt (X := X.suite a ((a, o3) :: (X.pn ++ pins))) S3 hg hm hv q hnn hdbg
    have lt : PySem.W.Looks (model X.prog X.w) h3 (typeOf (.ref a)) cls := fun A Q E s k q => wpAny_typeOf_ref (k _ _ g3) (by rw [z3.1]; exact q)
    have go : ∀ {hds' : List ExceptHandler} {l' : List Cl}, ClsOk X hds' l' → wCls X.K Wout D l' cls d σ' H' → wpAny (model X.prog X.w) X.A (handleBy (.ref a) X.env hds') (SP X pins D) X.xe { s' with heap := h3 } := by
      intro hds' l' hk
      induction hk with
      | nil =>
        intro w
        refine wpAny_handleBy_nil ?_
        obtain ⟨k1, k2, k3, oe, vs, T, oT, ts', he, hz, hd, h1, hr⟩ := id fl3
        (unfold PySem.passOn); (refine wpAny_bind (wpAny_field he hd h1 ?_)); (rw [if_neg (show ¬ ((Value.ref T == Value.none) = true) from by simp)])
        have out : wpAny (model X.prog X.w) X.A (setFlight (.ref a) X.env.frame) (fun _ s4 => wpAny (model X.prog X.w) X.A (throw (.ref a) : Sem Flow) (SP X pins D) X.xe s4) X.xe { s' with heap := h3 } := by
          (rw [hf]); (refine HandSPX.setFlight_upZ fl3 fun h4 hh4 up4 => wpAny_throw (tk _ _ ⟨a, B, sI, pins, σ', H', cls, d, rfl, J, nb, (up.trans up3).trans up4, .inr (.inr (by rw [hs]; exact hh4)), na, os, ag, w⟩))
        first | exact wpAny_bind (wpAny_pure (wpAny_bind out)) | exact wpAny_bind out
      | @plain x c ts b₀ suite np pos' hds2 l2 hc hsu r ih =>
        intro ⟨b, hb1, hyes, hno⟩
        have lm := PySem.W.exm_one (M := model X.prog X.w) J3.kIn lt hb1
        (refine wpAny_handleBy_cons (codeAny_handlers_test ?_) (by intro q; cases q)); (refine tst hc (lm.here ?_))
        cases b with
        | true =>
          (refine codeAny_handlers_suite ?_); (refine HandSPX.lands_againZ fl3 fun h4 fl4 up4 => ?_)
          have J4 : Inv X pins σ' H' { s' with heap := h4 } := J.landed nb fl4.1 ((up.trans up3).trans up4) os ag
          obtain ⟨o4, v4, g4, z4, d4⟩ := fl4.there
          have S4 := J4.suite g4 d4 na nL nF
          refine wpAny_mono ((hsu a o4 cls d (X.pn ++ pins) z4 ⟨_, d4⟩).run [] _ _ H' _ S4 (hyes rfl a na)) (fun f s6 hsp => ?_) (fun _ _ z => False.elim z)
          cases f <;> first
            | (obtain ⟨v6, σ6, H6, S6, r6, q6⟩ := hsp; exact ⟨_, _, _, S6.unsuite ok, r6, q6⟩)
            | (obtain ⟨σ6, H6, S6, q6⟩ := hsp; exact ⟨_, _, S6.unsuite ok, q6⟩)
        | false => exact ih (hno rfl)
      | @named x n c i ts b₀ suite np pos' hds2 l2 hc hN hi hln hsu r ih =>
        intro ⟨b, hb1, hyes, hno⟩
        have lm := PySem.W.exm_one (M := model X.prog X.w) J3.kIn lt hb1
        (refine wpAny_handleBy_cons (codeAny_handlers_test ?_) (by intro q; cases q)); (refine tst hc (lm.here ?_))
        cases b with
        | true =>
          (refine codeAny_handlers_suite_as ?_); (refine HandSPX.lands_againZ fl3 fun h4 fl4 up4 => ?_)
          have J4 : Inv X pins σ' H' { s' with heap := h4 } := J.landed nb fl4.1 ((up.trans up3).trans up4) os ag
          obtain ⟨o4, v4, g4, z4, d4⟩ := fl4.there
          have S4 := J4.suite g4 d4 na nL nF
          refine store_ok (X := X.suite a ((a, o4) :: (X.pn ++ pins))) (v := .ref a) S4 hN hi (.inl hln) rfl (fun s5 S5 => ?_) (.inr hln)
          refine wpAny_mono ((hsu a o4 cls d (X.pn ++ pins) z4 ⟨_, d4⟩).run [] s5 _ H' _ S5 (hyes rfl a na)) (fun f s6 hsp => ?_) (fun _ _ z => False.elim z)
          have gone : ∀ {σ6 : St} {H6 : Hp} {Q : Shared → Prop}, Inv (X.suite a ((a, o4) :: (X.pn ++ pins))) [] σ6 H6 s6 → (∀ s7, Inv X pins (σ6.set i none) H6 s7 → Q s7) → wpAny (model X.prog X.w) X.A (do bindName X.env n .none; unbindBehindTheSuite X.env n pos') (fun _ s7 => Q s7) X.xe s6 :=
            fun {σ6 H6 Q} S6 hq => gone_ok (S6.unsuite ok) hN hi hln hq
          cases f <;> first
            | (obtain ⟨v6, σ6, H6, S6, r6, q6⟩ := hsp; exact gone S6 fun s7 J7 => ⟨_, _, _, J7, r6, q6⟩)
            | (obtain ⟨σ6, H6, S6, q6⟩ := hsp; exact gone S6 fun s7 J7 => ⟨_, _, J7, q6⟩)
        | false => exact ih (hno rfl)
    exact go hh w
  · cases f with
    | next => obtain ⟨σ', H', J', q⟩ := hsp; exact wpAny_execs_nil ⟨σ', H', J'.ofTry ok, q⟩
    | ret u => obtain ⟨v, σ', H', J', r, q⟩ := hsp; exact ⟨v, σ', H', J'.ofTry ok, r, q⟩
    | _ => obtain ⟨σ', H', J', q⟩ := hsp; exact ⟨σ', H', J'.ofTry ok, q⟩
end
/-! ### by values -/
/-- a clause: its class, its name's slot, its suite -/
structure DCl where
  y : Str
  i : Option Nat
  ws : Addr → Ex → DS
def clsD (sub : Str → Str → Option Bool) (E : EW) (Dd : DEnds) : List DCl → EW
  | [] => E
  | k :: r => fun ρ ex h => onO (sub ex.cls k.y) fun b => if b = true then (∀ a, h a = none → match k.i with
      | none => k.ws a ex Dd ρ h
      | some i => k.ws a ex (endsI i Dd) (ρ.set i (some (.ref a))) h) else clsD sub E Dd r ρ ex h
def dTries (sub : Str → Str → Option Bool) (ks : List DCl) (wb : EW → DS) (E : EW) : DS := fun Dd ρ h => wb (clsD sub E Dd ks) Dd ρ h
section
variable {C : Ctx} {A : Anc} {X : Cx} {E : EW} {sub : Str → Str → Option Bool} {wb : EW → DS} {body : List Stmt} {h₀ : ExceptHandler} {hds : List ExceptHandler} {ks : List DCl} {pos : Pos}
def toCl (C : Ctx) (A : Anc) (sub : Str → Str → Option Bool) (k : DCl) : Cl := ⟨.ref (He.ga C.K k.y), k.i, fun a cls d => upSu C A (fun ex => sub ex.cls k.y = some true) (k.ws a) cls d⟩
inductive DCls (C : Ctx) (A : Anc) (X : Cx) (sub : Str → Str → Option Bool) : List ExceptHandler → List DCl → Prop
  | nil : DCls C A X sub [] []
  | plain {y : Str} {ws : Addr → Ex → DS} {b₀ : Stmt} {suite : List Stmt} {np pos' : Pos} {hds : List ExceptHandler} {l : List DCl} (hc : Names X y (.ref (He.ga C.K y))) (hsub : XIn C.K sub y)
      (hsu : ∀ (B : Anc) (ex : Ex) (a : Addr) (oe : Obj) (cls : Value) (d : Option Addr) (pn : List (Addr × Obj)), Zc cls d oe → (∃ vs, oe.data = .fields vs) → RepX C B.Z B.H cls d ex → sub ex.cls y = some true → PSsd C B (X.suite a ((a, oe) :: pn)) (b₀ :: suite) (ws a ex)) (r : DCls C A X sub hds l) :
      DCls C A X sub (.ExceptHandler (some (.Name y np)) none (b₀ :: suite) pos' :: hds) (⟨y, none, ws⟩ :: l)
  | named {y n : Str} {i : Nat} {ws : Addr → Ex → DS} {b₀ : Stmt} {suite : List Stmt} {np pos' : Pos} {hds : List ExceptHandler} {l : List DCl} (hc : Names X y (.ref (He.ga C.K y))) (hsub : XIn C.K sub y) (hN : X.N.Nodup) (hi : X.N[i]? = some n) (hln : X.env.kindOf n = some .local)
      (hsu : ∀ (B : Anc) (ex : Ex) (a : Addr) (oe : Obj) (cls : Value) (d : Option Addr) (pn : List (Addr × Obj)), Zc cls d oe → (∃ vs, oe.data = .fields vs) → RepX C B.Z B.H cls d ex → sub ex.cls y = some true → PSsd C B (X.suite a ((a, oe) :: pn)) (b₀ :: suite) (ws a ex)) (r : DCls C A X sub hds l) :
      DCls C A X sub (.ExceptHandler (some (.Name y np)) (some n) (b₀ :: suite) pos' :: hds) (⟨y, some i, ws⟩ :: l)
theorem DCls.ok {hds : List ExceptHandler} {ks : List DCl} (h : DCls C A X sub hds ks) : ClsOk X hds (ks.map (toCl C A sub)) := by
  induction h with
  | nil => exact .nil
  | plain hc hsub hsu r ih => exact .plain hc (fun a oe cls d pn z fl => pss_suite fun B ex rx px => hsu B ex a oe cls d pn z fl rx px) ih
  | named hc hsub hN hi hln hsu r ih => exact .named hc hN hi hln (fun a oe cls d pn z fl => pss_suite fun B ex rx px => hsu B ex a oe cls d pn z fl rx px) ih
theorem DCls.xin {hds : List ExceptHandler} {ks : List DCl} (h : DCls C A X sub hds ks) : ∀ k ∈ ks, XIn C.K sub k.y := by
  induction h with
  | nil => intro k hk; cases hk
  | plain hc hsub hsu r ih => intro k hk; rcases List.mem_cons.mp hk with rfl | hk; exact hsub; exact ih k hk
  | named hc hsub hN hi hln hsu r ih => intro k hk; rcases List.mem_cons.mp hk with rfl | hk; exact hsub; exact ih k hk
theorem ds_tries (hK : X.K = C.K) (hs : X.stack = X.env :: X.outer) (hf : X.env.frame = some X.env.locals) (tk : Takes X (upX C A E))
    (hb : ∀ (B : Anc) (EE : EW) (pn : List (Addr × Obj)) (xe : Value → Shared → Prop), Fr A.Z A.H B.Z B.H → Takes (X.tr pn xe) (upX C B EE) → PassesOwn (model X.prog X.w) X.A X.env xe → PSsd C B (X.tr pn xe) body (wb EE))
    (hh : DCls C A X sub (h₀ :: hds) ks) : PSd C A X (.Try body (h₀ :: hds) [] [] pos) (dTries sub ks wb E) := by
  refine PS.imp (ps_tries (Wout := upX C A E) (tb := fun W D σ H => ∃ (B : Anc) (EE : EW), Fr A.Z A.H B.Z B.H ∧ (∀ cls p σ' H', upX C B EE cls p σ' H' → W cls p σ' H') ∧ UpS C B (wb EE) D σ H) hs hf tk
    (fun W pn xe tk' po => ⟨fun pins s σ H D I ⟨B, EE, fB, hW, h⟩ => (hb B EE pn xe fB (tk'.imp hW) po).run pins s σ H D I h⟩) hh.ok) fun D σ H ⟨Z, ρ, h, Dd, R, q, k1, k2, k3, k4⟩ => ?_
  refine ⟨⟨Z, H⟩, _, R.anc, fun cls p σ' H' ⟨Z', ρ', h', ex, R', rx, qx⟩ => ?_, Z, ρ, h, Dd, R.re, q, fun ρ' h' Z' H' σ' q f R' => k1 ρ' h' Z' H' σ' q f (R'.un R.anc), fun ρ' h' Z' H' σ' q f R' => k2 ρ' h' Z' H' σ' q f (R'.un R.anc), fun ρ' h' Z' H' σ' q f R' => k3 ρ' h' Z' H' σ' q f (R'.un R.anc), k4⟩
  have xi := hh.xin
  revert qx
  generalize ks = l at xi
  induction l with
  | nil => exact fun qx => ⟨Z', ρ', h', ex, R'.un R.anc, rx, qx⟩
  | cons k l ih =>
    intro qx
    obtain ⟨b, eb, qx⟩ := onO_some qx
    have ec : PySem.W.exmOne X.K cls (.ref (He.ga C.K k.y)) = some b := by rw [hK, rx.1]; exact xi k (List.mem_cons_self ..) _ _ eb
    refine ⟨b, ec, fun hb => ?_, fun hb => ?_⟩
    · subst hb
      rw [if_pos rfl] at qx
      intro a na
      have qa := qx a (R'.toRelH.none na)
      obtain ⟨y, oi, ws⟩ := k
      cases oi with
      | none =>
        refine ⟨Z', ρ', h', ex, Dd, R'.un R.anc, rx, eb, qa, ?_, ?_, ?_, fun d h'' v Z'' H'' qd f'' R'' r'' => k4 d h'' v Z'' H'' qd (R'.anc.trans f'') R'' r''⟩
        · exact fun ρ'' h'' Z'' H'' σ'' qn f'' R'' => k1 _ h'' Z'' H'' _ qn (R'.anc.trans f'') R''
        · exact fun ρ'' h'' Z'' H'' σ'' qn f'' R'' => k2 _ h'' Z'' H'' _ qn (R'.anc.trans f'') R''
        · exact fun ρ'' h'' Z'' H'' σ'' qn f'' R'' => k3 _ h'' Z'' H'' _ qn (R'.anc.trans f'') R''
      | some i =>
        refine ⟨Z', ρ'.set i (some (.ref a)), h', ex, endsI i Dd, (R'.un R.anc).set (v := .ref a) i rfl, rx, eb, qa, ?_, ?_, ?_, fun d h'' v Z'' H'' qd f'' R'' r'' => k4 d h'' v Z'' H'' qd (R'.anc.trans f'') R'' r''⟩
        · exact fun ρ'' h'' Z'' H'' σ'' qn f'' R'' => k1 _ h'' Z'' H'' _ qn (R'.anc.trans f'') (R''.clear i)
        · exact fun ρ'' h'' Z'' H'' σ'' qn f'' R'' => k2 _ h'' Z'' H'' _ qn (R'.anc.trans f'') (R''.clear i)
        · exact fun ρ'' h'' Z'' H'' σ'' qn f'' R'' => k3 _ h'' Z'' H'' _ qn (R'.anc.trans f'') (R''.clear i)
    · subst hb
      exact ih (fun k hk => xi k (List.mem_cons_of_mem _ hk)) qx
end
end DL
end
section
set_option Elab.async false
set_option linter.all false
set_option maxRecDepth 100000
set_option maxHeartbeats 4000000
open PySem PySem.Spec L2
namespace DL
/-! ### steps through transformers, head by head -/
abbrev xE (E : DX) : EW := fun _ => finX E
def par3K (nx : Env → Hd → Prop) (i j l : Nat) (ρ : Env) (ds : List D) (h1 : Hd) : Prop := match ds with
  | [u, v, w] => nx (((ρ.set i (some u)).set j (some v)).set l (some w)) h1
  | _ => False
def anyK (x : D) (ρ : Env) (h : Hd) (R : List D → (Hd → Prop) → Hd → Prop) : Prop := match kvsOf h x with
  | some (kvs, h2) => R (kvs.map (·.1)) (fun _ => True) h2
  | none => iSeq (dC x) ρ h R
section
variable {ρ : Env} {h : Hd} {Q : DK} {QT : Bool → Hd → Prop} {QA : List D → Hd → Prop} {E : EW} {nx : Env → Hd → Prop} {rt : DK} {bk ct : Env → Hd → Prop} {a b c o i : DE} {r : DA} {s t u : DT} {x y : DS} {d : D}
theorem c_var {j : Nat} (e : ρ[j]? = some (some d)) (q : Q d h) : dVar j ρ h Q := ⟨d, e, q⟩
theorem c_c (q : Q d h) : dC d ρ h Q := q
theorem c_int {i : Int} (q : Q (.int i) h) : dInt i ρ h Q := q
theorem c_bl {i : Bool} (q : Q (.bl i) h) : dBl i ρ h Q := q
theorem c_non (q : Q .non h) : dNon ρ h Q := q
theorem c_str {z : Str} (q : Q (.str z) h) : dStr z ρ h Q := q
theorem c_d2 {w : W2} (q : a ρ h fun x h1 => b ρ h1 fun y h2 => w x y h2 Q) : d2 w a b ρ h Q := q
theorem c_d1 {w : W1} (q : a ρ h fun x h1 => w x h1 Q) : d1 w a ρ h Q := q
theorem c_dL {w : WL} (q : r ρ h fun xs h1 => w xs h1 Q) : dL w r ρ h Q := q
theorem c_nil (q : QA [] h) : dNil ρ h QA := q
theorem c_cons (q : a ρ h fun x h1 => r ρ h1 fun xs h2 => QA (x :: xs) h2) : dCons a r ρ h QA := q
theorem c_tup (q : r ρ h fun xs h1 => SZ xs.length ∧ Q (.tup xs) h1) : dTup r ρ h Q := q
theorem c_lst (q : r ρ h fun xs h1 => SZ xs.length ∧ ∀ p, h1 p = none → Q (.ref p) (hup h1 p (.ol xs))) : dLst r ρ h Q := q
theorem c_dM {T : String} {w : WM} (q : o ρ h fun x h1 => kindD h1 x = T ∧ r ρ h1 fun xs h2 => w x xs h2 Q) : dM T w o r ρ h Q := q
theorem c_call {n : Nat} {W : DF} (q : r ρ h fun ds h1 => ds.length = n ∧ W ds h1 Q (E ρ)) : dCall n W E r ρ h Q := q
theorem c_met {k m : Str} {n : Nat} {W : DF} (q : o ρ h fun x h1 => isIns h1 k m x ∧ r ρ h1 fun ds h2 => ds.length + 1 = n ∧ W (x :: ds) h2 Q (E ρ)) : dMet k m n W E o r ρ h Q := q
theorem c_new {k : Str} {n : Nat} {W : DF} (q : r ρ h fun ds h1 => ds.length + 1 = n ∧ ∀ p, h1 p = none → W (.ref p :: ds) (hup h1 p (.oi k [])) (fun d h2 => d = .non ∧ fin Q (.ref p) h2) (E ρ)) : dNew k n W E r ρ h Q := q
theorem c_and (q : a ρ h fun x h1 => onT h1 x fun c => if c = true then b ρ h1 Q else Q x h1) : dAnd a b ρ h Q := q
theorem c_or (q : a ρ h fun x h1 => onT h1 x fun c => if c = true then Q x h1 else b ρ h1 Q) : dOr a b ρ h Q := q
theorem c_not (q : a ρ h fun x h1 => onT h1 x fun c => Q (.bl (!c)) h1) : dNot a ρ h Q := q
theorem c_ite (q : t ρ h fun c h1 => if c = true then a ρ h1 Q else b ρ h1 Q) : dIte t a b ρ h Q := q
theorem c_fld {f : Str} (q : a ρ h fun x h1 => onO (insOf h1 x) fun p => onO (p.2.lookup f) fun d => Q d h1) : dFld f a ρ h Q := q
theorem c_sl {l v : DO} (q : a ρ h fun x h1 => l ρ h1 fun l h2 => v ρ h2 fun u h3 => wSl x l u h3 Q) : dSl a l v ρ h Q := q
theorem c_noP {QO : Option Int → Hd → Prop} (q : QO none h) : dNoP ρ h QO := q
theorem c_part {QO : Option Int → Hd → Prop} (q : a ρ h fun x h1 => onI x fun i => QO (some i) h1) : dPart a ρ h QO := q
theorem c_chain {w w' : W2} (q : a ρ h fun x h1 => b ρ h1 fun y h2 => w x y h2 fun z h3 => ∃ k, z = .bl k ∧ if k = true then c ρ h3 fun u h4 => w' y u h4 Q else Q (.bl false) h3) : dChain w w' a b c ρ h Q := q
theorem c_xf {p : Addr} {ex : Ex} {f : Str} (q : a ρ h fun d h1 => d = .ref p ∧ onO (ex.fs.lookup f) fun v => Q v h1) : dXf p ex f a ρ h Q := q
theorem c_hof {n : Nat} {Wg : Addr → DF → DF} {js : List Nat} {wl : EW → DE} (q : r ρ h fun ds h1 => ds.length + 1 = n ∧ ∀ f, h1 f = none → Wg f (dLamW js wl ρ) (ds ++ [.ref f]) h1 Q (E ρ)) : dHof n Wg js wl E r ρ h Q := q
theorem c_clo {i n : Nat} {f : Addr} {W : DF} (e : ρ[i]? = some (some (.ref f))) (q : r ρ h fun ds h1 => ds.length = n ∧ W ds h1 Q (E ρ)) : dClo i f n W E r ρ h Q := ⟨e, q⟩
theorem c_copyItems (q : a ρ h fun x h1 => onO (dicOf h1 x) fun kvs => ∀ p, h1 p = none → Q (.ref p) (hup h1 p (.od kvs))) : dCopyItems a ρ h Q := q
theorem c_dict0 (q : ∀ p, h p = none → Q (.ref p) (hup h p (.od []))) : dDict0 ρ h Q := q
/-! tests -/
theorem c_test (q : a ρ h fun x h1 => ∃ k, x = .bl k ∧ QT k h1) : dTest a ρ h QT := q
theorem c_andT (q : s ρ h fun c h1 => if c = true then t ρ h1 QT else QT false h1) : dAndT s t ρ h QT := q
theorem c_orT (q : s ρ h fun c h1 => if c = true then QT true h1 else t ρ h1 QT) : dOrT s t ρ h QT := q
theorem c_notT (q : t ρ h fun c h1 => QT (!c) h1) : dNotT t ρ h QT := q
theorem c_yes (q : QT true h) : dYes ρ h QT := q
theorem c_exb {k : Bool} {P : Bool → Prop} (q : P k) : ∃ k', D.bl k = .bl k' ∧ P k' := ⟨k, rfl, q⟩
theorem c_tt {P R : Prop} (q : P) : if true = true then P else R := by rw [if_pos rfl]; exact q
theorem c_ff {P R : Prop} (q : R) : if false = true then P else R := by rw [if_neg Bool.false_ne_true]; exact q
theorem c_nt {P R : Prop} (q : R) : if (!true) = true then P else R := by rw [if_neg (by decide)]; exact q
theorem c_nf {P R : Prop} (q : P) : if (!false) = true then P else R := by rw [if_pos (show (!false) = true from rfl)]; exact q
theorem c_t {k : Bool} {P R : Prop} (e : k = true) (q : P) : if k = true then P else R := by rw [if_pos e]; exact q
theorem c_f {k : Bool} {P R : Prop} (e : k = false) (q : R) : if k = true then P else R := by rw [e, if_neg Bool.false_ne_true]; exact q
theorem c_if2 {k : Bool} {P R : Prop} (p : k = true → P) (q : k = false → R) : if k = true then P else R := by
  cases k
  · exact c_ff (q rfl)
  · exact c_tt (p rfl)
theorem c_ifd {k : Prop} [Decidable k] {P R : Prop} (p : k → P) (q : ¬ k → R) : if decide k = true then P else R := by
  by_cases e : k
  · exact c_t (decide_eq_true e) (p e)
  · exact c_f (decide_eq_false e) (q e)
/-! statements -/
theorem c_seq (q : x ⟨fun ρ h => y ⟨nx, rt, bk, ct⟩ ρ h, rt, bk, ct⟩ ρ h) : dSeq x y ⟨nx, rt, bk, ct⟩ ρ h := q
theorem c_next (q : nx ρ h) : dNext ⟨nx, rt, bk, ct⟩ ρ h := q
theorem c_brk (q : bk ρ h) : dBrk ⟨nx, rt, bk, ct⟩ ρ h := q
theorem c_cnt (q : ct ρ h) : dCnt ⟨nx, rt, bk, ct⟩ ρ h := q
theorem c_expr (q : a ρ h fun _ h1 => nx ρ h1) : dExpr a ⟨nx, rt, bk, ct⟩ ρ h := q
theorem c_ret (q : a ρ h rt) : dRet a ⟨nx, rt, bk, ct⟩ ρ h := q
theorem c_retN (q : rt .non h) : dRetN ⟨nx, rt, bk, ct⟩ ρ h := q
theorem c_if (q : t ρ h fun k h1 => if k = true then x ⟨nx, rt, bk, ct⟩ ρ h1 else y ⟨nx, rt, bk, ct⟩ ρ h1) : dIf t x y ⟨nx, rt, bk, ct⟩ ρ h := q
theorem c_set {i : Nat} (q : a ρ h fun d h1 => nx (ρ.set i (some d)) h1) : dSet i a ⟨nx, rt, bk, ct⟩ ρ h := q
theorem c_par {i j : Nat} (q : a ρ h fun d h1 => b ρ h1 fun e h2 => nx ((ρ.set i (some d)).set j (some e)) h2) : dPar i j a b ⟨nx, rt, bk, ct⟩ ρ h := q
theorem c_par3 {i j l : Nat} (q : r ρ h fun ds h1 => par3K nx i j l ρ ds h1) : dPar3 i j l r ⟨nx, rt, bk, ct⟩ ρ h := q
theorem v_par3 {i j l : Nat} {u v w : D} (q : nx (((ρ.set i (some u)).set j (some v)).set l (some w)) h) : par3K nx i j l ρ [u, v, w] h := q
theorem c_asg {g : DG} (q : a ρ h fun d h1 => g d ρ h1 nx) : dAsg a g ⟨nx, rt, bk, ct⟩ ρ h := q
theorem c_raise {k f : Str} (q : a ρ h fun d h1 => E ρ ⟨k, [(f, d)]⟩ h1) : dRaise k f E a ⟨nx, rt, bk, ct⟩ ρ h := q
theorem c_for {w : DI} {g : DG} (q : w ρ h fun ds chk h1 => dForL g x chk ds ⟨nx, rt, bk, ct⟩ ρ h1) : dFor w g x ⟨nx, rt, bk, ct⟩ ρ h := q
theorem c_sfld {f : Str} {v : DE} (q : v ρ h fun y h1 => o ρ h1 fun x h2 => ∃ p k fs, x = .ref p ∧ h2 p = some (.oi k fs) ∧ fs.length < 900 ∧ nx ρ (hup h2 p (.oi k (putD f y fs)))) : sFldD f o v ⟨nx, rt, bk, ct⟩ ρ h := by
  unfold sFldD
  have e : (fun (y : D) (h1 : Hd) => o ρ h1 fun x h2 => ∃ p k fs, x = .ref p ∧ h2 p = some (.oi k fs) ∧ fs.length < 900 ∧ nx ρ (hup h2 p (.oi k (putD f y fs)))) = fun y h1 => o ρ h1 fun x h2 => match x with
      | .ref a => (match h2 a with
        | some (.oi c fs) => fs.length < 900 ∧ nx ρ (hup h2 a (.oi c (putD f y fs)))
        | _ => False)
      | _ => False := by
    funext y h1
    congr 1
    funext x h2
    apply propext
    constructor
    · rintro ⟨p, k, fs, rfl, e, l, q⟩
      simp only [e]
      exact ⟨l, q⟩
    · intro q
      cases x with
      | ref p =>
        dsimp only at q
        split at q
        · rename_i k fs e
          exact ⟨p, k, fs, rfl, e, q⟩
        · exact q.elim
      | _ => exact q.elim
  rw [e] at q
  exact q
theorem c_ex_fld {p : Addr} {k : Str} {fs : List (Str × D)} {G : Addr → Str → List (Str × D) → Prop} (e : h p = some (.oi k fs)) (hl : Nat.ble (fs.length + 1) 900 = true) (q : G p k fs) :
    ∃ p' k' fs', D.ref p = .ref p' ∧ h p' = some (.oi k' fs') ∧ fs'.length < 900 ∧ G p' k' fs' := ⟨p, k, fs, rfl, e, Nat.le_of_ble_eq_true hl, q⟩
theorem c_tryAs {sub : Str → Str → Option Bool} {z : Str} {i : Nat} {wb : EW → DS} {ws : Addr → Ex → DS}
    (q : wb (fun ρ' ex h' => onO (sub ex.cls z) fun b => if b = true then ∀ p, h' p = none → ws p ex ⟨fun ρ h => nx (ρ.set i none) h, rt, fun ρ h => bk (ρ.set i none) h, fun ρ h => ct (ρ.set i none) h⟩ (ρ'.set i (some (.ref p))) h' else E ρ' ex h') ⟨nx, rt, bk, ct⟩ ρ h) : dTryAs sub z i wb ws E ⟨nx, rt, bk, ct⟩ ρ h := q
/-! targets -/
theorem c_gNm {i : Nat} {QG : Env → Hd → Prop} (q : QG (ρ.set i (some d)) h) : gNm i d ρ h QG := q
theorem c_gN {QG : Env → Hd → Prop} (q : QG ρ h) : gN [] ρ h QG := ⟨rfl, q⟩
theorem c_gC {g : DG} {gs : DGs} {ds : List D} {QG : Env → Hd → Prop} (q : g d ρ h fun ρ1 h1 => gs ds ρ1 h1 QG) : gC g gs (d :: ds) ρ h QG := q
theorem c_gT {n : Nat} {gs : DGs} {ds : List D} {QG : Env → Hd → Prop} (e : ds.length = n) (q : gs ds ρ h QG) : gT n gs (.tup ds) ρ h QG := ⟨e, q⟩
theorem c_gSb {QG : Env → Hd → Prop} (q : o ρ h fun x h1 => i ρ h1 fun y h2 => wPut x y d h2 fun h3 => QG ρ h3) : gSb o i d ρ h QG := q
/-! loops -/
theorem c_iAny {R : List D → (Hd → Prop) → Hd → Prop} (q : a ρ h fun x h1 => anyK x ρ h1 R) : iAny a ρ h R := q
theorem i_tup {xs : List D} {R : List D → (Hd → Prop) → Hd → Prop} (q : R xs (fun _ => True) h) : anyK (.tup xs) ρ h R := q
theorem i_fl {xs : List D} {R : List D → (Hd → Prop) → Hd → Prop} (q : R xs (fun _ => True) h) : anyK (.fl xs) ρ h R := q
theorem i_str {z : Str} {R : List D → (Hd → Prop) → Hd → Prop} (q : R (z.cps.toList.map fun c => .str ⟨#[c]⟩) (fun _ => True) h) : anyK (.str z) ρ h R := q
theorem i_fd {kvs : List (D × D)} {R : List D → (Hd → Prop) → Hd → Prop} (q : R (kvs.map (·.1)) (fun _ => True) h) : anyK (.fd kvs) ρ h R := q
theorem c_range1 {R : List D → (Hd → Prop) → Hd → Prop} (q : a ρ h fun x h1 => onI x fun j => (-(2 ^ 62) ≤ j ∧ j < 2 ^ 62) ∧ R ((List.range j.toNat).map fun (i : Nat) => .int (i : Int)) (fun _ => True) h1) : iRange1 a ρ h R := q
theorem c_comp {w : DI} {st : D → Env → (Env → Prop) → Prop} {vs : List Nat} (q : w ρ h fun ds chk h1 => ∀ p, h1 p = none → dLcL st t a chk p (fun h' => Q (.ref p) h') (wp ρ vs) ds (hup h1 p (.ol []))) : dComp w st t a vs ρ h Q := q
theorem c_enum {R : List D → (Hd → Prop) → Hd → Prop} (q : a ρ h fun x h1 => enumK x h1 R) : iEnumD a ρ h R := q
end
/-! ### values -/
section
variable {h : Hd} {Q : DK} {d e : D}
theorem v_lt {i j : Int} (q : Q (.bl (decide (i < j))) h) : wLt (.int i) (.int j) h Q := q
theorem v_ltS {i j : Str} (q : Q (.bl (strLt i j)) h) : wLt (.str i) (.str j) h Q := q
theorem v_gt {i j : Int} (q : Q (.bl (decide (j < i))) h) : wGt (.int i) (.int j) h Q := q
theorem v_le {i j : Int} (q : Q (.bl (decide (i ≤ j))) h) : wLe (.int i) (.int j) h Q := q
theorem v_ge {i j : Int} (q : Q (.bl (decide (j ≤ i))) h) : wGe (.int i) (.int j) h Q := q
theorem v_add {i j : Int} (q : Q (.int (i + j)) h) : wAdd (.int i) (.int j) h Q := q
theorem v_addT {xs ys : List D} (z : SZ (xs.length + ys.length)) (q : Q (.tup (xs ++ ys)) h) : wAdd (.tup xs) (.tup ys) h Q := ⟨z, q⟩
theorem v_sub {i j : Int} (q : Q (.int (i - j)) h) : wSub (.int i) (.int j) h Q := q
theorem v_mul {i j : Int} (m : MulOk i j) (q : Q (.int (i * j)) h) : wMul (.int i) (.int j) h Q := ⟨m, q⟩
theorem v_div {i j : Int} (m : CDivW i j) (q : Q (.int (i / j)) h) : wDiv (.int i) (.int j) h Q := ⟨m, q⟩
theorem v_mod {i j : Int} (m : 0 < j) (q : Q (.int (i % j)) h) : wMod (.int i) (.int j) h Q := ⟨m, q⟩
theorem v_pow {i j : Int} (m : CPow i j) (q : Q (.int (i ^ j.toNat)) h) : wPow (.int i) (.int j) h Q := ⟨m, q⟩
theorem v_neg {i : Int} (q : Q (.int (-i)) h) : wNeg (.int i) h Q := q
theorem v_absI {i : Int} (q : Q (.int (if i < 0 then -i else i)) h) : wAbs [.int i] h Q := q
theorem v_int {i : Int} (q : Q (.int i) h) : wInt [.int i] h Q := q
theorem v_divmod {i j : Int} (m : CDivW i j) (q : Q (.tup [.int (i / j), .int (i % j)]) h) : wDivmod [.int i, .int j] h Q := ⟨m, q⟩
theorem v_lenT {xs : List D} (q : Q (.int xs.length) h) : wLen [.tup xs] h Q := q
theorem v_lenF {xs : List D} (q : Q (.int xs.length) h) : wLen [.fl xs] h Q := q
theorem v_lenS {z : Str} (l : SZ z.length) (q : Q (.int z.length) h) : wLen [.str z] h Q := ⟨l, q⟩
theorem v_lenR {p : Addr} {xs : List D} (e : h p = some (.ol xs)) (q : Q (.int xs.length) h) : wLen [.ref p] h Q := by
  unfold wLen on1 onLen seqOf
  simp only [e]
  exact q
theorem v_max {i j : Int} (q : Q (.int (if j > i then j else i)) h) : wMax [.int i, .int j] h Q := q
theorem v_min {i j : Int} (q : Q (.int (if j < i then j else i)) h) : wMin [.int i, .int j] h Q := q
theorem v_isN (q : Q (.bl (isNon d)) h) : wIsN d .non h Q := ⟨rfl, q⟩
theorem v_notN (q : Q (.bl (!isNon d)) h) : wNotN d .non h Q := ⟨rfl, q⟩
theorem v_onI {i : Int} {P : Int → Prop} (q : P i) : onI (.int i) P := q
theorem v_onTb {k : Bool} {P : Bool → Prop} (q : P k) : onT h (.bl k) P := q
theorem v_onO {α : Type} {o : Option α} {z : α} {P : α → Prop} (e : o = some z) (q : P z) : onO o P := by rw [e]; exact q
theorem v_tupleR {p : Addr} {xs : List D} (e : h p = some (.ol xs)) (q : Q (.tup xs) h) : wTuple [.ref p] h Q := by
  unfold wTuple on1 seqOf
  simp only [e]
  exact q
theorem v_tupleT {xs : List D} (q : Q (.tup xs) h) : wTuple [.tup xs] h Q := q
theorem v_tupleF {xs : List D} (q : Q (.tup xs) h) : wTuple [.fl xs] h Q := q
theorem v_append {p : Addr} {xs : List D} (e : h p = some (.ol xs)) (z : SZ (xs.length + 1)) (q : Q .non (hup h p (.ol (xs ++ [d])))) : wAppend (.ref p) [d] h Q := by
  unfold wAppend on1 onOl
  simp only [e]
  exact ⟨z, q⟩
theorem v_popAt {p : Addr} {xs : List D} {i : Int} {k : Nat} {y : D} (e : h p = some (.ol xs)) (z : SZ xs.length) (e1 : ixN xs.length i = some k) (e2 : xs[k]? = some y) (q : Q y (hup h p (.ol (xs.eraseIdx k)))) : wPopAt (.ref p) [.int i] h Q := by
  unfold wPopAt on1 onI onOl
  simp only [e]
  exact ⟨z, k, y, e1, e2, q⟩
theorem v_kind {T : String} {P : Prop} (e : kindD h d = T) (q : P) : kindD h d = T ∧ P := ⟨e, q⟩
theorem v_kindL {p : Addr} {xs : List D} (e : h p = some (.ol xs)) : kindD h (.ref p) = "list" := by unfold kindD; simp only [e]
theorem v_kindD {p : Addr} {xs : List (D × D)} (e : h p = some (.od xs)) : kindD h (.ref p) = "dict" := by unfold kindD; simp only [e]
theorem v_ix {xs : List D} {i : Int} (e : atI xs i = some d) (q : Q d h) : wIx (.tup xs) (.int i) h Q := ⟨d, e, q⟩
theorem v_ixF {xs : List D} {i : Int} (e : atI xs i = some d) (q : Q d h) : wIx (.fl xs) (.int i) h Q := ⟨d, e, q⟩
theorem v_ixR {p : Addr} {xs : List D} {i : Int} (e0 : h p = some (.ol xs)) (e : atI xs i = some d) (q : Q d h) : wIx (.ref p) (.int i) h Q := by
  unfold wIx
  dsimp only
  unfold seqOf
  simp only [e0]
  exact ⟨d, e, q⟩
theorem v_ixD {kvs : List (D × D)} {z : Str} (e : dget kvs (.inr z) = some d) (q : Q d h) : wIx (.fd kvs) (.str z) h Q := ⟨d, e, q⟩
theorem v_ixDR {p : Addr} {kvs : List (D × D)} {z : Str} (e0 : h p = some (.od kvs)) (e : dget kvs (.inr z) = some d) (q : Q d h) : wIx (.ref p) (.str z) h Q := by
  unfold wIx
  dsimp only
  unfold seqOf dicOf
  simp only [e0]
  exact ⟨d, e, q⟩
theorem v_slT {xs : List D} {lo hi : Option Int} (q : Q (.tup (cutL xs lo hi)) h) : wSl (.tup xs) lo hi h Q := q
theorem v_slF {xs : List D} {lo hi : Option Int} (q : ∀ p, h p = none → Q (.ref p) (hup h p (.ol (cutL xs lo hi)))) : wSl (.fl xs) lo hi h Q := q
theorem v_get2 {kvs : List (D × D)} {z : Str} (q : Q ((dget kvs (.inr z)).getD d) h) : wGet (.fd kvs) [.str z, d] h Q := q
theorem v_get1 {kvs : List (D × D)} {z : Str} (q : Q ((dget kvs (.inr z)).getD .non) h) : wGet (.fd kvs) [.str z] h Q := q
theorem v_get2R {p : Addr} {kvs : List (D × D)} {z : Str} (e0 : h p = some (.od kvs)) (q : Q ((dget kvs (.inr z)).getD d) h) : wGet (.ref p) [.str z, d] h Q := by
  unfold wGet dicOf
  simp only [e0]
  exact q
theorem v_inD {kvs : List (D × D)} {z : Str} (q : Q (.bl (dget kvs (.inr z)).isSome) h) : wIn (.str z) (.fd kvs) h Q := q
theorem v_notInD {kvs : List (D × D)} {z : Str} (q : Q (.bl (!(dget kvs (.inr z)).isSome)) h) : wNotIn (.str z) (.fd kvs) h Q := q
theorem v_notInDR {p : Addr} {kvs : List (D × D)} {z : Str} (e0 : h p = some (.od kvs)) (q : Q (.bl (!(dget kvs (.inr z)).isSome)) h) : wNotIn (.str z) (.ref p) h Q := by
  unfold wNotIn
  dsimp only
  unfold seqOf dicOf
  simp only [e0]
  exact q
theorem v_dict {kvs : List (D × D)} (q : ∀ p, h p = none → Q (.ref p) (hup h p (.od kvs))) : wDict [.fd kvs] h Q := q
theorem v_putD {p : Addr} {kvs : List (D × D)} {z : Str} {QG : Hd → Prop} (e : h p = some (.od kvs)) (l : SZ (kvs.length + 1)) (q : QG (hup h p (.od (dput kvs (.str z) d (.inr z))))) : wPut (.ref p) (.str z) d h QG := by
  unfold wPut
  simp only [e]
  exact ⟨l, q⟩
theorem v_putL {p : Addr} {xs : List D} {i : Int} {j : Nat} {QG : Hd → Prop} (e : h p = some (.ol xs)) (e1 : ixN xs.length i = some j) (q : QG (hup h p (.ol (xs.set j d)))) : wPut (.ref p) (.int i) d h QG := by
  unfold wPut
  simp only [e]
  exact v_onI (v_onO e1 q)
theorem v_isi {k : Bool} {t : Sum String Str} {z : D} {cls : List Str} (e : tyD h d = some t) (e1 : isiD cls t z = some k) (q : Q (.bl k) h) : wIsi cls [d, z] h Q := by
  unfold wIsi on2
  exact v_onO e (v_onO e1 q)
theorem v_insF {k : Str} {fs : List (Str × D)} {P : Str × List (Str × D) → Prop} (q : P (k, fs)) : onO (insOf h (.fi k fs)) P := q
theorem v_insR {p : Addr} {k : Str} {fs : List (Str × D)} {P : Str × List (Str × D) → Prop} (e : h p = some (.oi k fs)) (q : P (k, fs)) : onO (insOf h (.ref p)) P := by
  unfold insOf
  simp only [e]
  exact q
theorem v_isInsF {k m : Str} {fs : List (Str × D)} {P : Prop} (e : fs.lookup m = none) (q : P) : isIns h k m (.fi k fs) ∧ P := ⟨⟨rfl, e⟩, q⟩
theorem v_isInsR {k m : Str} {p : Addr} {fs : List (Str × D)} {P : Prop} (e0 : h p = some (.oi k fs)) (e : fs.lookup m = none) (q : P) : isIns h k m (.ref p) ∧ P := ⟨⟨fs, e0, e⟩, q⟩
/-! equality -/
theorem onP_of {p q : PyData} {f : PyData → PyData → Prop} (e1 : pd h d = some p) (e2 : pd h e = some q) (s1 : SeqAt.shaped p = true) (s2 : SeqAt.shaped q = true) (k : f p q) : onP h d e f := by
  unfold onP
  simp only [e1, e2]
  exact ⟨s1, s2, k⟩
theorem eqvI (i j : Int) : PyData.eqv (.int i) (.int j) = decide (i = j) := by unfold PyData.eqv; rfl
theorem eqvS (i j : Str) : PyData.eqv (.str i) (.str j) = decide (i = j) := by
  unfold PyData.eqv
  by_cases h : i = j
  · subst h; simp
  · simp [h]
theorem v_eqI {i j : Int} (q : Q (.bl (decide (i = j))) h) : wEq (.int i) (.int j) h Q := by
  refine (onP_of (d := .int i) (e := .int j) (p := .int i) (q := .int j) rfl rfl rfl rfl ?_ : onP h (.int i) (.int j) fun p q => Q (.bl (PyData.eqv p q)) h)
  rw [eqvI]; exact q
theorem v_neI {i j : Int} (q : Q (.bl (!decide (i = j))) h) : wNe (.int i) (.int j) h Q := by
  refine (onP_of (d := .int i) (e := .int j) (p := .int i) (q := .int j) rfl rfl rfl rfl ?_ : onP h (.int i) (.int j) fun p q => Q (.bl (!PyData.eqv p q)) h)
  rw [eqvI]; exact q
theorem v_eqS {i j : Str} (q : Q (.bl (decide (i = j))) h) : wEq (.str i) (.str j) h Q := q
theorem v_neS {i j : Str} (q : Q (.bl (!decide (i = j))) h) : wNe (.str i) (.str j) h Q := q
end
/-! ### the end of a def -/
theorem e_fn {N : List Str} {w : EW → DS} {ds : List D} {h : Hd} {Q : DK} {E : DX} (ρ : Env) (e : startD N ds = ρ) (q : w (xE E) ⟨fun _ h' => fin Q .non h', fin Q, fun _ _ => False, fun _ _ => False⟩ ρ h) : dFn N w ds h Q E := by
  subst e; exact q
section
variable {h h' h0 : Hd} {Q : DK} {d : D} {E : DX} {ex : Ex}
theorem f_q (q : Q d h) : fin Q d h := ⟨d, h, Gh.refl, q⟩
theorem f_drop (s : ∀ a o, h' a = some o → h a = some o) (q : Q d h') : fin Q d h := ⟨d, h', Gh.drop s, q⟩
theorem sub_hup {p : Addr} {o : O} (e : h p = none) : ∀ a o', h a = some o' → hup h p o a = some o' := fun a o' e' => by
  rw [hup_ne (fun z => by rw [z, e] at e'; cases e')]; exact e'
theorem f_drop1 {p : Addr} {o : O} (e : h p = none) (q : Q d h) : fin Q d (hup h p o) := f_drop (sub_hup e) q
theorem f_qx (q : E ex h) : finX E ex h := ⟨h, fun _ _ e => e, q⟩
theorem f_frz (n : Nat) (s : ∀ a o, h0 a = some o → h a = some o) (q : Q (res h (fun a => (h0 a).isNone) n d) h0) : fin Q d h := by
  refine ⟨_, _, Gh.frz (fun a => (h0 a).isNone) n, ?_⟩
  have e : cut h (fun a => (h0 a).isNone) = h0 := by
    funext a
    unfold cut
    cases e : h0 a with
    | none => simp [e]
    | some o => simp [e]; exact s a o e
  rw [e]
  exact q
variable {S : Addr → Bool} {n : Nat} {p : Addr}
theorem res_oi {k : Str} {fs : List (Str × D)} (s : S p = true) (e : h p = some (.oi k fs)) : res h S (n + 1) (.ref p) = .fi k (fs.map fun p => (p.1, res h S n p.2)) := by
  simp only [res, s, if_true, e]
theorem res_od {kvs : List (D × D)} (s : S p = true) (e : h p = some (.od kvs)) : res h S (n + 1) (.ref p) = .fd (kvs.map fun p => (p.1, res h S n p.2)) := by
  simp only [res, s, if_true, e]
theorem res_ol {xs : List D} (s : S p = true) (e : h p = some (.ol xs)) : res h S (n + 1) (.ref p) = .fl (xs.map (res h S n)) := by
  simp only [res, s, if_true, e]
theorem res_tup {xs : List D} : res h S (n + 1) (.tup xs) = .tup (xs.map (res h S n)) := rfl
theorem res_tupI {xs : List D} (k : ∀ d ∈ xs, ∀ n, res h S n d = d) : res h S n (.tup xs) = .tup xs := by
  cases n with
  | zero => rfl
  | succ n => rw [res_tup, List.map_congr_left (g := id) (fun d hd => k d hd n), List.map_id]
theorem res_non : res h S n .non = .non := by cases n <;> rfl
theorem res_int {i : Int} : res h S n (.int i) = .int i := by cases n <;> rfl
theorem res_bl {i : Bool} : res h S n (.bl i) = .bl i := by cases n <;> rfl
theorem res_str {i : Str} : res h S n (.str i) = .str i := by cases n <;> rfl
theorem res_fl {i : List D} : res h S n (.fl i) = .fl i := by cases n <;> rfl
theorem res_fd {i : List (D × D)} : res h S n (.fd i) = .fd i := by cases n <;> rfl
theorem res_fi {c : Str} {i : List (Str × D)} : res h S n (.fi c i) = .fi c i := by cases n <;> rfl
theorem res_sD {l : List Str} : res h S n (.tup (l.map .str)) = .tup (l.map .str) := res_tupI fun d hd n => by
  obtain ⟨x, _, rfl⟩ := List.mem_map.mp hd; exact res_str
theorem res_lD {l : List (List Str)} : res h S n (.tup (l.map fun l => .tup (l.map .str))) = .tup (l.map fun l => .tup (l.map .str)) := res_tupI fun d hd n => by
  obtain ⟨x, _, rfl⟩ := List.mem_map.mp hd; exact res_sD
end
end DL
end
section
set_option Elab.async false
set_option linter.all false
set_option maxRecDepth 100000
set_option maxHeartbeats 4000000
open PySem PySem.Spec L2
namespace DL
/-! ### texts, dicts by text keys -/
abbrev sD (l : List Str) : List D := l.map .str
def dk {α : Type} (f : α → D) (l : List (Str × α)) : List (D × D) := l.map fun p => (.str p.1, f p.2)
def aget {α : Type} (l : List (Str × α)) (x : Str) : Option α := match l with
  | [] => none
  | p :: r => if p.1 = x then some p.2 else aget r x
def aput {α : Type} (l : List (Str × α)) (x : Str) (v : α) : List (Str × α) := if (l.any fun p => decide (p.1 = x)) = true then l.map (fun p => if p.1 = x then (p.1, v) else p) else l ++ [(x, v)]
section
variable {α : Type} {f : α → D} {l : List (Str × α)} {x y : Str} {v : α}
theorem dget_dk : ∀ {l : List (Str × α)}, dget (dk f l) (.inr x) = (aget l x).map f
  | [] => rfl
  | p :: r => by
    show (if keyD (.str p.1) = some (.inr x) then some (f p.2) else dget (dk f r) (.inr x)) = _
    unfold aget
    by_cases h : p.1 = x
    · rw [if_pos h, if_pos (by rw [h]; rfl)]; rfl
    · rw [if_neg h, if_neg (fun z => h (by cases z; rfl)), dget_dk]
theorem dk_any : ∀ {l : List (Str × α)}, ((dk f l).any fun e => decide (keyD e.1 = some (.inr x))) = l.any fun p => decide (p.1 = x)
  | [] => rfl
  | p :: r => by
    show (decide (keyD (.str p.1) = some (.inr x)) || (dk f r).any _) = _
    rw [dk_any, List.any_cons]
    congr 1
    by_cases h : p.1 = x
    · rw [decide_eq_true h, h]; exact decide_eq_true rfl
    · rw [decide_eq_false h, decide_eq_false (fun z => h (by cases z; rfl))]
theorem dput_dk : dput (dk f l) (.str x) (f v) (.inr x) = dk f (aput l x v) := by
  unfold dput aput
  rw [dk_any]
  split
  · unfold dk
    rw [List.map_map, List.map_map]
    refine List.map_congr_left fun p _ => ?_
    show (if keyD (.str p.1) = some (.inr x) then _ else _) = _
    by_cases h : p.1 = x
    · simp only [Function.comp, if_pos h]; rw [if_pos (by rw [h]; rfl)]
    · simp only [Function.comp, if_neg h]; rw [if_neg (fun z => h (by cases z; rfl))]
  · unfold dk; rw [List.map_append]; rfl
theorem aget_none : ∀ {l : List (Str × α)}, aget l x = none → (l.any fun p => decide (p.1 = x)) = false
  | [], _ => rfl
  | p :: r, h => by
    unfold aget at h
    split at h
    · cases h
    · rename_i n; rw [List.any_cons, aget_none h, decide_eq_false n]; rfl
theorem aget_some : ∀ {l : List (Str × α)}, aget l x = some v → (l.any fun p => decide (p.1 = x)) = true
  | [], h => by cases h
  | p :: r, h => by
    unfold aget at h
    split at h
    · rename_i n; rw [List.any_cons, decide_eq_true n]; rfl
    · rw [List.any_cons, aget_some h, Bool.or_true]
theorem aget_mem : ∀ {l : List (Str × α)}, aget l x = some v → (x, v) ∈ l
  | [], h => by cases h
  | p :: r, h => by
    unfold aget at h
    split at h
    · rename_i n; cases h; rw [← n]; exact List.mem_cons_self ..
    · exact List.mem_cons_of_mem _ (aget_mem h)
theorem aget_app : ∀ {l : List (Str × α)}, aget (l ++ [(x, v)]) y = match aget l y with
      | some u => some u
      | none => if x = y then some v else none
  | [] => rfl
  | p :: r => by
    show (if p.1 = y then some p.2 else aget (r ++ [(x, v)]) y) = _
    rw [aget_app]
    show _ = match (if p.1 = y then some p.2 else aget r y) with | some u => some u | none => if x = y then some v else none
    split <;> rfl
theorem aget_upd : ∀ {l : List (Str × α)}, aget (l.map fun p => if p.1 = x then (p.1, v) else p) y = if x = y then (aget l y).map (fun _ => v) else aget l y
  | [] => by simp [aget]
  | p :: r => by
    rw [List.map_cons]
    by_cases h : p.1 = x
    · rw [if_pos h]
      by_cases e : x = y
      · subst e
        unfold aget
        rw [if_pos rfl, if_pos h, if_pos h]; rfl
      · rw [if_neg e]
        unfold aget
        have n : p.1 ≠ y := fun z => e (h.symm.trans z)
        rw [if_neg n, if_neg n, aget_upd, if_neg e]
    · rw [if_neg h]
      unfold aget
      by_cases e : p.1 = y
      · rw [if_pos e, if_pos e, if_neg (fun z => h (e.trans z.symm))]
      · rw [if_neg e, if_neg e, aget_upd]
theorem aget_aput : aget (aput l x v) y = if x = y then some v else aget l y := by
  unfold aput
  cases e : aget l x with
  | some u =>
    rw [if_pos (aget_some e), aget_upd]
    by_cases h : x = y
    · subst h; rw [if_pos rfl, if_pos rfl, e]; rfl
    · rw [if_neg h, if_neg h]
  | none =>
    rw [if_neg (by rw [aget_none e]; exact Bool.false_ne_true), aget_app]
    by_cases h : x = y
    · subst h; rw [e, if_pos rfl]
    · rw [if_neg h, if_neg h]; cases aget l y <;> rfl
theorem aput_len : (aput l x v).length ≤ l.length + 1 := by
  unfold aput
  split
  · rw [List.length_map]; omega
  · rw [List.length_append]; exact Nat.le_refl _
theorem aput_mem {p : Str × α} (h : p ∈ aput l x v) : p ∈ l ∨ p.1 = x ∧ (p.2 = v) := by
  unfold aput at h
  split at h
  · obtain ⟨q, hq, e⟩ := List.mem_map.mp h
    split at e
    · rename_i z; subst e; exact .inr ⟨z, rfl⟩
    · subst e; exact .inl hq
  · rcases List.mem_append.mp h with h | h
    · exact .inl h
    · rw [List.mem_singleton] at h; subst h; exact .inr ⟨rfl, rfl⟩
theorem dk_len : (dk f l).length = l.length := by unfold dk; rw [List.length_map]
theorem dk_keys : (dk f l).map (·.1) = sD (l.map (·.1)) := by unfold dk sD; rw [List.map_map, List.map_map]; rfl
end
theorem strsD_sD (l : List Str) : strsD (sD l) = some l := strsD_map l
theorem intsD_sD : ∀ (l : List Str), l ≠ [] → intsD (sD l) = none
  | [], h => absurd rfl h
  | _ :: _, _ => rfl
/-! ### sorted texts: one arrangement -/
open PyProof.Rows in
theorem rising_all : ∀ (l : List Str) (p : Str), risingS p l = true → (∀ x ∈ l, ¬ x.cps.toList < p.cps.toList) ∧ l.Pairwise fun a b => ¬ b.cps.toList < a.cps.toList
  | [], p, _ => ⟨fun _ h => (nomatch h), .nil⟩
  | x :: r, p, h => by
    simp only [risingS, Bool.and_eq_true, Bool.not_eq_true', ltCps_eq, decide_eq_false_iff_not] at h
    obtain ⟨h1, h2⟩ := rising_all r x h.2
    refine ⟨fun y hy => ?_, .cons h1 h2⟩
    rcases List.mem_cons.mp hy with rfl | hy
    · exact h.1
    · exact fun z => h1 y hy (Std.lt_of_lt_of_le z (Std.not_lt.mp h.1))
open PyProof.Rows in
theorem sorted_pair {l : List Str} (h : sortedS l = true) : l.Pairwise fun a b => ¬ b.cps.toList < a.cps.toList := by
  cases l with
  | nil => exact .nil
  | cons x r => obtain ⟨h1, h2⟩ := rising_all r x h; exact .cons h1 h2
theorem str_ext {a b : Str} (h : a.cps.toList = b.cps.toList) : a = b := by
  obtain ⟨a⟩ := a; obtain ⟨b⟩ := b
  congr 1
  exact Array.ext' h
open PyProof.Rows in
theorem sorted_uniq {l l' : List Str} (h : sortedS l = true) (h' : sortedS l' = true) (p : l.Perm l') : l = l' := by
  refine List.Perm.eq_of_pairwise (le := fun a b : Str => ¬ b.cps.toList < a.cps.toList) (fun a b _ _ h1 h2 => str_ext ?_) (sorted_pair h) (sorted_pair h') p
  exact Std.le_antisymm (Std.not_lt.mp h1) (Std.not_lt.mp h2)
open PyProof.Rows in
/-- the arrangement that sorted tells -/
noncomputable def srt (l : List Str) : List Str := open Classical in if h : ∃ l' : List Str, l'.Perm l ∧ sortedS l' = true then h.choose else l
open PyProof.Rows in
theorem srt_eq {l l' : List Str} (p : l'.Perm l) (s : sortedS l' = true) : l' = srt l := by
  have h : ∃ l' : List Str, l'.Perm l ∧ sortedS l' = true := ⟨l', p, s⟩
  unfold srt
  rw [dif_pos h]
  exact sorted_uniq s h.choose_spec.2 (p.trans h.choose_spec.1.symm)
theorem srt_perm (l : List Str) : (srt l).Perm l := by
  unfold srt
  split
  · rename_i h; exact h.choose_spec.1
  · exact .refl _
section
variable {h : Hd} {Q : DK} {p : Addr} {l : List Str}
theorem sorted_core {xs : List D} (e : strsD xs = some l) (hl : l.length < 64) (q : ∀ p, h p = none → Q (.ref p) (hup h p (.ol (sD (srt l))))) (hn : ∀ ns, intsD xs = some ns → xs = []) :
    (match intsD xs, strsD xs with
    | some ns, none => ns.length < 64 ∧ ∀ (ns' : List Int) (p : Addr), ns'.Perm ns → ns'.Pairwise (· ≤ ·) → h p = none → Q (.ref p) (hup h p (.ol (ns'.map .int)))
    | _, some ss => ss.length < 64 ∧ ∀ (ss' : List Str) (p : Addr), ss'.Perm ss → PyProof.Rows.sortedS ss' = true → h p = none → Q (.ref p) (hup h p (.ol (ss'.map .str)))
    | none, none => False) := by
  rw [e]
  cases intsD xs <;> exact ⟨hl, fun ss p pm st hp => by rw [srt_eq pm st]; exact q p hp⟩
theorem v_sortR (e : h p = some (.ol (sD l))) (hl : l.length < 64) (q : ∀ p, h p = none → Q (.ref p) (hup h p (.ol (sD (srt l))))) : wSorted [.ref p] h Q := by
  unfold wSorted on1 lstOf
  simp only [e]
  rw [strsD_sD]
  cases intsD (sD l) <;> exact ⟨hl, fun ss p pm st hp => by rw [srt_eq pm st]; exact q p hp⟩
theorem v_sortF (hl : l.length < 64) (q : ∀ p, h p = none → Q (.ref p) (hup h p (.ol (sD (srt l))))) : wSorted [.fl (sD l)] h Q := by
  unfold wSorted on1 lstOf
  simp only []
  rw [strsD_sD]
  cases intsD (sD l) <;> exact ⟨hl, fun ss p pm st hp => by rw [srt_eq pm st]; exact q p hp⟩
theorem v_sortD {kvs : List (D × D)} (e : kvs.map (·.1) = sD l) (hl : l.length < 64) (q : ∀ p, h p = none → Q (.ref p) (hup h p (.ol (sD (srt l))))) : wSorted [.fd kvs] h Q := by
  unfold wSorted on1 lstOf
  simp only []
  refine v_onO (z := kvs) rfl (v_onO (z := l) (by rw [e]; exact strsD_sD l) ⟨hl, fun ss p pm st hp => by rw [srt_eq pm st]; exact q p hp⟩)
/-! ### looks at sequences -/
theorem atI_nat {α : Type} {xs : List α} {i : Int} {v : α} (h0 : 0 ≤ i) (e : xs[i.toNat]? = some v) : atI xs i = some v := by
  have hl : i.toNat < xs.length := by
    rcases Nat.lt_or_ge i.toNat xs.length with z | z
    · exact z
    · rw [List.getElem?_eq_none z] at e; cases e
  unfold atI ixN
  rw [if_pos h0, if_pos (by omega)]
  exact e
theorem atI_map {α β : Type} (f : α → β) (xs : List α) (i : Int) : atI (xs.map f) i = (atI xs i).map f := by
  unfold atI
  rw [List.length_map]
  cases ixN xs.length i with
  | none => rfl
  | some j => simp
theorem v_inT {xs : List D} {d : D} (f : flatD d = true) (g : xs.all flatD = true) (q : Q (.bl (xs.any fun e => eqD e d)) h) : wIn d (.tup xs) h Q := ⟨f, g, q⟩
theorem v_inS {x : Str} (q : Q (.bl (decide (x ∈ l))) h) : wIn (.str x) (.tup (sD l)) h Q := by
  refine ⟨rfl, ?_, ?_⟩
  · rw [List.all_eq_true]; intro d hd; obtain ⟨y, _, rfl⟩ := List.mem_map.mp hd; rfl
  · have e : ((sD l).any fun e => eqD e (.str x)) = decide (x ∈ l) := by
      rw [Bool.eq_iff_iff, List.any_eq_true, decide_eq_true_eq]
      constructor
      · rintro ⟨d, hd, hx⟩
        obtain ⟨y, hy, rfl⟩ := List.mem_map.mp hd
        have : y = x := by simpa [eqD] using hx
        exact this ▸ hy
      · intro hx; exact ⟨.str x, List.mem_map.mpr ⟨x, hx, rfl⟩, by simp [eqD]⟩
    rw [e]; exact q
theorem v_inSF {x : Str} (q : Q (.bl (decide (x ∈ l))) h) : wIn (.str x) (.fl (sD l)) h Q := v_inS (l := l) q
theorem cut_drop {α : Type} {xs : List α} {i : Int} (h0 : 0 ≤ i) : cutL xs (some i) none = xs.drop i.toNat := by
  obtain ⟨n, rfl⟩ : ∃ n : Nat, i = (n : Int) := ⟨i.toNat, by omega⟩
  unfold cutL
  rw [HT.sIx_nat, HT.sIx_none, Int.toNat_natCast]
  rcases Nat.le_total n xs.length with z | z
  · rw [Nat.min_eq_left z, List.take_of_length_le (by rw [List.length_drop]; omega)]
  · rw [Nat.min_eq_right z, List.drop_length, List.drop_of_length_le z]; simp
theorem cut_take {α : Type} {xs : List α} {i : Int} (h0 : 0 ≤ i) : cutL xs none (some i) = xs.take i.toNat := by
  obtain ⟨n, rfl⟩ : ∃ n : Nat, i = (n : Int) := ⟨i.toNat, by omega⟩
  unfold cutL
  rw [HT.sIx_nat, HT.sIx_none, Int.toNat_natCast, List.drop_zero, Nat.sub_zero]
  rcases Nat.le_total n xs.length with z | z
  · rw [Nat.min_eq_left z]
  · rw [Nat.min_eq_right z, List.take_of_length_le (Nat.le_refl _), List.take_of_length_le z]
theorem v_tindex {x : Str} {j : Nat} (e : idxS l x = some j) (q : Q (.int j) h) : wTIndex (.tup (sD l)) [.str x] h Q := by
  unfold wTIndex on1 onS
  exact v_onO (strsD_sD l) (v_onO e q)
theorem idxS_mem {x : Str} : ∀ {l : List Str}, x ∈ l → ∃ j, idxS l x = some j ∧ l[j]? = some x
  | [], h => by cases h
  | y :: r, h => by
    unfold idxS
    by_cases e : y = x
    · rw [if_pos e]; exact ⟨0, rfl, by rw [e]; rfl⟩
    · rw [if_neg e]
      obtain ⟨j, e1, e2⟩ := idxS_mem (l := r) (by rcases List.mem_cons.mp h with z | z; exact absurd z.symm e; exact z)
      exact ⟨j + 1, by rw [e1]; rfl, e2⟩
/-- an entry that may be lacking, compared with a number -/
theorem v_eqOI {o : Option Int} {m : Int} (q : Q (.bl (decide (o = some m))) h) : wEq ((o.map D.int).getD .non) (.int m) h Q := by
  cases o with
  | none =>
    refine (onP_of (p := .none) (q := .int m) rfl rfl rfl rfl ?_ : onP h .non (.int m) fun p q => Q (.bl (PyData.eqv p q)) h)
    unfold PyData.eqv
    exact q
  | some i =>
    have e : decide (some i = some m) = decide (i = m) := by
      by_cases z : i = m
      · subst z; simp
      · simp [z]
    rw [e] at q
    exact v_eqI q
theorem v_neOI {o : Option Int} {m : Int} (q : Q (.bl (!decide (o = some m))) h) : wNe ((o.map D.int).getD .non) (.int m) h Q := by
  cases o with
  | none =>
    refine (onP_of (p := .none) (q := .int m) rfl rfl rfl rfl ?_ : onP h .non (.int m) fun p q => Q (.bl (!PyData.eqv p q)) h)
    unfold PyData.eqv
    exact q
  | some i =>
    have e : decide (some i = some m) = decide (i = m) := by
      by_cases z : i = m
      · subst z; simp
      · simp [z]
    rw [e] at q
    exact v_neI q
end
/-! ### data -/
/-- texts of which the model knows the signs -/
def OkS (x : Str) : Prop := PyData.strOk x = true
theorem pdFs_s {g : Addr → Option PyData} : ∀ (l : List Str), pdFs g (sD l) = some (l.map .str)
  | [] => rfl
  | x :: r => by
    show (match pdF g (.str x), pdFs g (sD r) with | some p, some ps => some (p :: ps) | _, _ => none) = _
    rw [pdFs_s r]; rfl
theorem canAll_s : ∀ (l : List Str), (∀ x ∈ l, OkS x) → PyData.canLayAll0 (l.map .str) = true
  | [], _ => rfl
  | x :: r, h => by
    show (PyData.strOk x && PyData.canLayAll0 (r.map .str)) = true
    rw [canAll_s r fun y hy => h y (List.mem_cons_of_mem _ hy), h x (List.mem_cons_self ..)]; rfl
theorem depthAll_s : ∀ (l : List Str), PyData.depthAll (l.map .str) = 0
  | [] => rfl
  | x :: r => by
    show max (PyData.depth (.str x)) (PyData.depthAll (r.map .str)) = 0
    rw [depthAll_s r]; rfl
theorem shaped_s {l : List Str} (h : ∀ x ∈ l, OkS x) : SeqAt.shaped (.tuple (l.map .str)) = true := by
  unfold SeqAt.shaped
  have e1 : PyData.canLay0 (.tuple (l.map .str)) = true := canAll_s l h
  have e2 : PyData.depth (.tuple (l.map .str)) = 1 := by show PyData.depthAll _ + 1 = 1; rw [depthAll_s]
  rw [e1, e2]; rfl
section
variable {h : Hd} {Q : DK} {l : List Str}
theorem v_eqNil (ok : ∀ x ∈ l, OkS x) (q : Q (.bl l.isEmpty) h) : wEq (.tup (sD l)) (.tup []) h Q := by
  refine (onP_of (p := .tuple (l.map .str)) (q := .tuple []) ?_ rfl (shaped_s ok) rfl ?_ : onP h (.tup (sD l)) (.tup []) fun p q => Q (.bl (PyData.eqv p q)) h)
  · show (pdFs _ (sD l)).map PyData.tuple = _; rw [pdFs_s]; rfl
  · have e : PyData.eqv (.tuple (l.map .str)) (.tuple []) = l.isEmpty := by
      unfold PyData.eqv; cases l <;> rfl
    rw [e]; exact q
theorem v_neNil (ok : ∀ x ∈ l, OkS x) (q : Q (.bl (!l.isEmpty)) h) : wNe (.tup (sD l)) (.tup []) h Q := by
  refine (onP_of (p := .tuple (l.map .str)) (q := .tuple []) ?_ rfl (shaped_s ok) rfl ?_ : onP h (.tup (sD l)) (.tup []) fun p q => Q (.bl (!PyData.eqv p q)) h)
  · show (pdFs _ (sD l)).map PyData.tuple = _; rw [pdFs_s]; rfl
  · have e : PyData.eqv (.tuple (l.map .str)) (.tuple []) = l.isEmpty := by
      unfold PyData.eqv; cases l <;> rfl
    rw [e]; exact q
end
/-! ### loops -/
theorem for_inv {g : DG} {b : DS} {chk : Hd → Prop} {E : DEnds} (I : List D → Env → Hd → Prop) (hc : ∀ ds ρ h, I ds ρ h → chk h)
    (hs : ∀ d ds ρ h (R : Env → Hd → Prop), I (d :: ds) ρ h → (∀ ρ h, I ds ρ h → R ρ h) → g d ρ h fun ρ1 h1 => b ⟨R, E.rt, E.nx, R⟩ ρ1 h1)
    (he : ∀ ρ h, I [] ρ h → E.nx ρ h) : ∀ ds ρ h, I ds ρ h → dForL g b chk ds E ρ h
  | [], ρ, h, i => ⟨hc _ _ _ i, he ρ h i⟩
  | d :: ds, ρ, h, i => ⟨hc _ _ _ i, hs d ds ρ h _ i fun ρ h i => for_inv I hc hs he ds ρ h i⟩
theorem v_onOl {h : Hd} {p : Addr} {xs : List D} {f : Addr → List D → Prop} (e : h p = some (.ol xs)) (q : f p xs) : onOl h (.ref p) f := by
  unfold onOl
  simp only [e]
  exact q
section
variable {st : D → Env → (Env → Prop) → Prop} {tt : DT} {te : DE} {chk : Hd → Prop} {p : Addr} {Q : Hd → Prop} {ρ0 : Env}
theorem lc_go (f : D → Option D) (hc : ∀ h, chk h) : ∀ (ds : List D) (h : Hd) (acc : List D), h p = some (.ol acc) → acc.length + ds.length ≤ 900000 →
    (∀ d ∈ ds, ∀ (h : Hd) (R : Hd → Prop) (acc : List D), h p = some (.ol acc) → SZ (acc.length + 1) → R (match f d with | some y => hup h p (.ol (acc ++ [y])) | none => h) →
      st d ρ0 fun ρ1 => tt ρ1 h fun b h2 => if b = true then te ρ1 h2 fun y h3 => onOl h3 (.ref p) fun _ acc => SZ (acc.length + 1) ∧ R (hup h3 p (.ol (acc ++ [y]))) else R h2) →
    Q (hup h p (.ol (acc ++ ds.filterMap f))) → dLcL st tt te chk p Q ρ0 ds h
  | [], h, acc, e, _, _, q => ⟨hc h, by rw [List.filterMap_nil, List.append_nil, hup_eta e] at q; exact q⟩
  | d :: ds, h, acc, e, hl, hs, q => by
    rw [List.length_cons] at hl
    refine ⟨hc h, hs d (List.mem_cons_self ..) h (dLcL st tt te chk p Q ρ0 ds) acc e (by unfold SZ; omega) ?_⟩
    cases z : f d with
    | none =>
      rw [List.filterMap_cons_none z] at q
      exact lc_go f hc ds h acc e (by omega) (fun d' hd => hs d' (List.mem_cons_of_mem _ hd)) q
    | some y =>
      rw [List.filterMap_cons_some z] at q
      refine lc_go f hc ds _ (acc ++ [y]) hup_same (by rw [List.length_append, List.length_singleton]; omega) (fun d' hd => hs d' (List.mem_cons_of_mem _ hd)) ?_
      rw [hup_hup, List.append_assoc]
      exact q
theorem lc_pure {h : Hd} {ds : List D} (f : D → Option D) (hc : ∀ h, chk h) (hl : ds.length ≤ 900000)
    (hs : ∀ d ∈ ds, ∀ (h : Hd) (R : Hd → Prop) (acc : List D), h p = some (.ol acc) → SZ (acc.length + 1) → R (match f d with | some y => hup h p (.ol (acc ++ [y])) | none => h) →
      st d ρ0 fun ρ1 => tt ρ1 h fun b h2 => if b = true then te ρ1 h2 fun y h3 => onOl h3 (.ref p) fun _ acc => SZ (acc.length + 1) ∧ R (hup h3 p (.ol (acc ++ [y]))) else R h2)
    (q : Q (hup h p (.ol (ds.filterMap f)))) : dLcL st tt te chk p Q ρ0 ds (hup h p (.ol [])) :=
  lc_go f hc ds _ [] hup_same (by simpa using hl) hs (by rw [hup_hup]; exact q)
end
theorem c_sz {n : Nat} {P : Prop} (e : Nat.ble n 1000000 = true) (q : P) : SZ n ∧ P := ⟨Nat.le_of_ble_eq_true e, q⟩
theorem c_st1 {i : Nat} {d : D} {ρ : Env} {K : Env → Prop} (q : K (ρ.set i (some d))) : st1 i d ρ K := q
theorem fm_some {α β : Type} (k : α → β) : ∀ l : List α, (l.filterMap fun x => some (k x)) = l.map k
  | [] => rfl
  | a :: l => by rw [List.map_cons, ← fm_some k l]; rfl
theorem filterMap_map_some {α β γ : Type} (g : α → β) (f : β → Option γ) (k : α → γ) (hk : ∀ a, f (g a) = some (k a)) : ∀ l : List α, (l.map g).filterMap f = l.map k
  | [] => rfl
  | a :: l => by rw [List.map_cons, List.filterMap_cons_some (hk a), filterMap_map_some g f k hk l]; rfl
section
variable {h : Hd} {Q : DK} {p : Addr}
theorem v_inC {c : Nat} {z : Str} (q : Q (.bl (decide (c ∈ z.cps.toList))) h) : wIn (.str ⟨#[c]⟩) (.str z) h Q := ⟨rfl, q⟩
theorem v_allR {bs : List Bool} (e : h p = some (.ol (bs.map .bl))) (q : Q (.bl (bs.all id)) h) : wAll [.ref p] h Q := by
  unfold wAll on1 onL lstOf
  simp only [e]
  exact v_onO (blsD_map bs) q
end
theorem atI_last {α : Type} {xs : List α} {v : α} (h : xs ≠ []) (e : xs[xs.length - 1]? = some v) : atI xs (-1) = some v := by
  have hl : 0 < xs.length := List.length_pos_iff.mpr h
  unfold atI ixN
  rw [if_neg (by omega), if_pos (by omega)]
  have : ((-1 : Int) + (xs.length : Int)).toNat = xs.length - 1 := by omega
  show xs[((-1 : Int) + (xs.length : Int)).toNat]? = _
  rw [this]; exact e
theorem i_enumT {xs : List D} {h : Hd} {R : List D → (Hd → Prop) → Hd → Prop} (q : R (enumD xs) (fun _ => True) h) : enumK (.tup xs) h R := q
theorem drop_cons {α : Type} {xs : List α} {k : Nat} {d : α} {ds : List α} (e : d :: ds = xs.drop k) : xs[k]? = some d ∧ ds = xs.drop (k + 1) := by
  have h1 : xs[k]? = some d := by
    have : (xs.drop k)[0]? = some d := by rw [← e]; rfl
    rw [List.getElem?_drop] at this
    simpa using this
  refine ⟨h1, ?_⟩
  have : (xs.drop k).drop 1 = ds := by rw [← e]; rfl
  rw [← this, List.drop_drop]
theorem e_lam {js : List Nat} {wl : EW → DE} {ρ : Env} {ds : List D} {h : Hd} {Q : DK} {E : DX} (ρ' : Env) (e : ds.map some ++ js.map (slotD ρ) = ρ') (q : wl (xE E) ρ' h (fin Q)) : dLamW js wl ρ ds h Q E := by
  subst e; exact q
theorem c_lenSet {a : DE} {ρ : Env} {h : Hd} {Q : DK} (q : a ρ h fun d h1 => ∃ xs : List Str, d = .tup (xs.map .str) ∧ xs.length < 4000 ∧ Q (.int (dcnt xs xs.length)) h1) : dLenSet a ρ h Q := q
theorem dcnt_nodup {xs : List Str} (hn : xs.Nodup) : ∀ i, i ≤ xs.length → dcnt xs i = i
  | 0, _ => rfl
  | i + 1, h => by
    unfold dcnt
    have e : (xs.take i).any (· == xs.getD i Str.empty) = false := by
      rw [List.any_eq_false]
      intro x hx hb
      have hb : x = xs.getD i Str.empty := by simpa using hb
      obtain ⟨j, hj, e⟩ := List.getElem_of_mem hx
      rw [List.length_take] at hj
      rw [List.getElem_take] at e
      rw [List.getD_eq_getElem?_getD, List.getElem?_eq_getElem (by omega), Option.getD_some] at hb
      have := (List.getElem_inj (h₀ := by omega) (h₁ := by omega) hn).mp (e.trans hb)
      omega
    rw [e, if_neg Bool.false_ne_true, dcnt_nodup hn i (by omega)]
theorem map_erase {α β : Type} (f : α → β) : ∀ (l : List α) (i : Nat), (l.map f).eraseIdx i = (l.eraseIdx i).map f
  | [], _ => rfl
  | _ :: _, 0 => rfl
  | a :: l, i + 1 => by
    show f a :: (l.map f).eraseIdx i = f a :: (l.eraseIdx i).map f
    rw [map_erase f l i]
theorem erase_perm {α : Type} : ∀ (l : List α) (i : Nat) (h : i < l.length), (l[i] :: l.eraseIdx i).Perm l
  | [], _, h => by simp at h
  | a :: l, 0, _ => .refl _
  | a :: l, i + 1, h => by
    show (l[i]'(by simpa using h) :: a :: l.eraseIdx i).Perm (a :: l)
    exact (List.Perm.swap _ _ _).trans ((erase_perm l i (by simpa using h)).cons a)
theorem hup_none {h : Hd} {p q : Addr} {o : O} (e : hup h p o q = none) : q ≠ p ∧ h q = none := by
  by_cases z : q = p
  · subst z; rw [hup_same] at e; cases e
  · rw [hup_ne z] at e; exact ⟨z, e⟩
theorem sub_up {h g : Hd} {p : Addr} {o : O} (hp : h p = none) (s : ∀ a o, h a = some o → g a = some o) : ∀ a o', h a = some o' → hup g p o a = some o' := fun a o' e => by
  rw [hup_ne (fun z => by rw [z, hp] at e; cases e)]; exact s a o' e
theorem c_spread {wa wk wv : DE} {ρ : Env} {h : Hd} {Q : DK} {kvs : List (D × D)} {z : Str} {vd : D} (e1 : ∀ (h : Hd) (Q : DK), Q (.fd kvs) h → wa ρ h Q) (e2 : ∀ (h : Hd) (Q : DK), Q (.str z) h → wk ρ h Q) (e3 : ∀ (h : Hd) (Q : DK), Q vd h → wv ρ h Q)
    (l : SZ (kvs.length + 1)) (q : ∀ p, h p = none → Q (.ref p) (hup h p (.od (dput kvs (.str z) vd (.inr z))))) : dSpread wa wk wv ρ h Q := by
  intro p hp
  refine e1 _ _ ⟨hup_same, fun w => (nomatch w), v_onO (z := kvs) rfl fun r hr => e2 _ _ (e3 _ _ ?_)⟩
  obtain ⟨rp, _⟩ := hup_none hr
  refine ⟨by rw [hup_ne (Ne.symm rp)]; exact hup_same, hup_same, v_onO (z := .inr z) rfl ⟨l, ?_⟩⟩
  rw [hdn_hup hr, hup_hup, hup_hup]
  exact q p hp
theorem res_odI {h : Hd} {S : Addr → Bool} {n : Nat} {p : Addr} {l : List (Str × Int)} (s : S p = true) (e : h p = some (.od (dk .int l))) : res h S (n + 1) (.ref p) = .fd (dk .int l) := by
  rw [res_od s e]
  congr 1
  unfold dk
  rw [List.map_map]
  refine List.map_congr_left fun x _ => ?_
  simp only [Function.comp, res_int]
theorem res_olS {h : Hd} {S : Addr → Bool} {n : Nat} {p : Addr} {l : List Str} (s : S p = true) (e : h p = some (.ol (sD l))) : res h S (n + 1) (.ref p) = .fl (sD l) := by
  rw [res_ol s e]
  congr 1
  rw [List.map_map]
  refine List.map_congr_left fun x _ => ?_
  simp only [Function.comp, res_str]
theorem v_inG {g : Str} {kv : List (Str × D)} {z : Str} {h : Hd} {Q : DK} (q : Q (.bl (kv.lookup z).isSome) h) : wInG g kv (.str z) (.glo g) h Q := ⟨rfl, q⟩
theorem v_ixG {g : Str} {kv : List (Str × D)} {z : Str} {d : D} {h : Hd} {Q : DK} (e : kv.lookup z = some d) (q : Q d h) : wIxG g kv (.glo g) (.str z) h Q := ⟨rfl, v_onO e q⟩
theorem v_addFR {xs ys : List D} {p : Addr} {h : Hd} {Q : DK} (e : h p = some (.ol ys)) (z : SZ (xs.length + ys.length)) (q : ∀ r, h r = none → Q (.ref r) (hup h r (.ol (xs ++ ys)))) : wAdd (.fl xs) (.ref p) h Q := by
  unfold wAdd lstOf
  simp only [e]
  exact ⟨z, q⟩
end DL
end
section
set_option Elab.async false
set_option linter.all false
set_option maxRecDepth 100000
set_option maxHeartbeats 4000000
open PySem PySem.Spec L2
namespace DL
/-! ### == of lists of two lengths, of any things -/
abbrev rEqL : R2 := fun x y H Q => ∃ a b vs us, x = .ref a ∧ y = .ref b ∧ H a = some (.lst vs) ∧ H b = some (.lst us) ∧ vs.length ≠ us.length ∧ Q (.bl false) H
section
variable {C : Ctx} {A : Anc} {X : Cx} {a b : Expr} {pos : Pos} {wa wb : DE}
theorem op_eqL (hu : X.A.units + 64 < cLine) : OpR X (compareOp .Eq) rEqL := by
  intro pins s σ H x y v u Q I rx ry h
  obtain ⟨a, b, vs, us, rfl, rfl, ea, eb, hl, q⟩ := h
  obtain rfl : v = Value.ref a := rx
  obtain rfl : u = Value.ref b := ry
  obtain ⟨_, i1, n1, r1, g1⟩ := (show ObjOk X.prog X.w H s.heap a (.lst vs) from I.hok a _ ea)
  obtain ⟨_, i2, n2, r2, g2⟩ := (show ObjOk X.prog X.w H s.heap b (.lst us) from I.hok b _ eb)
  refine SeqAt.eq_list_lengthsAt (PySem.IsL.isList g1) (PySem.IsL.isList g2) ?_ (by omega) ⟨.bl false, H, I, rfl, q⟩
  simp only [List.size_toArray, bne_iff_ne, ne_eq]
  rw [← r1.length, ← r2.length]
  exact hl
def wEqL : W2 := fun x y h Q => ∃ a b xs ys, x = .ref a ∧ y = .ref b ∧ h a = some (.ol xs) ∧ h b = some (.ol ys) ∧ (xs.length ≠ ys.length → Q (.bl false) h) ∧ (xs.length = ys.length → onP h (.ref a) (.ref b) fun p q => Q (.bl (PyData.eqv p q)) h)
theorem o_eqL : Op2 C (fun x y H Q => rEqA C.K x y H Q ∨ rEqL x y H Q) wEqL := fun Z H h d e x y Qd Q R rx ry ⟨p, q, xs, ys, ex, ey, ep, eq, f1, f2⟩ k => by
  subst ex; subst ey
  by_cases hl : xs.length = ys.length
  · exact .inl (o_eq Z H h (.ref p) (.ref q) x y Qd Q R rx ry (f2 hl) k)
  · obtain ⟨a1, ds1, vs, e1, rfl, h1, s1, r1, _, _⟩ := rep_onOl (f := fun _ ds => ds = xs) R rx (show onOl h (.ref p) (fun _ ds => ds = xs) from by unfold onOl; simp only [ep])
    obtain ⟨a2, ds2, us, e2, rfl, h2, s2, r2, _, _⟩ := rep_onOl (f := fun _ ds => ds = ys) R ry (show onOl h (.ref q) (fun _ ds => ds = ys) from by unfold onOl; simp only [eq])
    cases e1; cases e2
    rw [ep] at h1; cases h1
    rw [eq] at h2; cases h2
    exact .inr ⟨_, _, vs, us, rfl, rfl, s1, s2, by rw [r1.length, r2.length]; exact hl, k _ h _ Z H (f1 hl) Fr.refl R rfl⟩
theorem z_eql (hx : XD C X) (ha : PEd C A X a wa) (hb : PEd C A X b wb) : PEd C A X (.Compare a [.Eq] [b] pos) (d2 wEqL wa wb) := d_cmp (hx.K ▸ ((op_eqD hx.u64).or op_eq).or (op_eqL hx.u64)) o_eqL ha hb (nomark _)
theorem z_teql (hx : XD C X) (ha : PEd C A X a wa) (hb : PEd C A X b wb) : PTd C A X (.Compare a [.Eq] [b] pos) (dTest (d2 wEqL wa wb)) := d_tcmp (hx.K ▸ ((op_eqD hx.u64).or op_eq).or (op_eqL hx.u64)) o_eqL ha hb (nomark _)
end
/-! ### steps -/
section
variable {ρ : DL.Env} {h : Hd} {Q : DK} {E : EW} {De : DEnds}
theorem c_metK {c m : Str} {n l : Nat} {π : List Nat} {W : DF} {o : DE} {r : DA} (q : o ρ h fun x h1 => isIns h1 c m x ∧ r ρ h1 fun zs h2 => zs.length = l ∧ (x :: selK π zs).length = n ∧ W (x :: selK π zs) h2 Q (E ρ)) : dMetK c m n l π W E o r ρ h Q := q
theorem c_raise0 {c : Str} (q : E ρ ⟨c, []⟩ h) : dRaise0 c E De ρ h := q
theorem c_xis {sub : Str → Str → Option Bool} {a : Addr} {ex : Ex} {y : Str} {wa : DE} (q : wa ρ h fun d h1 => d = .ref a ∧ onO (sub ex.cls y) fun b => Q (.bl b) h1) : dXis sub a ex y wa ρ h Q := q
theorem v_own {c : Str} {W : DF} {x y : D} (i1 : insC h c x) (i2 : insC h c y) (q : W [x, y] h (fun r h' => (∃ k, r = .bl k) ∧ Q r h') fun _ _ => False) : wOwn c W x y h Q := ⟨i1, i2, q⟩
theorem v_pop0 {p : Addr} {xs : List D} {y : D} (e : h p = some (.ol (xs ++ [y]))) (q : Q y (hup h p (.ol xs))) : wPop0 (.ref p) [] h Q := by
  refine ⟨rfl, ?_⟩
  unfold onOl
  simp only [e]
  refine ⟨y, by simp, ?_⟩
  rw [List.dropLast_concat]
  exact q
theorem v_slR {p : Addr} {xs : List D} {lo hi : Option Int} (e : h p = some (.ol xs)) (q : ∀ r, h r = none → Q (.ref r) (hup h r (.ol (cutL xs lo hi)))) : wSl (.ref p) lo hi h Q := by
  unfold wSl lstOf
  simp only [e]
  exact q
theorem v_listT {xs : List D} (q : ∀ p, h p = none → Q (.ref p) (hup h p (.ol xs))) : wList [.tup xs] h Q := q
theorem v_eqLc {p r : Addr} {xs : List D} {y : D} (e1 : h p = some (.ol (xs ++ [y]))) (e2 : h r = some (.ol [])) (q : Q (.bl false) h) : wEqL (.ref p) (.ref r) h Q :=
  ⟨p, r, _, _, rfl, rfl, e1, e2, fun _ => q, fun z => by simp at z⟩
theorem v_eqL0 {p r : Addr} (e1 : h p = some (.ol [])) (e2 : h r = some (.ol [])) (q : Q (.bl true) h) : wEqL (.ref p) (.ref r) h Q :=
  ⟨p, r, _, _, rfl, rfl, e1, e2, fun z => absurd rfl z, fun _ => onP_of (p := .list []) (q := .list []) (by show pdG h 3 p = _; simp only [pdG, e1]; rfl) (by show pdG h 3 r = _; simp only [pdG, e2]; rfl) rfl rfl q⟩
end
theorem eqv_refl {p : PyData} (h : p.canLay0 = true) : PyData.eqv p p = true := PySem.SeqAt.eqv_refl p h
end DL
end
section
set_option Elab.async false
set_option linter.all false
set_option maxRecDepth 100000
set_option maxHeartbeats 4000000
open PySem PySem.Spec L2
namespace DL
/-! ### != of two of one class with an own __eq__ -/
section
open PySem.W PySem.Calls PyProof.Rows
variable {M : Model} {prog : Program} {w : World} {A : Around} {E : Value → Shared → Prop} {s : Shared} {K : PySem.W.Frag} {x C L f : Addr} {ox : Obj} {od : Option Obj} {h₀ : Heap} {m : Str → Option Value} {b tb : Value}
theorem ifBound_objNe {args : List Value} {Q : Option Value → Shared → Prop} (X : K.In s.heap) (I : PySem.W.InstAt s.heap x ox C od) (hs : PySem.W.findIn K (.ref C) "__ne__" = some (some (.builtin "object.__ne__")))
    (h : wpAny M A (call (.builtin "object.__ne__") (.ref x :: args)) (fun v => Q (some v)) E s) : wpAny M A (callSpecialIfBound? (.ref x) "__ne__" args) Q E s := by
  simp only [callSpecialIfBound?, bindSpecialIfBound?]
  refine wpAny_holding (wpAny_bind (wpAny_bind (wpAny_bind (I.type.here ((PySem.W.looks_findIn X hs).here ?_)))))
  refine wpAny_bind (wpAny_askSetting (wpAny_ite ?_))
  have fin : wpAny M A (call (.builtin "object.__ne__") ([.ref x] ++ args) >>= fun v => pure (some v)) Q E s := wpAny_bind (wpAny_mono h (fun v s' h' => wpAny_pure h') fun _ _ h' => h')
  split
  · exact wpAny_bind (wpAny_of_eq (F.cmp_object.ne.bind _) (wpAny_pure (by exact fin)))
  · exact wpAny_tryCatch (wpAny_bind (wpAny_of_eq (F.cmp_object.ne.bind _) (wpAny_pure (by exact fin))))
theorem objNe_K (hu : A.units < cLine) (X : K.In s.heap) (I : PySem.W.InstAt s.heap x ox C od) (hs : PySem.W.findIn K (.ref C) "__eq__" = some (some (.ref f))) (hf : PySem.W.isFn K (.ref f) = true) {Q : Fin → Shared → Prop}
    (h : wpAny (model prog w) A (call (.ref f) [.ref x, b]) (fun v s' => ∃ k, v = .bool k ∧ Q (.done (.ret (.bool (!k)))) s') E s) : wpAny (model prog w) A (Builtin.«object.__ne__» ⟨[.ref x, b], []⟩) Q E s := by
  unfold Builtin.«object.__ne__»
  repeat (first
    | with_reducible refine wpAny_cRoomFor hu ?_
    | (refine wpAny_bind (m := callSpecialIfBound? (.ref x) (Str.ofString "__eq__") [b])
        (ifBound_K X I hs hf (wpAny_mono h (fun r s' hr => by
          obtain ⟨b, rfl, hq⟩ := hr
          repeat (first | exact hq | exact wpAny_pure hq | exact wpAny_truthy_bool hq | (refine wpAny_bind (m := truthy (.bool _)) (wpAny_truthy_bool ?_)) | wp_step)) fun _ _ e => e)))
    | wp_step)
theorem ne_K {Q : Value → Shared → Prop} (hu : A.units + 1 < cLine) (X : K.In s.heap) (I : InstAt s.heap x ox C od) (hb : Looks (model prog w) s.heap (typeOf b) tb) (hn : notFirst K C tb = true)
    (hne : findIn K (.ref C) "__ne__" = some (some (.builtin "object.__ne__"))) (hm : mroIn K C (.type "object") = some true) (hs : findIn K (.ref C) "__eq__" = some (some (.ref f))) (hf : isFn K (.ref f) = true)
    (h : wpAny (model prog w) A.in1 (call (.ref f) [.ref x, b]) (fun v s' => ∃ k, v = .bool k ∧ Q (.bool (!k)) s') E s) : wpAny (model prog w) A (compareOp .NotEq (.ref x) b) Q E s := by
  have one : wpAny (model prog w) A (tryCompare (.ref x) "__ne__" b) (fun r s' => ∃ v, r = some v ∧ Q v s') E s := by
    unfold tryCompare
    refine wpAny_bind (ifBound_objNe X I hne ?_)
    refine wpAny_call (codeAny_call_builtin F.cmp_object.ne.plain F.cmpEntry_ne (check_slot F.cmpKind_ne F.cmpSplit_ne (I.type.andThen (looks_mroIn X hm)) (F.cmpArgs_ne _ _) ?_))
    refine objNe_K (A := A.in1) hu X I hs hf (wpAny_mono h (fun v s' hv => ?_) fun _ _ e => e)
    obtain ⟨k, rfl, hq⟩ := hv
    first | exact ⟨k, rfl, wpAny_pure ⟨_, rfl, hq⟩⟩ | exact ⟨k, rfl, _, rfl, hq⟩
  unfold compareOp richCompare
  simp only [oneThing_ref]
  refine wpAny_holding (wpAny_bind (wpAny_cRoomFor (Nat.lt_of_succ_lt hu) ?_))
  rw [cmpInfo_NotEq]
  dsimp only
  refine wpAny_bind (I.type.here (wpAny_bind (hb.here ?_)))
  split
  · rename_i q
    have e : subIn K tb (.ref C) = some false := by
      rcases Bool.or_eq_true_iff.mp hn with e | e
      · rw [beq_iff_eq.mp e] at q; simp at q
      · exact beq_iff_eq.mp e
    refine wpAny_bind ((looks_subIn X e).here ?_)
    simp only [Bool.false_eq_true, if_false]
    refine wpAny_bind (wpAny_mono one (fun r s' z => ?_) fun _ _ e => e)
    obtain ⟨v, rfl, hq⟩ := z
    exact wpAny_pure hq
  · refine wpAny_bind (wpAny_pure ?_)
    simp only [Bool.false_eq_true, if_false]
    refine wpAny_bind (wpAny_mono one (fun r s' z => ?_) fun _ _ e => e)
    obtain ⟨v, rfl, hq⟩ := z
    exact wpAny_pure hq
end
structure NeC (K : PySem.W.Frag) (c : Str) : Prop where
  ne : PySem.W.findIn K (.ref (He.ga K c)) "__ne__" = some (some (.builtin "object.__ne__"))
  ob : PySem.W.mroIn K (He.ga K c) (.type "object") = some true
def neB (K : PySem.W.Frag) (c : Str) : Bool := decide (PySem.W.findIn K (.ref (He.ga K c)) "__ne__" = some (some (.builtin "object.__ne__"))) && decide (PySem.W.mroIn K (He.ga K c) (.type "object") = some true)
theorem ne_of {K : PySem.W.Frag} {c : Str} (h : neB K c = true) : NeC K c := by
  obtain ⟨a, b⟩ := He.ba h
  exact ⟨of_decide_eq_true a, of_decide_eq_true b⟩
def wOwnNe (c : Str) (W : DF) : W2 := fun x y h Q => insC h c x ∧ insC h c y ∧ W [x, y] h (fun r h' => ∃ k, r = .bl k ∧ Q (.bl (!k)) h') fun _ _ => False
section
variable {C : Ctx} {A : Anc} {X : Cx} {a b : Expr} {pos : Pos} {wa wb : DE} {W : DF} {c : Str} {st : Stmt} {k j : Nat} {ps : List Str} {q : Str}
theorem RoomG.in1 {k : Nat} {A : Around} (r : RoomG (k + 1) A) : RoomG k A.in1 := ⟨r.toRoom.in1, r.gd⟩
theorem op_ownNe (N : NeC C.K c) (hK : X.K = C.K) (D : MetOk C X.prog X.w X.mg X.base st c "__eq__" q k ps W) (hn : ps.length = 2) (hr : RoomG j X.A) (hj : k + 1 ≤ j) :
    OpR X (compareOp .NotEq) (fun x y H Q => ∃ Z h d e Qd, RelH C Z H h ∧ Rep C Z H d x ∧ Rep C Z H e y ∧ wOwnNe c W d e h Qd ∧ ∀ d h' v Z' H', Qd d h' → Fr Z H Z' H' → RelH C Z' H' h' → Rep C Z' H' d v → Q v H') := by
  intro pins s σ H x y v u Q I rx ry ⟨Z, h, d, e, Qd, R, rd, re, ⟨⟨fs, i1⟩, ⟨gs, i2⟩, hw⟩, kq⟩
  obtain ⟨p, dx, fv, rfl, hp, _, _⟩ := ins_rep R i1 rd
  obtain ⟨r, dy, gv, rfl, hq, _, _⟩ := ins_rep R i2 re
  obtain rfl : v = Value.ref p := rx
  obtain rfl : u = Value.ref r := ry
  obtain ⟨fd, F, o, mt, bs⟩ := D
  have FV : FnQ X.prog X.w X.K X.mg X.base (L2.CX X.prog X.w) k (He.ma C.K (He.ga C.K c) "__eq__") (spD C 2 W) := by
    have t := fnV_of o bs
    rw [hn] at t
    rw [hK]
    exact t
  have mt' : Meth X.K (He.ga C.K c) "__eq__" (He.ma C.K (He.ga C.K c) "__eq__") := by
    have eK : X.K = C.K := hK
    generalize X.K = K at eK ⊢
    subst eK
    exact mt
  have N' : NeC X.K c := by rw [hK]; exact N
  have eg : He.ga X.K c = He.ga C.K c := by rw [hK]
  obtain ⟨mA, J1, _⟩ := ins_get I.hok hp
  obtain ⟨mB, J2, _⟩ := ins_get I.hok hq
  obtain ⟨o1, K1, _⟩ := J1.look
  obtain ⟨o2, K2, _⟩ := J2.look
  obtain ⟨m, hF⟩ := I.fr
  have hr1 : RoomG k X.A.in1 := RoomG.in1 (hr.mono hj)
  refine ne_K (tb := .ref (He.ga C.K c)) (by have := hr.un; omega) I.kIn K1 K2.type (by simp [PySem.W.notFirst]) (by rw [← eg]; exact N'.ne) (by rw [← eg]; exact N'.ob) mt'.at_ mt'.fn ?_
  refine wpAny_call (codeAny_mono (FV X.A.in1 X.stack s H [.ref p, .ref r] [.ref p, .ref r] (fun v H' => ∃ k, v = .bl k ∧ Q (.bl (!k)) H') (fun _ _ _ => False) hr1 I.env0.in1 (.cons rfl (.cons rfl .nil))
    ⟨rfl, Z, [d, e], h, _, _, R, ⟨_, _, rfl, rd, _, _, rfl, re, rfl⟩, hw, fun d' h' v' Z' H' ⟨kk, ek, qd⟩ f R' r' => ⟨kk, by subst ek; exact r', kq _ h' _ Z' H' qd f R' rfl⟩, fun _ _ _ _ _ _ z => z.elim⟩) fun r s' hq' => ?_)
  cases r with
  | error ex =>
    obtain ⟨_, _, _, _, _, _, _, _, _, _, _, _, z⟩ := hq'
    exact z.elim
  | ok fl =>
    cases fl with
    | ret w =>
      obtain ⟨z, H', I', rz, kk, ez, qz⟩ := I.after hq'
      subst ez
      obtain rfl : w = Value.bool kk := rz
      exact ⟨kk, rfl, .bl (!kk), H', I', rfl, qz⟩
    | next => exact False.elim hq'
    | brk => exact False.elim hq'
    | cont => exact False.elim hq'
theorem o_ownNe : Op2 C (fun x y H Q => ∃ Z h d e Qd, RelH C Z H h ∧ Rep C Z H d x ∧ Rep C Z H e y ∧ wOwnNe c W d e h Qd ∧ ∀ d h' v Z' H', Qd d h' → Fr Z H Z' H' → RelH C Z' H' h' → Rep C Z' H' d v → Q v H') (wOwnNe c W) :=
  fun Z H h d e x y Qd Q R rx ry q k => ⟨Z, h, d, e, Qd, R, rx, ry, q, k⟩
theorem z_ownNe (N : NeC C.K c) (D : MetOk C X.prog X.w X.mg X.base st c "__eq__" q k ps W) (hn : ps.length = 2) (hK : X.K = C.K) (hr : RoomG j X.A) (hj : k + 1 ≤ j) (ha : PEd C A X a wa) (hb : PEd C A X b wb) : PEd C A X (.Compare a [.NotEq] [b] pos) (d2 (wOwnNe c W) wa wb) :=
  d_cmp (op_ownNe N hK D hn hr hj) o_ownNe ha hb (nomark _)
theorem z_townNe (N : NeC C.K c) (D : MetOk C X.prog X.w X.mg X.base st c "__eq__" q k ps W) (hn : ps.length = 2) (hK : X.K = C.K) (hr : RoomG j X.A) (hj : k + 1 ≤ j) (ha : PEd C A X a wa) (hb : PEd C A X b wb) : PTd C A X (.Compare a [.NotEq] [b] pos) (dTest (d2 (wOwnNe c W) wa wb)) :=
  d_tcmp (op_ownNe N hK D hn hr hj) o_ownNe ha hb (nomark _)
end
theorem v_ownNe {c : Str} {W : DF} {x y : D} {h : Hd} {Q : DK} (i1 : insC h c x) (i2 : insC h c y) (q : W [x, y] h (fun r h' => ∃ k, r = .bl k ∧ Q (.bl (!k)) h') fun _ _ => False) : wOwnNe c W x y h Q := ⟨i1, i2, q⟩
end DL
end
section
set_option Elab.async false
set_option linter.all false
set_option maxRecDepth 100000
set_option maxHeartbeats 4000000
open PySem PySem.Spec L2
namespace DL
/-! ### C(k = e, ..) of an own class -/
def dNewK (c : Str) (n l : Nat) (π : List Nat) (W : DF) (E : EW) (r : DA) : DE := fun ρ h Q => r ρ h fun zs h1 => zs.length = l ∧ (selK π zs).length + 1 = n ∧ ∀ a, h1 a = none → W (.ref a :: selK π zs) (hup h1 a (.oi c [])) (fun d h2 => d = .non ∧ fin Q (.ref a) h2) (E ρ)
section
variable {C : Ctx} {A : Anc} {X : Cx} {E : EW} {c q : Str} {W : DF} {st : Stmt} {k j n l : Nat} {ps ks : List Str} {π : List Nat} {wr : DA} {kws : List Keyword} {p pos : Pos}
theorem z_newK (D : NewOk C X.prog X.w X.mg X.base st c q k ps W) (hn : ps.length = n) (hk : ks.length = l) (hK : X.K = C.K) (hr : RoomG j X.A) (hj : k + 1 ≤ j) (px : Psx C A X E) (hg : Gl X c) (kb : KwOk st "__init__" q ps 1 ks π) (ha : PKd C A X kws wr) (hdb : (c == ("__debug__" : Str)) = false)
    (hall : (backToKw pos (keywordEach kws X.env)).all (·.1.isSome) = true) (hks : (backToKw pos (keywordEach kws X.env)).filterMap (·.1) = ks)
    (hpl : ((backTo pos (starEach [] X.env)).any (·.1) || (backToKw pos (keywordEach kws X.env)).any (·.1.isNone)) = false) :
    PEd C A X (.Call (.Name c p) [] kws pos) (dNewK c n l π W E wr) := by
  subst hn
  obtain ⟨mc, fd, F, og, M0, hm, _⟩ := D
  have M : Mk X.K (He.ga C.K c) (He.ma C.K (He.ga C.K c) "__init__") := by rw [hK]; exact M0
  have Fx : FnG X.prog X.w X.K X.mg X.base (L2.CX X.prog X.w) k (He.ma C.K (He.ga C.K c) "__init__") fd ps (spD C ps.length W) := by rw [hK]; exact og
  refine ⟨fun pins s0 σ H0 Q I0 ⟨Z0, ρ, h0, Qd, R0, q0, kk⟩ => ?_⟩
  refine wpAny_Call_Name_kw (ld_glob I0 hg hm ?_ hdb)
  refine PySem.W.callWith_KW0 (first := []) (h₀ := X.base) I0.ok.mod.kin M.kp hall (thn (ha.run pos pins s0 σ H0 _ I0 ⟨Z0, ρ, h0, _, R0, q0, fun ds h2 vs Z2 H2 q2 f2 R2 r2 => (⟨Z2, h2, ds, f2, R2, r2, q2⟩ : ∃ Z2 h2 ds, Fr Z0 H0 Z2 H2 ∧ RelH C Z2 H2 h2 ∧ Reps C Z2 H2 ds vs ∧ ds.length = l ∧ (selK π ds).length + 1 = ps.length ∧ ∀ a, h2 a = none → W (.ref a :: selK π ds) (hup h2 a (.oi c [])) (fun d h3 => d = .non ∧ fin Qd (.ref a) h3) (E ρ))⟩) fun us s ⟨vs, H, I, r, Z, h, ds, f0, R', rs, hl, hn2, qq⟩ => ⟨I.kIn, ?_⟩) hpl
  rw [hks]
  have R := R0.next f0 R'
  have lw : us.length = ks.length := by rw [← r.length, rs.length, hl, hk]
  have nx : H (s.heap.objs.size + 1) = none := I.hok.fresh (Nat.le_succ _)
  have nd : H s.heap.objs.size = none := I.hok.fresh (Nat.le_refl _)
  have ne : s.heap.objs.size + 1 ≠ s.heap.objs.size := Nat.succ_ne_self _
  have I2 := Inv.made (C := He.ga C.K c) I
  have f1 : Fr Z H Z (upd H s.heap.objs.size (.own (s.heap.objs.size + 1))) := Fr.upd (R.new nd)
  have R1 := R.toRelH.lay (u := .own (s.heap.objs.size + 1)) nd
  have nx1 : upd H s.heap.objs.size (.own (s.heap.objs.size + 1)) (s.heap.objs.size + 1) = none := by rw [upd_ne ne]; exact nx
  have f2 : Fr Z (upd H s.heap.objs.size (.own (s.heap.objs.size + 1))) Z (upd (upd H s.heap.objs.size (.own (s.heap.objs.size + 1))) (s.heap.objs.size + 1) (.ins (He.ga C.K c) s.heap.objs.size [])) := Fr.upd (R1.new nx1)
  have R2 := R1.put (a := s.heap.objs.size + 1) (u := .ins (He.ga C.K c) s.heap.objs.size []) (o := .oi c []) (R1.new nx1) (fun ps e => by rw [nx1] at e; cases e) (fun φ e => by rw [nx1] at e; cases e) ⟨_, [], upd_same, mc, rfl⟩
  have hq := qq (s.heap.objs.size + 1) (R.toRelH.none nx)
  have r2 : Vals (V.ref (s.heap.objs.size + 1) :: selK π vs) (Value.ref (s.heap.objs.size + 1) :: selK π us) := .cons rfl (sel_vals r π)
  have rs2 := sel_reps rs π
  refine thn (wpAny_call (make_map (f := He.ma C.K (He.ga C.K c) "__init__") (vs := []) (kw := ks.zip us) I.kIn M.makes M.init (beq_iff_eq.mp M.fn) (codeAny_mono (Fx.run _ X.stack _ _ ⟨[.ref (s.heap.objs.size + 1)], ks.zip us⟩ (Value.ref (s.heap.objs.size + 1) :: selK π us) (V.ref (s.heap.objs.size + 1) :: selK π vs) (fun v H' => v = .non ∧ ∃ Z' h' d, Fr Z H Z' H' ∧ RelH C Z' H' h' ∧ Rep C Z' H' d (.ref (s.heap.objs.size + 1)) ∧ Qd d h') (WE (upX C A E) σ) ((hr.mono hj).make (He.ga C.K c) [] (ks.zip us)) (I2.env0.make (He.ga C.K c) [] (ks.zip us))
    (kb_of F kb _ [.ref (s.heap.objs.size + 1)] us rfl lw) r2
    ⟨by rw [List.length_cons, rs2.length]; exact hn2, Z, .ref (s.heap.objs.size + 1) :: selK π ds, _, _, E ρ, R2, ⟨_, _, rfl, rfl, rs2.fr (f1.trans f2)⟩, hq, fun d h' v Z' H' ⟨ed, d', h2, g, qd⟩ f' R' r' => ?_, fun ex h' cls pp Z' H' qe f' R' rx => ⟨Z', ρ, h', ex, R.next ((f1.trans f2).trans f') R', rx, qe⟩⟩) fun r s' hq' => ?_))) fun v s2 hq => EP.d (fun d h' v Z' H' qd f' R' r' => kk d h' v Z' H' qd (f0.trans f') R' r') hq
  · subst ed
    obtain ⟨Z2, f2', R2', r2'⟩ := g C Z' H' (.ref (s.heap.objs.size + 1)) R' rfl
    exact ⟨r', Z2, h2, d', ((f1.trans f2).trans f').trans f2', R2', r2', qd⟩
  · cases r with
    | error e => exact px σ pins _ _ e s' I2 hq'
    | ok fl =>
      cases fl with
      | ret u =>
        obtain ⟨v, H', I3, rv, ev, z⟩ := I2.after hq'
        subst ev
        exact ⟨rv, ⟨V.ref (s.heap.objs.size + 1), H', I3, rfl, z⟩⟩
      | next => exact False.elim hq'
      | brk => exact False.elim hq'
      | cont => exact False.elim hq'
end
theorem c_newK {c : Str} {n l : Nat} {π : List Nat} {W : DF} {E : EW} {r : DA} {ρ : DL.Env} {h : Hd} {Q : DK} (q : r ρ h fun zs h1 => zs.length = l ∧ (selK π zs).length + 1 = n ∧ ∀ a, h1 a = none → W (.ref a :: selK π zs) (hup h1 a (.oi c [])) (fun d h2 => d = .non ∧ fin Q (.ref a) h2) (E ρ)) : dNewK c n l π W E r ρ h Q := q
end DL
end
section
set_option Elab.async false
set_option linter.all false
set_option maxRecDepth 100000
set_option maxHeartbeats 4000000
open PySem PySem.Spec L2
namespace DL
/-! ### == by an own __eq__, the other of another class, or None -/
structure NfC (K : PySem.W.Frag) (c c2 : Str) : Prop where
  nf : PySem.W.notFirst K (He.ga K c) (.ref (He.ga K c2)) = true
def wOwn2 (c c2 : Str) (W : DF) : W2 := fun x y h Q => insC h c x ∧ insC h c2 y ∧ W [x, y] h (fun r h' => (∃ k, r = .bl k) ∧ Q r h') fun _ _ => False
def wOwnN (c : Str) (W : DF) : W2 := fun x y h Q => insC h c x ∧ y = .non ∧ W [x, y] h (fun r h' => (∃ k, r = .bl k) ∧ Q r h') fun _ _ => False
section
variable {C : Ctx} {A : Anc} {X : Cx} {a b : Expr} {pos : Pos} {wa wb : DE} {W : DF} {c : Str} {st : Stmt} {k j : Nat} {ps : List Str} {q : Str}
theorem op_own2 {c2 : Str} (NF : NfC C.K c c2) (hK : X.K = C.K) (D : MetOk C X.prog X.w X.mg X.base st c "__eq__" q k ps W) (hn : ps.length = 2) (hr : RoomG j X.A) (hj : k ≤ j) :
    OpR X (compareOp .Eq) (fun x y H Q => ∃ Z h d e Qd, RelH C Z H h ∧ Rep C Z H d x ∧ Rep C Z H e y ∧ wOwn2 c c2 W d e h Qd ∧ ∀ d h' v Z' H', Qd d h' → Fr Z H Z' H' → RelH C Z' H' h' → Rep C Z' H' d v → Q v H') := by
  intro pins s σ H x y v u Q I rx ry ⟨Z, h, d, e, Qd, R, rd, re, ⟨⟨fs, i1⟩, ⟨gs, i2⟩, hw⟩, kq⟩
  obtain ⟨p, dx, fv, rfl, hp, _, _⟩ := ins_rep R i1 rd
  obtain ⟨r, dy, gv, rfl, hq, _, _⟩ := ins_rep R i2 re
  obtain rfl : v = Value.ref p := rx
  obtain rfl : u = Value.ref r := ry
  obtain ⟨fd, F, o, mt, bs⟩ := D
  have FV : FnQ X.prog X.w X.K X.mg X.base (L2.CX X.prog X.w) k (He.ma C.K (He.ga C.K c) "__eq__") (spD C 2 W) := by
    have t := fnV_of o bs
    rw [hn] at t
    rw [hK]
    exact t
  have mt' : Meth X.K (He.ga C.K c) "__eq__" (He.ma C.K (He.ga C.K c) "__eq__") := by
    have eK : X.K = C.K := hK
    generalize X.K = K at eK ⊢
    subst eK
    exact mt
  obtain ⟨mA, J1, _⟩ := ins_get I.hok hp
  obtain ⟨mB, J2, _⟩ := ins_get I.hok hq
  obtain ⟨o1, K1, _⟩ := J1.look
  obtain ⟨o2, K2, _⟩ := J2.look
  obtain ⟨m, hF⟩ := I.fr
  refine PySem.W.cmp_K (op := .Eq) (tb := .ref (He.ga C.K c2)) hr.units0 hF I.ok.mod.kin K1 K2.type (by rw [hK]; exact NF.nf) mt'.at_ mt'.fn ?_
  refine wpAny_call (codeAny_mono (FV X.A X.stack s H [.ref p, .ref r] [.ref p, .ref r] (fun v H' => (∃ k, v = .bl k) ∧ Q v H') (fun _ _ _ => False) (hr.mono hj) I.env0 (.cons rfl (.cons rfl .nil))
    ⟨rfl, Z, [d, e], h, _, _, R, ⟨_, _, rfl, rd, _, _, rfl, re, rfl⟩, hw, fun d' h' v' Z' H' ⟨⟨kk, ek⟩, qd⟩ f R' r' => ⟨⟨kk, by subst ek; exact r'⟩, kq d' h' v' Z' H' qd f R' r'⟩, fun _ _ _ _ _ _ z => z.elim⟩) fun r s' hq' => ?_)
  cases r with
  | error ex =>
    obtain ⟨_, _, _, _, _, _, _, _, _, _, _, _, z⟩ := hq'
    exact z.elim
  | ok fl =>
    cases fl with
    | ret w =>
      obtain ⟨z, H', I', rz, ⟨kk, ez⟩, qz⟩ := I.after hq'
      subst ez
      obtain rfl : w = Value.bool kk := rz
      exact ⟨.bl kk, H', I', rfl, qz⟩
    | next => exact False.elim hq'
    | brk => exact False.elim hq'
    | cont => exact False.elim hq'
theorem op_ownN (hK : X.K = C.K) (D : MetOk C X.prog X.w X.mg X.base st c "__eq__" q k ps W) (hn : ps.length = 2) (hr : RoomG j X.A) (hj : k ≤ j) :
    OpR X (compareOp .Eq) (fun x y H Q => ∃ Z h d e Qd, RelH C Z H h ∧ Rep C Z H d x ∧ Rep C Z H e y ∧ wOwnN c W d e h Qd ∧ ∀ d h' v Z' H', Qd d h' → Fr Z H Z' H' → RelH C Z' H' h' → Rep C Z' H' d v → Q v H') := by
  intro pins s σ H x y v u Q I rx ry ⟨Z, h, d, e, Qd, R, rd, re, ⟨⟨fs, i1⟩, i2, hw⟩, kq⟩
  obtain ⟨p, dx, fv, rfl, hp, _, _⟩ := ins_rep R i1 rd
  subst i2
  obtain rfl : y = V.non := re
  obtain rfl : v = Value.ref p := rx
  obtain rfl : u = Value.none := by cases ry; rfl
  obtain ⟨fd, F, o, mt, bs⟩ := D
  have FV : FnQ X.prog X.w X.K X.mg X.base (L2.CX X.prog X.w) k (He.ma C.K (He.ga C.K c) "__eq__") (spD C 2 W) := by
    have t := fnV_of o bs
    rw [hn] at t
    rw [hK]
    exact t
  have mt' : Meth X.K (He.ga C.K c) "__eq__" (He.ma C.K (He.ga C.K c) "__eq__") := by
    have eK : X.K = C.K := hK
    generalize X.K = K at eK ⊢
    subst eK
    exact mt
  obtain ⟨mA, J1, _⟩ := ins_get I.hok hp
  obtain ⟨o1, K1, _⟩ := J1.look
  obtain ⟨m, hF⟩ := I.fr
  refine PySem.W.cmp_K (op := .Eq) (tb := .type "NoneType") hr.units0 hF I.ok.mod.kin K1 (PySem.W.Looks.of_pure rfl) (by unfold PySem.W.notFirst; rw [HN.sub_none]; rfl) mt'.at_ mt'.fn ?_
  refine wpAny_call (codeAny_mono (FV X.A X.stack s H [.ref p, .none] [.ref p, .non] (fun v H' => (∃ k, v = .bl k) ∧ Q v H') (fun _ _ _ => False) (hr.mono hj) I.env0 (.cons rfl (.cons rfl .nil))
    ⟨rfl, Z, [d, .non], h, _, _, R, ⟨_, _, rfl, rd, _, _, rfl, rfl, rfl⟩, hw, fun d' h' v' Z' H' ⟨⟨kk, ek⟩, qd⟩ f R' r' => ⟨⟨kk, by subst ek; exact r'⟩, kq d' h' v' Z' H' qd f R' r'⟩, fun _ _ _ _ _ _ z => z.elim⟩) fun r s' hq' => ?_)
  cases r with
  | error ex =>
    obtain ⟨_, _, _, _, _, _, _, _, _, _, _, _, z⟩ := hq'
    exact z.elim
  | ok fl =>
    cases fl with
    | ret w =>
      obtain ⟨z, H', I', rz, ⟨kk, ez⟩, qz⟩ := I.after hq'
      subst ez
      obtain rfl : w = Value.bool kk := rz
      exact ⟨.bl kk, H', I', rfl, qz⟩
    | next => exact False.elim hq'
    | brk => exact False.elim hq'
    | cont => exact False.elim hq'

section
variable {c2 : Str}
theorem o_own2 : Op2 C (fun x y H Q => ∃ Z h d e Qd, RelH C Z H h ∧ Rep C Z H d x ∧ Rep C Z H e y ∧ wOwn2 c c2 W d e h Qd ∧ ∀ d h' v Z' H', Qd d h' → Fr Z H Z' H' → RelH C Z' H' h' → Rep C Z' H' d v → Q v H') (wOwn2 c c2 W) :=
  fun Z H h d e x y Qd Q R rx ry q k => ⟨Z, h, d, e, Qd, R, rx, ry, q, k⟩
theorem o_ownN : Op2 C (fun x y H Q => ∃ Z h d e Qd, RelH C Z H h ∧ Rep C Z H d x ∧ Rep C Z H e y ∧ wOwnN c W d e h Qd ∧ ∀ d h' v Z' H', Qd d h' → Fr Z H Z' H' → RelH C Z' H' h' → Rep C Z' H' d v → Q v H') (wOwnN c W) :=
  fun Z H h d e x y Qd Q R rx ry q k => ⟨Z, h, d, e, Qd, R, rx, ry, q, k⟩
theorem z_own2 (N : NfC C.K c c2) (D : MetOk C X.prog X.w X.mg X.base st c "__eq__" q k ps W) (hn : ps.length = 2) (hK : X.K = C.K) (hr : RoomG j X.A) (hj : k ≤ j) (ha : PEd C A X a wa) (hb : PEd C A X b wb) : PEd C A X (.Compare a [.Eq] [b] pos) (d2 (wOwn2 c c2 W) wa wb) :=
  d_cmp (op_own2 N hK D hn hr hj) o_own2 ha hb (nomark _)
theorem z_town2 (N : NfC C.K c c2) (D : MetOk C X.prog X.w X.mg X.base st c "__eq__" q k ps W) (hn : ps.length = 2) (hK : X.K = C.K) (hr : RoomG j X.A) (hj : k ≤ j) (ha : PEd C A X a wa) (hb : PEd C A X b wb) : PTd C A X (.Compare a [.Eq] [b] pos) (dTest (d2 (wOwn2 c c2 W) wa wb)) :=
  d_tcmp (op_own2 N hK D hn hr hj) o_own2 ha hb (nomark _)
theorem z_ownN (D : MetOk C X.prog X.w X.mg X.base st c "__eq__" q k ps W) (hn : ps.length = 2) (hK : X.K = C.K) (hr : RoomG j X.A) (hj : k ≤ j) (ha : PEd C A X a wa) (hb : PEd C A X b wb) : PEd C A X (.Compare a [.Eq] [b] pos) (d2 (wOwnN c W) wa wb) :=
  d_cmp (op_ownN hK D hn hr hj) o_ownN ha hb (nomark _)
theorem z_townN (D : MetOk C X.prog X.w X.mg X.base st c "__eq__" q k ps W) (hn : ps.length = 2) (hK : X.K = C.K) (hr : RoomG j X.A) (hj : k ≤ j) (ha : PEd C A X a wa) (hb : PEd C A X b wb) : PTd C A X (.Compare a [.Eq] [b] pos) (dTest (d2 (wOwnN c W) wa wb)) :=
  d_tcmp (op_ownN hK D hn hr hj) o_ownN ha hb (nomark _)
end
end
def nfB (K : PySem.W.Frag) (c c2 : Str) : Bool := PySem.W.notFirst K (He.ga K c) (.ref (He.ga K c2))
theorem nf_of {K : PySem.W.Frag} {c c2 : Str} (h : nfB K c c2 = true) : NfC K c c2 := ⟨h⟩
end DL
end
section
set_option Elab.async false
set_option linter.all false
set_option maxRecDepth 100000
set_option maxHeartbeats 4000000
open PySem PySem.Spec L2
namespace DL
/-! ### repr of an empty dict, too -/
open PyProof.Rows in
theorem call_reprE {X : Cx} (hu : X.A.units + 66 < cLine) (hg : X.A.guards = some []) : CallR X (.builtin "repr") (fun xs H Q => ∃ a, xs = [.ref a] ∧ Rd H a (.dK []) ∧ Q (.str "{}") H) := by
  intro pins s σ H xs us Q I r h
  obtain ⟨a, rfl, hd, q⟩ := h
  obtain ⟨u, rfl, rx⟩ := vals1 r
  cases rx
  obtain ⟨z, lo, vs, rel, dd⟩ := dk_rd I.hok hd
  have ev : vs = [] := by cases rel; rfl
  subst ev
  obtain ⟨o, es, ep, hget, hex, hdat, _, prs, _⟩ := dd
  have e : es.toList = [] := by
    revert prs
    generalize es.toList = l
    intro prs
    cases prs
    rfl
  have hc : o.cls = .type "dict" := hex.1
  refine call_repr_slot (T := "dict") (idr := "dict.__repr__") (by omega) ⟨o, hget, hc⟩ F.slot_dict_repr (call_dict_reprK (as := []) (h₀ := s.heap) (d := 0) (ps := []) hget hc hdat lo (by simp) (by rw [e]; exact .nil) (A := X.A.in1) hg (fun b _ => Clear.nil b) (by show X.A.units + 1 + 1 < cLine; omega) (fun _ _ e => e) (fun h' u tk hk => ⟨_, _, rfl, .str "{}", H, I.kept (t' := tk) hk, ⟨u, rfl⟩, q⟩) (by decide +kernel))
def wReprX : WL := fun ds h Q => (∃ d, ds = [d] ∧ dicOf h d = some [] ∧ Q (.str "{}") h) ∨ wRepr ds h Q
theorem o_reprX {C : DL.Ctx} : OpL C (fun xs H Q => (∃ a, xs = [.ref a] ∧ Rd H a (.dK []) ∧ Q (.str "{}") H) ∨ rRepr C.K xs H Q) wReprX := fun Z H h ds xs Qd Q R rx q k => by
  rcases q with ⟨d, rfl, e, q⟩ | q
  · obtain ⟨d', v, ed, rfl, r, _⟩ := rep_on1 (f := fun _ => True) rx (show on1 [d] (fun _ => True) from trivial)
    cases ed
    obtain ⟨p, vs, rfl, s, r1⟩ := dic_rep R e r
    have : vs = [] := by cases vs with
      | nil => rfl
      | cons _ _ => first | exact r1.elim | cases r1
    subst this
    exact .inl ⟨p, rfl, s, k _ h _ Z H q Fr.refl R rfl⟩
  · exact .inr (o_repr Z H h ds xs Qd Q R rx q k)
section
variable {C : DL.Ctx} {A : Anc} {X : Cx} {e : Expr} {es : List Expr} {wr : DA} {p pos : Pos}
theorem z_b_reprX (hK : X.K = C.K) (hU : X.A.units + 66 < cLine) (hgd : X.A.guards = some []) (hg : Gl X "repr") (hm : X.mg "repr" = none) (ha : PAd C A X (e :: es) wr) (he : starEach (e :: es) X.env = (false, eval e X.env) :: starEach es X.env) (hpl : (backTo pos (starEach es X.env)).any (·.1) = false) : PEd C A X (.Call (.Name "repr" p) (e :: es) [] pos) (dL wReprX wr) := d_callB ((call_reprE hU hgd).or (hK ▸ call_reprD hU hgd)) o_reprX hg hm bt_repr ha (by decide) (by decide) he hpl
end
theorem v_reprX {ds : List D} {h : Hd} {Q : DK} (q : wRepr ds h Q) : wReprX ds h Q := .inr q
theorem v_reprE {d : D} {h : Hd} {Q : DK} (e : dicOf h d = some []) (q : Q (.str "{}") h) : wReprX [d] h Q := .inl ⟨d, rfl, e, q⟩
end DL
end
section
set_option Elab.async false
set_option linter.all false
set_option maxRecDepth 100000
set_option maxHeartbeats 4000000
open PySem PySem.Spec L2 DL
namespace K78
abbrev pr : Program := PySem.Challenge.pw_callchains_k78_mornings_made
abbrev top (i : Nat) : Stmt := pr.main.body.getD i (.Pass ⟨0, 0, 0, 0⟩)
abbrev cls : List Str := ["Book", "Standing", "Morning"]
abbrev flds : List Str := ["book", "deeds", "first", "given", "knowing", "last", "lists", "made", "minute", "past", "people", "reason", "since", "sleeping", "slept", "standing"]
def excs : List Str := ["CallError", "UnknownPerson", "NotABook", "InvalidPeople", "InvalidLists", "InvalidDeed", "Barred"]
abbrev subX : Str → Str → Option Bool := subOf excs
abbrev xflds : List Str := ["given", "index", "reason"]
abbrev cc (K : PySem.W.Frag) (T : List (Addr × Str)) : DL.Ctx := ⟨K, T, cls, flds⟩
abbrev YK (K : PySem.W.Frag) (T : List (Addr × Str)) (mg : Str → Option Value) : Prop := YY (cc K T) mg ["abs", "all", "bool", "dict", "divmod", "enumerate", "int", "isinstance", "len", "list", "max", "min", "range", "repr", "set", "sorted", "str", "tuple"] ["Barred", "Book", "CallError", "Morning", "NotABook", "SIZES"] [("ASLEEP", "asleep"), ("AWAKE", "awake"), ("CALLED", "called"), ("DONE", "done"), ("DUE", "due"), ("SLEPT", "slept"), ("SMALL_LETTERS", "abcdefghijklmnopqrstuvwxyz")] [("FEWEST_PEOPLE", 2), ("LONGEST_NAME", 8), ("MOST_PEOPLE", 8)] ["Barred", "NotABook"] ["given", "index", "reason"] subX
def w_is_truth : EW → DS := fun EE => (dRet (dL (wIsi cls) (dCons (dVar 0) (dCons (dC (.ty "bool")) dNil))))
def W_is_truth : DF := dFn (["value"] : List Str) w_is_truth
def w_is_string : EW → DS := fun EE => (dRet (dL (wIsi cls) (dCons (dVar 0) (dCons (dC (.ty "str")) dNil))))
def W_is_string : DF := dFn (["value"] : List Str) w_is_string
def w_is_made_of : EW → DS := fun EE => (dRet (dAnd (d2 wNe (dVar 0) (dStr "")) (dL wAll (dCons (dComp (iAny (dVar 0)) (st1 2) dYes (d2 wIn (dVar 2) (dVar 1)) [2]) dNil))))
def W_is_made_of : DF := dFn (["text", "signs", "sign"] : List Str) w_is_made_of
def w_is_name : EW → DS := fun EE => (dRet (dAnd (dCall 1 W_is_string EE (dCons (dVar 0) dNil)) (dAnd (d2 wLe (dL wLen (dCons (dVar 0) dNil)) (dInt 8)) (dCall 2 W_is_made_of EE (dCons (dVar 0) (dCons (dStr "abcdefghijklmnopqrstuvwxyz") dNil))))))
def W_is_name : DF := dFn (["value"] : List Str) w_is_name
def w_is_tuple_of : EW → DS := fun EE => (dRet (dAnd (dL (wIsi cls) (dCons (dVar 0) (dCons (dC (.ty "tuple")) dNil))) (d2 wEq (dL wLen (dCons (dVar 0) dNil)) (dVar 1))))
def W_is_tuple_of : DF := dFn (["value", "many"] : List Str) w_is_tuple_of
def w_is_row : EW → DS := fun EE => (dRet (dAnd (dL (wIsi cls) (dCons (dVar 0) (dCons (dC (.ty "tuple")) dNil))) (dChain wLe wLe (dVar 1) (dL wLen (dCons (dVar 0) dNil)) (dVar 2))))
def W_is_row : DF := dFn (["value", "least", "most"] : List Str) w_is_row
def w_first_wrong (f : Addr) (Wf : DF) : EW → DS := fun EE => (dSeq (dFor (iEnumD (dVar 0)) (gT 2 (gC (gNm 2) (gC (gNm 3) gN))) (dIf (dNotT (dTest (dClo 1 f 2 Wf EE (dCons (dVar 3) (dCons (dSl (dVar 0) dNoP (dPart (dVar 2))) dNil))))) (dRet (dVar 2)) dNext)) (dRet dNon))
def W_first_wrong (f : Addr) (Wf : DF) : DF := dFn (["value", "is_right", "index", "each"] : List Str) (w_first_wrong f Wf)
def w_wrong_name : EW → DS := fun EE => (dRet (dHof 2 W_first_wrong [] (fun EL => (dAnd (dCall 1 W_is_name EL (dCons (dVar 0) dNil)) (dOr (d2 wEq (dVar 1) (dTup dNil)) (d2 wLt (d2 wIx (dVar 1) (d1 wNeg (dInt 1))) (dVar 0))))) EE (dCons (dVar 0) dNil)))
def W_wrong_name : DF := dFn (["value"] : List Str) w_wrong_name
def w_is_one_of : EW → DS := fun EE => (dRet (dAnd (dL (wIsi cls) (dCons (dVar 1) (dCons (dC (.ty "str")) dNil))) (d2 wIn (dVar 1) (dVar 0))))
def W_is_one_of : DF := dFn (["people", "value"] : List Str) w_is_one_of
def w_is_list : EW → DS := fun EE => (dSeq (dIf (dOrT (dNotT (dTest (dL (wIsi cls) (dCons (dVar 2) (dCons (dC (.ty "tuple")) dNil))))) (dNotT (dTest (dL wAll (dCons (dComp (iAny (dVar 2)) (st1 3) dYes (dAnd (dCall 2 W_is_one_of noE (dCons (dVar 0) (dCons (dVar 3) dNil))) (d2 wNe (dVar 3) (dVar 1))) [3]) dNil))))) (dRet (dBl false)) dNext) (dRet (d2 wEq (dLenSet (dVar 2)) (dL wLen (dCons (dVar 2) dNil)))))
def W_is_list : DF := dFn (["people", "person", "value", "each"] : List Str) w_is_list
def w_wrong_list : EW → DS := fun EE => (dRet (dHof 2 W_first_wrong [0] (fun EL => (dCall 3 W_is_list EL (dCons (dVar 2) (dCons (d2 wIx (dVar 2) (dL wLen (dCons (dVar 1) dNil))) (dCons (dVar 0) dNil))))) EE (dCons (dVar 1) dNil)))
def W_wrong_list : DF := dFn (["people", "value"] : List Str) w_wrong_list
def w_check_people : EW → DS := fun EE => (dSeq (dSet 1 (dIte (dTest (dCall 3 W_is_row EE (dCons (dVar 0) (dCons (dInt 2) (dCons (dInt 8) dNil))))) (dCall 1 W_wrong_name EE (dCons (dVar 0) dNil)) dNon)) (dIf (dOrT (dNotT (dTest (dCall 3 W_is_row EE (dCons (dVar 0) (dCons (dInt 2) (dCons (dInt 8) dNil)))))) (dTest (d2 wNotN (dVar 1) dNon))) (dRaise "InvalidPeople" "index" EE (dVar 1)) dNext))
def W_check_people : DF := dFn (["people", "wrong"] : List Str) w_check_people
def w_check_first : EW → DS := fun EE => (dIf (dNotT (dTest (dCall 2 W_is_one_of EE (dCons (dVar 0) (dCons (dVar 1) dNil))))) (dRaise "UnknownPerson" "given" EE (dVar 1)) dNext)
def W_check_first : DF := dFn (["people", "first"] : List Str) w_check_first
def w_check_lists : EW → DS := fun EE => (dSeq (dIf (dNotT (dTest (dCall 2 W_is_tuple_of EE (dCons (dVar 1) (dCons (dL wLen (dCons (dVar 0) dNil)) dNil))))) (dRaise "InvalidLists" "index" EE dNon) dNext) (dSeq (dSet 2 (dCall 2 W_wrong_list EE (dCons (dVar 0) (dCons (dVar 1) dNil)))) (dIf (dTest (d2 wNotN (dVar 2) dNon)) (dRaise "InvalidLists" "index" EE (dVar 2)) dNext)))
def W_check_lists : DF := dFn (["people", "lists", "wrong"] : List Str) w_check_lists
def w_check_book : EW → DS := fun EE => (dIf (dNotT (dTest (dL (wIsi cls) (dCons (dVar 0) (dCons (dC (.glo "Book")) dNil))))) (dRaise "NotABook" "given" EE (dVar 0)) dNext)
def W_check_book : DF := dFn (["value"] : List Str) w_check_book
def w_parts_of : EW → DS := fun EE => (dSeq (dExpr (dCall 1 W_check_book EE (dCons (dVar 0) dNil))) (dRet (dTup (dCons (dFld "people" (dVar 0)) (dCons (dFld "first" (dVar 0)) (dCons (dFld "lists" (dVar 0)) dNil))))))
def W_parts_of : DF := dFn (["book"] : List Str) w_parts_of
def w_is_person : EW → DS := fun EE => (dRet (dCall 2 W_is_one_of EE (dCons (dFld "people" (dVar 0)) (dCons (dVar 1) dNil))))
def W_is_person : DF := dFn (["book", "value"] : List Str) w_is_person
def w_list_of : EW → DS := fun EE => (dRet (d2 wIx (dFld "lists" (dVar 0)) (dM "tuple" wTIndex (dFld "people" (dVar 0)) (dCons (dVar 1) dNil))))
def W_list_of : DF := dFn (["book", "person"] : List Str) w_list_of
def w_Standing_init : EW → DS := fun EE => (dSeq (sFldD "minute" (dVar 0) (dVar 1)) (dSeq (sFldD "since" (dVar 0) (dVar 2)) (dSeq (sFldD "made" (dVar 0) (dVar 3)) (dSeq (sFldD "last" (dVar 0) (dVar 4)) (sFldD "slept" (dVar 0) (dVar 5))))))
def W_Standing_init : DF := dFn (["self", "minute", "since", "made", "last", "slept"] : List Str) w_Standing_init
def w_begun : EW → DS := fun EE => (dRet (dNew "Standing" 6 W_Standing_init EE (dCons (dInt 0) (dCons (dDict1 (dFld "first" (dVar 0)) (dInt 0)) (dCons dDict0 (dCons dDict0 (dCons dDict0 dNil)))))))
def W_begun : DF := dFn (["book"] : List Str) w_begun
def w_has_form : EW → DS := fun EE => (dSeq (dIf (dOrT (dNotT (dTest (dL (wIsi cls) (dCons (dVar 0) (dCons (dC (.ty "tuple")) dNil))))) (dOrT (dTest (d2 wEq (dL wLen (dCons (dVar 0) dNil)) (dInt 0))) (dNotT (dTest (dCall 1 W_is_string EE (dCons (d2 wIx (dVar 0) (dInt 0)) dNil)))))) (dRet (dBl false)) dNext) (dRet (dAnd (d2 (wInG "SIZES" [("call", .int 3), ("minute", .int 1)]) (d2 wIx (dVar 0) (dInt 0)) (dC (.glo "SIZES"))) (d2 wEq (dL wLen (dCons (dVar 0) dNil)) (d2 (wIxG "SIZES" [("call", .int 3), ("minute", .int 1)]) (dC (.glo "SIZES")) (d2 wIx (dVar 0) (dInt 0)))))))
def W_has_form : DF := dFn (["value"] : List Str) w_has_form
def w_check_deed : EW → DS := fun EE => (dSeq (dIf (dNotT (dTest (dCall 1 W_has_form EE (dCons (dVar 1) dNil)))) (dRaise "InvalidDeed" "index" EE (dInt 0)) dNext) (dSeq (dIf (dAndT (dTest (d2 wEq (d2 wIx (dVar 1) (dInt 0)) (dStr "call"))) (dNotT (dTest (dCall 2 W_is_person EE (dCons (dVar 0) (dCons (d2 wIx (dVar 1) (dInt 1)) dNil)))))) (dRaise "InvalidDeed" "index" EE (dInt 1)) dNext) (dIf (dAndT (dTest (d2 wEq (d2 wIx (dVar 1) (dInt 0)) (dStr "call"))) (dNotT (dTest (dCall 1 W_is_truth EE (dCons (d2 wIx (dVar 1) (dInt 2)) dNil))))) (dRaise "InvalidDeed" "index" EE (dInt 2)) dNext)))
def W_check_deed : DF := dFn (["book", "value"] : List Str) w_check_deed
def w_left_of : EW → DS := fun EE => (dRet (dSl (dCall 2 W_list_of EE (dCons (dVar 0) (dCons (dVar 2) dNil))) (dPart (dM "dict" wGet (dFld "made" (dVar 1)) (dCons (dVar 2) (dCons (dInt 0) dNil)))) dNoP))
def W_left_of : DF := dFn (["book", "standing", "caller"] : List Str) w_left_of
def w_knows_ahead : EW → DS := fun EE => (dRet (dAnd (d2 wIn (dVar 1) (dFld "since" (dVar 0))) (d2 wLt (d2 wIx (dFld "since" (dVar 0)) (dVar 1)) (dFld "minute" (dVar 0)))))
def W_knows_ahead : DF := dFn (["standing", "person"] : List Str) w_knows_ahead
def w_could_call : EW → DS := fun EE => (dSeq (dSet 2 (dLst dNil)) (dSeq (dFor (iAny (dFld "people" (dVar 0))) (gNm 3) (dSeq (dSet 4 (d2 wEq (dM "dict" wGet (dFld "last" (dVar 1)) (dCons (dVar 3) dNil)) (dFld "minute" (dVar 1)))) (dIf (dAndT (dTest (dCall 2 W_knows_ahead EE (dCons (dVar 1) (dCons (dVar 3) dNil)))) (dAndT (dTest (d2 wNe (dCall 3 W_left_of EE (dCons (dVar 0) (dCons (dVar 1) (dCons (dVar 3) dNil)))) (dTup dNil))) (dNotT (dTest (dVar 4))))) (dExpr (dM "list" wAppend (dVar 2) (dCons (dVar 3) dNil))) dNext))) (dRet (dL wTuple (dCons (dVar 2) dNil)))))
def W_could_call : DF := dFn (["book", "standing", "found", "person", "has_called"] : List Str) w_could_call
def w_is_over_by : EW → DS := fun EE => (dRet (dL wAll (dCons (dComp (iAny (dFld "since" (dVar 1))) (st1 2) dYes (d2 wEq (dCall 3 W_left_of noE (dCons (dVar 0) (dCons (dVar 1) (dCons (dVar 2) dNil)))) (dTup dNil)) [2]) dNil)))
def W_is_over_by : DF := dFn (["book", "standing", "person"] : List Str) w_is_over_by
def w_standing_behind : EW → DS := fun EE => (dSeq (dIf (dTest (d2 wEq (d2 wIx (dVar 2) (dInt 0)) (dStr "minute"))) (dRet (dNew "Standing" 6 W_Standing_init EE (dCons (d2 wAdd (dFld "minute" (dVar 1)) (dInt 1)) (dCons (dFld "since" (dVar 1)) (dCons (dFld "made" (dVar 1)) (dCons (dFld "last" (dVar 1)) (dCons (dFld "slept" (dVar 1)) dNil))))))) dNext) (dSeq (dAsg (dSl (dVar 2) (dPart (dInt 1)) dNoP) (gT 2 (gC (gNm 3) (gC (gNm 4) gN)))) (dSeq (dSet 5 (d2 wIx (dCall 3 W_left_of EE (dCons (dVar 0) (dCons (dVar 1) (dCons (dVar 3) dNil)))) (dInt 0))) (dSeq (dPar 6 7 (dL wDict (dCons (dFld "since" (dVar 1)) dNil)) (dL wDict (dCons (dFld "slept" (dVar 1)) dNil))) (dSeq (dIf (dAndT (dTest (dVar 4)) (dTest (d2 wNotIn (dVar 5) (dVar 6)))) (dAsg (dFld "minute" (dVar 1)) (gSb (dVar 6) (dVar 5))) dNext) (dSeq (dIf (dNotT (dTest (dVar 4))) (dAsg (dBl true) (gSb (dVar 7) (dVar 5))) dNext) (dSeq (dSet 8 (dSpread (dFld "made" (dVar 1)) (dVar 3) (d2 wAdd (dM "dict" wGet (dFld "made" (dVar 1)) (dCons (dVar 3) (dCons (dInt 0) dNil))) (dInt 1)))) (dRet (dNew "Standing" 6 W_Standing_init EE (dCons (dFld "minute" (dVar 1)) (dCons (dVar 6) (dCons (dVar 8) (dCons (dSpread (dFld "last" (dVar 1)) (dVar 3) (dFld "minute" (dVar 1))) (dCons (dVar 7) dNil))))))))))))))
def W_standing_behind : DF := dFn (["book", "standing", "deed", "caller", "answers", "called", "since", "slept", "made"] : List Str) w_standing_behind
def w_reason_against_call : EW → DS := fun EE => (dSeq (dIf (dNotT (dTest (dCall 2 W_knows_ahead EE (dCons (dVar 1) (dCons (dVar 2) dNil))))) (dRet (dStr "asleep")) dNext) (dSeq (dSet 4 (dCall 3 W_left_of EE (dCons (dVar 0) (dCons (dVar 1) (dCons (dVar 2) dNil))))) (dSeq (dIf (dTest (d2 wEq (dVar 4) (dTup dNil))) (dRet (dStr "done")) dNext) (dSeq (dIf (dTest (d2 wEq (dM "dict" wGet (dFld "last" (dVar 1)) (dCons (dVar 2) dNil)) (dFld "minute" (dVar 1)))) (dRet (dStr "called")) dNext) (dSeq (dIf (dAndT (dTest (d2 wIn (d2 wIx (dVar 4) (dInt 0)) (dFld "since" (dVar 1)))) (dNotT (dTest (dVar 3)))) (dRet (dStr "awake")) dNext) (dRet (dIte (dAndT (dTest (d2 wIn (d2 wIx (dVar 4) (dInt 0)) (dFld "slept" (dVar 1)))) (dTest (dVar 3))) (dStr "slept") dNon)))))))
def W_reason_against_call : DF := dFn (["book", "standing", "caller", "answers", "left"] : List Str) w_reason_against_call
def w_reason_against : EW → DS := fun EE => (dSeq (dIf (dTest (d2 wEq (d2 wIx (dVar 2) (dInt 0)) (dStr "call"))) (dRet (dCall 4 W_reason_against_call EE (dCons (dVar 0) (dCons (dVar 1) (dCons (d2 wIx (dVar 2) (dInt 1)) (dCons (d2 wIx (dVar 2) (dInt 2)) dNil)))))) dNext) (dRet (dIte (dTest (d2 wNe (dCall 2 W_could_call EE (dCons (dVar 0) (dCons (dVar 1) dNil))) (dTup dNil))) (dStr "due") dNon)))
def W_reason_against : DF := dFn (["book", "standing", "deed"] : List Str) w_reason_against
def w_check_barred : EW → DS := fun EE => (dSeq (dSet 3 (dCall 3 W_reason_against EE (dCons (dVar 0) (dCons (dVar 1) (dCons (dVar 2) dNil))))) (dIf (dTest (d2 wNotN (dVar 3) dNon)) (dRaise "Barred" "reason" EE (dVar 3)) dNext))
def W_check_barred : DF := dFn (["book", "standing", "deed", "reason"] : List Str) w_check_barred
def w__law_pool : EW → DS := fun EE => (dSeq (dPar 2 3 (dIte (dTest (d2 wLt (dVar 1) (dL wLen (dCons (dVar 0) dNil)))) (dL wInt (dCons (d2 wIx (dVar 0) (dVar 1)) dNil)) (d2 wAdd (d2 wMul (dInt 70001) (dVar 1)) (dInt 89))) (d2 wAdd (dInt 60013) (d2 wMul (dInt 5003) (dVar 1)))) (dSeq (dFor (iAny (dSl (dVar 0) dNoP (dPart (dInt 6)))) (gNm 4) (dSet 3 (d2 wMod (dL wInt (dCons (d2 wAdd (d2 wAdd (d2 wMul (dVar 3) (dInt 48271)) (d2 wMod (dL wInt (dCons (dVar 4) dNil)) (dInt 2147482937))) (dInt 43)) dNil)) (dInt 2147482937)))) (dRet (dLst (dCons (d2 wMod (dL wInt (dCons (d2 wAdd (dVar 3) (d2 wMul (dVar 2) (dInt 1033))) dNil)) (dInt 2147482937)) (dCons (dIte (dOrT (dTest (d2 wLt (dVar 2) (dInt 0))) (dTest (d2 wGe (dVar 2) (d2 wPow (dInt 10) (dInt 18))))) (dL wAbs (dCons (dVar 2) dNil)) (dInt 0)) (dCons (dInt 0) dNil)))))))
def W__law_pool : DF := dFn (["script", "turn", "own", "stirred", "cell"] : List Str) w__law_pool
def w__law_draw : EW → DS := fun EE => (dSeq (dIf (dTest (d2 wGt (d2 wIx (dVar 0) (dInt 1)) (dInt 0))) (dSeq (dAsg (dL wDivmod (dCons (d2 wIx (dVar 0) (dInt 1)) (dCons (dVar 1) dNil))) (gT 2 (gC (gSb (dVar 0) (dInt 1)) (gC (gNm 2) gN)))) (dRet (dVar 2))) dNext) (dSeq (dAsg (d2 wAdd (d2 wIx (dVar 0) (dInt 2)) (dInt 1)) (gSb (dVar 0) (dInt 2))) (dSeq (dSet 3 (dL wInt (dCons (d2 wIx (dVar 0) (dInt 0)) dNil))) (dSeq (dAsg (d2 wMod (dL wInt (dCons (d2 wAdd (d2 wAdd (d2 wMul (dVar 3) (d2 wAdd (d2 wMod (dVar 3) (dInt 20011)) (dInt 30011))) (d2 wMul (dInt 70001) (d2 wIx (dVar 0) (dInt 2)))) (dInt 9)) dNil)) (dInt 2147482937)) (gSb (dVar 0) (dInt 0))) (dRet (d2 wMod (dL wInt (dCons (d2 wDiv (d2 wIx (dVar 0) (dInt 0)) (dInt 128)) dNil)) (dVar 1)))))))
def W__law_draw : DF := dFn (["pool", "many", "figure", "held"] : List Str) w__law_draw
def w__law_pick : EW → DS := fun EE => (dRet (d2 wIx (dVar 1) (dCall 2 W__law_draw EE (dCons (dVar 0) (dCons (dL wLen (dCons (dVar 1) dNil)) dNil)))))
def W__law_pick : DF := dFn (["pool", "some"] : List Str) w__law_pick
def w__law_book : EW → DS := fun EE => (dSeq (dSet 3 (dSl (dTup (dCons (dStr "ann") (dCons (dStr "ben") (dCons (dStr "cal") (dCons (dStr "dan") (dCons (dStr "eve") (dCons (dStr "fay") dNil))))))) dNoP (dPart (d2 wAdd (dInt 2) (dCall 2 W__law_draw EE (dCons (dVar 0) (dCons (d2 wSub (dVar 1) (dInt 1)) dNil))))))) (dSeq (dSet 4 (dTup dNil)) (dSeq (dFor (iAny (dVar 3)) (gNm 5) (dSeq (dPar 6 7 (dComp (iAny (dVar 3)) (st1 9) (dTest (d2 wNe (dVar 9) (dVar 5))) (dVar 9) [9]) (dTup dNil)) (dSeq (dFor (iRange1 (dL wMin (dCons (dL wLen (dCons (dVar 6) dNil)) (dCons (dCall 2 W__law_draw EE (dCons (dVar 0) (dCons (d2 wAdd (dVar 2) (dInt 1)) dNil))) dNil)))) (gNm 8) (dSet 7 (d2 wAdd (dVar 7) (dTup (dCons (dM "list" wPopAt (dVar 6) (dCons (dCall 2 W__law_draw EE (dCons (dVar 0) (dCons (dL wLen (dCons (dVar 6) dNil)) dNil))) dNil)) dNil))))) (dSet 4 (d2 wAdd (dVar 4) (dTup (dCons (dVar 7) dNil))))))) (dRet (dTup (dCons (dVar 3) (dCons (dCall 2 W__law_pick EE (dCons (dVar 0) (dCons (dVar 3) dNil))) (dCons (dVar 4) dNil))))))))
def W__law_book : DF := dFn (["pool", "most", "each", "people", "lists", "name", "others", "own", "lap", "other"] : List Str) w__law_book
def w__law_small : EW → DS := fun EE => (dRet (dCall 3 W__law_book EE (dCons (dVar 0) (dCons (dInt 5) (dCons (dInt 3) dNil)))))
def W__law_small : DF := dFn (["pool"] : List Str) w__law_small
def w_Book_init : EW → DS := fun EE => (dSeq (dExpr (dCall 1 W_check_people EE (dCons (dVar 1) dNil))) (dSeq (dExpr (dCall 2 W_check_first EE (dCons (dVar 1) (dCons (dVar 2) dNil)))) (dSeq (dExpr (dCall 2 W_check_lists EE (dCons (dVar 1) (dCons (dVar 3) dNil)))) (dSeq (sFldD "people" (dVar 0) (dVar 1)) (dSeq (sFldD "first" (dVar 0) (dVar 2)) (sFldD "lists" (dVar 0) (dVar 3)))))))
def W_Book_init : DF := dFn (["self", "people", "first", "lists"] : List Str) w_Book_init
def w__law_made : EW → DS := fun EE => (dRet (dNew "Book" 4 W_Book_init EE (dCons (d2 wIx (dVar 0) (dInt 0)) (dCons (d2 wIx (dVar 0) (dInt 1)) (dCons (d2 wIx (dVar 0) (dInt 2)) dNil)))))
def W__law_made : DF := dFn (["book"] : List Str) w__law_made
def w__law_list : EW → DS := fun EE => (dRet (d2 wIx (d2 wIx (dVar 0) (dInt 2)) (dM "tuple" wTIndex (d2 wIx (dVar 0) (dInt 0)) (dCons (dVar 1) dNil))))
def W__law_list : DF := dFn (["book", "name"] : List Str) w__law_list
def w_Morning_move_to : EW → DS := fun EE => (dSeq (sFldD "standing" (dVar 0) (dVar 1)) (dSeq (sFldD "minute" (dVar 0) (dFld "minute" (dVar 1))) (dSeq (sFldD "knowing" (dVar 0) (dL wTuple (dCons (dL wSorted (dCons (dFld "since" (dVar 1)) dNil)) dNil))) (sFldD "sleeping" (dVar 0) (dL wTuple (dCons (dL wSorted (dCons (dFld "slept" (dVar 1)) dNil)) dNil))))))
def W_Morning_move_to : DF := dFn (["self", "standing"] : List Str) w_Morning_move_to
def w_Morning_do : EW → DS := fun EE => (dSeq (dExpr (dCall 2 W_check_deed EE (dCons (dFld "book" (dVar 0)) (dCons (dVar 1) dNil)))) (dSeq (dExpr (dCall 3 W_check_barred EE (dCons (dFld "book" (dVar 0)) (dCons (dFld "standing" (dVar 0)) (dCons (dVar 1) dNil))))) (dSeq (dExpr (dM "list" wAppend (dFld "past" (dVar 0)) (dCons (dFld "standing" (dVar 0)) dNil))) (dSeq (sFldD "deeds" (dVar 0) (d2 wAdd (dFld "deeds" (dVar 0)) (dTup (dCons (dVar 1) dNil)))) (dExpr (dMet "Morning" "move_to" 2 W_Morning_move_to EE (dVar 0) (dCons (dCall 3 W_standing_behind EE (dCons (dFld "book" (dVar 0)) (dCons (dFld "standing" (dVar 0)) (dCons (dVar 1) dNil)))) dNil)))))))
def W_Morning_do : DF := dFn (["self", "deed"] : List Str) w_Morning_do
def w__law_barred : EW → DS := fun EE => (dSeq (dTryAs subX "Barred" 2 (fun E1 => (dExpr (dMet "Morning" "do" 2 W_Morning_do E1 (dVar 0) (dCons (dVar 1) dNil)))) (fun a ex => (dRet (dXf a ex "reason" (dVar 2)))) EE) (dRet (dStr "")))
def W__law_barred : DF := dFn (["morning", "deed", "e"] : List Str) w__law_barred
def w__law_begun : EW → DS := fun EE => (dRet (dTup (dCons (dInt 0) (dCons (dDict1 (d2 wIx (dVar 0) (dInt 1)) (dInt 0)) (dCons (dLst dNil) (dCons dDict0 (dCons dDict0 dNil)))))))
def W__law_begun : DF := dFn (["book"] : List Str) w__law_begun
def w__law_may_call : EW → DS := fun EE => (dSeq (dAsg (dVar 1) (gT 5 (gC (gNm 2) (gC (gNm 3) (gC (gNm 4) (gC (gNm 5) (gC (gNm 6) gN))))))) (dSeq (dSet 7 (dLst dNil)) (dSeq (dFor (iAny (d2 wIx (dVar 0) (dInt 0))) (gNm 8) (dIf (dAndT (dTest (d2 wIn (dVar 8) (dVar 3))) (dAndT (dTest (d2 wLt (d2 wIx (dVar 3) (dVar 8)) (dVar 2))) (dTest (d2 wLt (dM "dict" wGet (dVar 5) (dCons (dVar 8) (dCons (dInt 0) dNil))) (dL wLen (dCons (dCall 2 W__law_list EE (dCons (dVar 0) (dCons (dVar 8) dNil))) dNil)))))) (dIf (dTest (d2 wNe (dM "dict" wGet (dVar 6) (dCons (dVar 8) dNil)) (dVar 2))) (dExpr (dM "list" wAppend (dVar 7) (dCons (dVar 8) dNil))) dNext) dNext)) (dRet (dL wTuple (dCons (dVar 7) dNil))))))
def W__law_may_call : DF := dFn (["book", "now", "minute", "knows", "slept", "made", "last", "found", "name"] : List Str) w__law_may_call
def w__law_deed : EW → DS := fun EE => (dSeq (dPar 3 4 (dCall 2 W__law_draw EE (dCons (dVar 0) (dCons (dInt 7) dNil))) (dCall 2 W__law_may_call EE (dCons (dVar 1) (dCons (dVar 2) dNil)))) (dSeq (dIf (dOrT (dAndT (dTest (d2 wLt (dVar 3) (dInt 2))) (dTest (d2 wEq (dVar 4) (dTup dNil)))) (dTest (d2 wEq (dVar 3) (dInt 0)))) (dRet (dTup (dCons (dStr "minute") dNil))) dNext) (dSeq (dSet 5 (dIte (dAndT (dTest (d2 wNe (dVar 4) (dTup dNil))) (dTest (d2 wLt (dVar 3) (dInt 6)))) (dCall 2 W__law_pick EE (dCons (dVar 0) (dCons (dVar 4) dNil))) (dCall 2 W__law_pick EE (dCons (dVar 0) (dCons (d2 wIx (dVar 1) (dInt 0)) dNil))))) (dSeq (dPar 6 7 (dM "dict" wGet (d2 wIx (dVar 2) (dInt 3)) (dCons (dVar 5) (dCons (dInt 0) dNil))) (d2 wGt (dCall 2 W__law_draw EE (dCons (dVar 0) (dCons (dInt 3) dNil))) (dInt 0))) (dSeq (dIf (dAndT (dTest (d2 wLt (dVar 3) (dInt 5))) (dTest (d2 wLt (dVar 6) (dL wLen (dCons (dCall 2 W__law_list EE (dCons (dVar 1) (dCons (dVar 5) dNil))) dNil))))) (dSeq (dSet 8 (d2 wIx (dCall 2 W__law_list EE (dCons (dVar 1) (dCons (dVar 5) dNil))) (dVar 6))) (dSet 7 (dIte (dTest (d2 wIn (dVar 8) (d2 wIx (dVar 2) (dInt 1)))) (dBl true) (dIte (dTest (d2 wIn (dVar 8) (d2 wIx (dVar 2) (dInt 2)))) (dBl false) (dVar 7))))) dNext) (dRet (dTup (dCons (dStr "call") (dCons (dVar 5) (dCons (dVar 7) dNil))))))))))
def W__law_deed : DF := dFn (["pool", "book", "now", "way", "some", "name", "at", "answers", "called"] : List Str) w__law_deed
def w__law_behind : EW → DS := fun EE => (dSeq (dAsg (dVar 1) (gT 5 (gC (gNm 3) (gC (gNm 4) (gC (gNm 5) (gC (gNm 6) (gC (gNm 7) gN))))))) (dSeq (dIf (dTest (d2 wEq (d2 wIx (dVar 2) (dInt 0)) (dStr "minute"))) (dRet (dTup (dCons (d2 wAdd (dVar 3) (dInt 1)) (dCons (dVar 4) (dCons (dVar 5) (dCons (dVar 6) (dCons (dVar 7) dNil))))))) dNext) (dSeq (dPar3 4 6 7 (dCons (dCopyItems (dVar 4)) (dCons (dCopyItems (dVar 6)) (dCons (dCopyItems (dVar 7)) dNil)))) (dSeq (dSet 8 (d2 wIx (dCall 2 W__law_list EE (dCons (dVar 0) (dCons (d2 wIx (dVar 2) (dInt 1)) dNil))) (dM "dict" wGet (dVar 6) (dCons (d2 wIx (dVar 2) (dInt 1)) (dCons (dInt 0) dNil))))) (dSeq (dAsg (d2 wAdd (dM "dict" wGet (dVar 6) (dCons (d2 wIx (dVar 2) (dInt 1)) (dCons (dInt 0) dNil))) (dInt 1)) (gSb (dVar 6) (d2 wIx (dVar 2) (dInt 1)))) (dSeq (dAsg (dVar 3) (gSb (dVar 7) (d2 wIx (dVar 2) (dInt 1)))) (dSeq (dIf (dAndT (dTest (d2 wIx (dVar 2) (dInt 2))) (dTest (d2 wNotIn (dVar 8) (dVar 4)))) (dAsg (dVar 3) (gSb (dVar 4) (dVar 8))) dNext) (dRet (dTup (dCons (dVar 3) (dCons (dVar 4) (dCons (dIte (dOrT (dTest (d2 wIx (dVar 2) (dInt 2))) (dTest (d2 wIn (dVar 8) (dVar 5)))) (dVar 5) (d2 wAdd (dVar 5) (dLst (dCons (dVar 8) dNil)))) (dCons (dVar 6) (dCons (dVar 7) dNil))))))))))))))
def W__law_behind : DF := dFn (["book", "now", "deed", "minute", "knows", "slept", "made", "last", "called"] : List Str) w__law_behind
def w_Morning_is_over : EW → DS := fun EE => (dRet (dCall 2 W_is_over_by EE (dCons (dFld "book" (dVar 0)) (dCons (dFld "standing" (dVar 0)) dNil))))
def W_Morning_is_over : DF := dFn (["self"] : List Str) w_Morning_is_over
def w_Morning_may_call : EW → DS := fun EE => (dRet (dCall 2 W_could_call EE (dCons (dFld "book" (dVar 0)) (dCons (dFld "standing" (dVar 0)) dNil))))
def W_Morning_may_call : DF := dFn (["self"] : List Str) w_Morning_may_call
def w__law_told : EW → DS := fun EE => (dRet (dLst (dCons (dFld "minute" (dVar 0)) (dCons (dFld "knowing" (dVar 0)) (dCons (dFld "sleeping" (dVar 0)) (dCons (dMet "Morning" "may_call" 1 W_Morning_may_call EE (dVar 0) dNil) (dCons (dMet "Morning" "is_over" 1 W_Morning_is_over EE (dVar 0) dNil) dNil)))))))
def W__law_told : DF := dFn (["morning"] : List Str) w__law_told
def w__law_refused (f : Addr) (Wf : DF) : EW → DS := fun EE => (dSeq (dTryAs subX "NotABook" 1 (fun E1 => (dExpr (dClo 0 f 0 Wf E1 dNil))) (fun a ex => (dRet (dLst (dCons (dL wReprX (dCons (dXf a ex "given" (dVar 1)) dNil)) (dCons (dXis subX a ex "CallError" (dVar 1)) dNil))))) EE) (dRet dNon))
def W__law_refused (f : Addr) (Wf : DF) : DF := dFn (["call", "e"] : List Str) (w__law_refused f Wf)
def w_Morning_init : EW → DS := fun EE => (dSeq (dExpr (dCall 1 W_check_book EE (dCons (dVar 1) dNil))) (dSeq (sFldD "book" (dVar 0) (dVar 1)) (dSeq (sFldD "deeds" (dVar 0) (dTup dNil)) (dSeq (sFldD "past" (dVar 0) (dLst dNil)) (dExpr (dMet "Morning" "move_to" 2 W_Morning_move_to EE (dVar 0) (dCons (dCall 1 W_begun EE (dCons (dVar 1) dNil)) dNil)))))))
def W_Morning_init : DF := dFn (["self", "book"] : List Str) w_Morning_init
def w_Book___eq__ : EW → DS := fun EE => (dRet (dAnd (dL (wIsi cls) (dCons (dVar 1) (dCons (dC (.glo "Book")) dNil))) (d2 wEq (dCall 1 W_parts_of EE (dCons (dVar 0) dNil)) (dCall 1 W_parts_of EE (dCons (dVar 1) dNil)))))
def W_Book___eq__ : DF := dFn (["self", "other"] : List Str) w_Book___eq__
def w_Morning___eq__ : EW → DS := fun EE => (dRet (dAnd (dL (wIsi cls) (dCons (dVar 1) (dCons (dC (.glo "Morning")) dNil))) (dAnd (d2 (wOwn "Book" W_Book___eq__) (dFld "book" (dVar 0)) (dFld "book" (dVar 1))) (d2 wEq (dFld "deeds" (dVar 0)) (dFld "deeds" (dVar 1))))))
def W_Morning___eq__ : DF := dFn (["self", "other"] : List Str) w_Morning___eq__
def w__law_right : EW → DS := fun EE => (dSeq (dSet 1 (dCall 1 W__law_small EE (dCons (dVar 0) dNil))) (dSeq (dSet 2 (dCall 1 W__law_made EE (dCons (dVar 1) dNil))) (dSeq (dPar3 3 4 5 (dCons (dNew "Morning" 2 W_Morning_init EE (dCons (dVar 2) dNil)) (dCons (dNewK "Morning" 2 1 [0] W_Morning_init EE (dCons (dCall 1 W__law_made EE (dCons (dVar 1) dNil)) dNil)) (dCons (dCall 1 W__law_begun EE (dCons (dVar 1) dNil)) dNil)))) (dSeq (dSet 6 (dLst (dCons (dInt 0) (dCons (dTup (dCons (d2 wIx (dVar 1) (dInt 1)) dNil)) (dCons (dTup dNil) (dCons (dTup dNil) (dCons (d2 wEq (dCall 2 W__law_list EE (dCons (dVar 1) (dCons (d2 wIx (dVar 1) (dInt 1)) dNil))) (dTup dNil)) dNil))))))) (dSeq (dIf (dOrT (dTest (d2 wNe (dL wRepr (dCons (dLst (dCons (dCall 1 W__law_told EE (dCons (dVar 3) dNil)) (dCons (dFld "deeds" (dVar 3)) dNil))) dNil)) (dL wRepr (dCons (dLst (dCons (dVar 6) (dCons (dTup dNil) dNil))) dNil)))) (dNotT (dTest (d2 (wOwn "Book" W_Book___eq__) (dFld "book" (dVar 3)) (dVar 2))))) (dRet (dBl false)) dNext) (dSeq (dIf (dOrT (dNotT (dTest (d2 (wOwn "Morning" W_Morning___eq__) (dVar 3) (dVar 4)))) (dOrT (dTest (d2 (wOwnNe "Morning" W_Morning___eq__) (dVar 3) (dVar 4))) (dOrT (dTest (d2 (wOwn2 "Morning" "Book" W_Morning___eq__) (dVar 3) (dVar 2))) (dTest (d2 (wOwnN "Morning" W_Morning___eq__) (dVar 3) dNon))))) (dRet (dBl false)) dNext) (dSeq (dSet 7 (dCall 1 W__law_small EE (dCons (dVar 0) dNil))) (dSeq (dIf (dTest (d2 wNe (d2 (wOwn "Morning" W_Morning___eq__) (dNew "Morning" 2 W_Morning_init EE (dCons (dCall 1 W__law_made EE (dCons (dVar 7) dNil)) dNil)) (dVar 3)) (d2 wEq (dL wRepr (dCons (dVar 7) dNil)) (dL wRepr (dCons (dVar 1) dNil))))) (dRet (dBl false)) dNext) (dSeq (dFor (iRange1 (dInt 8)) (gNm 8) (dSeq (dSet 9 (dCall 3 W__law_deed EE (dCons (dVar 0) (dCons (dVar 1) (dCons (dVar 5) dNil))))) (dIf (dTest (d2 wEq (dCall 2 W__law_barred EE (dCons (dVar 3) (dCons (dVar 9) dNil))) (dStr ""))) (dSeq (dSet 5 (dCall 3 W__law_behind EE (dCons (dVar 1) (dCons (dVar 5) (dCons (dVar 9) dNil))))) (dSeq (dIf (dOrT (dTest (d2 (wOwn "Morning" W_Morning___eq__) (dVar 3) (dVar 4))) (dOrT (dNotT (dTest (d2 (wOwnNe "Morning" W_Morning___eq__) (dVar 3) (dVar 4)))) (dTest (d2 wNe (dSl (dFld "deeds" (dVar 3)) dNoP (dPart (d1 wNeg (dInt 1)))) (dFld "deeds" (dVar 4)))))) (dRet (dBl false)) dNext) (dSeq (dExpr (dMetK "Morning" "do" 2 1 [0] W_Morning_do EE (dVar 4) (dCons (dVar 9) dNil))) (dIf (dOrT (dNotT (dTest (d2 (wOwn "Morning" W_Morning___eq__) (dVar 3) (dVar 4)))) (dTest (d2 wNe (dCall 1 W__law_told EE (dCons (dVar 3) dNil)) (dCall 1 W__law_told EE (dCons (dVar 4) dNil))))) (dRet (dBl false)) dNext)))) dNext))) (dSeq (dFor (iAny (dLst (dCons dNon (dCons (dInt 5) (dCons (dVar 1) (dCons (dStr "book") (dCons dDict0 dNil))))))) (gNm 10) (dIf (dTest (d2 wNe (dHof 1 W__law_refused [10] (fun EL => (dNew "Morning" 2 W_Morning_init EL (dCons (dVar 0) dNil))) EE dNil) (dLst (dCons (dL wReprX (dCons (dVar 10) dNil)) (dCons (dBl true) dNil))))) (dRet (dBl false)) dNext)) (dRet (dAnd (d2 wEq (dFld "people" (dVar 2)) (d2 wIx (dVar 1) (dInt 0))) (dAnd (d2 wEq (dFld "first" (dVar 2)) (d2 wIx (dVar 1) (dInt 1))) (d2 wEq (dFld "lists" (dVar 2)) (d2 wIx (dVar 1) (dInt 2))))))))))))))))
def W__law_right : DF := dFn (["pool", "book", "made", "morning", "twin", "now", "due", "other", "turn", "deed", "thing"] : List Str) w__law_right
def w_law : EW → DS := fun EE => (dRet (dL wAll (dCons (dComp (iRange1 (dL wMax (dCons (dInt 2) (dCons (dL wMin (dCons (dL wLen (dCons (dVar 0) dNil)) (dCons (dInt 3) dNil))) dNil)))) (st1 1) dYes (dCall 1 W__law_right noE (dCons (dCall 2 W__law_pool noE (dCons (dVar 0) (dCons (dVar 1) dNil))) dNil)) [1]) dNil)))
def W_law : DF := dFn (["script", "turn"] : List Str) w_law
def w_Morning_undo : EW → DS := fun EE => dNever
def W_Morning_undo : DF := dFn (["self"] : List Str) w_Morning_undo
end K78
end
section
set_option Elab.async false
set_option linter.all false
set_option maxRecDepth 100000
set_option maxHeartbeats 4000000
open PySem PySem.Spec L2 DL
namespace K78
def fa : List He.Fa := [.glo "is_truth", .glo "is_string", .glo "is_made_of", .glo "is_name", .glo "is_tuple_of", .glo "is_row", .glo "first_wrong", .glo "wrong_name", .glo "is_one_of", .glo "is_list", .glo "wrong_list", .glo "check_people", .glo "check_first", .glo "check_lists", .glo "check_book", .glo "parts_of", .glo "is_person", .glo "list_of", .glo "begun", .glo "has_form", .glo "check_deed", .glo "left_of", .glo "knows_ahead", .glo "could_call", .glo "is_over_by", .glo "standing_behind", .glo "reason_against_call", .glo "reason_against", .glo "check_barred", .glo "_law_pool", .glo "_law_draw", .glo "_law_pick", .glo "_law_book", .glo "_law_small", .glo "_law_made", .glo "_law_list", .glo "_law_barred", .glo "_law_begun", .glo "_law_may_call", .glo "_law_deed", .glo "_law_behind", .glo "_law_told", .glo "_law_refused", .glo "_law_right", .glo "law", .free "abs", .free "all", .free "bool", .free "dict", .free "divmod", .free "enumerate", .free "int", .free "isinstance", .free "len", .free "list", .free "max", .free "min", .free "range", .free "repr", .free "set", .free "sorted", .free "str", .free "tuple", .glo "Barred", .glo "Book", .glo "CallError", .glo "Morning", .glo "NotABook", .glo "SIZES", .str "ASLEEP" "asleep", .str "AWAKE" "awake", .str "CALLED" "called", .str "DONE" "done", .str "DUE" "due", .str "SLEPT" "slept", .str "SMALL_LETTERS" "abcdefghijklmnopqrstuvwxyz", .int "FEWEST_PEOPLE" 2, .int "LONGEST_NAME" 8, .int "MOST_PEOPLE" 8, .glo "InvalidDeed", .glo "InvalidLists", .glo "InvalidPeople", .glo "UnknownPerson", .mkr "Book", .glo "Standing", .mkr "Standing", .mkr "Morning", .meth "Book" "__eq__", .meth "Morning" "__eq__", .meth "Morning" "move_to", .meth "Morning" "do", .meth "Morning" "undo", .meth "Morning" "may_call", .meth "Morning" "is_over"]
def fn : List He.DefD := [⟨("is_truth", none), "is_truth", "is_truth", defArgs (top 12), defBody (top 12), defScope (top 12), [], []⟩, ⟨("is_string", none), "is_string", "is_string", defArgs (top 13), defBody (top 13), defScope (top 13), [], []⟩, ⟨("is_made_of", none), "is_made_of", "is_made_of", defArgs (top 14), defBody (top 14), defScope (top 14), [], []⟩, ⟨("is_name", none), "is_name", "is_name", defArgs (top 15), defBody (top 15), defScope (top 15), [], []⟩, ⟨("is_tuple_of", none), "is_tuple_of", "is_tuple_of", defArgs (top 16), defBody (top 16), defScope (top 16), [], []⟩, ⟨("is_row", none), "is_row", "is_row", defArgs (top 17), defBody (top 17), defScope (top 17), [], []⟩, ⟨("first_wrong", none), "first_wrong", "first_wrong", defArgs (top 18), defBody (top 18), defScope (top 18), [], []⟩, ⟨("wrong_name", none), "wrong_name", "wrong_name", defArgs (top 22), defBody (top 22), defScope (top 22), [], []⟩, ⟨("is_one_of", none), "is_one_of", "is_one_of", defArgs (top 23), defBody (top 23), defScope (top 23), [], []⟩, ⟨("is_list", none), "is_list", "is_list", defArgs (top 24), defBody (top 24), defScope (top 24), [], []⟩, ⟨("wrong_list", none), "wrong_list", "wrong_list", defArgs (top 25), defBody (top 25), defScope (top 25), [], []⟩, ⟨("check_people", none), "check_people", "check_people", defArgs (top 26), defBody (top 26), defScope (top 26), [], []⟩, ⟨("check_first", none), "check_first", "check_first", defArgs (top 27), defBody (top 27), defScope (top 27), [], []⟩, ⟨("check_lists", none), "check_lists", "check_lists", defArgs (top 28), defBody (top 28), defScope (top 28), [], []⟩, ⟨("check_book", none), "check_book", "check_book", defArgs (top 31), defBody (top 31), defScope (top 31), [], []⟩, ⟨("parts_of", none), "parts_of", "parts_of", defArgs (top 30), defBody (top 30), defScope (top 30), [], []⟩, ⟨("is_person", none), "is_person", "is_person", defArgs (top 32), defBody (top 32), defScope (top 32), [], []⟩, ⟨("list_of", none), "list_of", "list_of", defArgs (top 33), defBody (top 33), defScope (top 33), [], []⟩, ⟨("Standing", some "__init__"), "__init__", "Standing.__init__", defArgs (mthOf (top 42) 0), defBody (mthOf (top 42) 0), defScope (mthOf (top 42) 0), [], []⟩, ⟨("begun", none), "begun", "begun", defArgs (top 43), defBody (top 43), defScope (top 43), [], []⟩, ⟨("has_form", none), "has_form", "has_form", defArgs (top 44), defBody (top 44), defScope (top 44), [], []⟩, ⟨("check_deed", none), "check_deed", "check_deed", defArgs (top 45), defBody (top 45), defScope (top 45), [], []⟩, ⟨("left_of", none), "left_of", "left_of", defArgs (top 46), defBody (top 46), defScope (top 46), [], []⟩, ⟨("knows_ahead", none), "knows_ahead", "knows_ahead", defArgs (top 47), defBody (top 47), defScope (top 47), [], []⟩, ⟨("could_call", none), "could_call", "could_call", defArgs (top 48), defBody (top 48), defScope (top 48), [], []⟩, ⟨("is_over_by", none), "is_over_by", "is_over_by", defArgs (top 49), defBody (top 49), defScope (top 49), [], []⟩, ⟨("standing_behind", none), "standing_behind", "standing_behind", defArgs (top 50), defBody (top 50), defScope (top 50), [], []⟩, ⟨("reason_against_call", none), "reason_against_call", "reason_against_call", defArgs (top 51), defBody (top 51), defScope (top 51), [], []⟩, ⟨("reason_against", none), "reason_against", "reason_against", defArgs (top 52), defBody (top 52), defScope (top 52), [], []⟩, ⟨("check_barred", none), "check_barred", "check_barred", defArgs (top 53), defBody (top 53), defScope (top 53), [], []⟩, ⟨("_law_pool", none), "_law_pool", "_law_pool", defArgs (top 57), defBody (top 57), defScope (top 57), [], []⟩, ⟨("_law_draw", none), "_law_draw", "_law_draw", defArgs (top 58), defBody (top 58), defScope (top 58), [], []⟩, ⟨("_law_pick", none), "_law_pick", "_law_pick", defArgs (top 59), defBody (top 59), defScope (top 59), [], []⟩, ⟨("_law_book", none), "_law_book", "_law_book", defArgs (top 60), defBody (top 60), defScope (top 60), [], []⟩, ⟨("_law_small", none), "_law_small", "_law_small", defArgs (top 61), defBody (top 61), defScope (top 61), [], []⟩, ⟨("Book", some "__init__"), "__init__", "Book.__init__", defArgs (mthOf (top 29) 0), defBody (mthOf (top 29) 0), defScope (mthOf (top 29) 0), [], []⟩, ⟨("_law_made", none), "_law_made", "_law_made", defArgs (top 62), defBody (top 62), defScope (top 62), [], []⟩, ⟨("_law_list", none), "_law_list", "_law_list", defArgs (top 63), defBody (top 63), defScope (top 63), [], []⟩, ⟨("Morning", some "move_to"), "move_to", "Morning.move_to", defArgs (mthOf (top 55) 1), defBody (mthOf (top 55) 1), defScope (mthOf (top 55) 1), [], []⟩, ⟨("Morning", some "do"), "do", "Morning.do", defArgs (mthOf (top 55) 2), defBody (mthOf (top 55) 2), defScope (mthOf (top 55) 2), [], []⟩, ⟨("_law_barred", none), "_law_barred", "_law_barred", defArgs (top 64), defBody (top 64), defScope (top 64), [], []⟩, ⟨("_law_begun", none), "_law_begun", "_law_begun", defArgs (top 65), defBody (top 65), defScope (top 65), [], []⟩, ⟨("_law_may_call", none), "_law_may_call", "_law_may_call", defArgs (top 66), defBody (top 66), defScope (top 66), [], []⟩, ⟨("_law_deed", none), "_law_deed", "_law_deed", defArgs (top 67), defBody (top 67), defScope (top 67), [], []⟩, ⟨("_law_behind", none), "_law_behind", "_law_behind", defArgs (top 68), defBody (top 68), defScope (top 68), [], []⟩, ⟨("Morning", some "is_over"), "is_over", "Morning.is_over", defArgs (mthOf (top 55) 5), defBody (mthOf (top 55) 5), defScope (mthOf (top 55) 5), [], []⟩, ⟨("Morning", some "may_call"), "may_call", "Morning.may_call", defArgs (mthOf (top 55) 4), defBody (mthOf (top 55) 4), defScope (mthOf (top 55) 4), [], []⟩, ⟨("_law_told", none), "_law_told", "_law_told", defArgs (top 69), defBody (top 69), defScope (top 69), [], []⟩, ⟨("_law_refused", none), "_law_refused", "_law_refused", defArgs (top 70), defBody (top 70), defScope (top 70), [], []⟩, ⟨("Morning", some "__init__"), "__init__", "Morning.__init__", defArgs (mthOf (top 55) 0), defBody (mthOf (top 55) 0), defScope (mthOf (top 55) 0), [], []⟩, ⟨("Book", some "__eq__"), "__eq__", "Book.__eq__", defArgs (mthOf (top 29) 1), defBody (mthOf (top 29) 1), defScope (mthOf (top 29) 1), [], []⟩, ⟨("Morning", some "__eq__"), "__eq__", "Morning.__eq__", defArgs (mthOf (top 55) 6), defBody (mthOf (top 55) 6), defScope (mthOf (top 55) 6), [], []⟩, ⟨("_law_right", none), "_law_right", "_law_right", defArgs (top 71), defBody (top 71), defScope (top 71), [], []⟩, ⟨("law", none), "law", "law", defArgs (top 72), defBody (top 72), defScope (top 72), [], []⟩, ⟨("Morning", some "undo"), "undo", "Morning.undo", defArgs (mthOf (top 55) 3), defBody (mthOf (top 55) 3), defScope (mthOf (top 55) 3), [], []⟩, ⟨("Barred", some "__init__"), "__init__", "Barred.__init__", defArgs (mthOf (top 8) 0), defBody (mthOf (top 8) 0), defScope (mthOf (top 8) 0), [], []⟩, ⟨("InvalidDeed", some "__init__"), "__init__", "InvalidDeed.__init__", defArgs (mthOf (top 7) 0), defBody (mthOf (top 7) 0), defScope (mthOf (top 7) 0), [], []⟩, ⟨("InvalidLists", some "__init__"), "__init__", "InvalidLists.__init__", defArgs (mthOf (top 6) 0), defBody (mthOf (top 6) 0), defScope (mthOf (top 6) 0), [], []⟩, ⟨("InvalidPeople", some "__init__"), "__init__", "InvalidPeople.__init__", defArgs (mthOf (top 5) 0), defBody (mthOf (top 5) 0), defScope (mthOf (top 5) 0), [], []⟩, ⟨("NotABook", some "__init__"), "__init__", "NotABook.__init__", defArgs (mthOf (top 4) 0), defBody (mthOf (top 4) 0), defScope (mthOf (top 4) 0), [], []⟩, ⟨("UnknownPerson", some "__init__"), "__init__", "UnknownPerson.__init__", defArgs (mthOf (top 3) 0), defBody (mthOf (top 3) 0), defScope (mthOf (top 3) 0), [], []⟩]
structure KZ (K : PySem.W.Frag) (T : List (Addr × Str)) (w : World) : Prop where
  ok : KOk (cc K T)
  sb : ∀ y ∈ (["Barred", "NotABook"] : List Str), XIn K subX y
  xf : ∀ x y, subX x y = some true → XfC K (He.ga K x)
  xn : ∀ x y, subX x y = some true → ∀ f ∈ xflds, PySem.W.findIn K (.ref (He.ga K x)) f = some none
  oex : ∀ c ∈ (["Barred", "InvalidDeed", "InvalidLists", "InvalidPeople", "NotABook", "UnknownPerson"] : List Str), OexC K (He.ga K c)
  init : ∀ c ∈ (["Barred", "InvalidDeed", "InvalidLists", "InvalidPeople", "NotABook", "UnknownPerson"] : List Str), PySem.W.findIn K (.ref (He.ga K c)) "__init__" = some (some (.ref (He.ma K (He.ga K c) "__init__"))) ∧ PySem.W.typeIn K (.ref (He.ma K (He.ga K c) "__init__")) = some (.type "function")
  xis_CallError : XisC K subX "CallError"
  ne_Morning : NeC K "Morning"
  nf_Morning__Book : NfC K "Morning" "Book"
  gd_SIZES : GDict K w (He.ga K "SIZES") [("call", .int 3), ("minute", .int 1)]
end K78
end
section
set_option Elab.async false
set_option linter.all false
set_option maxRecDepth 100000
set_option maxHeartbeats 0
namespace K78
open PySem PySem.Spec PyProof.Rows L2 DL
def hin : HeadIn := ⟨cls, flds, excs, xflds, ["Barred", "NotABook"], ["Barred", "InvalidDeed", "InvalidLists", "InvalidPeople", "NotABook", "UnknownPerson"], [("SIZES", [("call", .int 3), ("minute", .int 1)])], [("wrong_name", none), ("wrong_list", none), ("_law_right", none)], fun K => xisB K excs "CallError" && neB K "Morning" && nfB K "Morning" "Book"⟩
abbrev RW : PySem.W.OpenRow := PySem.W.OpenLaw.row PySem.Challenge.rw_callchains_k78_mornings_made
abbrev hk : PySem.W.Hook := hookF fa fn hin
def ob (s : PySem.W.SharedT) : He.AlX := obsF fa fn hin (HandSHeadRun.getT s)
theorem ob_eq (s : PySem.W.SharedT) : ob s = hk.obs s.abs := obsF_eq (HandSHeadRun.getT_eq s)
def loose0 : List PySem.Str := ["_wall", "CallError", "UnknownPerson", "NotABook", "InvalidPeople", "InvalidLists", "InvalidDeed", "Barred", "SMALL_LETTERS", "LONGEST_NAME", "is_truth", "is_string", "is_made_of", "is_name", "is_tuple_of", "is_row", "first_wrong", "FEWEST_PEOPLE", "MOST_PEOPLE", "wrong_name", "is_one_of", "is_list", "wrong_list", "check_people", "check_first", "check_lists", "Book", "parts_of", "check_book", "is_person"]
def loose1 : List PySem.Str := ["list_of", "SIZES", "ASLEEP", "DONE", "CALLED", "AWAKE", "SLEPT", "DUE", "Standing", "begun", "has_form", "check_deed", "left_of", "knows_ahead", "could_call", "is_over_by", "standing_behind", "reason_against_call", "reason_against", "check_barred", "Morning", "_law_pool", "_law_draw", "_law_pick", "_law_book", "_law_small", "_law_made", "_law_list", "_law_barred", "_law_begun"]
def loose2 : List PySem.Str := ["_law_may_call", "_law_deed", "_law_behind", "_law_told", "_law_refused", "_law_right"]
abbrev loose : List PySem.Str := loose0 ++ loose1 ++ loose2
theorem run_f (w : World) : HandSHeadRun.RunEq RW (PySem.W.view RW.prog [72]) hk ob 6000 loose (w.withFollow "special-get-raises" false) := by
  intro os
  kernel_rfl
theorem run_t (w : World) : HandSHeadRun.RunEq RW (PySem.W.view RW.prog [72]) hk ob 6000 loose (w.withFollow "special-get-raises" true) := by
  intro os
  kernel_rfl
theorem run (w : World) : HandSHeadRun.RunEq RW (PySem.W.view RW.prog [72]) hk ob 6000 loose w :=
  PySem.W.byRow2 "special-get-raises" (P := fun w => HandSHeadRun.RunEq RW (PySem.W.view RW.prog [72]) hk ob 6000 loose w) run_f run_t w
end K78
end
section
set_option Elab.async false
set_option linter.all false
set_option maxRecDepth 100000
set_option maxHeartbeats 4000000
open PySem PySem.Spec L2 DL
namespace K78
theorem b_is_truth {P : Program} {w : World} {mg : Str → Option Value} {base : Heap} {K : PySem.W.Frag} {T : List (Addr × Str)} {fc : Value} (Y : YK K T mg)  :
    BodyOk (cc K T) P w mg base 0 (["value"] : List Str) "is_truth" (top 12) (He.ga K "is_truth") fc w_is_truth := by
  intro cdv A outer s H E B EE hcd hr tk
  have hU := un_of hr
  have px := psx_of tk
  have nd : ((["value"] : List Str)).Nodup := by decide +kernel
  have po : PassesOwn (model P w) (A.deeper (PyProof.Rows.envOfC "is_truth" (defScope (top 12)) s.heap.objs.size (He.ga K "is_truth") cdv)) (PyProof.Rows.envOfC "is_truth" (defScope (top 12)) s.heap.objs.size (He.ga K "is_truth") cdv) (ctxOf (cc K T) P w mg base (["value"] : List Str) "is_truth" (top 12) (He.ga K "is_truth") cdv A outer s H E).xe := passes_of (X := (ctxOf (cc K T) P w mg base (["value"] : List Str) "is_truth" (top 12) (He.ga K "is_truth") cdv A outer s H E)) rfl
  exact (ds_one (ds_ret (d_isi ⟨rfl, hU⟩ Y.ok rfl (Y.free "isinstance" (by decide)) bt_isinstance (z_d_cons (d_var (pv 0)) (z_d_cons (z_g_ty rfl (Y.free "bool" (by decide)) bt_bool (by decide) (by decide)) d_nil rfl) rfl))))
theorem b_is_string {P : Program} {w : World} {mg : Str → Option Value} {base : Heap} {K : PySem.W.Frag} {T : List (Addr × Str)} {fc : Value} (Y : YK K T mg)  :
    BodyOk (cc K T) P w mg base 0 (["value"] : List Str) "is_string" (top 13) (He.ga K "is_string") fc w_is_string := by
  intro cdv A outer s H E B EE hcd hr tk
  have hU := un_of hr
  have px := psx_of tk
  have nd : ((["value"] : List Str)).Nodup := by decide +kernel
  have po : PassesOwn (model P w) (A.deeper (PyProof.Rows.envOfC "is_string" (defScope (top 13)) s.heap.objs.size (He.ga K "is_string") cdv)) (PyProof.Rows.envOfC "is_string" (defScope (top 13)) s.heap.objs.size (He.ga K "is_string") cdv) (ctxOf (cc K T) P w mg base (["value"] : List Str) "is_string" (top 13) (He.ga K "is_string") cdv A outer s H E).xe := passes_of (X := (ctxOf (cc K T) P w mg base (["value"] : List Str) "is_string" (top 13) (He.ga K "is_string") cdv A outer s H E)) rfl
  exact (ds_one (ds_ret (d_isi ⟨rfl, hU⟩ Y.ok rfl (Y.free "isinstance" (by decide)) bt_isinstance (z_d_cons (d_var (pv 0)) (z_d_cons (z_g_ty rfl (Y.free "str" (by decide)) bt_str (by decide) (by decide)) d_nil rfl) rfl))))
theorem b_is_made_of {P : Program} {w : World} {mg : Str → Option Value} {base : Heap} {K : PySem.W.Frag} {T : List (Addr × Str)} {fc : Value} (Y : YK K T mg)  :
    BodyOk (cc K T) P w mg base 0 (["text", "signs", "sign"] : List Str) "is_made_of" (top 14) (He.ga K "is_made_of") fc w_is_made_of := by
  intro cdv A outer s H E B EE hcd hr tk
  have hU := un_of hr
  have px := psx_of tk
  have nd : ((["text", "signs", "sign"] : List Str)).Nodup := by decide +kernel
  have po : PassesOwn (model P w) (A.deeper (PyProof.Rows.envOfC "is_made_of" (defScope (top 14)) s.heap.objs.size (He.ga K "is_made_of") cdv)) (PyProof.Rows.envOfC "is_made_of" (defScope (top 14)) s.heap.objs.size (He.ga K "is_made_of") cdv) (ctxOf (cc K T) P w mg base (["text", "signs", "sign"] : List Str) "is_made_of" (top 14) (He.ga K "is_made_of") cdv A outer s H E).xe := passes_of (X := (ctxOf (cc K T) P w mg base (["text", "signs", "sign"] : List Str) "is_made_of" (top 14) (He.ga K "is_made_of") cdv A outer s H E)) rfl
  exact (ds_one (ds_ret (d_and (d_ne ⟨rfl, hU⟩ (d_var (pv 0)) d_str) (d_one (z_b_all rfl rfl rfl (Y.free "all" (by decide)) (z_d_cons (z_d_lc (own := [("sign", 2)]) rfl ⟨rfl, hU⟩ rfl nd (di_any ⟨rfl, hU⟩ (d_var (pv 0))) (blk_by rfl) (st1_ok (by decide)) (fun _ _ _ _ _ => pgn 2 nd) (fun _ _ _ _ _ => d_yes) (fun _ _ _ _ _ => (z_d_in ⟨rfl, hU⟩ (d_var (pv 2)) (d_var (pv 1)) rfl)) (fun _ => rfl)) d_nil rfl) rfl rfl)) rfl)))
theorem b_is_name {P : Program} {w : World} {mg : Str → Option Value} {base : Heap} {K : PySem.W.Frag} {T : List (Addr × Str)} {fc : Value} (Y : YK K T mg) (D_is_string : DefOk (cc K T) P w mg base (top 13) "is_string" 1 (["value"] : List Str) W_is_string) (D_is_made_of : DefOk (cc K T) P w mg base (top 14) "is_made_of" 1 (["text", "signs"] : List Str) W_is_made_of) :
    BodyOk (cc K T) P w mg base 1 (["value"] : List Str) "is_name" (top 15) (He.ga K "is_name") fc w_is_name := by
  intro cdv A outer s H E B EE hcd hr tk
  have hU := un_of hr
  have px := psx_of tk
  have nd : ((["value"] : List Str)).Nodup := by decide +kernel
  have po : PassesOwn (model P w) (A.deeper (PyProof.Rows.envOfC "is_name" (defScope (top 15)) s.heap.objs.size (He.ga K "is_name") cdv)) (PyProof.Rows.envOfC "is_name" (defScope (top 15)) s.heap.objs.size (He.ga K "is_name") cdv) (ctxOf (cc K T) P w mg base (["value"] : List Str) "is_name" (top 15) (He.ga K "is_name") cdv A outer s H E).xe := passes_of (X := (ctxOf (cc K T) P w mg base (["value"] : List Str) "is_name" (top 15) (He.ga K "is_name") cdv A outer s H E)) rfl
  exact (ds_one (ds_ret (d_and (z_g_call D_is_string rfl rfl hr (by decide) px rfl (z_d_cons (d_var (pv 0)) d_nil rfl) (by decide) rfl rfl) (d_and (d_le ⟨rfl, hU⟩ (z_b_len rfl rfl (Y.free "len" (by decide)) (z_d_cons (d_var (pv 0)) d_nil rfl) rfl rfl) (z_g_int rfl (Y.int "LONGEST_NAME" 8 (by decide)) (by decide))) (d_one (z_g_call D_is_made_of rfl rfl hr (by decide) px rfl (z_d_cons (d_var (pv 0)) (z_d_cons (z_g_str rfl (Y.str "SMALL_LETTERS" "abcdefghijklmnopqrstuvwxyz" (by decide)) (by decide)) d_nil rfl) rfl) (by decide) rfl rfl)) rfl) rfl)))
theorem b_is_tuple_of {P : Program} {w : World} {mg : Str → Option Value} {base : Heap} {K : PySem.W.Frag} {T : List (Addr × Str)} {fc : Value} (Y : YK K T mg)  :
    BodyOk (cc K T) P w mg base 0 (["value", "many"] : List Str) "is_tuple_of" (top 16) (He.ga K "is_tuple_of") fc w_is_tuple_of := by
  intro cdv A outer s H E B EE hcd hr tk
  have hU := un_of hr
  have px := psx_of tk
  have nd : ((["value", "many"] : List Str)).Nodup := by decide +kernel
  have po : PassesOwn (model P w) (A.deeper (PyProof.Rows.envOfC "is_tuple_of" (defScope (top 16)) s.heap.objs.size (He.ga K "is_tuple_of") cdv)) (PyProof.Rows.envOfC "is_tuple_of" (defScope (top 16)) s.heap.objs.size (He.ga K "is_tuple_of") cdv) (ctxOf (cc K T) P w mg base (["value", "many"] : List Str) "is_tuple_of" (top 16) (He.ga K "is_tuple_of") cdv A outer s H E).xe := passes_of (X := (ctxOf (cc K T) P w mg base (["value", "many"] : List Str) "is_tuple_of" (top 16) (He.ga K "is_tuple_of") cdv A outer s H E)) rfl
  exact (ds_one (ds_ret (d_and (d_isi ⟨rfl, hU⟩ Y.ok rfl (Y.free "isinstance" (by decide)) bt_isinstance (z_d_cons (d_var (pv 0)) (z_d_cons (z_g_ty rfl (Y.free "tuple" (by decide)) bt_tuple (by decide) (by decide)) d_nil rfl) rfl)) (d_one (d_eq ⟨rfl, hU⟩ (z_b_len rfl rfl (Y.free "len" (by decide)) (z_d_cons (d_var (pv 0)) d_nil rfl) rfl rfl) (d_var (pv 1)))) rfl)))
theorem b_is_row {P : Program} {w : World} {mg : Str → Option Value} {base : Heap} {K : PySem.W.Frag} {T : List (Addr × Str)} {fc : Value} (Y : YK K T mg)  :
    BodyOk (cc K T) P w mg base 0 (["value", "least", "most"] : List Str) "is_row" (top 17) (He.ga K "is_row") fc w_is_row := by
  intro cdv A outer s H E B EE hcd hr tk
  have hU := un_of hr
  have px := psx_of tk
  have nd : ((["value", "least", "most"] : List Str)).Nodup := by decide +kernel
  have po : PassesOwn (model P w) (A.deeper (PyProof.Rows.envOfC "is_row" (defScope (top 17)) s.heap.objs.size (He.ga K "is_row") cdv)) (PyProof.Rows.envOfC "is_row" (defScope (top 17)) s.heap.objs.size (He.ga K "is_row") cdv) (ctxOf (cc K T) P w mg base (["value", "least", "most"] : List Str) "is_row" (top 17) (He.ga K "is_row") cdv A outer s H E).xe := passes_of (X := (ctxOf (cc K T) P w mg base (["value", "least", "most"] : List Str) "is_row" (top 17) (He.ga K "is_row") cdv A outer s H E)) rfl
  exact (ds_one (ds_ret (d_and (d_isi ⟨rfl, hU⟩ Y.ok rfl (Y.free "isinstance" (by decide)) bt_isinstance (z_d_cons (d_var (pv 0)) (z_d_cons (z_g_ty rfl (Y.free "tuple" (by decide)) bt_tuple (by decide) (by decide)) d_nil rfl) rfl)) (d_one (z_d_chain op_le o_le op_le o_le (d_var (pv 1)) (z_b_len rfl rfl (Y.free "len" (by decide)) (z_d_cons (d_var (pv 0)) d_nil rfl) rfl rfl) (d_var (pv 2)) (by with_unfolding_all rfl))) rfl)))
theorem b_first_wrong {P : Program} {w : World} {mg : Str → Option Value} {base : Heap} {K : PySem.W.Frag} {T : List (Addr × Str)} (Y : YK K T mg)  :
    ∀ (cdv : Value) (A : Around) (outer : List PySem.Env) (s : Shared) (H : Hp) (E : XK) (B : Anc) (EE : EW) (f : Addr) (Wf : DF), RoomG 4 (A.deeper (PyProof.Rows.envOfC "first_wrong" (defScope (top 18)) s.heap.objs.size (He.ga K "first_wrong") cdv)) → Takes (ctxOf (cc K T) P w mg base (["value", "is_right", "index", "each"] : List Str) "first_wrong" (top 18) (He.ga K "first_wrong") cdv A outer s H E) (upX (cc K T) B EE) → B.H = H → CloAt (cc K T) P w mg base (frs outer) s B 4 f 2 Wf →
      PSsd (cc K T) B (ctxOf (cc K T) P w mg base (["value", "is_right", "index", "each"] : List Str) "first_wrong" (top 18) (He.ga K "first_wrong") cdv A outer s H E) (defBody (top 18)) (w_first_wrong f Wf EE) := by
  intro cdv A outer s H E B EE f Wf hr tk hB F1
  have hA : Fr B.Z B.H B.Z B.H := Fr.refl
  have hU := un_of hr
  have px := psx_of tk
  have nd : ((["value", "is_right", "index", "each"] : List Str)).Nodup := by decide +kernel
  have po : PassesOwn (model P w) (A.deeper (PyProof.Rows.envOfC "first_wrong" (defScope (top 18)) s.heap.objs.size (He.ga K "first_wrong") cdv)) (PyProof.Rows.envOfC "first_wrong" (defScope (top 18)) s.heap.objs.size (He.ga K "first_wrong") cdv) (ctxOf (cc K T) P w mg base (["value", "is_right", "index", "each"] : List Str) "first_wrong" (top 18) (He.ga K "first_wrong") cdv A outer s H E).xe := passes_of (X := (ctxOf (cc K T) P w mg base (["value", "is_right", "index", "each"] : List Str) "first_wrong" (top 18) (He.ga K "first_wrong") cdv A outer s H E)) rfl
  exact (ds_cons (z_ds_for ⟨rfl, hU⟩ rfl po (z_di_enum ⟨rfl, hU⟩ rfl (Y.free "enumerate" (by decide)) (d_var (pv 0)) rfl) (z_dg_tupP ⟨rfl, hU⟩ rfl (z_dg_cons (dg_name (pgn 2 nd)) (z_dg_cons (dg_name (pgn 3 nd)) dg_nil rfl) rfl) rfl rfl) (ds_one (ds_if (d_notT (z_d_tval (z_d_clo (i := 1) rfl F1 hB rfl hA (hr.mono (by decide)) px rfl (by first | exact .inl rfl | exact .inr (.inl rfl)) (z_d_cons (d_var (pv 3)) (z_d_cons (d_sl ⟨rfl, hU⟩ (d_var (pv 0)) d_noP (d_part (d_var (pv 2)))) d_nil rfl) rfl) (by decide) (by decide) rfl rfl) (fun _ => rfl))) (ds_one (ds_ret (d_var (pv 2)))) ds_nil)) (fun _ => rfl)) (ds_one (ds_ret d_non)))
theorem b_wrong_name {P : Program} {w : World} {mg : Str → Option Value} {base : Heap} {K : PySem.W.Frag} {T : List (Addr × Str)} {fc : Value} (Y : YK K T mg) (H_first_wrong : HofOk (cc K T) P w mg base "first_wrong" 5 4 2 2 W_first_wrong) (D_is_name : DefOk (cc K T) P w mg base (top 15) "is_name" 2 (["value"] : List Str) W_is_name) {ca Pt : Addr} (TAh : ∀ (X : Cx), X.base = base → X.mg = mg → X.env.code = fc → X.env.qual = "wrong_name.<locals>." → TabAt (cc K T) X ca Pt) :
    BodyOk (cc K T) P w mg base 5 (["value"] : List Str) "wrong_name" (top 22) (He.ga K "wrong_name") fc w_wrong_name := by
  intro cdv A outer s H E B EE hcd hr tk
  have hU := un_of hr
  have px := psx_of tk
  have nd : ((["value"] : List Str)).Nodup := by decide +kernel
  have po : PassesOwn (model P w) (A.deeper (PyProof.Rows.envOfC "wrong_name" (defScope (top 22)) s.heap.objs.size (He.ga K "wrong_name") cdv)) (PyProof.Rows.envOfC "wrong_name" (defScope (top 22)) s.heap.objs.size (He.ga K "wrong_name") cdv) (ctxOf (cc K T) P w mg base (["value"] : List Str) "wrong_name" (top 22) (He.ga K "wrong_name") cdv A outer s H E).xe := passes_of (X := (ctxOf (cc K T) P w mg base (["value"] : List Str) "wrong_name" (top 22) (He.ga K "wrong_name") cdv A outer s H E)) rfl
  have TA := TAh (ctxOf (cc K T) P w mg base (["value"] : List Str) "wrong_name" (top 22) (He.ga K "wrong_name") cdv A outer s H E) rfl rfl hcd rfl
  exact (ds_one (ds_ret (z_g_hof2 (ps := (["name", "ahead"] : List Str)) (fr := ([] : List Str)) H_first_wrong rfl hr (by decide) px rfl TA ⟨NdefX.nscope_by (by decide +kernel), NdefX.ndef_free (fr := ([] : List Str)) rfl, NdefX.ndef_fr (sc := defScope (top 22)) rfl, rfl, rfl, (fun _ _ _ _ _ us hl => match us, hl with | [_, _], _ => rfl), fun A2 outer2 s2 H2 E2 B2 EL f2 c2 hr2 tkl => (let pxl := psx_of tkl; let hr := hr2; have hU := (un_of hr2); (d_and (z_g_call D_is_name rfl rfl hr (by decide) pxl rfl (z_d_cons (d_var (pv 0)) d_nil rfl) (by decide) rfl rfl) (d_one (d_or (d_eq ⟨rfl, hU⟩ (d_var (pv 1)) (d_tup d_nil)) (d_one (d_lt ⟨rfl, hU⟩ (d_ix ⟨rfl, hU⟩ (d_var (pv 1)) (d_neg ⟨rfl, hU⟩ d_int) (fun _ _ => rfl)) (d_var (pv 0)))) rfl)) rfl))⟩ (d_var (pv 0)) (by decide) rfl)))
theorem b_is_one_of {P : Program} {w : World} {mg : Str → Option Value} {base : Heap} {K : PySem.W.Frag} {T : List (Addr × Str)} {fc : Value} (Y : YK K T mg)  :
    BodyOk (cc K T) P w mg base 0 (["people", "value"] : List Str) "is_one_of" (top 23) (He.ga K "is_one_of") fc w_is_one_of := by
  intro cdv A outer s H E B EE hcd hr tk
  have hU := un_of hr
  have px := psx_of tk
  have nd : ((["people", "value"] : List Str)).Nodup := by decide +kernel
  have po : PassesOwn (model P w) (A.deeper (PyProof.Rows.envOfC "is_one_of" (defScope (top 23)) s.heap.objs.size (He.ga K "is_one_of") cdv)) (PyProof.Rows.envOfC "is_one_of" (defScope (top 23)) s.heap.objs.size (He.ga K "is_one_of") cdv) (ctxOf (cc K T) P w mg base (["people", "value"] : List Str) "is_one_of" (top 23) (He.ga K "is_one_of") cdv A outer s H E).xe := passes_of (X := (ctxOf (cc K T) P w mg base (["people", "value"] : List Str) "is_one_of" (top 23) (He.ga K "is_one_of") cdv A outer s H E)) rfl
  exact (ds_one (ds_ret (d_and (d_isi ⟨rfl, hU⟩ Y.ok rfl (Y.free "isinstance" (by decide)) bt_isinstance (z_d_cons (d_var (pv 1)) (z_d_cons (z_g_ty rfl (Y.free "str" (by decide)) bt_str (by decide) (by decide)) d_nil rfl) rfl)) (d_one (z_d_in ⟨rfl, hU⟩ (d_var (pv 1)) (d_var (pv 0)) rfl)) rfl)))
theorem b_is_list {P : Program} {w : World} {mg : Str → Option Value} {base : Heap} {K : PySem.W.Frag} {T : List (Addr × Str)} {fc : Value} (Y : YK K T mg) (D_is_one_of : DefOk (cc K T) P w mg base (top 23) "is_one_of" 1 (["people", "value"] : List Str) W_is_one_of) :
    BodyOk (cc K T) P w mg base 1 (["people", "person", "value", "each"] : List Str) "is_list" (top 24) (He.ga K "is_list") fc w_is_list := by
  intro cdv A outer s H E B EE hcd hr tk
  have hU := un_of hr
  have px := psx_of tk
  have nd : ((["people", "person", "value", "each"] : List Str)).Nodup := by decide +kernel
  have po : PassesOwn (model P w) (A.deeper (PyProof.Rows.envOfC "is_list" (defScope (top 24)) s.heap.objs.size (He.ga K "is_list") cdv)) (PyProof.Rows.envOfC "is_list" (defScope (top 24)) s.heap.objs.size (He.ga K "is_list") cdv) (ctxOf (cc K T) P w mg base (["people", "person", "value", "each"] : List Str) "is_list" (top 24) (He.ga K "is_list") cdv A outer s H E).xe := passes_of (X := (ctxOf (cc K T) P w mg base (["people", "person", "value", "each"] : List Str) "is_list" (top 24) (He.ga K "is_list") cdv A outer s H E)) rfl
  exact (ds_cons (ds_if (d_pw (d_orT (d_notT (z_d_tval (d_isi ⟨rfl, hU⟩ Y.ok rfl (Y.free "isinstance" (by decide)) bt_isinstance (z_d_cons (d_var (pv 2)) (z_d_cons (z_g_ty rfl (Y.free "tuple" (by decide)) bt_tuple (by decide) (by decide)) d_nil rfl) rfl)) (fun _ => rfl))) (d_or1 (d_notT (z_d_tval (z_b_all rfl rfl rfl (Y.free "all" (by decide)) (z_d_cons (z_d_lc (own := [("each", 3)]) rfl ⟨rfl, hU⟩ rfl nd (di_any ⟨rfl, hU⟩ (d_var (pv 2))) (blk_by rfl) (st1_ok (by decide)) (fun _ _ _ _ _ => pgn 3 nd) (fun _ _ _ _ _ => d_yes) (fun _ _ _ _ _ => (d_and (z_g_call D_is_one_of rfl rfl hr (by decide) psx_no rfl (z_d_cons (d_var (pv 0)) (z_d_cons (d_var (pv 3)) d_nil rfl) rfl) (by decide) rfl rfl) (d_one (d_ne ⟨rfl, hU⟩ (d_var (pv 3)) (d_var (pv 1)))) rfl)) (fun _ => rfl)) d_nil rfl) rfl rfl) (fun _ => rfl)))))) (ds_one (ds_ret d_bl)) ds_nil) (ds_one (ds_ret (d_eq ⟨rfl, hU⟩ (z_d_lenSet ⟨rfl, hU⟩ rfl rfl (Y.free "len" (by decide)) rfl (Y.free "set" (by decide)) (d_var (pv 2)) rfl) (z_b_len rfl rfl (Y.free "len" (by decide)) (z_d_cons (d_var (pv 2)) d_nil rfl) rfl rfl)))))
theorem b_wrong_list {P : Program} {w : World} {mg : Str → Option Value} {base : Heap} {K : PySem.W.Frag} {T : List (Addr × Str)} {fc : Value} (Y : YK K T mg) (H_first_wrong : HofOk (cc K T) P w mg base "first_wrong" 5 4 2 2 W_first_wrong) (D_is_list : DefOk (cc K T) P w mg base (top 24) "is_list" 2 (["people", "person", "value"] : List Str) W_is_list) {ca Pt : Addr} (TAh : ∀ (X : Cx), X.base = base → X.mg = mg → X.env.code = fc → X.env.qual = "wrong_list.<locals>." → TabAt (cc K T) X ca Pt) :
    BodyOk (cc K T) P w mg base 5 (["people", "value"] : List Str) "wrong_list" (top 25) (He.ga K "wrong_list") fc w_wrong_list := by
  intro cdv A outer s H E B EE hcd hr tk
  have hU := un_of hr
  have px := psx_of tk
  have nd : ((["people", "value"] : List Str)).Nodup := by decide +kernel
  have po : PassesOwn (model P w) (A.deeper (PyProof.Rows.envOfC "wrong_list" (defScope (top 25)) s.heap.objs.size (He.ga K "wrong_list") cdv)) (PyProof.Rows.envOfC "wrong_list" (defScope (top 25)) s.heap.objs.size (He.ga K "wrong_list") cdv) (ctxOf (cc K T) P w mg base (["people", "value"] : List Str) "wrong_list" (top 25) (He.ga K "wrong_list") cdv A outer s H E).xe := passes_of (X := (ctxOf (cc K T) P w mg base (["people", "value"] : List Str) "wrong_list" (top 25) (He.ga K "wrong_list") cdv A outer s H E)) rfl
  have TA := TAh (ctxOf (cc K T) P w mg base (["people", "value"] : List Str) "wrong_list" (top 25) (He.ga K "wrong_list") cdv A outer s H E) rfl rfl hcd rfl
  exact (ds_one (ds_ret (z_g_hof2 (ps := (["each", "ahead"] : List Str)) (fr := (["people"] : List Str)) H_first_wrong rfl hr (by decide) px rfl TA ⟨NdefX.nscope_by (by decide +kernel), NdefX.ndef_free (fr := (["people"] : List Str)) rfl, NdefX.ndef_fr (sc := defScope (top 25)) rfl, rfl, rfl, (fun _ _ _ _ _ us hl => match us, hl with | [_, _], _ => rfl), fun A2 outer2 s2 H2 E2 B2 EL f2 c2 hr2 tkl => (let pxl := psx_of tkl; let hr := hr2; have hU := (un_of hr2); (z_g_call D_is_list rfl rfl hr (by decide) pxl rfl (z_d_cons (d_var (pv 2)) (z_d_cons (d_ix ⟨rfl, hU⟩ (d_var (pv 2)) (z_b_len rfl rfl (Y.free "len" (by decide)) (z_d_cons (d_var (pv 1)) d_nil rfl) rfl rfl) (fun _ _ => rfl)) (z_d_cons (d_var (pv 0)) d_nil rfl) rfl) rfl) (by decide) rfl rfl))⟩ (d_var (pv 1)) (by decide) rfl)))
theorem b_check_people {P : Program} {w : World} {mg : Str → Option Value} {base : Heap} {K : PySem.W.Frag} {T : List (Addr × Str)} {fc : Value} (Y : YK K T mg) (D_is_row : DefOk (cc K T) P w mg base (top 17) "is_row" 1 (["value", "least", "most"] : List Str) W_is_row) (D_wrong_name : DefOk (cc K T) P w mg base (top 22) "wrong_name" 6 (["value"] : List Str) W_wrong_name) (X_InvalidPeople : ExcOk (cc K T) P w mg base "InvalidPeople" "index") :
    BodyOk (cc K T) P w mg base 6 (["people", "wrong"] : List Str) "check_people" (top 26) (He.ga K "check_people") fc w_check_people := by
  intro cdv A outer s H E B EE hcd hr tk
  have hU := un_of hr
  have px := psx_of tk
  have nd : ((["people", "wrong"] : List Str)).Nodup := by decide +kernel
  have po : PassesOwn (model P w) (A.deeper (PyProof.Rows.envOfC "check_people" (defScope (top 26)) s.heap.objs.size (He.ga K "check_people") cdv)) (PyProof.Rows.envOfC "check_people" (defScope (top 26)) s.heap.objs.size (He.ga K "check_people") cdv) (ctxOf (cc K T) P w mg base (["people", "wrong"] : List Str) "check_people" (top 26) (He.ga K "check_people") cdv A outer s H E).xe := passes_of (X := (ctxOf (cc K T) P w mg base (["people", "wrong"] : List Str) "check_people" (top 26) (He.ga K "check_people") cdv A outer s H E)) rfl
  exact (ds_cons (z_ds_set (i := 1) nd rfl (by first | exact .inl rfl | exact .inr rfl) (d_ite (z_d_tval (z_g_call D_is_row rfl rfl hr (by decide) px rfl (z_d_cons (d_var (pv 0)) (z_d_cons (z_g_int rfl (Y.int "FEWEST_PEOPLE" 2 (by decide)) (by decide)) (z_d_cons (z_g_int rfl (Y.int "MOST_PEOPLE" 8 (by decide)) (by decide)) d_nil rfl) rfl) rfl) (by decide) rfl rfl) (fun _ => rfl)) (z_g_call D_wrong_name rfl rfl hr (by decide) px rfl (z_d_cons (d_var (pv 0)) d_nil rfl) (by decide) rfl rfl) d_non) rfl (.inl rfl)) (ds_one (ds_if (d_pw (d_orT (d_notT (z_d_tval (z_g_call D_is_row rfl rfl hr (by decide) px rfl (z_d_cons (d_var (pv 0)) (z_d_cons (z_g_int rfl (Y.int "FEWEST_PEOPLE" 2 (by decide)) (by decide)) (z_d_cons (z_g_int rfl (Y.int "MOST_PEOPLE" 8 (by decide)) (by decide)) d_nil rfl) rfl) rfl) (by decide) rfl rfl) (fun _ => rfl))) (d_or1 (d_tisnotN ⟨rfl, hU⟩ (d_var (pv 1)) d_non)))) (ds_one (z_g_raise X_InvalidPeople rfl rfl hr (by decide) tk rfl (d_var (pv 1)) (by decide) rfl rfl)) ds_nil)))
theorem b_check_first {P : Program} {w : World} {mg : Str → Option Value} {base : Heap} {K : PySem.W.Frag} {T : List (Addr × Str)} {fc : Value} (Y : YK K T mg) (D_is_one_of : DefOk (cc K T) P w mg base (top 23) "is_one_of" 1 (["people", "value"] : List Str) W_is_one_of) (X_UnknownPerson : ExcOk (cc K T) P w mg base "UnknownPerson" "given") :
    BodyOk (cc K T) P w mg base 2 (["people", "first"] : List Str) "check_first" (top 27) (He.ga K "check_first") fc w_check_first := by
  intro cdv A outer s H E B EE hcd hr tk
  have hU := un_of hr
  have px := psx_of tk
  have nd : ((["people", "first"] : List Str)).Nodup := by decide +kernel
  have po : PassesOwn (model P w) (A.deeper (PyProof.Rows.envOfC "check_first" (defScope (top 27)) s.heap.objs.size (He.ga K "check_first") cdv)) (PyProof.Rows.envOfC "check_first" (defScope (top 27)) s.heap.objs.size (He.ga K "check_first") cdv) (ctxOf (cc K T) P w mg base (["people", "first"] : List Str) "check_first" (top 27) (He.ga K "check_first") cdv A outer s H E).xe := passes_of (X := (ctxOf (cc K T) P w mg base (["people", "first"] : List Str) "check_first" (top 27) (He.ga K "check_first") cdv A outer s H E)) rfl
  exact (ds_one (ds_if (d_notT (z_d_tval (z_g_call D_is_one_of rfl rfl hr (by decide) px rfl (z_d_cons (d_var (pv 0)) (z_d_cons (d_var (pv 1)) d_nil rfl) rfl) (by decide) rfl rfl) (fun _ => rfl))) (ds_one (z_g_raise X_UnknownPerson rfl rfl hr (by decide) tk rfl (d_var (pv 1)) (by decide) rfl rfl)) ds_nil))
theorem b_check_lists {P : Program} {w : World} {mg : Str → Option Value} {base : Heap} {K : PySem.W.Frag} {T : List (Addr × Str)} {fc : Value} (Y : YK K T mg) (D_is_tuple_of : DefOk (cc K T) P w mg base (top 16) "is_tuple_of" 1 (["value", "many"] : List Str) W_is_tuple_of) (X_InvalidLists : ExcOk (cc K T) P w mg base "InvalidLists" "index") (D_wrong_list : DefOk (cc K T) P w mg base (top 25) "wrong_list" 6 (["people", "value"] : List Str) W_wrong_list) :
    BodyOk (cc K T) P w mg base 6 (["people", "lists", "wrong"] : List Str) "check_lists" (top 28) (He.ga K "check_lists") fc w_check_lists := by
  intro cdv A outer s H E B EE hcd hr tk
  have hU := un_of hr
  have px := psx_of tk
  have nd : ((["people", "lists", "wrong"] : List Str)).Nodup := by decide +kernel
  have po : PassesOwn (model P w) (A.deeper (PyProof.Rows.envOfC "check_lists" (defScope (top 28)) s.heap.objs.size (He.ga K "check_lists") cdv)) (PyProof.Rows.envOfC "check_lists" (defScope (top 28)) s.heap.objs.size (He.ga K "check_lists") cdv) (ctxOf (cc K T) P w mg base (["people", "lists", "wrong"] : List Str) "check_lists" (top 28) (He.ga K "check_lists") cdv A outer s H E).xe := passes_of (X := (ctxOf (cc K T) P w mg base (["people", "lists", "wrong"] : List Str) "check_lists" (top 28) (He.ga K "check_lists") cdv A outer s H E)) rfl
  exact (ds_cons (ds_if (d_notT (z_d_tval (z_g_call D_is_tuple_of rfl rfl hr (by decide) px rfl (z_d_cons (d_var (pv 1)) (z_d_cons (z_b_len rfl rfl (Y.free "len" (by decide)) (z_d_cons (d_var (pv 0)) d_nil rfl) rfl rfl) d_nil rfl) rfl) (by decide) rfl rfl) (fun _ => rfl))) (ds_one (z_g_raise X_InvalidLists rfl rfl hr (by decide) tk rfl d_non (by decide) rfl rfl)) ds_nil) (ds_cons (z_ds_set (i := 2) nd rfl (by first | exact .inl rfl | exact .inr rfl) (z_g_call D_wrong_list rfl rfl hr (by decide) px rfl (z_d_cons (d_var (pv 0)) (z_d_cons (d_var (pv 1)) d_nil rfl) rfl) (by decide) rfl rfl) rfl (.inl rfl)) (ds_one (ds_if (d_tisnotN ⟨rfl, hU⟩ (d_var (pv 2)) d_non) (ds_one (z_g_raise X_InvalidLists rfl rfl hr (by decide) tk rfl (d_var (pv 2)) (by decide) rfl rfl)) ds_nil))))
theorem b_check_book {P : Program} {w : World} {mg : Str → Option Value} {base : Heap} {K : PySem.W.Frag} {T : List (Addr × Str)} {fc : Value} (Y : YK K T mg) (X_NotABook : ExcOk (cc K T) P w mg base "NotABook" "given") :
    BodyOk (cc K T) P w mg base 2 (["value"] : List Str) "check_book" (top 31) (He.ga K "check_book") fc w_check_book := by
  intro cdv A outer s H E B EE hcd hr tk
  have hU := un_of hr
  have px := psx_of tk
  have nd : ((["value"] : List Str)).Nodup := by decide +kernel
  have po : PassesOwn (model P w) (A.deeper (PyProof.Rows.envOfC "check_book" (defScope (top 31)) s.heap.objs.size (He.ga K "check_book") cdv)) (PyProof.Rows.envOfC "check_book" (defScope (top 31)) s.heap.objs.size (He.ga K "check_book") cdv) (ctxOf (cc K T) P w mg base (["value"] : List Str) "check_book" (top 31) (He.ga K "check_book") cdv A outer s H E).xe := passes_of (X := (ctxOf (cc K T) P w mg base (["value"] : List Str) "check_book" (top 31) (He.ga K "check_book") cdv A outer s H E)) rfl
  exact (ds_one (ds_if (d_notT (z_d_tval (d_isi ⟨rfl, hU⟩ Y.ok rfl (Y.free "isinstance" (by decide)) bt_isinstance (z_d_cons (d_var (pv 0)) (z_d_cons (z_g_glo rfl rfl (Y.glo "Book" (by decide)) (by decide)) d_nil rfl) rfl)) (fun _ => rfl))) (ds_one (z_g_raise X_NotABook rfl rfl hr (by decide) tk rfl (d_var (pv 0)) (by decide) rfl rfl)) ds_nil))
theorem b_parts_of {P : Program} {w : World} {mg : Str → Option Value} {base : Heap} {K : PySem.W.Frag} {T : List (Addr × Str)} {fc : Value} (Y : YK K T mg) (D_check_book : DefOk (cc K T) P w mg base (top 31) "check_book" 3 (["value"] : List Str) W_check_book) :
    BodyOk (cc K T) P w mg base 3 (["book"] : List Str) "parts_of" (top 30) (He.ga K "parts_of") fc w_parts_of := by
  intro cdv A outer s H E B EE hcd hr tk
  have hU := un_of hr
  have px := psx_of tk
  have nd : ((["book"] : List Str)).Nodup := by decide +kernel
  have po : PassesOwn (model P w) (A.deeper (PyProof.Rows.envOfC "parts_of" (defScope (top 30)) s.heap.objs.size (He.ga K "parts_of") cdv)) (PyProof.Rows.envOfC "parts_of" (defScope (top 30)) s.heap.objs.size (He.ga K "parts_of") cdv) (ctxOf (cc K T) P w mg base (["book"] : List Str) "parts_of" (top 30) (He.ga K "parts_of") cdv A outer s H E).xe := passes_of (X := (ctxOf (cc K T) P w mg base (["book"] : List Str) "parts_of" (top 30) (He.ga K "parts_of") cdv A outer s H E)) rfl
  exact (ds_cons (z_ds_expr (z_g_call D_check_book rfl rfl hr (by decide) px rfl (z_d_cons (d_var (pv 0)) d_nil rfl) (by decide) rfl rfl) rfl) (ds_one (ds_ret (d_tup (z_d_cons (z_d_fld ⟨rfl, hU⟩ Y.ok (by show ("people" : Str) ∈ flds; decide) (d_var (pv 0)) rfl) (z_d_cons (z_d_fld ⟨rfl, hU⟩ Y.ok (by show ("first" : Str) ∈ flds; decide) (d_var (pv 0)) rfl) (z_d_cons (z_d_fld ⟨rfl, hU⟩ Y.ok (by show ("lists" : Str) ∈ flds; decide) (d_var (pv 0)) rfl) d_nil rfl) rfl) rfl)))))
theorem b_is_person {P : Program} {w : World} {mg : Str → Option Value} {base : Heap} {K : PySem.W.Frag} {T : List (Addr × Str)} {fc : Value} (Y : YK K T mg) (D_is_one_of : DefOk (cc K T) P w mg base (top 23) "is_one_of" 1 (["people", "value"] : List Str) W_is_one_of) :
    BodyOk (cc K T) P w mg base 1 (["book", "value"] : List Str) "is_person" (top 32) (He.ga K "is_person") fc w_is_person := by
  intro cdv A outer s H E B EE hcd hr tk
  have hU := un_of hr
  have px := psx_of tk
  have nd : ((["book", "value"] : List Str)).Nodup := by decide +kernel
  have po : PassesOwn (model P w) (A.deeper (PyProof.Rows.envOfC "is_person" (defScope (top 32)) s.heap.objs.size (He.ga K "is_person") cdv)) (PyProof.Rows.envOfC "is_person" (defScope (top 32)) s.heap.objs.size (He.ga K "is_person") cdv) (ctxOf (cc K T) P w mg base (["book", "value"] : List Str) "is_person" (top 32) (He.ga K "is_person") cdv A outer s H E).xe := passes_of (X := (ctxOf (cc K T) P w mg base (["book", "value"] : List Str) "is_person" (top 32) (He.ga K "is_person") cdv A outer s H E)) rfl
  exact (ds_one (ds_ret (z_g_call D_is_one_of rfl rfl hr (by decide) px rfl (z_d_cons (z_d_fld ⟨rfl, hU⟩ Y.ok (by show ("people" : Str) ∈ flds; decide) (d_var (pv 0)) rfl) (z_d_cons (d_var (pv 1)) d_nil rfl) rfl) (by decide) rfl rfl)))
theorem b_list_of {P : Program} {w : World} {mg : Str → Option Value} {base : Heap} {K : PySem.W.Frag} {T : List (Addr × Str)} {fc : Value} (Y : YK K T mg)  :
    BodyOk (cc K T) P w mg base 0 (["book", "person"] : List Str) "list_of" (top 33) (He.ga K "list_of") fc w_list_of := by
  intro cdv A outer s H E B EE hcd hr tk
  have hU := un_of hr
  have px := psx_of tk
  have nd : ((["book", "person"] : List Str)).Nodup := by decide +kernel
  have po : PassesOwn (model P w) (A.deeper (PyProof.Rows.envOfC "list_of" (defScope (top 33)) s.heap.objs.size (He.ga K "list_of") cdv)) (PyProof.Rows.envOfC "list_of" (defScope (top 33)) s.heap.objs.size (He.ga K "list_of") cdv) (ctxOf (cc K T) P w mg base (["book", "person"] : List Str) "list_of" (top 33) (He.ga K "list_of") cdv A outer s H E).xe := passes_of (X := (ctxOf (cc K T) P w mg base (["book", "person"] : List Str) "list_of" (top 33) (He.ga K "list_of") cdv A outer s H E)) rfl
  exact (ds_one (ds_ret (d_ix ⟨rfl, hU⟩ (z_d_fld ⟨rfl, hU⟩ Y.ok (by show ("lists" : Str) ∈ flds; decide) (d_var (pv 0)) rfl) (z_d_tindex ⟨rfl, hU⟩ (z_d_fld ⟨rfl, hU⟩ Y.ok (by show ("people" : Str) ∈ flds; decide) (d_var (pv 0)) rfl) (z_d_cons (d_var (pv 1)) d_nil rfl) rfl rfl rfl rfl rfl) (fun _ _ => rfl))))
theorem b_Standing_init {P : Program} {w : World} {mg : Str → Option Value} {base : Heap} {K : PySem.W.Frag} {T : List (Addr × Str)} {fc : Value} (Y : YK K T mg)  :
    BodyOk (cc K T) P w mg base 0 (["self", "minute", "since", "made", "last", "slept"] : List Str) "Standing.__init__" (mthOf (top 42) 0) (He.ma K (He.ga K "Standing") "__init__") fc w_Standing_init := by
  intro cdv A outer s H E B EE hcd hr tk
  have hU := un_of hr
  have px := psx_of tk
  have nd : ((["self", "minute", "since", "made", "last", "slept"] : List Str)).Nodup := by decide +kernel
  have po : PassesOwn (model P w) (A.deeper (PyProof.Rows.envOfC "Standing.__init__" (defScope (mthOf (top 42) 0)) s.heap.objs.size (He.ma K (He.ga K "Standing") "__init__") cdv)) (PyProof.Rows.envOfC "Standing.__init__" (defScope (mthOf (top 42) 0)) s.heap.objs.size (He.ma K (He.ga K "Standing") "__init__") cdv) (ctxOf (cc K T) P w mg base (["self", "minute", "since", "made", "last", "slept"] : List Str) "Standing.__init__" (mthOf (top 42) 0) (He.ma K (He.ga K "Standing") "__init__") cdv A outer s H E).xe := passes_of (X := (ctxOf (cc K T) P w mg base (["self", "minute", "since", "made", "last", "slept"] : List Str) "Standing.__init__" (mthOf (top 42) 0) (He.ma K (He.ga K "Standing") "__init__") cdv A outer s H E)) rfl
  exact (ds_cons (z_d_sfld ⟨rfl, hU⟩ Y.ok (by show ("minute" : Str) ∈ flds; decide) (d_var (pv 0)) (d_var (pv 1)) rfl) (ds_cons (z_d_sfld ⟨rfl, hU⟩ Y.ok (by show ("since" : Str) ∈ flds; decide) (d_var (pv 0)) (d_var (pv 2)) rfl) (ds_cons (z_d_sfld ⟨rfl, hU⟩ Y.ok (by show ("made" : Str) ∈ flds; decide) (d_var (pv 0)) (d_var (pv 3)) rfl) (ds_cons (z_d_sfld ⟨rfl, hU⟩ Y.ok (by show ("last" : Str) ∈ flds; decide) (d_var (pv 0)) (d_var (pv 4)) rfl) (ds_one (z_d_sfld ⟨rfl, hU⟩ Y.ok (by show ("slept" : Str) ∈ flds; decide) (d_var (pv 0)) (d_var (pv 5)) rfl))))))
theorem b_begun {P : Program} {w : World} {mg : Str → Option Value} {base : Heap} {K : PySem.W.Frag} {T : List (Addr × Str)} {fc : Value} (Y : YK K T mg) (N_Standing : NewOk (cc K T) P w mg base (mthOf (top 42) 0) "Standing" "Standing.__init__" 1 (["self", "minute", "since", "made", "last", "slept"] : List Str) W_Standing_init) :
    BodyOk (cc K T) P w mg base 2 (["book"] : List Str) "begun" (top 43) (He.ga K "begun") fc w_begun := by
  intro cdv A outer s H E B EE hcd hr tk
  have hU := un_of hr
  have px := psx_of tk
  have nd : ((["book"] : List Str)).Nodup := by decide +kernel
  have po : PassesOwn (model P w) (A.deeper (PyProof.Rows.envOfC "begun" (defScope (top 43)) s.heap.objs.size (He.ga K "begun") cdv)) (PyProof.Rows.envOfC "begun" (defScope (top 43)) s.heap.objs.size (He.ga K "begun") cdv) (ctxOf (cc K T) P w mg base (["book"] : List Str) "begun" (top 43) (He.ga K "begun") cdv A outer s H E).xe := passes_of (X := (ctxOf (cc K T) P w mg base (["book"] : List Str) "begun" (top 43) (He.ga K "begun") cdv A outer s H E)) rfl
  exact (ds_one (ds_ret (z_g_new N_Standing rfl rfl hr (by decide) px rfl (z_d_cons d_int (z_d_cons (d_dict1 (z_d_fld ⟨rfl, hU⟩ Y.ok (by show ("first" : Str) ∈ flds; decide) (d_var (pv 0)) rfl) d_int) (z_d_cons d_dict0 (z_d_cons d_dict0 (z_d_cons d_dict0 d_nil rfl) rfl) rfl) rfl) rfl) (by decide) rfl rfl)))
theorem b_has_form {P : Program} {w : World} {mg : Str → Option Value} {base : Heap} {K : PySem.W.Frag} {T : List (Addr × Str)} {fc : Value} (Y : YK K T mg) (D_is_string : DefOk (cc K T) P w mg base (top 13) "is_string" 1 (["value"] : List Str) W_is_string) (G_SIZES : GDict K w (He.ga K "SIZES") [("call", .int 3), ("minute", .int 1)]) :
    BodyOk (cc K T) P w mg base 1 (["value"] : List Str) "has_form" (top 44) (He.ga K "has_form") fc w_has_form := by
  intro cdv A outer s H E B EE hcd hr tk
  have hU := un_of hr
  have px := psx_of tk
  have nd : ((["value"] : List Str)).Nodup := by decide +kernel
  have po : PassesOwn (model P w) (A.deeper (PyProof.Rows.envOfC "has_form" (defScope (top 44)) s.heap.objs.size (He.ga K "has_form") cdv)) (PyProof.Rows.envOfC "has_form" (defScope (top 44)) s.heap.objs.size (He.ga K "has_form") cdv) (ctxOf (cc K T) P w mg base (["value"] : List Str) "has_form" (top 44) (He.ga K "has_form") cdv A outer s H E).xe := passes_of (X := (ctxOf (cc K T) P w mg base (["value"] : List Str) "has_form" (top 44) (He.ga K "has_form") cdv A outer s H E)) rfl
  exact (ds_cons (ds_if (d_pw (d_orT (d_notT (z_d_tval (d_isi ⟨rfl, hU⟩ Y.ok rfl (Y.free "isinstance" (by decide)) bt_isinstance (z_d_cons (d_var (pv 0)) (z_d_cons (z_g_ty rfl (Y.free "tuple" (by decide)) bt_tuple (by decide) (by decide)) d_nil rfl) rfl)) (fun _ => rfl))) (d_orT (d_teq ⟨rfl, hU⟩ (z_b_len rfl rfl (Y.free "len" (by decide)) (z_d_cons (d_var (pv 0)) d_nil rfl) rfl rfl) d_int) (d_or1 (d_notT (z_d_tval (z_g_call D_is_string rfl rfl hr (by decide) px rfl (z_d_cons (d_ix ⟨rfl, hU⟩ (d_var (pv 0)) d_int (fun _ _ => rfl)) d_nil rfl) (by decide) rfl rfl) (fun _ => rfl))))))) (ds_one (ds_ret d_bl)) ds_nil) (ds_one (ds_ret (d_and (z_d_inG rfl G_SIZES (d_ix ⟨rfl, hU⟩ (d_var (pv 0)) d_int (fun _ _ => rfl)) (z_g_glo rfl rfl (Y.glo "SIZES" (by decide)) (by decide)) rfl) (d_one (d_eq ⟨rfl, hU⟩ (z_b_len rfl rfl (Y.free "len" (by decide)) (z_d_cons (d_var (pv 0)) d_nil rfl) rfl rfl) (z_d_ixG rfl G_SIZES (z_g_glo rfl rfl (Y.glo "SIZES" (by decide)) (by decide)) (d_ix ⟨rfl, hU⟩ (d_var (pv 0)) d_int (fun _ _ => rfl)) (fun _ _ => rfl)))) rfl))))
theorem b_check_deed {P : Program} {w : World} {mg : Str → Option Value} {base : Heap} {K : PySem.W.Frag} {T : List (Addr × Str)} {fc : Value} (Y : YK K T mg) (D_has_form : DefOk (cc K T) P w mg base (top 44) "has_form" 2 (["value"] : List Str) W_has_form) (X_InvalidDeed : ExcOk (cc K T) P w mg base "InvalidDeed" "index") (D_is_person : DefOk (cc K T) P w mg base (top 32) "is_person" 2 (["book", "value"] : List Str) W_is_person) (D_is_truth : DefOk (cc K T) P w mg base (top 12) "is_truth" 1 (["value"] : List Str) W_is_truth) :
    BodyOk (cc K T) P w mg base 2 (["book", "value"] : List Str) "check_deed" (top 45) (He.ga K "check_deed") fc w_check_deed := by
  intro cdv A outer s H E B EE hcd hr tk
  have hU := un_of hr
  have px := psx_of tk
  have nd : ((["book", "value"] : List Str)).Nodup := by decide +kernel
  have po : PassesOwn (model P w) (A.deeper (PyProof.Rows.envOfC "check_deed" (defScope (top 45)) s.heap.objs.size (He.ga K "check_deed") cdv)) (PyProof.Rows.envOfC "check_deed" (defScope (top 45)) s.heap.objs.size (He.ga K "check_deed") cdv) (ctxOf (cc K T) P w mg base (["book", "value"] : List Str) "check_deed" (top 45) (He.ga K "check_deed") cdv A outer s H E).xe := passes_of (X := (ctxOf (cc K T) P w mg base (["book", "value"] : List Str) "check_deed" (top 45) (He.ga K "check_deed") cdv A outer s H E)) rfl
  exact (ds_cons (ds_if (d_notT (z_d_tval (z_g_call D_has_form rfl rfl hr (by decide) px rfl (z_d_cons (d_var (pv 1)) d_nil rfl) (by decide) rfl rfl) (fun _ => rfl))) (ds_one (z_g_raise X_InvalidDeed rfl rfl hr (by decide) tk rfl d_int (by decide) rfl rfl)) ds_nil) (ds_cons (ds_if (d_pw (d_andT (d_teq ⟨rfl, hU⟩ (d_ix ⟨rfl, hU⟩ (d_var (pv 1)) d_int (fun _ _ => rfl)) d_str) (d_and1 (d_notT (z_d_tval (z_g_call D_is_person rfl rfl hr (by decide) px rfl (z_d_cons (d_var (pv 0)) (z_d_cons (d_ix ⟨rfl, hU⟩ (d_var (pv 1)) d_int (fun _ _ => rfl)) d_nil rfl) rfl) (by decide) rfl rfl) (fun _ => rfl)))))) (ds_one (z_g_raise X_InvalidDeed rfl rfl hr (by decide) tk rfl d_int (by decide) rfl rfl)) ds_nil) (ds_one (ds_if (d_pw (d_andT (d_teq ⟨rfl, hU⟩ (d_ix ⟨rfl, hU⟩ (d_var (pv 1)) d_int (fun _ _ => rfl)) d_str) (d_and1 (d_notT (z_d_tval (z_g_call D_is_truth rfl rfl hr (by decide) px rfl (z_d_cons (d_ix ⟨rfl, hU⟩ (d_var (pv 1)) d_int (fun _ _ => rfl)) d_nil rfl) (by decide) rfl rfl) (fun _ => rfl)))))) (ds_one (z_g_raise X_InvalidDeed rfl rfl hr (by decide) tk rfl d_int (by decide) rfl rfl)) ds_nil))))
theorem b_left_of {P : Program} {w : World} {mg : Str → Option Value} {base : Heap} {K : PySem.W.Frag} {T : List (Addr × Str)} {fc : Value} (Y : YK K T mg) (D_list_of : DefOk (cc K T) P w mg base (top 33) "list_of" 1 (["book", "person"] : List Str) W_list_of) :
    BodyOk (cc K T) P w mg base 1 (["book", "standing", "caller"] : List Str) "left_of" (top 46) (He.ga K "left_of") fc w_left_of := by
  intro cdv A outer s H E B EE hcd hr tk
  have hU := un_of hr
  have px := psx_of tk
  have nd : ((["book", "standing", "caller"] : List Str)).Nodup := by decide +kernel
  have po : PassesOwn (model P w) (A.deeper (PyProof.Rows.envOfC "left_of" (defScope (top 46)) s.heap.objs.size (He.ga K "left_of") cdv)) (PyProof.Rows.envOfC "left_of" (defScope (top 46)) s.heap.objs.size (He.ga K "left_of") cdv) (ctxOf (cc K T) P w mg base (["book", "standing", "caller"] : List Str) "left_of" (top 46) (He.ga K "left_of") cdv A outer s H E).xe := passes_of (X := (ctxOf (cc K T) P w mg base (["book", "standing", "caller"] : List Str) "left_of" (top 46) (He.ga K "left_of") cdv A outer s H E)) rfl
  exact (ds_one (ds_ret (d_sl ⟨rfl, hU⟩ (z_g_call D_list_of rfl rfl hr (by decide) px rfl (z_d_cons (d_var (pv 0)) (z_d_cons (d_var (pv 2)) d_nil rfl) rfl) (by decide) rfl rfl) (d_part (z_d_meth ⟨rfl, hU⟩ (Mth.get (C := cc K T) ⟨rfl, hU⟩) o_get (z_d_fld ⟨rfl, hU⟩ Y.ok (by show ("made" : Str) ∈ flds; decide) (d_var (pv 1)) rfl) (z_d_cons (d_var (pv 2)) (z_d_cons d_int d_nil rfl) rfl) rfl rfl rfl rfl rfl (by decide))) d_noP)))
theorem b_knows_ahead {P : Program} {w : World} {mg : Str → Option Value} {base : Heap} {K : PySem.W.Frag} {T : List (Addr × Str)} {fc : Value} (Y : YK K T mg)  :
    BodyOk (cc K T) P w mg base 0 (["standing", "person"] : List Str) "knows_ahead" (top 47) (He.ga K "knows_ahead") fc w_knows_ahead := by
  intro cdv A outer s H E B EE hcd hr tk
  have hU := un_of hr
  have px := psx_of tk
  have nd : ((["standing", "person"] : List Str)).Nodup := by decide +kernel
  have po : PassesOwn (model P w) (A.deeper (PyProof.Rows.envOfC "knows_ahead" (defScope (top 47)) s.heap.objs.size (He.ga K "knows_ahead") cdv)) (PyProof.Rows.envOfC "knows_ahead" (defScope (top 47)) s.heap.objs.size (He.ga K "knows_ahead") cdv) (ctxOf (cc K T) P w mg base (["standing", "person"] : List Str) "knows_ahead" (top 47) (He.ga K "knows_ahead") cdv A outer s H E).xe := passes_of (X := (ctxOf (cc K T) P w mg base (["standing", "person"] : List Str) "knows_ahead" (top 47) (He.ga K "knows_ahead") cdv A outer s H E)) rfl
  exact (ds_one (ds_ret (d_and (z_d_in ⟨rfl, hU⟩ (d_var (pv 1)) (z_d_fld ⟨rfl, hU⟩ Y.ok (by show ("since" : Str) ∈ flds; decide) (d_var (pv 0)) rfl) rfl) (d_one (d_lt ⟨rfl, hU⟩ (d_ix ⟨rfl, hU⟩ (z_d_fld ⟨rfl, hU⟩ Y.ok (by show ("since" : Str) ∈ flds; decide) (d_var (pv 0)) rfl) (d_var (pv 1)) (fun _ _ => rfl)) (z_d_fld ⟨rfl, hU⟩ Y.ok (by show ("minute" : Str) ∈ flds; decide) (d_var (pv 0)) rfl))) rfl)))
theorem b_could_call {P : Program} {w : World} {mg : Str → Option Value} {base : Heap} {K : PySem.W.Frag} {T : List (Addr × Str)} {fc : Value} (Y : YK K T mg) (D_knows_ahead : DefOk (cc K T) P w mg base (top 47) "knows_ahead" 1 (["standing", "person"] : List Str) W_knows_ahead) (D_left_of : DefOk (cc K T) P w mg base (top 46) "left_of" 2 (["book", "standing", "caller"] : List Str) W_left_of) :
    BodyOk (cc K T) P w mg base 2 (["book", "standing", "found", "person", "has_called"] : List Str) "could_call" (top 48) (He.ga K "could_call") fc w_could_call := by
  intro cdv A outer s H E B EE hcd hr tk
  have hU := un_of hr
  have px := psx_of tk
  have nd : ((["book", "standing", "found", "person", "has_called"] : List Str)).Nodup := by decide +kernel
  have po : PassesOwn (model P w) (A.deeper (PyProof.Rows.envOfC "could_call" (defScope (top 48)) s.heap.objs.size (He.ga K "could_call") cdv)) (PyProof.Rows.envOfC "could_call" (defScope (top 48)) s.heap.objs.size (He.ga K "could_call") cdv) (ctxOf (cc K T) P w mg base (["book", "standing", "found", "person", "has_called"] : List Str) "could_call" (top 48) (He.ga K "could_call") cdv A outer s H E).xe := passes_of (X := (ctxOf (cc K T) P w mg base (["book", "standing", "found", "person", "has_called"] : List Str) "could_call" (top 48) (He.ga K "could_call") cdv A outer s H E)) rfl
  exact (ds_cons (z_ds_set (i := 2) nd rfl (by first | exact .inl rfl | exact .inr rfl) (d_lst d_nil) rfl (.inl rfl)) (ds_cons (z_ds_for ⟨rfl, hU⟩ rfl po (di_any ⟨rfl, hU⟩ (z_d_fld ⟨rfl, hU⟩ Y.ok (by show ("people" : Str) ∈ flds; decide) (d_var (pv 0)) rfl)) (dg_name (pgn 3 nd)) (ds_cons (z_ds_set (i := 4) nd rfl (by first | exact .inl rfl | exact .inr rfl) (d_eq ⟨rfl, hU⟩ (z_d_meth ⟨rfl, hU⟩ (Mth.get (C := cc K T) ⟨rfl, hU⟩) o_get (z_d_fld ⟨rfl, hU⟩ Y.ok (by show ("last" : Str) ∈ flds; decide) (d_var (pv 1)) rfl) (z_d_cons (d_var (pv 3)) d_nil rfl) rfl rfl rfl rfl rfl (by decide)) (z_d_fld ⟨rfl, hU⟩ Y.ok (by show ("minute" : Str) ∈ flds; decide) (d_var (pv 1)) rfl)) rfl (.inl rfl)) (ds_one (ds_if (d_pw (d_andT (z_d_tval (z_g_call D_knows_ahead rfl rfl hr (by decide) px rfl (z_d_cons (d_var (pv 1)) (z_d_cons (d_var (pv 3)) d_nil rfl) rfl) (by decide) rfl rfl) (fun _ => rfl)) (d_andT (d_tne ⟨rfl, hU⟩ (z_g_call D_left_of rfl rfl hr (by decide) px rfl (z_d_cons (d_var (pv 0)) (z_d_cons (d_var (pv 1)) (z_d_cons (d_var (pv 3)) d_nil rfl) rfl) rfl) (by decide) rfl rfl) (d_tup d_nil)) (d_and1 (d_notT (z_d_tval (d_var (pv 4)) (fun _ => rfl))))))) (ds_one (z_ds_expr (z_d_meth ⟨rfl, hU⟩ Mth.append o_append (d_var (pv 2)) (z_d_cons (d_var (pv 3)) d_nil rfl) rfl rfl rfl rfl rfl (by decide)) rfl)) ds_nil))) (fun _ => rfl)) (ds_one (ds_ret (z_b_tuple rfl rfl (Y.free "tuple" (by decide)) (z_d_cons (d_var (pv 2)) d_nil rfl) rfl rfl)))))
theorem b_is_over_by {P : Program} {w : World} {mg : Str → Option Value} {base : Heap} {K : PySem.W.Frag} {T : List (Addr × Str)} {fc : Value} (Y : YK K T mg) (D_left_of : DefOk (cc K T) P w mg base (top 46) "left_of" 2 (["book", "standing", "caller"] : List Str) W_left_of) :
    BodyOk (cc K T) P w mg base 2 (["book", "standing", "person"] : List Str) "is_over_by" (top 49) (He.ga K "is_over_by") fc w_is_over_by := by
  intro cdv A outer s H E B EE hcd hr tk
  have hU := un_of hr
  have px := psx_of tk
  have nd : ((["book", "standing", "person"] : List Str)).Nodup := by decide +kernel
  have po : PassesOwn (model P w) (A.deeper (PyProof.Rows.envOfC "is_over_by" (defScope (top 49)) s.heap.objs.size (He.ga K "is_over_by") cdv)) (PyProof.Rows.envOfC "is_over_by" (defScope (top 49)) s.heap.objs.size (He.ga K "is_over_by") cdv) (ctxOf (cc K T) P w mg base (["book", "standing", "person"] : List Str) "is_over_by" (top 49) (He.ga K "is_over_by") cdv A outer s H E).xe := passes_of (X := (ctxOf (cc K T) P w mg base (["book", "standing", "person"] : List Str) "is_over_by" (top 49) (He.ga K "is_over_by") cdv A outer s H E)) rfl
  exact (ds_one (ds_ret (z_b_all rfl rfl rfl (Y.free "all" (by decide)) (z_d_cons (z_d_lc (own := [("person", 2)]) rfl ⟨rfl, hU⟩ rfl nd (di_any ⟨rfl, hU⟩ (z_d_fld ⟨rfl, hU⟩ Y.ok (by show ("since" : Str) ∈ flds; decide) (d_var (pv 1)) rfl)) (blk_by rfl) (st1_ok (by decide)) (fun _ _ _ _ _ => pgn 2 nd) (fun _ _ _ _ _ => d_yes) (fun _ _ _ _ _ => (d_eq ⟨rfl, hU⟩ (z_g_call D_left_of rfl rfl hr (by decide) psx_no rfl (z_d_cons (d_var (pv 0)) (z_d_cons (d_var (pv 1)) (z_d_cons (d_var (pv 2)) d_nil rfl) rfl) rfl) (by decide) rfl rfl) (d_tup d_nil))) (fun _ => rfl)) d_nil rfl) rfl rfl)))
theorem b_standing_behind {P : Program} {w : World} {mg : Str → Option Value} {base : Heap} {K : PySem.W.Frag} {T : List (Addr × Str)} {fc : Value} (Y : YK K T mg) (N_Standing : NewOk (cc K T) P w mg base (mthOf (top 42) 0) "Standing" "Standing.__init__" 1 (["self", "minute", "since", "made", "last", "slept"] : List Str) W_Standing_init) (D_left_of : DefOk (cc K T) P w mg base (top 46) "left_of" 2 (["book", "standing", "caller"] : List Str) W_left_of) :
    BodyOk (cc K T) P w mg base 2 (["book", "standing", "deed", "caller", "answers", "called", "since", "slept", "made"] : List Str) "standing_behind" (top 50) (He.ga K "standing_behind") fc w_standing_behind := by
  intro cdv A outer s H E B EE hcd hr tk
  have hU := un_of hr
  have px := psx_of tk
  have nd : ((["book", "standing", "deed", "caller", "answers", "called", "since", "slept", "made"] : List Str)).Nodup := by decide +kernel
  have po : PassesOwn (model P w) (A.deeper (PyProof.Rows.envOfC "standing_behind" (defScope (top 50)) s.heap.objs.size (He.ga K "standing_behind") cdv)) (PyProof.Rows.envOfC "standing_behind" (defScope (top 50)) s.heap.objs.size (He.ga K "standing_behind") cdv) (ctxOf (cc K T) P w mg base (["book", "standing", "deed", "caller", "answers", "called", "since", "slept", "made"] : List Str) "standing_behind" (top 50) (He.ga K "standing_behind") cdv A outer s H E).xe := passes_of (X := (ctxOf (cc K T) P w mg base (["book", "standing", "deed", "caller", "answers", "called", "since", "slept", "made"] : List Str) "standing_behind" (top 50) (He.ga K "standing_behind") cdv A outer s H E)) rfl
  exact (ds_cons (ds_if (d_teq ⟨rfl, hU⟩ (d_ix ⟨rfl, hU⟩ (d_var (pv 2)) d_int (fun _ _ => rfl)) d_str) (ds_one (ds_ret (z_g_new N_Standing rfl rfl hr (by decide) px rfl (z_d_cons (d_add ⟨rfl, hU⟩ (z_d_fld ⟨rfl, hU⟩ Y.ok (by show ("minute" : Str) ∈ flds; decide) (d_var (pv 1)) rfl) d_int) (z_d_cons (z_d_fld ⟨rfl, hU⟩ Y.ok (by show ("since" : Str) ∈ flds; decide) (d_var (pv 1)) rfl) (z_d_cons (z_d_fld ⟨rfl, hU⟩ Y.ok (by show ("made" : Str) ∈ flds; decide) (d_var (pv 1)) rfl) (z_d_cons (z_d_fld ⟨rfl, hU⟩ Y.ok (by show ("last" : Str) ∈ flds; decide) (d_var (pv 1)) rfl) (z_d_cons (z_d_fld ⟨rfl, hU⟩ Y.ok (by show ("slept" : Str) ∈ flds; decide) (d_var (pv 1)) rfl) d_nil rfl) rfl) rfl) rfl) rfl) (by decide) rfl rfl))) ds_nil) (ds_cons (z_ds_asg (d_sl ⟨rfl, hU⟩ (d_var (pv 2)) (d_part d_int) d_noP) (z_dg_tup ⟨rfl, hU⟩ rfl (z_dg_cons (dg_name (pgn 3 nd)) (z_dg_cons (dg_name (pgn 4 nd)) dg_nil rfl) rfl) rfl rfl) rfl rfl rfl) (ds_cons (z_ds_set (i := 5) nd rfl (by first | exact .inl rfl | exact .inr rfl) (d_ix ⟨rfl, hU⟩ (z_g_call D_left_of rfl rfl hr (by decide) px rfl (z_d_cons (d_var (pv 0)) (z_d_cons (d_var (pv 1)) (z_d_cons (d_var (pv 3)) d_nil rfl) rfl) rfl) (by decide) rfl rfl) d_int (fun _ _ => rfl)) rfl (.inl rfl)) (ds_cons (z_ds_par (i := 6) (j := 7) ⟨rfl, hU⟩ rfl nd rfl rfl (by decide) rfl rfl (z_b_dict rfl rfl (Y.free "dict" (by decide)) (z_d_cons (z_d_fld ⟨rfl, hU⟩ Y.ok (by show ("since" : Str) ∈ flds; decide) (d_var (pv 1)) rfl) d_nil rfl) rfl rfl) (z_b_dict rfl rfl (Y.free "dict" (by decide)) (z_d_cons (z_d_fld ⟨rfl, hU⟩ Y.ok (by show ("slept" : Str) ∈ flds; decide) (d_var (pv 1)) rfl) d_nil rfl) rfl rfl) rfl rfl rfl rfl) (ds_cons (ds_if (d_pw (d_andT (z_d_tval (d_var (pv 4)) (fun _ => rfl)) (d_and1 (z_d_tnotin ⟨rfl, hU⟩ (d_var (pv 5)) (d_var (pv 6)) rfl)))) (ds_one (z_ds_asg (z_d_fld ⟨rfl, hU⟩ Y.ok (by show ("minute" : Str) ∈ flds; decide) (d_var (pv 1)) rfl) (z_dg_sub ⟨rfl, hU⟩ (d_var (pv 6)) (d_var (pv 5)) (fun _ => rfl)) rfl rfl rfl)) ds_nil) (ds_cons (ds_if (d_notT (z_d_tval (d_var (pv 4)) (fun _ => rfl))) (ds_one (z_ds_asg d_bl (z_dg_sub ⟨rfl, hU⟩ (d_var (pv 7)) (d_var (pv 5)) (fun _ => rfl)) rfl rfl rfl)) ds_nil) (ds_cons (z_ds_set (i := 8) nd rfl (by first | exact .inl rfl | exact .inr rfl) (d_spread (z_d_fld ⟨rfl, hU⟩ Y.ok (by show ("made" : Str) ∈ flds; decide) (d_var (pv 1)) rfl) (d_var (pv 3)) (d_add ⟨rfl, hU⟩ (z_d_meth ⟨rfl, hU⟩ (Mth.get (C := cc K T) ⟨rfl, hU⟩) o_get (z_d_fld ⟨rfl, hU⟩ Y.ok (by show ("made" : Str) ∈ flds; decide) (d_var (pv 1)) rfl) (z_d_cons (d_var (pv 3)) (z_d_cons d_int d_nil rfl) rfl) rfl rfl rfl rfl rfl (by decide)) d_int)) rfl (.inl rfl)) (ds_one (ds_ret (z_g_new N_Standing rfl rfl hr (by decide) px rfl (z_d_cons (z_d_fld ⟨rfl, hU⟩ Y.ok (by show ("minute" : Str) ∈ flds; decide) (d_var (pv 1)) rfl) (z_d_cons (d_var (pv 6)) (z_d_cons (d_var (pv 8)) (z_d_cons (d_spread (z_d_fld ⟨rfl, hU⟩ Y.ok (by show ("last" : Str) ∈ flds; decide) (d_var (pv 1)) rfl) (d_var (pv 3)) (z_d_fld ⟨rfl, hU⟩ Y.ok (by show ("minute" : Str) ∈ flds; decide) (d_var (pv 1)) rfl)) (z_d_cons (d_var (pv 7)) d_nil rfl) rfl) rfl) rfl) rfl) (by decide) rfl rfl))))))))))
theorem b_reason_against_call {P : Program} {w : World} {mg : Str → Option Value} {base : Heap} {K : PySem.W.Frag} {T : List (Addr × Str)} {fc : Value} (Y : YK K T mg) (D_knows_ahead : DefOk (cc K T) P w mg base (top 47) "knows_ahead" 1 (["standing", "person"] : List Str) W_knows_ahead) (D_left_of : DefOk (cc K T) P w mg base (top 46) "left_of" 2 (["book", "standing", "caller"] : List Str) W_left_of) :
    BodyOk (cc K T) P w mg base 2 (["book", "standing", "caller", "answers", "left"] : List Str) "reason_against_call" (top 51) (He.ga K "reason_against_call") fc w_reason_against_call := by
  intro cdv A outer s H E B EE hcd hr tk
  have hU := un_of hr
  have px := psx_of tk
  have nd : ((["book", "standing", "caller", "answers", "left"] : List Str)).Nodup := by decide +kernel
  have po : PassesOwn (model P w) (A.deeper (PyProof.Rows.envOfC "reason_against_call" (defScope (top 51)) s.heap.objs.size (He.ga K "reason_against_call") cdv)) (PyProof.Rows.envOfC "reason_against_call" (defScope (top 51)) s.heap.objs.size (He.ga K "reason_against_call") cdv) (ctxOf (cc K T) P w mg base (["book", "standing", "caller", "answers", "left"] : List Str) "reason_against_call" (top 51) (He.ga K "reason_against_call") cdv A outer s H E).xe := passes_of (X := (ctxOf (cc K T) P w mg base (["book", "standing", "caller", "answers", "left"] : List Str) "reason_against_call" (top 51) (He.ga K "reason_against_call") cdv A outer s H E)) rfl
  exact (ds_cons (ds_if (d_notT (z_d_tval (z_g_call D_knows_ahead rfl rfl hr (by decide) px rfl (z_d_cons (d_var (pv 1)) (z_d_cons (d_var (pv 2)) d_nil rfl) rfl) (by decide) rfl rfl) (fun _ => rfl))) (ds_one (ds_ret (z_g_str rfl (Y.str "ASLEEP" "asleep" (by decide)) (by decide)))) ds_nil) (ds_cons (z_ds_set (i := 4) nd rfl (by first | exact .inl rfl | exact .inr rfl) (z_g_call D_left_of rfl rfl hr (by decide) px rfl (z_d_cons (d_var (pv 0)) (z_d_cons (d_var (pv 1)) (z_d_cons (d_var (pv 2)) d_nil rfl) rfl) rfl) (by decide) rfl rfl) rfl (.inl rfl)) (ds_cons (ds_if (d_teq ⟨rfl, hU⟩ (d_var (pv 4)) (d_tup d_nil)) (ds_one (ds_ret (z_g_str rfl (Y.str "DONE" "done" (by decide)) (by decide)))) ds_nil) (ds_cons (ds_if (d_teq ⟨rfl, hU⟩ (z_d_meth ⟨rfl, hU⟩ (Mth.get (C := cc K T) ⟨rfl, hU⟩) o_get (z_d_fld ⟨rfl, hU⟩ Y.ok (by show ("last" : Str) ∈ flds; decide) (d_var (pv 1)) rfl) (z_d_cons (d_var (pv 2)) d_nil rfl) rfl rfl rfl rfl rfl (by decide)) (z_d_fld ⟨rfl, hU⟩ Y.ok (by show ("minute" : Str) ∈ flds; decide) (d_var (pv 1)) rfl)) (ds_one (ds_ret (z_g_str rfl (Y.str "CALLED" "called" (by decide)) (by decide)))) ds_nil) (ds_cons (ds_if (d_pw (d_andT (z_d_tin ⟨rfl, hU⟩ (d_ix ⟨rfl, hU⟩ (d_var (pv 4)) d_int (fun _ _ => rfl)) (z_d_fld ⟨rfl, hU⟩ Y.ok (by show ("since" : Str) ∈ flds; decide) (d_var (pv 1)) rfl) rfl) (d_and1 (d_notT (z_d_tval (d_var (pv 3)) (fun _ => rfl)))))) (ds_one (ds_ret (z_g_str rfl (Y.str "AWAKE" "awake" (by decide)) (by decide)))) ds_nil) (ds_one (ds_ret (d_ite (d_pw (d_andT (z_d_tin ⟨rfl, hU⟩ (d_ix ⟨rfl, hU⟩ (d_var (pv 4)) d_int (fun _ _ => rfl)) (z_d_fld ⟨rfl, hU⟩ Y.ok (by show ("slept" : Str) ∈ flds; decide) (d_var (pv 1)) rfl) rfl) (d_and1 (z_d_tval (d_var (pv 3)) (fun _ => rfl))))) (z_g_str rfl (Y.str "SLEPT" "slept" (by decide)) (by decide)) d_non))))))))
theorem b_reason_against {P : Program} {w : World} {mg : Str → Option Value} {base : Heap} {K : PySem.W.Frag} {T : List (Addr × Str)} {fc : Value} (Y : YK K T mg) (D_reason_against_call : DefOk (cc K T) P w mg base (top 51) "reason_against_call" 3 (["book", "standing", "caller", "answers"] : List Str) W_reason_against_call) (D_could_call : DefOk (cc K T) P w mg base (top 48) "could_call" 3 (["book", "standing"] : List Str) W_could_call) :
    BodyOk (cc K T) P w mg base 3 (["book", "standing", "deed"] : List Str) "reason_against" (top 52) (He.ga K "reason_against") fc w_reason_against := by
  intro cdv A outer s H E B EE hcd hr tk
  have hU := un_of hr
  have px := psx_of tk
  have nd : ((["book", "standing", "deed"] : List Str)).Nodup := by decide +kernel
  have po : PassesOwn (model P w) (A.deeper (PyProof.Rows.envOfC "reason_against" (defScope (top 52)) s.heap.objs.size (He.ga K "reason_against") cdv)) (PyProof.Rows.envOfC "reason_against" (defScope (top 52)) s.heap.objs.size (He.ga K "reason_against") cdv) (ctxOf (cc K T) P w mg base (["book", "standing", "deed"] : List Str) "reason_against" (top 52) (He.ga K "reason_against") cdv A outer s H E).xe := passes_of (X := (ctxOf (cc K T) P w mg base (["book", "standing", "deed"] : List Str) "reason_against" (top 52) (He.ga K "reason_against") cdv A outer s H E)) rfl
  exact (ds_cons (ds_if (d_teq ⟨rfl, hU⟩ (d_ix ⟨rfl, hU⟩ (d_var (pv 2)) d_int (fun _ _ => rfl)) d_str) (ds_one (ds_ret (z_g_call D_reason_against_call rfl rfl hr (by decide) px rfl (z_d_cons (d_var (pv 0)) (z_d_cons (d_var (pv 1)) (z_d_cons (d_ix ⟨rfl, hU⟩ (d_var (pv 2)) d_int (fun _ _ => rfl)) (z_d_cons (d_ix ⟨rfl, hU⟩ (d_var (pv 2)) d_int (fun _ _ => rfl)) d_nil rfl) rfl) rfl) rfl) (by decide) rfl rfl))) ds_nil) (ds_one (ds_ret (d_ite (d_tne ⟨rfl, hU⟩ (z_g_call D_could_call rfl rfl hr (by decide) px rfl (z_d_cons (d_var (pv 0)) (z_d_cons (d_var (pv 1)) d_nil rfl) rfl) (by decide) rfl rfl) (d_tup d_nil)) (z_g_str rfl (Y.str "DUE" "due" (by decide)) (by decide)) d_non))))
theorem b_check_barred {P : Program} {w : World} {mg : Str → Option Value} {base : Heap} {K : PySem.W.Frag} {T : List (Addr × Str)} {fc : Value} (Y : YK K T mg) (D_reason_against : DefOk (cc K T) P w mg base (top 52) "reason_against" 4 (["book", "standing", "deed"] : List Str) W_reason_against) (X_Barred : ExcOk (cc K T) P w mg base "Barred" "reason") :
    BodyOk (cc K T) P w mg base 4 (["book", "standing", "deed", "reason"] : List Str) "check_barred" (top 53) (He.ga K "check_barred") fc w_check_barred := by
  intro cdv A outer s H E B EE hcd hr tk
  have hU := un_of hr
  have px := psx_of tk
  have nd : ((["book", "standing", "deed", "reason"] : List Str)).Nodup := by decide +kernel
  have po : PassesOwn (model P w) (A.deeper (PyProof.Rows.envOfC "check_barred" (defScope (top 53)) s.heap.objs.size (He.ga K "check_barred") cdv)) (PyProof.Rows.envOfC "check_barred" (defScope (top 53)) s.heap.objs.size (He.ga K "check_barred") cdv) (ctxOf (cc K T) P w mg base (["book", "standing", "deed", "reason"] : List Str) "check_barred" (top 53) (He.ga K "check_barred") cdv A outer s H E).xe := passes_of (X := (ctxOf (cc K T) P w mg base (["book", "standing", "deed", "reason"] : List Str) "check_barred" (top 53) (He.ga K "check_barred") cdv A outer s H E)) rfl
  exact (ds_cons (z_ds_set (i := 3) nd rfl (by first | exact .inl rfl | exact .inr rfl) (z_g_call D_reason_against rfl rfl hr (by decide) px rfl (z_d_cons (d_var (pv 0)) (z_d_cons (d_var (pv 1)) (z_d_cons (d_var (pv 2)) d_nil rfl) rfl) rfl) (by decide) rfl rfl) rfl (.inl rfl)) (ds_one (ds_if (d_tisnotN ⟨rfl, hU⟩ (d_var (pv 3)) d_non) (ds_one (z_g_raise X_Barred rfl rfl hr (by decide) tk rfl (d_var (pv 3)) (by decide) rfl rfl)) ds_nil)))
theorem b__law_pool {P : Program} {w : World} {mg : Str → Option Value} {base : Heap} {K : PySem.W.Frag} {T : List (Addr × Str)} {fc : Value} (Y : YK K T mg)  :
    BodyOk (cc K T) P w mg base 0 (["script", "turn", "own", "stirred", "cell"] : List Str) "_law_pool" (top 57) (He.ga K "_law_pool") fc w__law_pool := by
  intro cdv A outer s H E B EE hcd hr tk
  have hU := un_of hr
  have px := psx_of tk
  have nd : ((["script", "turn", "own", "stirred", "cell"] : List Str)).Nodup := by decide +kernel
  have po : PassesOwn (model P w) (A.deeper (PyProof.Rows.envOfC "_law_pool" (defScope (top 57)) s.heap.objs.size (He.ga K "_law_pool") cdv)) (PyProof.Rows.envOfC "_law_pool" (defScope (top 57)) s.heap.objs.size (He.ga K "_law_pool") cdv) (ctxOf (cc K T) P w mg base (["script", "turn", "own", "stirred", "cell"] : List Str) "_law_pool" (top 57) (He.ga K "_law_pool") cdv A outer s H E).xe := passes_of (X := (ctxOf (cc K T) P w mg base (["script", "turn", "own", "stirred", "cell"] : List Str) "_law_pool" (top 57) (He.ga K "_law_pool") cdv A outer s H E)) rfl
  exact (ds_cons (z_ds_par (i := 2) (j := 3) ⟨rfl, hU⟩ rfl nd rfl rfl (by decide) rfl rfl (d_ite (d_tlt ⟨rfl, hU⟩ (d_var (pv 1)) (z_b_len rfl rfl (Y.free "len" (by decide)) (z_d_cons (d_var (pv 0)) d_nil rfl) rfl rfl)) (z_b_int rfl rfl (Y.free "int" (by decide)) (z_d_cons (d_ix ⟨rfl, hU⟩ (d_var (pv 0)) (d_var (pv 1)) (fun _ _ => rfl)) d_nil rfl) rfl rfl) (d_add ⟨rfl, hU⟩ (d_mul ⟨rfl, hU⟩ d_int (d_var (pv 1))) d_int)) (d_add ⟨rfl, hU⟩ d_int (d_mul ⟨rfl, hU⟩ d_int (d_var (pv 1)))) rfl rfl rfl rfl) (ds_cons (z_ds_for ⟨rfl, hU⟩ rfl po (di_any ⟨rfl, hU⟩ (d_sl ⟨rfl, hU⟩ (d_var (pv 0)) d_noP (d_part d_int))) (dg_name (pgn 4 nd)) (ds_one (z_ds_set (i := 3) nd rfl (by first | exact .inl rfl | exact .inr rfl) (d_mod ⟨rfl, hU⟩ (z_b_int rfl rfl (Y.free "int" (by decide)) (z_d_cons (d_add ⟨rfl, hU⟩ (d_add ⟨rfl, hU⟩ (d_mul ⟨rfl, hU⟩ (d_var (pv 3)) d_int) (d_mod ⟨rfl, hU⟩ (z_b_int rfl rfl (Y.free "int" (by decide)) (z_d_cons (d_var (pv 4)) d_nil rfl) rfl rfl) d_int)) d_int) d_nil rfl) rfl rfl) d_int) rfl (.inl rfl))) (fun _ => rfl)) (ds_one (ds_ret (d_lst (z_d_cons (d_mod ⟨rfl, hU⟩ (z_b_int rfl rfl (Y.free "int" (by decide)) (z_d_cons (d_add ⟨rfl, hU⟩ (d_var (pv 3)) (d_mul ⟨rfl, hU⟩ (d_var (pv 2)) d_int)) d_nil rfl) rfl rfl) d_int) (z_d_cons (d_ite (d_pw (d_orT (d_tlt ⟨rfl, hU⟩ (d_var (pv 2)) d_int) (d_or1 (d_tge ⟨rfl, hU⟩ (d_var (pv 2)) (d_pow ⟨rfl, hU⟩ d_int d_int))))) (z_b_abs rfl rfl (Y.free "abs" (by decide)) (z_d_cons (d_var (pv 2)) d_nil rfl) rfl rfl) d_int) (z_d_cons d_int d_nil rfl) rfl) rfl))))))
theorem b__law_draw {P : Program} {w : World} {mg : Str → Option Value} {base : Heap} {K : PySem.W.Frag} {T : List (Addr × Str)} {fc : Value} (Y : YK K T mg)  :
    BodyOk (cc K T) P w mg base 0 (["pool", "many", "figure", "held"] : List Str) "_law_draw" (top 58) (He.ga K "_law_draw") fc w__law_draw := by
  intro cdv A outer s H E B EE hcd hr tk
  have hU := un_of hr
  have px := psx_of tk
  have nd : ((["pool", "many", "figure", "held"] : List Str)).Nodup := by decide +kernel
  have po : PassesOwn (model P w) (A.deeper (PyProof.Rows.envOfC "_law_draw" (defScope (top 58)) s.heap.objs.size (He.ga K "_law_draw") cdv)) (PyProof.Rows.envOfC "_law_draw" (defScope (top 58)) s.heap.objs.size (He.ga K "_law_draw") cdv) (ctxOf (cc K T) P w mg base (["pool", "many", "figure", "held"] : List Str) "_law_draw" (top 58) (He.ga K "_law_draw") cdv A outer s H E).xe := passes_of (X := (ctxOf (cc K T) P w mg base (["pool", "many", "figure", "held"] : List Str) "_law_draw" (top 58) (He.ga K "_law_draw") cdv A outer s H E)) rfl
  exact (ds_cons (ds_if (d_tgt ⟨rfl, hU⟩ (d_ix ⟨rfl, hU⟩ (d_var (pv 0)) d_int (fun _ _ => rfl)) d_int) (ds_cons (z_ds_asg (z_b_divmod rfl rfl (Y.free "divmod" (by decide)) (z_d_cons (d_ix ⟨rfl, hU⟩ (d_var (pv 0)) d_int (fun _ _ => rfl)) (z_d_cons (d_var (pv 1)) d_nil rfl) rfl) rfl rfl) (z_dg_tup ⟨rfl, hU⟩ rfl (z_dg_cons (z_dg_sub ⟨rfl, hU⟩ (d_var (pv 0)) d_int (fun _ => rfl)) (z_dg_cons (dg_name (pgn 2 nd)) dg_nil rfl) rfl) rfl rfl) rfl rfl rfl) (ds_one (ds_ret (d_var (pv 2))))) ds_nil) (ds_cons (z_ds_asg (d_add ⟨rfl, hU⟩ (d_ix ⟨rfl, hU⟩ (d_var (pv 0)) d_int (fun _ _ => rfl)) d_int) (z_dg_sub ⟨rfl, hU⟩ (d_var (pv 0)) d_int (fun _ => rfl)) rfl rfl rfl) (ds_cons (z_ds_set (i := 3) nd rfl (by first | exact .inl rfl | exact .inr rfl) (z_b_int rfl rfl (Y.free "int" (by decide)) (z_d_cons (d_ix ⟨rfl, hU⟩ (d_var (pv 0)) d_int (fun _ _ => rfl)) d_nil rfl) rfl rfl) rfl (.inl rfl)) (ds_cons (z_ds_asg (d_mod ⟨rfl, hU⟩ (z_b_int rfl rfl (Y.free "int" (by decide)) (z_d_cons (d_add ⟨rfl, hU⟩ (d_add ⟨rfl, hU⟩ (d_mul ⟨rfl, hU⟩ (d_var (pv 3)) (d_add ⟨rfl, hU⟩ (d_mod ⟨rfl, hU⟩ (d_var (pv 3)) d_int) d_int)) (d_mul ⟨rfl, hU⟩ d_int (d_ix ⟨rfl, hU⟩ (d_var (pv 0)) d_int (fun _ _ => rfl)))) d_int) d_nil rfl) rfl rfl) d_int) (z_dg_sub ⟨rfl, hU⟩ (d_var (pv 0)) d_int (fun _ => rfl)) rfl rfl rfl) (ds_one (ds_ret (d_mod ⟨rfl, hU⟩ (z_b_int rfl rfl (Y.free "int" (by decide)) (z_d_cons (d_fdiv ⟨rfl, hU⟩ (d_ix ⟨rfl, hU⟩ (d_var (pv 0)) d_int (fun _ _ => rfl)) d_int) d_nil rfl) rfl rfl) (d_var (pv 1)))))))))
theorem b__law_pick {P : Program} {w : World} {mg : Str → Option Value} {base : Heap} {K : PySem.W.Frag} {T : List (Addr × Str)} {fc : Value} (Y : YK K T mg) (D__law_draw : DefOk (cc K T) P w mg base (top 58) "_law_draw" 1 (["pool", "many"] : List Str) W__law_draw) :
    BodyOk (cc K T) P w mg base 1 (["pool", "some"] : List Str) "_law_pick" (top 59) (He.ga K "_law_pick") fc w__law_pick := by
  intro cdv A outer s H E B EE hcd hr tk
  have hU := un_of hr
  have px := psx_of tk
  have nd : ((["pool", "some"] : List Str)).Nodup := by decide +kernel
  have po : PassesOwn (model P w) (A.deeper (PyProof.Rows.envOfC "_law_pick" (defScope (top 59)) s.heap.objs.size (He.ga K "_law_pick") cdv)) (PyProof.Rows.envOfC "_law_pick" (defScope (top 59)) s.heap.objs.size (He.ga K "_law_pick") cdv) (ctxOf (cc K T) P w mg base (["pool", "some"] : List Str) "_law_pick" (top 59) (He.ga K "_law_pick") cdv A outer s H E).xe := passes_of (X := (ctxOf (cc K T) P w mg base (["pool", "some"] : List Str) "_law_pick" (top 59) (He.ga K "_law_pick") cdv A outer s H E)) rfl
  exact (ds_one (ds_ret (d_ix ⟨rfl, hU⟩ (d_var (pv 1)) (z_g_call D__law_draw rfl rfl hr (by decide) px rfl (z_d_cons (d_var (pv 0)) (z_d_cons (z_b_len rfl rfl (Y.free "len" (by decide)) (z_d_cons (d_var (pv 1)) d_nil rfl) rfl rfl) d_nil rfl) rfl) (by decide) rfl rfl) (fun _ _ => rfl))))
theorem b__law_book {P : Program} {w : World} {mg : Str → Option Value} {base : Heap} {K : PySem.W.Frag} {T : List (Addr × Str)} {fc : Value} (Y : YK K T mg) (D__law_draw : DefOk (cc K T) P w mg base (top 58) "_law_draw" 1 (["pool", "many"] : List Str) W__law_draw) (D__law_pick : DefOk (cc K T) P w mg base (top 59) "_law_pick" 2 (["pool", "some"] : List Str) W__law_pick) :
    BodyOk (cc K T) P w mg base 2 (["pool", "most", "each", "people", "lists", "name", "others", "own", "lap", "other"] : List Str) "_law_book" (top 60) (He.ga K "_law_book") fc w__law_book := by
  intro cdv A outer s H E B EE hcd hr tk
  have hU := un_of hr
  have px := psx_of tk
  have nd : ((["pool", "most", "each", "people", "lists", "name", "others", "own", "lap", "other"] : List Str)).Nodup := by decide +kernel
  have po : PassesOwn (model P w) (A.deeper (PyProof.Rows.envOfC "_law_book" (defScope (top 60)) s.heap.objs.size (He.ga K "_law_book") cdv)) (PyProof.Rows.envOfC "_law_book" (defScope (top 60)) s.heap.objs.size (He.ga K "_law_book") cdv) (ctxOf (cc K T) P w mg base (["pool", "most", "each", "people", "lists", "name", "others", "own", "lap", "other"] : List Str) "_law_book" (top 60) (He.ga K "_law_book") cdv A outer s H E).xe := passes_of (X := (ctxOf (cc K T) P w mg base (["pool", "most", "each", "people", "lists", "name", "others", "own", "lap", "other"] : List Str) "_law_book" (top 60) (He.ga K "_law_book") cdv A outer s H E)) rfl
  exact (ds_cons (z_ds_set (i := 3) nd rfl (by first | exact .inl rfl | exact .inr rfl) (d_sl ⟨rfl, hU⟩ (d_tup (z_d_cons d_str (z_d_cons d_str (z_d_cons d_str (z_d_cons d_str (z_d_cons d_str (z_d_cons d_str d_nil rfl) rfl) rfl) rfl) rfl) rfl)) d_noP (d_part (d_add ⟨rfl, hU⟩ d_int (z_g_call D__law_draw rfl rfl hr (by decide) px rfl (z_d_cons (d_var (pv 0)) (z_d_cons (d_sub ⟨rfl, hU⟩ (d_var (pv 1)) d_int) d_nil rfl) rfl) (by decide) rfl rfl)))) rfl (.inl rfl)) (ds_cons (z_ds_set (i := 4) nd rfl (by first | exact .inl rfl | exact .inr rfl) (d_tup d_nil) rfl (.inl rfl)) (ds_cons (z_ds_for ⟨rfl, hU⟩ rfl po (di_any ⟨rfl, hU⟩ (d_var (pv 3))) (dg_name (pgn 5 nd)) (ds_cons (z_ds_par (i := 6) (j := 7) ⟨rfl, hU⟩ rfl nd rfl rfl (by decide) rfl rfl (z_d_lc (own := [("other", 9)]) rfl ⟨rfl, hU⟩ rfl nd (di_any ⟨rfl, hU⟩ (d_var (pv 3))) (blk_by rfl) (st1_ok (by decide)) (fun _ _ _ _ _ => pgn 9 nd) (fun _ _ _ _ _ => (d_if1 (d_tne ⟨rfl, hU⟩ (d_var (pv 9)) (d_var (pv 5))))) (fun _ _ _ _ _ => (d_var (pv 9))) (fun _ => rfl)) (d_tup d_nil) rfl rfl rfl rfl) (ds_cons (z_ds_for ⟨rfl, hU⟩ rfl po (z_di_range1 ⟨rfl, hU⟩ rfl (Y.free "range" (by decide)) (z_b_min rfl rfl rfl (Y.free "min" (by decide)) (z_d_cons (z_b_len rfl rfl (Y.free "len" (by decide)) (z_d_cons (d_var (pv 6)) d_nil rfl) rfl rfl) (z_d_cons (z_g_call D__law_draw rfl rfl hr (by decide) px rfl (z_d_cons (d_var (pv 0)) (z_d_cons (d_add ⟨rfl, hU⟩ (d_var (pv 2)) d_int) d_nil rfl) rfl) (by decide) rfl rfl) d_nil rfl) rfl) rfl rfl) rfl) (dg_name (pgn 8 nd)) (ds_one (z_ds_set (i := 7) nd rfl (by first | exact .inl rfl | exact .inr rfl) (d_add ⟨rfl, hU⟩ (d_var (pv 7)) (d_tup (z_d_cons (z_d_meth ⟨rfl, hU⟩ Mth.popAt o_popAt (d_var (pv 6)) (z_d_cons (z_g_call D__law_draw rfl rfl hr (by decide) px rfl (z_d_cons (d_var (pv 0)) (z_d_cons (z_b_len rfl rfl (Y.free "len" (by decide)) (z_d_cons (d_var (pv 6)) d_nil rfl) rfl rfl) d_nil rfl) rfl) (by decide) rfl rfl) d_nil rfl) rfl rfl rfl rfl rfl (by decide)) d_nil rfl))) rfl (.inl rfl))) (fun _ => rfl)) (ds_one (z_ds_set (i := 4) nd rfl (by first | exact .inl rfl | exact .inr rfl) (d_add ⟨rfl, hU⟩ (d_var (pv 4)) (d_tup (z_d_cons (d_var (pv 7)) d_nil rfl))) rfl (.inl rfl))))) (fun _ => rfl)) (ds_one (ds_ret (d_tup (z_d_cons (d_var (pv 3)) (z_d_cons (z_g_call D__law_pick rfl rfl hr (by decide) px rfl (z_d_cons (d_var (pv 0)) (z_d_cons (d_var (pv 3)) d_nil rfl) rfl) (by decide) rfl rfl) (z_d_cons (d_var (pv 4)) d_nil rfl) rfl) rfl)))))))
theorem b__law_small {P : Program} {w : World} {mg : Str → Option Value} {base : Heap} {K : PySem.W.Frag} {T : List (Addr × Str)} {fc : Value} (Y : YK K T mg) (D__law_book : DefOk (cc K T) P w mg base (top 60) "_law_book" 3 (["pool", "most", "each"] : List Str) W__law_book) :
    BodyOk (cc K T) P w mg base 3 (["pool"] : List Str) "_law_small" (top 61) (He.ga K "_law_small") fc w__law_small := by
  intro cdv A outer s H E B EE hcd hr tk
  have hU := un_of hr
  have px := psx_of tk
  have nd : ((["pool"] : List Str)).Nodup := by decide +kernel
  have po : PassesOwn (model P w) (A.deeper (PyProof.Rows.envOfC "_law_small" (defScope (top 61)) s.heap.objs.size (He.ga K "_law_small") cdv)) (PyProof.Rows.envOfC "_law_small" (defScope (top 61)) s.heap.objs.size (He.ga K "_law_small") cdv) (ctxOf (cc K T) P w mg base (["pool"] : List Str) "_law_small" (top 61) (He.ga K "_law_small") cdv A outer s H E).xe := passes_of (X := (ctxOf (cc K T) P w mg base (["pool"] : List Str) "_law_small" (top 61) (He.ga K "_law_small") cdv A outer s H E)) rfl
  exact (ds_one (ds_ret (z_g_call D__law_book rfl rfl hr (by decide) px rfl (z_d_cons (d_var (pv 0)) (z_d_cons d_int (z_d_cons d_int d_nil rfl) rfl) rfl) (by decide) rfl rfl)))
theorem b_Book_init {P : Program} {w : World} {mg : Str → Option Value} {base : Heap} {K : PySem.W.Frag} {T : List (Addr × Str)} {fc : Value} (Y : YK K T mg) (D_check_people : DefOk (cc K T) P w mg base (top 26) "check_people" 7 (["people"] : List Str) W_check_people) (D_check_first : DefOk (cc K T) P w mg base (top 27) "check_first" 3 (["people", "first"] : List Str) W_check_first) (D_check_lists : DefOk (cc K T) P w mg base (top 28) "check_lists" 7 (["people", "lists"] : List Str) W_check_lists) :
    BodyOk (cc K T) P w mg base 7 (["self", "people", "first", "lists"] : List Str) "Book.__init__" (mthOf (top 29) 0) (He.ma K (He.ga K "Book") "__init__") fc w_Book_init := by
  intro cdv A outer s H E B EE hcd hr tk
  have hU := un_of hr
  have px := psx_of tk
  have nd : ((["self", "people", "first", "lists"] : List Str)).Nodup := by decide +kernel
  have po : PassesOwn (model P w) (A.deeper (PyProof.Rows.envOfC "Book.__init__" (defScope (mthOf (top 29) 0)) s.heap.objs.size (He.ma K (He.ga K "Book") "__init__") cdv)) (PyProof.Rows.envOfC "Book.__init__" (defScope (mthOf (top 29) 0)) s.heap.objs.size (He.ma K (He.ga K "Book") "__init__") cdv) (ctxOf (cc K T) P w mg base (["self", "people", "first", "lists"] : List Str) "Book.__init__" (mthOf (top 29) 0) (He.ma K (He.ga K "Book") "__init__") cdv A outer s H E).xe := passes_of (X := (ctxOf (cc K T) P w mg base (["self", "people", "first", "lists"] : List Str) "Book.__init__" (mthOf (top 29) 0) (He.ma K (He.ga K "Book") "__init__") cdv A outer s H E)) rfl
  exact (ds_cons (z_ds_expr (z_g_call D_check_people rfl rfl hr (by decide) px rfl (z_d_cons (d_var (pv 1)) d_nil rfl) (by decide) rfl rfl) rfl) (ds_cons (z_ds_expr (z_g_call D_check_first rfl rfl hr (by decide) px rfl (z_d_cons (d_var (pv 1)) (z_d_cons (d_var (pv 2)) d_nil rfl) rfl) (by decide) rfl rfl) rfl) (ds_cons (z_ds_expr (z_g_call D_check_lists rfl rfl hr (by decide) px rfl (z_d_cons (d_var (pv 1)) (z_d_cons (d_var (pv 3)) d_nil rfl) rfl) (by decide) rfl rfl) rfl) (ds_cons (z_d_sfld ⟨rfl, hU⟩ Y.ok (by show ("people" : Str) ∈ flds; decide) (d_var (pv 0)) (d_var (pv 1)) rfl) (ds_cons (z_d_sfld ⟨rfl, hU⟩ Y.ok (by show ("first" : Str) ∈ flds; decide) (d_var (pv 0)) (d_var (pv 2)) rfl) (ds_one (z_d_sfld ⟨rfl, hU⟩ Y.ok (by show ("lists" : Str) ∈ flds; decide) (d_var (pv 0)) (d_var (pv 3)) rfl)))))))
theorem b__law_made {P : Program} {w : World} {mg : Str → Option Value} {base : Heap} {K : PySem.W.Frag} {T : List (Addr × Str)} {fc : Value} (Y : YK K T mg) (N_Book : NewOk (cc K T) P w mg base (mthOf (top 29) 0) "Book" "Book.__init__" 8 (["self", "people", "first", "lists"] : List Str) W_Book_init) :
    BodyOk (cc K T) P w mg base 9 (["book"] : List Str) "_law_made" (top 62) (He.ga K "_law_made") fc w__law_made := by
  intro cdv A outer s H E B EE hcd hr tk
  have hU := un_of hr
  have px := psx_of tk
  have nd : ((["book"] : List Str)).Nodup := by decide +kernel
  have po : PassesOwn (model P w) (A.deeper (PyProof.Rows.envOfC "_law_made" (defScope (top 62)) s.heap.objs.size (He.ga K "_law_made") cdv)) (PyProof.Rows.envOfC "_law_made" (defScope (top 62)) s.heap.objs.size (He.ga K "_law_made") cdv) (ctxOf (cc K T) P w mg base (["book"] : List Str) "_law_made" (top 62) (He.ga K "_law_made") cdv A outer s H E).xe := passes_of (X := (ctxOf (cc K T) P w mg base (["book"] : List Str) "_law_made" (top 62) (He.ga K "_law_made") cdv A outer s H E)) rfl
  exact (ds_one (ds_ret (z_g_new N_Book rfl rfl hr (by decide) px rfl (z_d_cons (d_ix ⟨rfl, hU⟩ (d_var (pv 0)) d_int (fun _ _ => rfl)) (z_d_cons (d_ix ⟨rfl, hU⟩ (d_var (pv 0)) d_int (fun _ _ => rfl)) (z_d_cons (d_ix ⟨rfl, hU⟩ (d_var (pv 0)) d_int (fun _ _ => rfl)) d_nil rfl) rfl) rfl) (by decide) rfl rfl)))
theorem b__law_list {P : Program} {w : World} {mg : Str → Option Value} {base : Heap} {K : PySem.W.Frag} {T : List (Addr × Str)} {fc : Value} (Y : YK K T mg)  :
    BodyOk (cc K T) P w mg base 0 (["book", "name"] : List Str) "_law_list" (top 63) (He.ga K "_law_list") fc w__law_list := by
  intro cdv A outer s H E B EE hcd hr tk
  have hU := un_of hr
  have px := psx_of tk
  have nd : ((["book", "name"] : List Str)).Nodup := by decide +kernel
  have po : PassesOwn (model P w) (A.deeper (PyProof.Rows.envOfC "_law_list" (defScope (top 63)) s.heap.objs.size (He.ga K "_law_list") cdv)) (PyProof.Rows.envOfC "_law_list" (defScope (top 63)) s.heap.objs.size (He.ga K "_law_list") cdv) (ctxOf (cc K T) P w mg base (["book", "name"] : List Str) "_law_list" (top 63) (He.ga K "_law_list") cdv A outer s H E).xe := passes_of (X := (ctxOf (cc K T) P w mg base (["book", "name"] : List Str) "_law_list" (top 63) (He.ga K "_law_list") cdv A outer s H E)) rfl
  exact (ds_one (ds_ret (d_ix ⟨rfl, hU⟩ (d_ix ⟨rfl, hU⟩ (d_var (pv 0)) d_int (fun _ _ => rfl)) (z_d_tindex ⟨rfl, hU⟩ (d_ix ⟨rfl, hU⟩ (d_var (pv 0)) d_int (fun _ _ => rfl)) (z_d_cons (d_var (pv 1)) d_nil rfl) rfl rfl rfl rfl rfl) (fun _ _ => rfl))))
theorem b_Morning_move_to {P : Program} {w : World} {mg : Str → Option Value} {base : Heap} {K : PySem.W.Frag} {T : List (Addr × Str)} {fc : Value} (Y : YK K T mg)  :
    BodyOk (cc K T) P w mg base 0 (["self", "standing"] : List Str) "Morning.move_to" (mthOf (top 55) 1) (He.ma K (He.ga K "Morning") "move_to") fc w_Morning_move_to := by
  intro cdv A outer s H E B EE hcd hr tk
  have hU := un_of hr
  have px := psx_of tk
  have nd : ((["self", "standing"] : List Str)).Nodup := by decide +kernel
  have po : PassesOwn (model P w) (A.deeper (PyProof.Rows.envOfC "Morning.move_to" (defScope (mthOf (top 55) 1)) s.heap.objs.size (He.ma K (He.ga K "Morning") "move_to") cdv)) (PyProof.Rows.envOfC "Morning.move_to" (defScope (mthOf (top 55) 1)) s.heap.objs.size (He.ma K (He.ga K "Morning") "move_to") cdv) (ctxOf (cc K T) P w mg base (["self", "standing"] : List Str) "Morning.move_to" (mthOf (top 55) 1) (He.ma K (He.ga K "Morning") "move_to") cdv A outer s H E).xe := passes_of (X := (ctxOf (cc K T) P w mg base (["self", "standing"] : List Str) "Morning.move_to" (mthOf (top 55) 1) (He.ma K (He.ga K "Morning") "move_to") cdv A outer s H E)) rfl
  exact (ds_cons (z_d_sfld ⟨rfl, hU⟩ Y.ok (by show ("standing" : Str) ∈ flds; decide) (d_var (pv 0)) (d_var (pv 1)) rfl) (ds_cons (z_d_sfld ⟨rfl, hU⟩ Y.ok (by show ("minute" : Str) ∈ flds; decide) (d_var (pv 0)) (z_d_fld ⟨rfl, hU⟩ Y.ok (by show ("minute" : Str) ∈ flds; decide) (d_var (pv 1)) rfl) rfl) (ds_cons (z_d_sfld ⟨rfl, hU⟩ Y.ok (by show ("knowing" : Str) ∈ flds; decide) (d_var (pv 0)) (z_b_tuple rfl rfl (Y.free "tuple" (by decide)) (z_d_cons (z_b_sorted rfl rfl rfl (Y.free "sorted" (by decide)) (z_d_cons (z_d_fld ⟨rfl, hU⟩ Y.ok (by show ("since" : Str) ∈ flds; decide) (d_var (pv 1)) rfl) d_nil rfl) rfl rfl) d_nil rfl) rfl rfl) rfl) (ds_one (z_d_sfld ⟨rfl, hU⟩ Y.ok (by show ("sleeping" : Str) ∈ flds; decide) (d_var (pv 0)) (z_b_tuple rfl rfl (Y.free "tuple" (by decide)) (z_d_cons (z_b_sorted rfl rfl rfl (Y.free "sorted" (by decide)) (z_d_cons (z_d_fld ⟨rfl, hU⟩ Y.ok (by show ("slept" : Str) ∈ flds; decide) (d_var (pv 1)) rfl) d_nil rfl) rfl rfl) d_nil rfl) rfl rfl) rfl)))))
theorem b_Morning_do {P : Program} {w : World} {mg : Str → Option Value} {base : Heap} {K : PySem.W.Frag} {T : List (Addr × Str)} {fc : Value} (Y : YK K T mg) (D_check_deed : DefOk (cc K T) P w mg base (top 45) "check_deed" 3 (["book", "value"] : List Str) W_check_deed) (D_check_barred : DefOk (cc K T) P w mg base (top 53) "check_barred" 5 (["book", "standing", "deed"] : List Str) W_check_barred) (M_Morning_move_to : MetOk (cc K T) P w mg base (mthOf (top 55) 1) "Morning" "move_to" "Morning.move_to" 1 (["self", "standing"] : List Str) W_Morning_move_to) (D_standing_behind : DefOk (cc K T) P w mg base (top 50) "standing_behind" 3 (["book", "standing", "deed"] : List Str) W_standing_behind) :
    BodyOk (cc K T) P w mg base 5 (["self", "deed"] : List Str) "Morning.do" (mthOf (top 55) 2) (He.ma K (He.ga K "Morning") "do") fc w_Morning_do := by
  intro cdv A outer s H E B EE hcd hr tk
  have hU := un_of hr
  have px := psx_of tk
  have nd : ((["self", "deed"] : List Str)).Nodup := by decide +kernel
  have po : PassesOwn (model P w) (A.deeper (PyProof.Rows.envOfC "Morning.do" (defScope (mthOf (top 55) 2)) s.heap.objs.size (He.ma K (He.ga K "Morning") "do") cdv)) (PyProof.Rows.envOfC "Morning.do" (defScope (mthOf (top 55) 2)) s.heap.objs.size (He.ma K (He.ga K "Morning") "do") cdv) (ctxOf (cc K T) P w mg base (["self", "deed"] : List Str) "Morning.do" (mthOf (top 55) 2) (He.ma K (He.ga K "Morning") "do") cdv A outer s H E).xe := passes_of (X := (ctxOf (cc K T) P w mg base (["self", "deed"] : List Str) "Morning.do" (mthOf (top 55) 2) (He.ma K (He.ga K "Morning") "do") cdv A outer s H E)) rfl
  exact (ds_cons (z_ds_expr (z_g_call D_check_deed rfl rfl hr (by decide) px rfl (z_d_cons (z_d_fld ⟨rfl, hU⟩ Y.ok (by show ("book" : Str) ∈ flds; decide) (d_var (pv 0)) rfl) (z_d_cons (d_var (pv 1)) d_nil rfl) rfl) (by decide) rfl rfl) rfl) (ds_cons (z_ds_expr (z_g_call D_check_barred rfl rfl hr (by decide) px rfl (z_d_cons (z_d_fld ⟨rfl, hU⟩ Y.ok (by show ("book" : Str) ∈ flds; decide) (d_var (pv 0)) rfl) (z_d_cons (z_d_fld ⟨rfl, hU⟩ Y.ok (by show ("standing" : Str) ∈ flds; decide) (d_var (pv 0)) rfl) (z_d_cons (d_var (pv 1)) d_nil rfl) rfl) rfl) (by decide) rfl rfl) rfl) (ds_cons (z_ds_expr (z_d_meth ⟨rfl, hU⟩ Mth.append o_append (z_d_fld ⟨rfl, hU⟩ Y.ok (by show ("past" : Str) ∈ flds; decide) (d_var (pv 0)) rfl) (z_d_cons (z_d_fld ⟨rfl, hU⟩ Y.ok (by show ("standing" : Str) ∈ flds; decide) (d_var (pv 0)) rfl) d_nil rfl) rfl rfl rfl rfl rfl (by decide)) rfl) (ds_cons (z_d_sfld ⟨rfl, hU⟩ Y.ok (by show ("deeds" : Str) ∈ flds; decide) (d_var (pv 0)) (d_add ⟨rfl, hU⟩ (z_d_fld ⟨rfl, hU⟩ Y.ok (by show ("deeds" : Str) ∈ flds; decide) (d_var (pv 0)) rfl) (d_tup (z_d_cons (d_var (pv 1)) d_nil rfl))) rfl) (ds_one (z_ds_expr (z_g_met Y.ok M_Morning_move_to rfl rfl hr (by decide) px (d_var (pv 0)) (z_d_cons (z_g_call D_standing_behind rfl rfl hr (by decide) px rfl (z_d_cons (z_d_fld ⟨rfl, hU⟩ Y.ok (by show ("book" : Str) ∈ flds; decide) (d_var (pv 0)) rfl) (z_d_cons (z_d_fld ⟨rfl, hU⟩ Y.ok (by show ("standing" : Str) ∈ flds; decide) (d_var (pv 0)) rfl) (z_d_cons (d_var (pv 1)) d_nil rfl) rfl) rfl) (by decide) rfl rfl) d_nil rfl) rfl rfl rfl) rfl))))))
theorem b__law_barred {P : Program} {w : World} {mg : Str → Option Value} {base : Heap} {K : PySem.W.Frag} {T : List (Addr × Str)} {fc : Value} (Y : YK K T mg) (M_Morning_do : MetOk (cc K T) P w mg base (mthOf (top 55) 2) "Morning" "do" "Morning.do" 6 (["self", "deed"] : List Str) W_Morning_do) :
    BodyOk (cc K T) P w mg base 6 (["morning", "deed", "e"] : List Str) "_law_barred" (top 64) (He.ga K "_law_barred") fc w__law_barred := by
  intro cdv A outer s H E B EE hcd hr tk
  have hU := un_of hr
  have px := psx_of tk
  have nd : ((["morning", "deed", "e"] : List Str)).Nodup := by decide +kernel
  have po : PassesOwn (model P w) (A.deeper (PyProof.Rows.envOfC "_law_barred" (defScope (top 64)) s.heap.objs.size (He.ga K "_law_barred") cdv)) (PyProof.Rows.envOfC "_law_barred" (defScope (top 64)) s.heap.objs.size (He.ga K "_law_barred") cdv) (ctxOf (cc K T) P w mg base (["morning", "deed", "e"] : List Str) "_law_barred" (top 64) (He.ga K "_law_barred") cdv A outer s H E).xe := passes_of (X := (ctxOf (cc K T) P w mg base (["morning", "deed", "e"] : List Str) "_law_barred" (top 64) (He.ga K "_law_barred") cdv A outer s H E)) rfl
  exact (ds_cons (ds_tryAs (i := 2) rfl rfl rfl nd rfl rfl ⟨rfl, by decide, .inl (Y.glo "Barred" (by decide))⟩ (Y.subs "Barred" (by decide)) tk (fun B1 E1 pn xe f1 tk1 po => (let tk := tk1; (ds_one (z_ds_expr (z_g_met Y.ok M_Morning_do rfl rfl hr (by decide) (psx_of tk1) (d_var (pv 0)) (z_d_cons (d_var (pv 1)) d_nil rfl) rfl rfl rfl) rfl)))) (fun B ex a oe cls d pn hz hf rx hsx => (ds_one (ds_ret (z_d_xf rfl (Y.xf _ _ hsx) (Y.xn _ _ hsx _ (by show ("reason" : Str) ∈ _; decide)) hz hf rx (d_var (pv 2)) rfl))))) (ds_one (ds_ret d_str)))
theorem b__law_begun {P : Program} {w : World} {mg : Str → Option Value} {base : Heap} {K : PySem.W.Frag} {T : List (Addr × Str)} {fc : Value} (Y : YK K T mg)  :
    BodyOk (cc K T) P w mg base 0 (["book"] : List Str) "_law_begun" (top 65) (He.ga K "_law_begun") fc w__law_begun := by
  intro cdv A outer s H E B EE hcd hr tk
  have hU := un_of hr
  have px := psx_of tk
  have nd : ((["book"] : List Str)).Nodup := by decide +kernel
  have po : PassesOwn (model P w) (A.deeper (PyProof.Rows.envOfC "_law_begun" (defScope (top 65)) s.heap.objs.size (He.ga K "_law_begun") cdv)) (PyProof.Rows.envOfC "_law_begun" (defScope (top 65)) s.heap.objs.size (He.ga K "_law_begun") cdv) (ctxOf (cc K T) P w mg base (["book"] : List Str) "_law_begun" (top 65) (He.ga K "_law_begun") cdv A outer s H E).xe := passes_of (X := (ctxOf (cc K T) P w mg base (["book"] : List Str) "_law_begun" (top 65) (He.ga K "_law_begun") cdv A outer s H E)) rfl
  exact (ds_one (ds_ret (d_tup (z_d_cons d_int (z_d_cons (d_dict1 (d_ix ⟨rfl, hU⟩ (d_var (pv 0)) d_int (fun _ _ => rfl)) d_int) (z_d_cons (d_lst d_nil) (z_d_cons d_dict0 (z_d_cons d_dict0 d_nil rfl) rfl) rfl) rfl) rfl))))
theorem b__law_may_call {P : Program} {w : World} {mg : Str → Option Value} {base : Heap} {K : PySem.W.Frag} {T : List (Addr × Str)} {fc : Value} (Y : YK K T mg) (D__law_list : DefOk (cc K T) P w mg base (top 63) "_law_list" 1 (["book", "name"] : List Str) W__law_list) :
    BodyOk (cc K T) P w mg base 1 (["book", "now", "minute", "knows", "slept", "made", "last", "found", "name"] : List Str) "_law_may_call" (top 66) (He.ga K "_law_may_call") fc w__law_may_call := by
  intro cdv A outer s H E B EE hcd hr tk
  have hU := un_of hr
  have px := psx_of tk
  have nd : ((["book", "now", "minute", "knows", "slept", "made", "last", "found", "name"] : List Str)).Nodup := by decide +kernel
  have po : PassesOwn (model P w) (A.deeper (PyProof.Rows.envOfC "_law_may_call" (defScope (top 66)) s.heap.objs.size (He.ga K "_law_may_call") cdv)) (PyProof.Rows.envOfC "_law_may_call" (defScope (top 66)) s.heap.objs.size (He.ga K "_law_may_call") cdv) (ctxOf (cc K T) P w mg base (["book", "now", "minute", "knows", "slept", "made", "last", "found", "name"] : List Str) "_law_may_call" (top 66) (He.ga K "_law_may_call") cdv A outer s H E).xe := passes_of (X := (ctxOf (cc K T) P w mg base (["book", "now", "minute", "knows", "slept", "made", "last", "found", "name"] : List Str) "_law_may_call" (top 66) (He.ga K "_law_may_call") cdv A outer s H E)) rfl
  exact (ds_cons (z_ds_asg (d_var (pv 1)) (z_dg_tup ⟨rfl, hU⟩ rfl (z_dg_cons (dg_name (pgn 2 nd)) (z_dg_cons (dg_name (pgn 3 nd)) (z_dg_cons (dg_name (pgn 4 nd)) (z_dg_cons (dg_name (pgn 5 nd)) (z_dg_cons (dg_name (pgn 6 nd)) dg_nil rfl) rfl) rfl) rfl) rfl) rfl rfl) rfl rfl rfl) (ds_cons (z_ds_set (i := 7) nd rfl (by first | exact .inl rfl | exact .inr rfl) (d_lst d_nil) rfl (.inl rfl)) (ds_cons (z_ds_for ⟨rfl, hU⟩ rfl po (di_any ⟨rfl, hU⟩ (d_ix ⟨rfl, hU⟩ (d_var (pv 0)) d_int (fun _ _ => rfl))) (dg_name (pgn 8 nd)) (ds_one (ds_if (d_pw (d_andT (z_d_tin ⟨rfl, hU⟩ (d_var (pv 8)) (d_var (pv 3)) rfl) (d_andT (d_tlt ⟨rfl, hU⟩ (d_ix ⟨rfl, hU⟩ (d_var (pv 3)) (d_var (pv 8)) (fun _ _ => rfl)) (d_var (pv 2))) (d_and1 (d_tlt ⟨rfl, hU⟩ (z_d_meth ⟨rfl, hU⟩ (Mth.get (C := cc K T) ⟨rfl, hU⟩) o_get (d_var (pv 5)) (z_d_cons (d_var (pv 8)) (z_d_cons d_int d_nil rfl) rfl) rfl rfl rfl rfl rfl (by decide)) (z_b_len rfl rfl (Y.free "len" (by decide)) (z_d_cons (z_g_call D__law_list rfl rfl hr (by decide) px rfl (z_d_cons (d_var (pv 0)) (z_d_cons (d_var (pv 8)) d_nil rfl) rfl) (by decide) rfl rfl) d_nil rfl) rfl rfl)))))) (ds_one (ds_if (d_tne ⟨rfl, hU⟩ (z_d_meth ⟨rfl, hU⟩ (Mth.get (C := cc K T) ⟨rfl, hU⟩) o_get (d_var (pv 6)) (z_d_cons (d_var (pv 8)) d_nil rfl) rfl rfl rfl rfl rfl (by decide)) (d_var (pv 2))) (ds_one (z_ds_expr (z_d_meth ⟨rfl, hU⟩ Mth.append o_append (d_var (pv 7)) (z_d_cons (d_var (pv 8)) d_nil rfl) rfl rfl rfl rfl rfl (by decide)) rfl)) ds_nil)) ds_nil)) (fun _ => rfl)) (ds_one (ds_ret (z_b_tuple rfl rfl (Y.free "tuple" (by decide)) (z_d_cons (d_var (pv 7)) d_nil rfl) rfl rfl))))))
theorem b__law_deed {P : Program} {w : World} {mg : Str → Option Value} {base : Heap} {K : PySem.W.Frag} {T : List (Addr × Str)} {fc : Value} (Y : YK K T mg) (D__law_draw : DefOk (cc K T) P w mg base (top 58) "_law_draw" 1 (["pool", "many"] : List Str) W__law_draw) (D__law_may_call : DefOk (cc K T) P w mg base (top 66) "_law_may_call" 2 (["book", "now"] : List Str) W__law_may_call) (D__law_pick : DefOk (cc K T) P w mg base (top 59) "_law_pick" 2 (["pool", "some"] : List Str) W__law_pick) (D__law_list : DefOk (cc K T) P w mg base (top 63) "_law_list" 1 (["book", "name"] : List Str) W__law_list) :
    BodyOk (cc K T) P w mg base 2 (["pool", "book", "now", "way", "some", "name", "at", "answers", "called"] : List Str) "_law_deed" (top 67) (He.ga K "_law_deed") fc w__law_deed := by
  intro cdv A outer s H E B EE hcd hr tk
  have hU := un_of hr
  have px := psx_of tk
  have nd : ((["pool", "book", "now", "way", "some", "name", "at", "answers", "called"] : List Str)).Nodup := by decide +kernel
  have po : PassesOwn (model P w) (A.deeper (PyProof.Rows.envOfC "_law_deed" (defScope (top 67)) s.heap.objs.size (He.ga K "_law_deed") cdv)) (PyProof.Rows.envOfC "_law_deed" (defScope (top 67)) s.heap.objs.size (He.ga K "_law_deed") cdv) (ctxOf (cc K T) P w mg base (["pool", "book", "now", "way", "some", "name", "at", "answers", "called"] : List Str) "_law_deed" (top 67) (He.ga K "_law_deed") cdv A outer s H E).xe := passes_of (X := (ctxOf (cc K T) P w mg base (["pool", "book", "now", "way", "some", "name", "at", "answers", "called"] : List Str) "_law_deed" (top 67) (He.ga K "_law_deed") cdv A outer s H E)) rfl
  exact (ds_cons (z_ds_par (i := 3) (j := 4) ⟨rfl, hU⟩ rfl nd rfl rfl (by decide) rfl rfl (z_g_call D__law_draw rfl rfl hr (by decide) px rfl (z_d_cons (d_var (pv 0)) (z_d_cons d_int d_nil rfl) rfl) (by decide) rfl rfl) (z_g_call D__law_may_call rfl rfl hr (by decide) px rfl (z_d_cons (d_var (pv 1)) (z_d_cons (d_var (pv 2)) d_nil rfl) rfl) (by decide) rfl rfl) rfl rfl rfl rfl) (ds_cons (ds_if (d_pw (d_orT (d_pw (d_andT (d_tlt ⟨rfl, hU⟩ (d_var (pv 3)) d_int) (d_and1 (d_teq ⟨rfl, hU⟩ (d_var (pv 4)) (d_tup d_nil))))) (d_or1 (d_teq ⟨rfl, hU⟩ (d_var (pv 3)) d_int)))) (ds_one (ds_ret (d_tup (z_d_cons d_str d_nil rfl)))) ds_nil) (ds_cons (z_ds_set (i := 5) nd rfl (by first | exact .inl rfl | exact .inr rfl) (d_ite (d_pw (d_andT (d_tne ⟨rfl, hU⟩ (d_var (pv 4)) (d_tup d_nil)) (d_and1 (d_tlt ⟨rfl, hU⟩ (d_var (pv 3)) d_int)))) (z_g_call D__law_pick rfl rfl hr (by decide) px rfl (z_d_cons (d_var (pv 0)) (z_d_cons (d_var (pv 4)) d_nil rfl) rfl) (by decide) rfl rfl) (z_g_call D__law_pick rfl rfl hr (by decide) px rfl (z_d_cons (d_var (pv 0)) (z_d_cons (d_ix ⟨rfl, hU⟩ (d_var (pv 1)) d_int (fun _ _ => rfl)) d_nil rfl) rfl) (by decide) rfl rfl)) rfl (.inl rfl)) (ds_cons (z_ds_par (i := 6) (j := 7) ⟨rfl, hU⟩ rfl nd rfl rfl (by decide) rfl rfl (z_d_meth ⟨rfl, hU⟩ (Mth.get (C := cc K T) ⟨rfl, hU⟩) o_get (d_ix ⟨rfl, hU⟩ (d_var (pv 2)) d_int (fun _ _ => rfl)) (z_d_cons (d_var (pv 5)) (z_d_cons d_int d_nil rfl) rfl) rfl rfl rfl rfl rfl (by decide)) (d_gt ⟨rfl, hU⟩ (z_g_call D__law_draw rfl rfl hr (by decide) px rfl (z_d_cons (d_var (pv 0)) (z_d_cons d_int d_nil rfl) rfl) (by decide) rfl rfl) d_int) rfl rfl rfl rfl) (ds_cons (ds_if (d_pw (d_andT (d_tlt ⟨rfl, hU⟩ (d_var (pv 3)) d_int) (d_and1 (d_tlt ⟨rfl, hU⟩ (d_var (pv 6)) (z_b_len rfl rfl (Y.free "len" (by decide)) (z_d_cons (z_g_call D__law_list rfl rfl hr (by decide) px rfl (z_d_cons (d_var (pv 1)) (z_d_cons (d_var (pv 5)) d_nil rfl) rfl) (by decide) rfl rfl) d_nil rfl) rfl rfl))))) (ds_cons (z_ds_set (i := 8) nd rfl (by first | exact .inl rfl | exact .inr rfl) (d_ix ⟨rfl, hU⟩ (z_g_call D__law_list rfl rfl hr (by decide) px rfl (z_d_cons (d_var (pv 1)) (z_d_cons (d_var (pv 5)) d_nil rfl) rfl) (by decide) rfl rfl) (d_var (pv 6)) (fun _ _ => rfl)) rfl (.inl rfl)) (ds_one (z_ds_set (i := 7) nd rfl (by first | exact .inl rfl | exact .inr rfl) (d_ite (z_d_tin ⟨rfl, hU⟩ (d_var (pv 8)) (d_ix ⟨rfl, hU⟩ (d_var (pv 2)) d_int (fun _ _ => rfl)) rfl) d_bl (d_ite (z_d_tin ⟨rfl, hU⟩ (d_var (pv 8)) (d_ix ⟨rfl, hU⟩ (d_var (pv 2)) d_int (fun _ _ => rfl)) rfl) d_bl (d_var (pv 7)))) rfl (.inl rfl)))) ds_nil) (ds_one (ds_ret (d_tup (z_d_cons d_str (z_d_cons (d_var (pv 5)) (z_d_cons (d_var (pv 7)) d_nil rfl) rfl) rfl)))))))))
theorem b__law_behind {P : Program} {w : World} {mg : Str → Option Value} {base : Heap} {K : PySem.W.Frag} {T : List (Addr × Str)} {fc : Value} (Y : YK K T mg) (D__law_list : DefOk (cc K T) P w mg base (top 63) "_law_list" 1 (["book", "name"] : List Str) W__law_list) :
    BodyOk (cc K T) P w mg base 1 (["book", "now", "deed", "minute", "knows", "slept", "made", "last", "called"] : List Str) "_law_behind" (top 68) (He.ga K "_law_behind") fc w__law_behind := by
  intro cdv A outer s H E B EE hcd hr tk
  have hU := un_of hr
  have px := psx_of tk
  have nd : ((["book", "now", "deed", "minute", "knows", "slept", "made", "last", "called"] : List Str)).Nodup := by decide +kernel
  have po : PassesOwn (model P w) (A.deeper (PyProof.Rows.envOfC "_law_behind" (defScope (top 68)) s.heap.objs.size (He.ga K "_law_behind") cdv)) (PyProof.Rows.envOfC "_law_behind" (defScope (top 68)) s.heap.objs.size (He.ga K "_law_behind") cdv) (ctxOf (cc K T) P w mg base (["book", "now", "deed", "minute", "knows", "slept", "made", "last", "called"] : List Str) "_law_behind" (top 68) (He.ga K "_law_behind") cdv A outer s H E).xe := passes_of (X := (ctxOf (cc K T) P w mg base (["book", "now", "deed", "minute", "knows", "slept", "made", "last", "called"] : List Str) "_law_behind" (top 68) (He.ga K "_law_behind") cdv A outer s H E)) rfl
  exact (ds_cons (z_ds_asg (d_var (pv 1)) (z_dg_tup ⟨rfl, hU⟩ rfl (z_dg_cons (dg_name (pgn 3 nd)) (z_dg_cons (dg_name (pgn 4 nd)) (z_dg_cons (dg_name (pgn 5 nd)) (z_dg_cons (dg_name (pgn 6 nd)) (z_dg_cons (dg_name (pgn 7 nd)) dg_nil rfl) rfl) rfl) rfl) rfl) rfl rfl) rfl rfl rfl) (ds_cons (ds_if (d_teq ⟨rfl, hU⟩ (d_ix ⟨rfl, hU⟩ (d_var (pv 2)) d_int (fun _ _ => rfl)) d_str) (ds_one (ds_ret (d_tup (z_d_cons (d_add ⟨rfl, hU⟩ (d_var (pv 3)) d_int) (z_d_cons (d_var (pv 4)) (z_d_cons (d_var (pv 5)) (z_d_cons (d_var (pv 6)) (z_d_cons (d_var (pv 7)) d_nil rfl) rfl) rfl) rfl) rfl)))) ds_nil) (ds_cons (z_ds_par3 (i := 4) (j := 6) (l := 7) rfl nd rfl rfl rfl (by decide) (by decide) (by decide) rfl rfl rfl (z_d_cons (z_d_copyItems rfl rfl (d_var (pv 4)) rfl (Y.free "list" (by decide)) rfl (Y.free "dict" (by decide)) rfl rfl rfl rfl) (z_d_cons (z_d_copyItems rfl rfl (d_var (pv 6)) rfl (Y.free "list" (by decide)) rfl (Y.free "dict" (by decide)) rfl rfl rfl rfl) (z_d_cons (z_d_copyItems rfl rfl (d_var (pv 7)) rfl (Y.free "list" (by decide)) rfl (Y.free "dict" (by decide)) rfl rfl rfl rfl) d_nil rfl) rfl) rfl) rfl rfl) (ds_cons (z_ds_set (i := 8) nd rfl (by first | exact .inl rfl | exact .inr rfl) (d_ix ⟨rfl, hU⟩ (z_g_call D__law_list rfl rfl hr (by decide) px rfl (z_d_cons (d_var (pv 0)) (z_d_cons (d_ix ⟨rfl, hU⟩ (d_var (pv 2)) d_int (fun _ _ => rfl)) d_nil rfl) rfl) (by decide) rfl rfl) (z_d_meth ⟨rfl, hU⟩ (Mth.get (C := cc K T) ⟨rfl, hU⟩) o_get (d_var (pv 6)) (z_d_cons (d_ix ⟨rfl, hU⟩ (d_var (pv 2)) d_int (fun _ _ => rfl)) (z_d_cons d_int d_nil rfl) rfl) rfl rfl rfl rfl rfl (by decide)) (fun _ _ => rfl)) rfl (.inl rfl)) (ds_cons (z_ds_asg (d_add ⟨rfl, hU⟩ (z_d_meth ⟨rfl, hU⟩ (Mth.get (C := cc K T) ⟨rfl, hU⟩) o_get (d_var (pv 6)) (z_d_cons (d_ix ⟨rfl, hU⟩ (d_var (pv 2)) d_int (fun _ _ => rfl)) (z_d_cons d_int d_nil rfl) rfl) rfl rfl rfl rfl rfl (by decide)) d_int) (z_dg_sub ⟨rfl, hU⟩ (d_var (pv 6)) (d_ix ⟨rfl, hU⟩ (d_var (pv 2)) d_int (fun _ _ => rfl)) (fun _ => rfl)) rfl rfl rfl) (ds_cons (z_ds_asg (d_var (pv 3)) (z_dg_sub ⟨rfl, hU⟩ (d_var (pv 7)) (d_ix ⟨rfl, hU⟩ (d_var (pv 2)) d_int (fun _ _ => rfl)) (fun _ => rfl)) rfl rfl rfl) (ds_cons (ds_if (d_pw (d_andT (z_d_tval (d_ix ⟨rfl, hU⟩ (d_var (pv 2)) d_int (fun _ _ => rfl)) (fun _ => rfl)) (d_and1 (z_d_tnotin ⟨rfl, hU⟩ (d_var (pv 8)) (d_var (pv 4)) rfl)))) (ds_one (z_ds_asg (d_var (pv 3)) (z_dg_sub ⟨rfl, hU⟩ (d_var (pv 4)) (d_var (pv 8)) (fun _ => rfl)) rfl rfl rfl)) ds_nil) (ds_one (ds_ret (d_tup (z_d_cons (d_var (pv 3)) (z_d_cons (d_var (pv 4)) (z_d_cons (d_ite (d_pw (d_orT (z_d_tval (d_ix ⟨rfl, hU⟩ (d_var (pv 2)) d_int (fun _ _ => rfl)) (fun _ => rfl)) (d_or1 (z_d_tin ⟨rfl, hU⟩ (d_var (pv 8)) (d_var (pv 5)) rfl)))) (d_var (pv 5)) (d_add ⟨rfl, hU⟩ (d_var (pv 5)) (d_lst (z_d_cons (d_var (pv 8)) d_nil rfl)))) (z_d_cons (d_var (pv 6)) (z_d_cons (d_var (pv 7)) d_nil rfl) rfl) rfl) rfl) rfl)))))))))))
theorem b_Morning_is_over {P : Program} {w : World} {mg : Str → Option Value} {base : Heap} {K : PySem.W.Frag} {T : List (Addr × Str)} {fc : Value} (Y : YK K T mg) (D_is_over_by : DefOk (cc K T) P w mg base (top 49) "is_over_by" 3 (["book", "standing"] : List Str) W_is_over_by) :
    BodyOk (cc K T) P w mg base 3 (["self"] : List Str) "Morning.is_over" (mthOf (top 55) 5) (He.ma K (He.ga K "Morning") "is_over") fc w_Morning_is_over := by
  intro cdv A outer s H E B EE hcd hr tk
  have hU := un_of hr
  have px := psx_of tk
  have nd : ((["self"] : List Str)).Nodup := by decide +kernel
  have po : PassesOwn (model P w) (A.deeper (PyProof.Rows.envOfC "Morning.is_over" (defScope (mthOf (top 55) 5)) s.heap.objs.size (He.ma K (He.ga K "Morning") "is_over") cdv)) (PyProof.Rows.envOfC "Morning.is_over" (defScope (mthOf (top 55) 5)) s.heap.objs.size (He.ma K (He.ga K "Morning") "is_over") cdv) (ctxOf (cc K T) P w mg base (["self"] : List Str) "Morning.is_over" (mthOf (top 55) 5) (He.ma K (He.ga K "Morning") "is_over") cdv A outer s H E).xe := passes_of (X := (ctxOf (cc K T) P w mg base (["self"] : List Str) "Morning.is_over" (mthOf (top 55) 5) (He.ma K (He.ga K "Morning") "is_over") cdv A outer s H E)) rfl
  exact (ds_one (ds_ret (z_g_call D_is_over_by rfl rfl hr (by decide) px rfl (z_d_cons (z_d_fld ⟨rfl, hU⟩ Y.ok (by show ("book" : Str) ∈ flds; decide) (d_var (pv 0)) rfl) (z_d_cons (z_d_fld ⟨rfl, hU⟩ Y.ok (by show ("standing" : Str) ∈ flds; decide) (d_var (pv 0)) rfl) d_nil rfl) rfl) (by decide) rfl rfl)))
theorem b_Morning_may_call {P : Program} {w : World} {mg : Str → Option Value} {base : Heap} {K : PySem.W.Frag} {T : List (Addr × Str)} {fc : Value} (Y : YK K T mg) (D_could_call : DefOk (cc K T) P w mg base (top 48) "could_call" 3 (["book", "standing"] : List Str) W_could_call) :
    BodyOk (cc K T) P w mg base 3 (["self"] : List Str) "Morning.may_call" (mthOf (top 55) 4) (He.ma K (He.ga K "Morning") "may_call") fc w_Morning_may_call := by
  intro cdv A outer s H E B EE hcd hr tk
  have hU := un_of hr
  have px := psx_of tk
  have nd : ((["self"] : List Str)).Nodup := by decide +kernel
  have po : PassesOwn (model P w) (A.deeper (PyProof.Rows.envOfC "Morning.may_call" (defScope (mthOf (top 55) 4)) s.heap.objs.size (He.ma K (He.ga K "Morning") "may_call") cdv)) (PyProof.Rows.envOfC "Morning.may_call" (defScope (mthOf (top 55) 4)) s.heap.objs.size (He.ma K (He.ga K "Morning") "may_call") cdv) (ctxOf (cc K T) P w mg base (["self"] : List Str) "Morning.may_call" (mthOf (top 55) 4) (He.ma K (He.ga K "Morning") "may_call") cdv A outer s H E).xe := passes_of (X := (ctxOf (cc K T) P w mg base (["self"] : List Str) "Morning.may_call" (mthOf (top 55) 4) (He.ma K (He.ga K "Morning") "may_call") cdv A outer s H E)) rfl
  exact (ds_one (ds_ret (z_g_call D_could_call rfl rfl hr (by decide) px rfl (z_d_cons (z_d_fld ⟨rfl, hU⟩ Y.ok (by show ("book" : Str) ∈ flds; decide) (d_var (pv 0)) rfl) (z_d_cons (z_d_fld ⟨rfl, hU⟩ Y.ok (by show ("standing" : Str) ∈ flds; decide) (d_var (pv 0)) rfl) d_nil rfl) rfl) (by decide) rfl rfl)))
theorem b__law_told {P : Program} {w : World} {mg : Str → Option Value} {base : Heap} {K : PySem.W.Frag} {T : List (Addr × Str)} {fc : Value} (Y : YK K T mg) (M_Morning_is_over : MetOk (cc K T) P w mg base (mthOf (top 55) 5) "Morning" "is_over" "Morning.is_over" 4 (["self"] : List Str) W_Morning_is_over) (M_Morning_may_call : MetOk (cc K T) P w mg base (mthOf (top 55) 4) "Morning" "may_call" "Morning.may_call" 4 (["self"] : List Str) W_Morning_may_call) :
    BodyOk (cc K T) P w mg base 4 (["morning"] : List Str) "_law_told" (top 69) (He.ga K "_law_told") fc w__law_told := by
  intro cdv A outer s H E B EE hcd hr tk
  have hU := un_of hr
  have px := psx_of tk
  have nd : ((["morning"] : List Str)).Nodup := by decide +kernel
  have po : PassesOwn (model P w) (A.deeper (PyProof.Rows.envOfC "_law_told" (defScope (top 69)) s.heap.objs.size (He.ga K "_law_told") cdv)) (PyProof.Rows.envOfC "_law_told" (defScope (top 69)) s.heap.objs.size (He.ga K "_law_told") cdv) (ctxOf (cc K T) P w mg base (["morning"] : List Str) "_law_told" (top 69) (He.ga K "_law_told") cdv A outer s H E).xe := passes_of (X := (ctxOf (cc K T) P w mg base (["morning"] : List Str) "_law_told" (top 69) (He.ga K "_law_told") cdv A outer s H E)) rfl
  exact (ds_one (ds_ret (d_lst (z_d_cons (z_d_fld ⟨rfl, hU⟩ Y.ok (by show ("minute" : Str) ∈ flds; decide) (d_var (pv 0)) rfl) (z_d_cons (z_d_fld ⟨rfl, hU⟩ Y.ok (by show ("knowing" : Str) ∈ flds; decide) (d_var (pv 0)) rfl) (z_d_cons (z_d_fld ⟨rfl, hU⟩ Y.ok (by show ("sleeping" : Str) ∈ flds; decide) (d_var (pv 0)) rfl) (z_d_cons (z_g_met0 Y.ok M_Morning_may_call rfl rfl hr (by decide) px (d_var (pv 0)) rfl) (z_d_cons (z_g_met0 Y.ok M_Morning_is_over rfl rfl hr (by decide) px (d_var (pv 0)) rfl) d_nil rfl) rfl) rfl) rfl) rfl))))
theorem b__law_refused {P : Program} {w : World} {mg : Str → Option Value} {base : Heap} {K : PySem.W.Frag} {T : List (Addr × Str)} (Y : YK K T mg) (I_CallError : XisC K subX "CallError") :
    ∀ (cdv : Value) (A : Around) (outer : List PySem.Env) (s : Shared) (H : Hp) (E : XK) (B : Anc) (EE : EW) (f : Addr) (Wf : DF), RoomG 13 (A.deeper (PyProof.Rows.envOfC "_law_refused" (defScope (top 70)) s.heap.objs.size (He.ga K "_law_refused") cdv)) → Takes (ctxOf (cc K T) P w mg base (["call", "e"] : List Str) "_law_refused" (top 70) (He.ga K "_law_refused") cdv A outer s H E) (upX (cc K T) B EE) → B.H = H → CloAt (cc K T) P w mg base (frs outer) s B 13 f 0 Wf →
      PSsd (cc K T) B (ctxOf (cc K T) P w mg base (["call", "e"] : List Str) "_law_refused" (top 70) (He.ga K "_law_refused") cdv A outer s H E) (defBody (top 70)) (w__law_refused f Wf EE) := by
  intro cdv A outer s H E B EE f Wf hr tk hB F1
  have hA : Fr B.Z B.H B.Z B.H := Fr.refl
  have hU := un_of hr
  have px := psx_of tk
  have nd : ((["call", "e"] : List Str)).Nodup := by decide +kernel
  have po : PassesOwn (model P w) (A.deeper (PyProof.Rows.envOfC "_law_refused" (defScope (top 70)) s.heap.objs.size (He.ga K "_law_refused") cdv)) (PyProof.Rows.envOfC "_law_refused" (defScope (top 70)) s.heap.objs.size (He.ga K "_law_refused") cdv) (ctxOf (cc K T) P w mg base (["call", "e"] : List Str) "_law_refused" (top 70) (He.ga K "_law_refused") cdv A outer s H E).xe := passes_of (X := (ctxOf (cc K T) P w mg base (["call", "e"] : List Str) "_law_refused" (top 70) (He.ga K "_law_refused") cdv A outer s H E)) rfl
  exact (ds_cons (ds_tryAs (i := 1) rfl rfl rfl nd rfl rfl ⟨rfl, by decide, .inl (Y.glo "NotABook" (by decide))⟩ (Y.subs "NotABook" (by decide)) tk (fun B1 E1 pn xe f1 tk1 po => (have hA := Fr.trans hA f1; let tk := tk1; (ds_one (z_ds_expr (z_d_clo0 (i := 0) rfl F1 hB rfl hA (hr.mono (by decide)) (psx_of tk1) rfl (by first | exact .inl rfl | exact .inr (.inl rfl)) (by decide) (by decide)) rfl)))) (fun B ex a oe cls d pn hz hf rx hsx => (ds_one (ds_ret (d_lst (z_d_cons (z_b_reprX rfl hU hr.gd rfl (Y.free "repr" (by decide)) (z_d_cons (z_d_xf rfl (Y.xf _ _ hsx) (Y.xn _ _ hsx _ (by show ("given" : Str) ∈ _; decide)) hz hf rx (d_var (pv 1)) rfl) d_nil rfl) rfl rfl) (z_d_cons (z_xis rfl I_CallError (sub_any hsx (by show ("CallError" : Str) ∈ excs; decide)) hz hf rx rfl (Y.free "isinstance" (by decide)) (d_var (pv 1)) (z_g_glo rfl rfl (Y.glo "CallError" (by decide)) (by decide)) rfl rfl rfl) d_nil rfl) rfl)))))) (ds_one (ds_ret d_non)))
theorem b_Morning_init {P : Program} {w : World} {mg : Str → Option Value} {base : Heap} {K : PySem.W.Frag} {T : List (Addr × Str)} {fc : Value} (Y : YK K T mg) (D_check_book : DefOk (cc K T) P w mg base (top 31) "check_book" 3 (["value"] : List Str) W_check_book) (M_Morning_move_to : MetOk (cc K T) P w mg base (mthOf (top 55) 1) "Morning" "move_to" "Morning.move_to" 1 (["self", "standing"] : List Str) W_Morning_move_to) (D_begun : DefOk (cc K T) P w mg base (top 43) "begun" 3 (["book"] : List Str) W_begun) :
    BodyOk (cc K T) P w mg base 3 (["self", "book"] : List Str) "Morning.__init__" (mthOf (top 55) 0) (He.ma K (He.ga K "Morning") "__init__") fc w_Morning_init := by
  intro cdv A outer s H E B EE hcd hr tk
  have hU := un_of hr
  have px := psx_of tk
  have nd : ((["self", "book"] : List Str)).Nodup := by decide +kernel
  have po : PassesOwn (model P w) (A.deeper (PyProof.Rows.envOfC "Morning.__init__" (defScope (mthOf (top 55) 0)) s.heap.objs.size (He.ma K (He.ga K "Morning") "__init__") cdv)) (PyProof.Rows.envOfC "Morning.__init__" (defScope (mthOf (top 55) 0)) s.heap.objs.size (He.ma K (He.ga K "Morning") "__init__") cdv) (ctxOf (cc K T) P w mg base (["self", "book"] : List Str) "Morning.__init__" (mthOf (top 55) 0) (He.ma K (He.ga K "Morning") "__init__") cdv A outer s H E).xe := passes_of (X := (ctxOf (cc K T) P w mg base (["self", "book"] : List Str) "Morning.__init__" (mthOf (top 55) 0) (He.ma K (He.ga K "Morning") "__init__") cdv A outer s H E)) rfl
  exact (ds_cons (z_ds_expr (z_g_call D_check_book rfl rfl hr (by decide) px rfl (z_d_cons (d_var (pv 1)) d_nil rfl) (by decide) rfl rfl) rfl) (ds_cons (z_d_sfld ⟨rfl, hU⟩ Y.ok (by show ("book" : Str) ∈ flds; decide) (d_var (pv 0)) (d_var (pv 1)) rfl) (ds_cons (z_d_sfld ⟨rfl, hU⟩ Y.ok (by show ("deeds" : Str) ∈ flds; decide) (d_var (pv 0)) (d_tup d_nil) rfl) (ds_cons (z_d_sfld ⟨rfl, hU⟩ Y.ok (by show ("past" : Str) ∈ flds; decide) (d_var (pv 0)) (d_lst d_nil) rfl) (ds_one (z_ds_expr (z_g_met Y.ok M_Morning_move_to rfl rfl hr (by decide) px (d_var (pv 0)) (z_d_cons (z_g_call D_begun rfl rfl hr (by decide) px rfl (z_d_cons (d_var (pv 1)) d_nil rfl) (by decide) rfl rfl) d_nil rfl) rfl rfl rfl) rfl))))))
theorem b_Book___eq__ {P : Program} {w : World} {mg : Str → Option Value} {base : Heap} {K : PySem.W.Frag} {T : List (Addr × Str)} {fc : Value} (Y : YK K T mg) (D_parts_of : DefOk (cc K T) P w mg base (top 30) "parts_of" 4 (["book"] : List Str) W_parts_of) :
    BodyOk (cc K T) P w mg base 4 (["self", "other"] : List Str) "Book.__eq__" (mthOf (top 29) 1) (He.ma K (He.ga K "Book") "__eq__") fc w_Book___eq__ := by
  intro cdv A outer s H E B EE hcd hr tk
  have hU := un_of hr
  have px := psx_of tk
  have nd : ((["self", "other"] : List Str)).Nodup := by decide +kernel
  have po : PassesOwn (model P w) (A.deeper (PyProof.Rows.envOfC "Book.__eq__" (defScope (mthOf (top 29) 1)) s.heap.objs.size (He.ma K (He.ga K "Book") "__eq__") cdv)) (PyProof.Rows.envOfC "Book.__eq__" (defScope (mthOf (top 29) 1)) s.heap.objs.size (He.ma K (He.ga K "Book") "__eq__") cdv) (ctxOf (cc K T) P w mg base (["self", "other"] : List Str) "Book.__eq__" (mthOf (top 29) 1) (He.ma K (He.ga K "Book") "__eq__") cdv A outer s H E).xe := passes_of (X := (ctxOf (cc K T) P w mg base (["self", "other"] : List Str) "Book.__eq__" (mthOf (top 29) 1) (He.ma K (He.ga K "Book") "__eq__") cdv A outer s H E)) rfl
  exact (ds_one (ds_ret (d_and (d_isi ⟨rfl, hU⟩ Y.ok rfl (Y.free "isinstance" (by decide)) bt_isinstance (z_d_cons (d_var (pv 1)) (z_d_cons (z_g_glo rfl rfl (Y.glo "Book" (by decide)) (by decide)) d_nil rfl) rfl)) (d_one (d_eq ⟨rfl, hU⟩ (z_g_call D_parts_of rfl rfl hr (by decide) px rfl (z_d_cons (d_var (pv 0)) d_nil rfl) (by decide) rfl rfl) (z_g_call D_parts_of rfl rfl hr (by decide) px rfl (z_d_cons (d_var (pv 1)) d_nil rfl) (by decide) rfl rfl))) rfl)))
theorem b_Morning___eq__ {P : Program} {w : World} {mg : Str → Option Value} {base : Heap} {K : PySem.W.Frag} {T : List (Addr × Str)} {fc : Value} (Y : YK K T mg) (M_Book___eq__ : MetOk (cc K T) P w mg base (mthOf (top 29) 1) "Book" "__eq__" "Book.__eq__" 5 (["self", "other"] : List Str) W_Book___eq__) :
    BodyOk (cc K T) P w mg base 5 (["self", "other"] : List Str) "Morning.__eq__" (mthOf (top 55) 6) (He.ma K (He.ga K "Morning") "__eq__") fc w_Morning___eq__ := by
  intro cdv A outer s H E B EE hcd hr tk
  have hU := un_of hr
  have px := psx_of tk
  have nd : ((["self", "other"] : List Str)).Nodup := by decide +kernel
  have po : PassesOwn (model P w) (A.deeper (PyProof.Rows.envOfC "Morning.__eq__" (defScope (mthOf (top 55) 6)) s.heap.objs.size (He.ma K (He.ga K "Morning") "__eq__") cdv)) (PyProof.Rows.envOfC "Morning.__eq__" (defScope (mthOf (top 55) 6)) s.heap.objs.size (He.ma K (He.ga K "Morning") "__eq__") cdv) (ctxOf (cc K T) P w mg base (["self", "other"] : List Str) "Morning.__eq__" (mthOf (top 55) 6) (He.ma K (He.ga K "Morning") "__eq__") cdv A outer s H E).xe := passes_of (X := (ctxOf (cc K T) P w mg base (["self", "other"] : List Str) "Morning.__eq__" (mthOf (top 55) 6) (He.ma K (He.ga K "Morning") "__eq__") cdv A outer s H E)) rfl
  exact (ds_one (ds_ret (d_and (d_isi ⟨rfl, hU⟩ Y.ok rfl (Y.free "isinstance" (by decide)) bt_isinstance (z_d_cons (d_var (pv 1)) (z_d_cons (z_g_glo rfl rfl (Y.glo "Morning" (by decide)) (by decide)) d_nil rfl) rfl)) (d_and (z_own M_Book___eq__ rfl rfl hr (by decide) (z_d_fld ⟨rfl, hU⟩ Y.ok (by show ("book" : Str) ∈ flds; decide) (d_var (pv 0)) rfl) (z_d_fld ⟨rfl, hU⟩ Y.ok (by show ("book" : Str) ∈ flds; decide) (d_var (pv 1)) rfl)) (d_one (d_eq ⟨rfl, hU⟩ (z_d_fld ⟨rfl, hU⟩ Y.ok (by show ("deeds" : Str) ∈ flds; decide) (d_var (pv 0)) rfl) (z_d_fld ⟨rfl, hU⟩ Y.ok (by show ("deeds" : Str) ∈ flds; decide) (d_var (pv 1)) rfl))) rfl) rfl)))
theorem b__law_right {P : Program} {w : World} {mg : Str → Option Value} {base : Heap} {K : PySem.W.Frag} {T : List (Addr × Str)} {fc : Value} (Y : YK K T mg) (D__law_small : DefOk (cc K T) P w mg base (top 61) "_law_small" 4 (["pool"] : List Str) W__law_small) (D__law_made : DefOk (cc K T) P w mg base (top 62) "_law_made" 10 (["book"] : List Str) W__law_made) (D__law_begun : DefOk (cc K T) P w mg base (top 65) "_law_begun" 1 (["book"] : List Str) W__law_begun) (N_Morning : NewOk (cc K T) P w mg base (mthOf (top 55) 0) "Morning" "Morning.__init__" 4 (["self", "book"] : List Str) W_Morning_init) (D__law_list : DefOk (cc K T) P w mg base (top 63) "_law_list" 1 (["book", "name"] : List Str) W__law_list) (D__law_told : DefOk (cc K T) P w mg base (top 69) "_law_told" 5 (["morning"] : List Str) W__law_told) (M_Book___eq__ : MetOk (cc K T) P w mg base (mthOf (top 29) 1) "Book" "__eq__" "Book.__eq__" 5 (["self", "other"] : List Str) W_Book___eq__) (M_Morning___eq__ : MetOk (cc K T) P w mg base (mthOf (top 55) 6) "Morning" "__eq__" "Morning.__eq__" 6 (["self", "other"] : List Str) W_Morning___eq__) (J_Morning : NeC K "Morning") (JF_Morning__Book : NfC K "Morning" "Book") (D__law_deed : DefOk (cc K T) P w mg base (top 67) "_law_deed" 3 (["pool", "book", "now"] : List Str) W__law_deed) (D__law_barred : DefOk (cc K T) P w mg base (top 64) "_law_barred" 7 (["morning", "deed"] : List Str) W__law_barred) (D__law_behind : DefOk (cc K T) P w mg base (top 68) "_law_behind" 2 (["book", "now", "deed"] : List Str) W__law_behind) (M_Morning_do : MetOk (cc K T) P w mg base (mthOf (top 55) 2) "Morning" "do" "Morning.do" 6 (["self", "deed"] : List Str) W_Morning_do) (H__law_refused : HofOk (cc K T) P w mg base "_law_refused" 14 13 1 0 W__law_refused) {ca Pt : Addr} (TAh : ∀ (X : Cx), X.base = base → X.mg = mg → X.env.code = fc → X.env.qual = "_law_right.<locals>." → TabAt (cc K T) X ca Pt) :
    BodyOk (cc K T) P w mg base 14 (["pool", "book", "made", "morning", "twin", "now", "due", "other", "turn", "deed", "thing"] : List Str) "_law_right" (top 71) (He.ga K "_law_right") fc w__law_right := by
  intro cdv A outer s H E B EE hcd hr tk
  have hU := un_of hr
  have px := psx_of tk
  have nd : ((["pool", "book", "made", "morning", "twin", "now", "due", "other", "turn", "deed", "thing"] : List Str)).Nodup := by decide +kernel
  have po : PassesOwn (model P w) (A.deeper (PyProof.Rows.envOfC "_law_right" (defScope (top 71)) s.heap.objs.size (He.ga K "_law_right") cdv)) (PyProof.Rows.envOfC "_law_right" (defScope (top 71)) s.heap.objs.size (He.ga K "_law_right") cdv) (ctxOf (cc K T) P w mg base (["pool", "book", "made", "morning", "twin", "now", "due", "other", "turn", "deed", "thing"] : List Str) "_law_right" (top 71) (He.ga K "_law_right") cdv A outer s H E).xe := passes_of (X := (ctxOf (cc K T) P w mg base (["pool", "book", "made", "morning", "twin", "now", "due", "other", "turn", "deed", "thing"] : List Str) "_law_right" (top 71) (He.ga K "_law_right") cdv A outer s H E)) rfl
  have TA := TAh (ctxOf (cc K T) P w mg base (["pool", "book", "made", "morning", "twin", "now", "due", "other", "turn", "deed", "thing"] : List Str) "_law_right" (top 71) (He.ga K "_law_right") cdv A outer s H E) rfl rfl hcd rfl
  exact (ds_cons (z_ds_set (i := 1) nd rfl (by first | exact .inl rfl | exact .inr rfl) (z_g_call D__law_small rfl rfl hr (by decide) px rfl (z_d_cons (d_var (pv 0)) d_nil rfl) (by decide) rfl rfl) rfl (.inl rfl)) (ds_cons (z_ds_set (i := 2) nd rfl (by first | exact .inl rfl | exact .inr rfl) (z_g_call D__law_made rfl rfl hr (by decide) px rfl (z_d_cons (d_var (pv 1)) d_nil rfl) (by decide) rfl rfl) rfl (.inl rfl)) (ds_cons (z_ds_par3 (i := 3) (j := 4) (l := 5) rfl nd rfl rfl rfl (by decide) (by decide) (by decide) rfl rfl rfl (z_d_cons (z_g_new N_Morning rfl rfl hr (by decide) px rfl (z_d_cons (d_var (pv 2)) d_nil rfl) (by decide) rfl rfl) (z_d_cons (z_newK (ks := (["book"] : List Str)) N_Morning rfl rfl rfl hr (by decide) px rfl (fun _ _ _ _ _ _ us ws h1 h2 => match us, ws, h1, h2 with | [_], [_], _, _ => rfl) (dk_cons (z_g_call D__law_made rfl rfl hr (by decide) px rfl (z_d_cons (d_var (pv 1)) d_nil rfl) (by decide) rfl rfl) dk_nil) (by decide) rfl rfl rfl) (z_d_cons (z_g_call D__law_begun rfl rfl hr (by decide) px rfl (z_d_cons (d_var (pv 1)) d_nil rfl) (by decide) rfl rfl) d_nil rfl) rfl) rfl) rfl rfl) (ds_cons (z_ds_set (i := 6) nd rfl (by first | exact .inl rfl | exact .inr rfl) (d_lst (z_d_cons d_int (z_d_cons (d_tup (z_d_cons (d_ix ⟨rfl, hU⟩ (d_var (pv 1)) d_int (fun _ _ => rfl)) d_nil rfl)) (z_d_cons (d_tup d_nil) (z_d_cons (d_tup d_nil) (z_d_cons (d_eq ⟨rfl, hU⟩ (z_g_call D__law_list rfl rfl hr (by decide) px rfl (z_d_cons (d_var (pv 1)) (z_d_cons (d_ix ⟨rfl, hU⟩ (d_var (pv 1)) d_int (fun _ _ => rfl)) d_nil rfl) rfl) (by decide) rfl rfl) (d_tup d_nil)) d_nil rfl) rfl) rfl) rfl) rfl)) rfl (.inl rfl)) (ds_cons (ds_if (d_pw (d_orT (d_tne ⟨rfl, hU⟩ (z_b_repr rfl hU hr.gd rfl (Y.free "repr" (by decide)) (z_d_cons (d_lst (z_d_cons (z_g_call D__law_told rfl rfl hr (by decide) px rfl (z_d_cons (d_var (pv 3)) d_nil rfl) (by decide) rfl rfl) (z_d_cons (z_d_fld ⟨rfl, hU⟩ Y.ok (by show ("deeds" : Str) ∈ flds; decide) (d_var (pv 3)) rfl) d_nil rfl) rfl)) d_nil rfl) rfl rfl) (z_b_repr rfl hU hr.gd rfl (Y.free "repr" (by decide)) (z_d_cons (d_lst (z_d_cons (d_var (pv 6)) (z_d_cons (d_tup d_nil) d_nil rfl) rfl)) d_nil rfl) rfl rfl)) (d_or1 (d_notT (z_town M_Book___eq__ rfl rfl hr (by decide) (z_d_fld ⟨rfl, hU⟩ Y.ok (by show ("book" : Str) ∈ flds; decide) (d_var (pv 3)) rfl) (d_var (pv 2))))))) (ds_one (ds_ret d_bl)) ds_nil) (ds_cons (ds_if (d_pw (d_orT (d_notT (z_town M_Morning___eq__ rfl rfl hr (by decide) (d_var (pv 3)) (d_var (pv 4)))) (d_orT (z_townNe J_Morning M_Morning___eq__ rfl rfl hr (by decide) (d_var (pv 3)) (d_var (pv 4))) (d_orT (z_town2 JF_Morning__Book M_Morning___eq__ rfl rfl hr (by decide) (d_var (pv 3)) (d_var (pv 2))) (d_or1 (z_townN M_Morning___eq__ rfl rfl hr (by decide) (d_var (pv 3)) d_non)))))) (ds_one (ds_ret d_bl)) ds_nil) (ds_cons (z_ds_set (i := 7) nd rfl (by first | exact .inl rfl | exact .inr rfl) (z_g_call D__law_small rfl rfl hr (by decide) px rfl (z_d_cons (d_var (pv 0)) d_nil rfl) (by decide) rfl rfl) rfl (.inl rfl)) (ds_cons (ds_if (d_tne ⟨rfl, hU⟩ (z_own M_Morning___eq__ rfl rfl hr (by decide) (z_g_new N_Morning rfl rfl hr (by decide) px rfl (z_d_cons (z_g_call D__law_made rfl rfl hr (by decide) px rfl (z_d_cons (d_var (pv 7)) d_nil rfl) (by decide) rfl rfl) d_nil rfl) (by decide) rfl rfl) (d_var (pv 3))) (d_eq ⟨rfl, hU⟩ (z_b_repr rfl hU hr.gd rfl (Y.free "repr" (by decide)) (z_d_cons (d_var (pv 7)) d_nil rfl) rfl rfl) (z_b_repr rfl hU hr.gd rfl (Y.free "repr" (by decide)) (z_d_cons (d_var (pv 1)) d_nil rfl) rfl rfl))) (ds_one (ds_ret d_bl)) ds_nil) (ds_cons (z_ds_for ⟨rfl, hU⟩ rfl po (z_di_range1 ⟨rfl, hU⟩ rfl (Y.free "range" (by decide)) d_int rfl) (dg_name (pgn 8 nd)) (ds_cons (z_ds_set (i := 9) nd rfl (by first | exact .inl rfl | exact .inr rfl) (z_g_call D__law_deed rfl rfl hr (by decide) px rfl (z_d_cons (d_var (pv 0)) (z_d_cons (d_var (pv 1)) (z_d_cons (d_var (pv 5)) d_nil rfl) rfl) rfl) (by decide) rfl rfl) rfl (.inl rfl)) (ds_one (ds_if (d_teq ⟨rfl, hU⟩ (z_g_call D__law_barred rfl rfl hr (by decide) px rfl (z_d_cons (d_var (pv 3)) (z_d_cons (d_var (pv 9)) d_nil rfl) rfl) (by decide) rfl rfl) d_str) (ds_cons (z_ds_set (i := 5) nd rfl (by first | exact .inl rfl | exact .inr rfl) (z_g_call D__law_behind rfl rfl hr (by decide) px rfl (z_d_cons (d_var (pv 1)) (z_d_cons (d_var (pv 5)) (z_d_cons (d_var (pv 9)) d_nil rfl) rfl) rfl) (by decide) rfl rfl) rfl (.inl rfl)) (ds_cons (ds_if (d_pw (d_orT (z_town M_Morning___eq__ rfl rfl hr (by decide) (d_var (pv 3)) (d_var (pv 4))) (d_orT (d_notT (z_townNe J_Morning M_Morning___eq__ rfl rfl hr (by decide) (d_var (pv 3)) (d_var (pv 4)))) (d_or1 (d_tne ⟨rfl, hU⟩ (d_sl ⟨rfl, hU⟩ (z_d_fld ⟨rfl, hU⟩ Y.ok (by show ("deeds" : Str) ∈ flds; decide) (d_var (pv 3)) rfl) d_noP (d_part (d_neg ⟨rfl, hU⟩ d_int))) (z_d_fld ⟨rfl, hU⟩ Y.ok (by show ("deeds" : Str) ∈ flds; decide) (d_var (pv 4)) rfl)))))) (ds_one (ds_ret d_bl)) ds_nil) (ds_cons (z_ds_expr (z_metK (ks := (["deed"] : List Str)) Y.ok M_Morning_do rfl rfl rfl hr (by decide) px (fun _ _ _ _ _ _ us ws h1 h2 => match us, ws, h1, h2 with | [_], [_], _, _ => rfl) (d_var (pv 4)) (dk_cons (d_var (pv 9)) dk_nil) rfl rfl rfl rfl) rfl) (ds_one (ds_if (d_pw (d_orT (d_notT (z_town M_Morning___eq__ rfl rfl hr (by decide) (d_var (pv 3)) (d_var (pv 4)))) (d_or1 (d_tne ⟨rfl, hU⟩ (z_g_call D__law_told rfl rfl hr (by decide) px rfl (z_d_cons (d_var (pv 3)) d_nil rfl) (by decide) rfl rfl) (z_g_call D__law_told rfl rfl hr (by decide) px rfl (z_d_cons (d_var (pv 4)) d_nil rfl) (by decide) rfl rfl))))) (ds_one (ds_ret d_bl)) ds_nil))))) ds_nil))) (fun _ => rfl)) (ds_cons (z_ds_for ⟨rfl, hU⟩ rfl po (di_any ⟨rfl, hU⟩ (d_lst (z_d_cons d_non (z_d_cons d_int (z_d_cons (d_var (pv 1)) (z_d_cons d_str (z_d_cons d_dict0 d_nil rfl) rfl) rfl) rfl) rfl))) (dg_name (pgn 10 nd)) (ds_one (ds_if (d_tne ⟨rfl, hU⟩ (z_g_hof1 (ps := ([] : List Str)) (fr := (["thing"] : List Str)) H__law_refused rfl hr (by decide) px rfl TA ⟨NdefX.nscope_by (by decide +kernel), NdefX.ndef_free (fr := (["thing"] : List Str)) rfl, NdefX.ndef_fr (sc := defScope (top 71)) rfl, rfl, rfl, (fun _ _ _ _ _ us hl => match us, hl with | [], _ => rfl), fun A2 outer2 s2 H2 E2 B2 EL f2 c2 hr2 tkl => (let pxl := psx_of tkl; let hr := hr2; have hU := (un_of hr2); (z_g_new N_Morning rfl rfl hr (by decide) pxl rfl (z_d_cons (d_var (pv 0)) d_nil rfl) (by decide) rfl rfl))⟩ (by decide)) (d_lst (z_d_cons (z_b_reprX rfl hU hr.gd rfl (Y.free "repr" (by decide)) (z_d_cons (d_var (pv 10)) d_nil rfl) rfl rfl) (z_d_cons d_bl d_nil rfl) rfl))) (ds_one (ds_ret d_bl)) ds_nil)) (fun _ => rfl)) (ds_one (ds_ret (d_and (d_eq ⟨rfl, hU⟩ (z_d_fld ⟨rfl, hU⟩ Y.ok (by show ("people" : Str) ∈ flds; decide) (d_var (pv 2)) rfl) (d_ix ⟨rfl, hU⟩ (d_var (pv 1)) d_int (fun _ _ => rfl))) (d_and (d_eq ⟨rfl, hU⟩ (z_d_fld ⟨rfl, hU⟩ Y.ok (by show ("first" : Str) ∈ flds; decide) (d_var (pv 2)) rfl) (d_ix ⟨rfl, hU⟩ (d_var (pv 1)) d_int (fun _ _ => rfl))) (d_one (d_eq ⟨rfl, hU⟩ (z_d_fld ⟨rfl, hU⟩ Y.ok (by show ("lists" : Str) ∈ flds; decide) (d_var (pv 2)) rfl) (d_ix ⟨rfl, hU⟩ (d_var (pv 1)) d_int (fun _ _ => rfl)))) rfl) rfl)))))))))))))
theorem b_law {P : Program} {w : World} {mg : Str → Option Value} {base : Heap} {K : PySem.W.Frag} {T : List (Addr × Str)} {fc : Value} (Y : YK K T mg) (D__law_right : DefOk (cc K T) P w mg base (top 71) "_law_right" 15 (["pool"] : List Str) W__law_right) (D__law_pool : DefOk (cc K T) P w mg base (top 57) "_law_pool" 1 (["script", "turn"] : List Str) W__law_pool) :
    BodyOk (cc K T) P w mg base 15 (["script", "turn"] : List Str) "law" (top 72) (He.ga K "law") fc w_law := by
  intro cdv A outer s H E B EE hcd hr tk
  have hU := un_of hr
  have px := psx_of tk
  have nd : ((["script", "turn"] : List Str)).Nodup := by decide +kernel
  have po : PassesOwn (model P w) (A.deeper (PyProof.Rows.envOfC "law" (defScope (top 72)) s.heap.objs.size (He.ga K "law") cdv)) (PyProof.Rows.envOfC "law" (defScope (top 72)) s.heap.objs.size (He.ga K "law") cdv) (ctxOf (cc K T) P w mg base (["script", "turn"] : List Str) "law" (top 72) (He.ga K "law") cdv A outer s H E).xe := passes_of (X := (ctxOf (cc K T) P w mg base (["script", "turn"] : List Str) "law" (top 72) (He.ga K "law") cdv A outer s H E)) rfl
  exact (ds_one (ds_ret (z_b_all rfl rfl rfl (Y.free "all" (by decide)) (z_d_cons (z_d_lc (own := [("turn", 1)]) rfl ⟨rfl, hU⟩ rfl nd (z_di_range1 ⟨rfl, hU⟩ rfl (Y.free "range" (by decide)) (z_b_max rfl rfl rfl (Y.free "max" (by decide)) (z_d_cons d_int (z_d_cons (z_b_min rfl rfl rfl (Y.free "min" (by decide)) (z_d_cons (z_b_len rfl rfl (Y.free "len" (by decide)) (z_d_cons (d_var (pv 0)) d_nil rfl) rfl rfl) (z_d_cons d_int d_nil rfl) rfl) rfl rfl) d_nil rfl) rfl) rfl rfl) rfl) (blk_by rfl) (st1_ok (by decide)) (fun _ _ _ _ _ => pgn 1 nd) (fun _ _ _ _ _ => d_yes) (fun _ _ _ _ _ => (z_g_call D__law_right rfl rfl hr (by decide) psx_no rfl (z_d_cons (z_g_call D__law_pool rfl rfl hr (by decide) psx_no rfl (z_d_cons (d_var (pv 0)) (z_d_cons (d_var (pv 1)) d_nil rfl) rfl) (by decide) rfl rfl) d_nil rfl) (by decide) rfl rfl)) (fun _ => rfl)) d_nil rfl) rfl rfl)))
theorem b_Morning_undo {P : Program} {w : World} {mg : Str → Option Value} {base : Heap} {K : PySem.W.Frag} {T : List (Addr × Str)} {fc : Value} (Y : YK K T mg)  :
    BodyOk (cc K T) P w mg base 0 (["self"] : List Str) "Morning.undo" (mthOf (top 55) 3) (He.ma K (He.ga K "Morning") "undo") fc w_Morning_undo := by
  intro cdv A outer s H E B EE hcd hr tk
  have hU := un_of hr
  have px := psx_of tk
  have nd : ((["self"] : List Str)).Nodup := by decide +kernel
  have po : PassesOwn (model P w) (A.deeper (PyProof.Rows.envOfC "Morning.undo" (defScope (mthOf (top 55) 3)) s.heap.objs.size (He.ma K (He.ga K "Morning") "undo") cdv)) (PyProof.Rows.envOfC "Morning.undo" (defScope (mthOf (top 55) 3)) s.heap.objs.size (He.ma K (He.ga K "Morning") "undo") cdv) (ctxOf (cc K T) P w mg base (["self"] : List Str) "Morning.undo" (mthOf (top 55) 3) (He.ma K (He.ga K "Morning") "undo") cdv A outer s H E).xe := passes_of (X := (ctxOf (cc K T) P w mg base (["self"] : List Str) "Morning.undo" (mthOf (top 55) 3) (He.ma K (He.ga K "Morning") "undo") cdv A outer s H E)) rfl
  exact (ds_one ds_never)
end K78
end
section
set_option Elab.async false
set_option linter.all false
set_option maxRecDepth 100000
set_option maxHeartbeats 4000000
open PySem PySem.Spec L2 DL
namespace K78
theorem chain {P : Program} {w : World} {mg : Str → Option Value} {base h : Heap} {K : PySem.W.Frag} {T : List (Addr × Str)} (KX : K.In h) (G : h.Ns mainGlobals mg) (c : He.SaysD fa fn K) (Z : KZ K T w) {ca_wrong_name Pt_wrong_name : Addr} (TA_wrong_name : ∀ (fd : FuncData), FunD K "wrong_name" "wrong_name" (defArgs (top 22)) (defBody (top 22)) (defScope (top 22)) [] [] (He.ga K "wrong_name") fd → ∀ (X : Cx), X.base = base → X.mg = mg → X.env.code = fd.code → X.env.qual = "wrong_name.<locals>." → TabAt (cc K T) X ca_wrong_name Pt_wrong_name) {ca_wrong_list Pt_wrong_list : Addr} (TA_wrong_list : ∀ (fd : FuncData), FunD K "wrong_list" "wrong_list" (defArgs (top 25)) (defBody (top 25)) (defScope (top 25)) [] [] (He.ga K "wrong_list") fd → ∀ (X : Cx), X.base = base → X.mg = mg → X.env.code = fd.code → X.env.qual = "wrong_list.<locals>." → TabAt (cc K T) X ca_wrong_list Pt_wrong_list) {ca__law_right Pt__law_right : Addr} (TA__law_right : ∀ (fd : FuncData), FunD K "_law_right" "_law_right" (defArgs (top 71)) (defBody (top 71)) (defScope (top 71)) [] [] (He.ga K "_law_right") fd → ∀ (X : Cx), X.base = base → X.mg = mg → X.env.code = fd.code → X.env.qual = "_law_right.<locals>." → TabAt (cc K T) X ca__law_right Pt__law_right) :
    DefOk (cc K T) P w mg base (top 72) "law" 16 (["script"] : List Str) W_law := by
  have Y : YK K T mg := ⟨Z.ok, by
    intro x hx
    simp only [List.mem_cons, List.not_mem_nil, or_false] at hx
    rcases hx with rfl | rfl | rfl | rfl | rfl | rfl | rfl | rfl | rfl | rfl | rfl | rfl | rfl | rfl | rfl | rfl | rfl | rfl
    · exact He.free_ok KX G (c.fact 45 (f := .free "abs") rfl)
    · exact He.free_ok KX G (c.fact 46 (f := .free "all") rfl)
    · exact He.free_ok KX G (c.fact 47 (f := .free "bool") rfl)
    · exact He.free_ok KX G (c.fact 48 (f := .free "dict") rfl)
    · exact He.free_ok KX G (c.fact 49 (f := .free "divmod") rfl)
    · exact He.free_ok KX G (c.fact 50 (f := .free "enumerate") rfl)
    · exact He.free_ok KX G (c.fact 51 (f := .free "int") rfl)
    · exact He.free_ok KX G (c.fact 52 (f := .free "isinstance") rfl)
    · exact He.free_ok KX G (c.fact 53 (f := .free "len") rfl)
    · exact He.free_ok KX G (c.fact 54 (f := .free "list") rfl)
    · exact He.free_ok KX G (c.fact 55 (f := .free "max") rfl)
    · exact He.free_ok KX G (c.fact 56 (f := .free "min") rfl)
    · exact He.free_ok KX G (c.fact 57 (f := .free "range") rfl)
    · exact He.free_ok KX G (c.fact 58 (f := .free "repr") rfl)
    · exact He.free_ok KX G (c.fact 59 (f := .free "set") rfl)
    · exact He.free_ok KX G (c.fact 60 (f := .free "sorted") rfl)
    · exact He.free_ok KX G (c.fact 61 (f := .free "str") rfl)
    · exact He.free_ok KX G (c.fact 62 (f := .free "tuple") rfl)
  , by
    intro x hx
    simp only [List.mem_cons, List.not_mem_nil, or_false] at hx
    rcases hx with rfl | rfl | rfl | rfl | rfl | rfl
    · exact He.glo_ok KX G (c.fact 63 (f := .glo "Barred") rfl)
    · exact He.glo_ok KX G (c.fact 64 (f := .glo "Book") rfl)
    · exact He.glo_ok KX G (c.fact 65 (f := .glo "CallError") rfl)
    · exact He.glo_ok KX G (c.fact 66 (f := .glo "Morning") rfl)
    · exact He.glo_ok KX G (c.fact 67 (f := .glo "NotABook") rfl)
    · exact He.glo_ok KX G (c.fact 68 (f := .glo "SIZES") rfl)
  , by
    intro x hx
    simp only [List.mem_cons, List.not_mem_nil, or_false] at hx
    rcases hx with rfl | rfl | rfl | rfl | rfl | rfl | rfl
    · exact He.str_ok KX G (c.fact 69 (f := .str "ASLEEP" "asleep") rfl)
    · exact He.str_ok KX G (c.fact 70 (f := .str "AWAKE" "awake") rfl)
    · exact He.str_ok KX G (c.fact 71 (f := .str "CALLED" "called") rfl)
    · exact He.str_ok KX G (c.fact 72 (f := .str "DONE" "done") rfl)
    · exact He.str_ok KX G (c.fact 73 (f := .str "DUE" "due") rfl)
    · exact He.str_ok KX G (c.fact 74 (f := .str "SLEPT" "slept") rfl)
    · exact He.str_ok KX G (c.fact 75 (f := .str "SMALL_LETTERS" "abcdefghijklmnopqrstuvwxyz") rfl)
  , by
    intro x hx
    simp only [List.mem_cons, List.not_mem_nil, or_false] at hx
    rcases hx with rfl | rfl | rfl
    · exact He.int_ok KX G (c.fact 76 (f := .int "FEWEST_PEOPLE" 2) rfl)
    · exact He.int_ok KX G (c.fact 77 (f := .int "LONGEST_NAME" 8) rfl)
    · exact He.int_ok KX G (c.fact 78 (f := .int "MOST_PEOPLE" 8) rfl)
  , Z.sb, Z.xf, Z.xn⟩
  obtain ⟨fdX_Barred, FX_Barred⟩ := c.def_ 55 rfl
  have X_Barred : ExcOk (cc K T) P w mg base "Barred" "reason" := ⟨_, fdX_Barred, "self", Z.oex "Barred" (by decide), (Z.init "Barred" (by decide)).1, (Z.init "Barred" (by decide)).2, initX_ok FX_Barred ⟨rfl, rfl, rfl, by decide +kernel, rfl, by decide +kernel, by decide +kernel⟩ rfl (Z.oex "Barred" (by decide)) (Z.xn "Barred" "CallError" rfl "reason" (by decide)) (by decide) (by decide) (by decide) (by decide), FX_Barred.bindsN (fun _ _ _ _ _ _ us hl => match us, hl with | [_, _], _ => rfl), He.glo_ok KX G (c.fact 63 (f := .glo "Barred") rfl)⟩
  obtain ⟨fdX_InvalidDeed, FX_InvalidDeed⟩ := c.def_ 56 rfl
  have X_InvalidDeed : ExcOk (cc K T) P w mg base "InvalidDeed" "index" := ⟨_, fdX_InvalidDeed, "self", Z.oex "InvalidDeed" (by decide), (Z.init "InvalidDeed" (by decide)).1, (Z.init "InvalidDeed" (by decide)).2, initX_ok FX_InvalidDeed ⟨rfl, rfl, rfl, by decide +kernel, rfl, by decide +kernel, by decide +kernel⟩ rfl (Z.oex "InvalidDeed" (by decide)) (Z.xn "InvalidDeed" "CallError" rfl "index" (by decide)) (by decide) (by decide) (by decide) (by decide), FX_InvalidDeed.bindsN (fun _ _ _ _ _ _ us hl => match us, hl with | [_, _], _ => rfl), He.glo_ok KX G (c.fact 79 (f := .glo "InvalidDeed") rfl)⟩
  obtain ⟨fdX_InvalidLists, FX_InvalidLists⟩ := c.def_ 57 rfl
  have X_InvalidLists : ExcOk (cc K T) P w mg base "InvalidLists" "index" := ⟨_, fdX_InvalidLists, "self", Z.oex "InvalidLists" (by decide), (Z.init "InvalidLists" (by decide)).1, (Z.init "InvalidLists" (by decide)).2, initX_ok FX_InvalidLists ⟨rfl, rfl, rfl, by decide +kernel, rfl, by decide +kernel, by decide +kernel⟩ rfl (Z.oex "InvalidLists" (by decide)) (Z.xn "InvalidLists" "CallError" rfl "index" (by decide)) (by decide) (by decide) (by decide) (by decide), FX_InvalidLists.bindsN (fun _ _ _ _ _ _ us hl => match us, hl with | [_, _], _ => rfl), He.glo_ok KX G (c.fact 80 (f := .glo "InvalidLists") rfl)⟩
  obtain ⟨fdX_InvalidPeople, FX_InvalidPeople⟩ := c.def_ 58 rfl
  have X_InvalidPeople : ExcOk (cc K T) P w mg base "InvalidPeople" "index" := ⟨_, fdX_InvalidPeople, "self", Z.oex "InvalidPeople" (by decide), (Z.init "InvalidPeople" (by decide)).1, (Z.init "InvalidPeople" (by decide)).2, initX_ok FX_InvalidPeople ⟨rfl, rfl, rfl, by decide +kernel, rfl, by decide +kernel, by decide +kernel⟩ rfl (Z.oex "InvalidPeople" (by decide)) (Z.xn "InvalidPeople" "CallError" rfl "index" (by decide)) (by decide) (by decide) (by decide) (by decide), FX_InvalidPeople.bindsN (fun _ _ _ _ _ _ us hl => match us, hl with | [_, _], _ => rfl), He.glo_ok KX G (c.fact 81 (f := .glo "InvalidPeople") rfl)⟩
  obtain ⟨fdX_NotABook, FX_NotABook⟩ := c.def_ 59 rfl
  have X_NotABook : ExcOk (cc K T) P w mg base "NotABook" "given" := ⟨_, fdX_NotABook, "self", Z.oex "NotABook" (by decide), (Z.init "NotABook" (by decide)).1, (Z.init "NotABook" (by decide)).2, initX_ok FX_NotABook ⟨rfl, rfl, rfl, by decide +kernel, rfl, by decide +kernel, by decide +kernel⟩ rfl (Z.oex "NotABook" (by decide)) (Z.xn "NotABook" "CallError" rfl "given" (by decide)) (by decide) (by decide) (by decide) (by decide), FX_NotABook.bindsN (fun _ _ _ _ _ _ us hl => match us, hl with | [_, _], _ => rfl), He.glo_ok KX G (c.fact 67 (f := .glo "NotABook") rfl)⟩
  obtain ⟨fdX_UnknownPerson, FX_UnknownPerson⟩ := c.def_ 60 rfl
  have X_UnknownPerson : ExcOk (cc K T) P w mg base "UnknownPerson" "given" := ⟨_, fdX_UnknownPerson, "self", Z.oex "UnknownPerson" (by decide), (Z.init "UnknownPerson" (by decide)).1, (Z.init "UnknownPerson" (by decide)).2, initX_ok FX_UnknownPerson ⟨rfl, rfl, rfl, by decide +kernel, rfl, by decide +kernel, by decide +kernel⟩ rfl (Z.oex "UnknownPerson" (by decide)) (Z.xn "UnknownPerson" "CallError" rfl "given" (by decide)) (by decide) (by decide) (by decide) (by decide), FX_UnknownPerson.bindsN (fun _ _ _ _ _ _ us hl => match us, hl with | [_, _], _ => rfl), He.glo_ok KX G (c.fact 82 (f := .glo "UnknownPerson") rfl)⟩
  obtain ⟨fd_is_truth, F_is_truth⟩ := c.def_ 0 rfl
  have D_is_truth : DefOk (cc K T) P w mg base (top 12) "is_truth" 1 (["value"] : List Str) W_is_truth := defOk_of F_is_truth (He.glo_ok KX G (c.fact 0 (f := .glo "is_truth") rfl)) ⟨rfl, rfl, rfl, by decide +kernel, rfl, by decide +kernel, by decide +kernel⟩ (fun _ _ _ _ _ _ us hl => match us, hl with | [_], _ => rfl) (b_is_truth Y )
  obtain ⟨fd_is_string, F_is_string⟩ := c.def_ 1 rfl
  have D_is_string : DefOk (cc K T) P w mg base (top 13) "is_string" 1 (["value"] : List Str) W_is_string := defOk_of F_is_string (He.glo_ok KX G (c.fact 1 (f := .glo "is_string") rfl)) ⟨rfl, rfl, rfl, by decide +kernel, rfl, by decide +kernel, by decide +kernel⟩ (fun _ _ _ _ _ _ us hl => match us, hl with | [_], _ => rfl) (b_is_string Y )
  obtain ⟨fd_is_made_of, F_is_made_of⟩ := c.def_ 2 rfl
  have D_is_made_of : DefOk (cc K T) P w mg base (top 14) "is_made_of" 1 (["text", "signs"] : List Str) W_is_made_of := defOk_of F_is_made_of (He.glo_ok KX G (c.fact 2 (f := .glo "is_made_of") rfl)) ⟨rfl, rfl, rfl, by decide +kernel, rfl, by decide +kernel, by decide +kernel⟩ (fun _ _ _ _ _ _ us hl => match us, hl with | [_, _], _ => rfl) (b_is_made_of Y )
  obtain ⟨fd_is_name, F_is_name⟩ := c.def_ 3 rfl
  have D_is_name : DefOk (cc K T) P w mg base (top 15) "is_name" 2 (["value"] : List Str) W_is_name := defOk_of F_is_name (He.glo_ok KX G (c.fact 3 (f := .glo "is_name") rfl)) ⟨rfl, rfl, rfl, by decide +kernel, rfl, by decide +kernel, by decide +kernel⟩ (fun _ _ _ _ _ _ us hl => match us, hl with | [_], _ => rfl) (b_is_name Y D_is_string D_is_made_of)
  obtain ⟨fd_is_tuple_of, F_is_tuple_of⟩ := c.def_ 4 rfl
  have D_is_tuple_of : DefOk (cc K T) P w mg base (top 16) "is_tuple_of" 1 (["value", "many"] : List Str) W_is_tuple_of := defOk_of F_is_tuple_of (He.glo_ok KX G (c.fact 4 (f := .glo "is_tuple_of") rfl)) ⟨rfl, rfl, rfl, by decide +kernel, rfl, by decide +kernel, by decide +kernel⟩ (fun _ _ _ _ _ _ us hl => match us, hl with | [_, _], _ => rfl) (b_is_tuple_of Y )
  obtain ⟨fd_is_row, F_is_row⟩ := c.def_ 5 rfl
  have D_is_row : DefOk (cc K T) P w mg base (top 17) "is_row" 1 (["value", "least", "most"] : List Str) W_is_row := defOk_of F_is_row (He.glo_ok KX G (c.fact 5 (f := .glo "is_row") rfl)) ⟨rfl, rfl, rfl, by decide +kernel, rfl, by decide +kernel, by decide +kernel⟩ (fun _ _ _ _ _ _ us hl => match us, hl with | [_, _, _], _ => rfl) (b_is_row Y )
  obtain ⟨fd_first_wrong, F_first_wrong⟩ := c.def_ 6 rfl
  have H_first_wrong : HofOk (cc K T) P w mg base "first_wrong" 5 4 2 2 W_first_wrong := ⟨hofV_of (ps := (["value", "is_right"] : List Str)) (N := (["value", "is_right", "index", "each"] : List Str)) F_first_wrong ⟨rfl, rfl, rfl, by decide +kernel, rfl, by decide +kernel, by decide +kernel⟩ (F_first_wrong.bindsN (ps := (["value", "is_right"] : List Str)) (fun _ _ _ _ _ _ us hl => match us, hl with | [_, _], _ => rfl)) (b_first_wrong Y ), He.glo_ok KX G (c.fact 6 (f := .glo "first_wrong") rfl), F_first_wrong.kp⟩
  obtain ⟨fd_wrong_name, F_wrong_name⟩ := c.def_ 7 rfl
  have D_wrong_name : DefOk (cc K T) P w mg base (top 22) "wrong_name" 6 (["value"] : List Str) W_wrong_name := defOk_of F_wrong_name (He.glo_ok KX G (c.fact 7 (f := .glo "wrong_name") rfl)) ⟨rfl, rfl, rfl, by decide +kernel, rfl, by decide +kernel, by decide +kernel⟩ (fun _ _ _ _ _ _ us hl => match us, hl with | [_], _ => rfl) (b_wrong_name Y H_first_wrong D_is_name (TA_wrong_name fd_wrong_name F_wrong_name))
  obtain ⟨fd_is_one_of, F_is_one_of⟩ := c.def_ 8 rfl
  have D_is_one_of : DefOk (cc K T) P w mg base (top 23) "is_one_of" 1 (["people", "value"] : List Str) W_is_one_of := defOk_of F_is_one_of (He.glo_ok KX G (c.fact 8 (f := .glo "is_one_of") rfl)) ⟨rfl, rfl, rfl, by decide +kernel, rfl, by decide +kernel, by decide +kernel⟩ (fun _ _ _ _ _ _ us hl => match us, hl with | [_, _], _ => rfl) (b_is_one_of Y )
  obtain ⟨fd_is_list, F_is_list⟩ := c.def_ 9 rfl
  have D_is_list : DefOk (cc K T) P w mg base (top 24) "is_list" 2 (["people", "person", "value"] : List Str) W_is_list := defOk_of F_is_list (He.glo_ok KX G (c.fact 9 (f := .glo "is_list") rfl)) ⟨rfl, rfl, rfl, by decide +kernel, rfl, by decide +kernel, by decide +kernel⟩ (fun _ _ _ _ _ _ us hl => match us, hl with | [_, _, _], _ => rfl) (b_is_list Y D_is_one_of)
  obtain ⟨fd_wrong_list, F_wrong_list⟩ := c.def_ 10 rfl
  have D_wrong_list : DefOk (cc K T) P w mg base (top 25) "wrong_list" 6 (["people", "value"] : List Str) W_wrong_list := defOk_of F_wrong_list (He.glo_ok KX G (c.fact 10 (f := .glo "wrong_list") rfl)) ⟨rfl, rfl, rfl, by decide +kernel, rfl, by decide +kernel, by decide +kernel⟩ (fun _ _ _ _ _ _ us hl => match us, hl with | [_, _], _ => rfl) (b_wrong_list Y H_first_wrong D_is_list (TA_wrong_list fd_wrong_list F_wrong_list))
  obtain ⟨fd_check_people, F_check_people⟩ := c.def_ 11 rfl
  have D_check_people : DefOk (cc K T) P w mg base (top 26) "check_people" 7 (["people"] : List Str) W_check_people := defOk_of F_check_people (He.glo_ok KX G (c.fact 11 (f := .glo "check_people") rfl)) ⟨rfl, rfl, rfl, by decide +kernel, rfl, by decide +kernel, by decide +kernel⟩ (fun _ _ _ _ _ _ us hl => match us, hl with | [_], _ => rfl) (b_check_people Y D_is_row D_wrong_name X_InvalidPeople)
  obtain ⟨fd_check_first, F_check_first⟩ := c.def_ 12 rfl
  have D_check_first : DefOk (cc K T) P w mg base (top 27) "check_first" 3 (["people", "first"] : List Str) W_check_first := defOk_of F_check_first (He.glo_ok KX G (c.fact 12 (f := .glo "check_first") rfl)) ⟨rfl, rfl, rfl, by decide +kernel, rfl, by decide +kernel, by decide +kernel⟩ (fun _ _ _ _ _ _ us hl => match us, hl with | [_, _], _ => rfl) (b_check_first Y D_is_one_of X_UnknownPerson)
  obtain ⟨fd_check_lists, F_check_lists⟩ := c.def_ 13 rfl
  have D_check_lists : DefOk (cc K T) P w mg base (top 28) "check_lists" 7 (["people", "lists"] : List Str) W_check_lists := defOk_of F_check_lists (He.glo_ok KX G (c.fact 13 (f := .glo "check_lists") rfl)) ⟨rfl, rfl, rfl, by decide +kernel, rfl, by decide +kernel, by decide +kernel⟩ (fun _ _ _ _ _ _ us hl => match us, hl with | [_, _], _ => rfl) (b_check_lists Y D_is_tuple_of X_InvalidLists D_wrong_list)
  obtain ⟨fd_check_book, F_check_book⟩ := c.def_ 14 rfl
  have D_check_book : DefOk (cc K T) P w mg base (top 31) "check_book" 3 (["value"] : List Str) W_check_book := defOk_of F_check_book (He.glo_ok KX G (c.fact 14 (f := .glo "check_book") rfl)) ⟨rfl, rfl, rfl, by decide +kernel, rfl, by decide +kernel, by decide +kernel⟩ (fun _ _ _ _ _ _ us hl => match us, hl with | [_], _ => rfl) (b_check_book Y X_NotABook)
  obtain ⟨fd_parts_of, F_parts_of⟩ := c.def_ 15 rfl
  have D_parts_of : DefOk (cc K T) P w mg base (top 30) "parts_of" 4 (["book"] : List Str) W_parts_of := defOk_of F_parts_of (He.glo_ok KX G (c.fact 15 (f := .glo "parts_of") rfl)) ⟨rfl, rfl, rfl, by decide +kernel, rfl, by decide +kernel, by decide +kernel⟩ (fun _ _ _ _ _ _ us hl => match us, hl with | [_], _ => rfl) (b_parts_of Y D_check_book)
  obtain ⟨fd_is_person, F_is_person⟩ := c.def_ 16 rfl
  have D_is_person : DefOk (cc K T) P w mg base (top 32) "is_person" 2 (["book", "value"] : List Str) W_is_person := defOk_of F_is_person (He.glo_ok KX G (c.fact 16 (f := .glo "is_person") rfl)) ⟨rfl, rfl, rfl, by decide +kernel, rfl, by decide +kernel, by decide +kernel⟩ (fun _ _ _ _ _ _ us hl => match us, hl with | [_, _], _ => rfl) (b_is_person Y D_is_one_of)
  obtain ⟨fd_list_of, F_list_of⟩ := c.def_ 17 rfl
  have D_list_of : DefOk (cc K T) P w mg base (top 33) "list_of" 1 (["book", "person"] : List Str) W_list_of := defOk_of F_list_of (He.glo_ok KX G (c.fact 17 (f := .glo "list_of") rfl)) ⟨rfl, rfl, rfl, by decide +kernel, rfl, by decide +kernel, by decide +kernel⟩ (fun _ _ _ _ _ _ us hl => match us, hl with | [_, _], _ => rfl) (b_list_of Y )
  obtain ⟨fd_Standing_init, F_Standing_init⟩ := c.def_ 18 rfl
  have N_Standing : NewOk (cc K T) P w mg base (mthOf (top 42) 0) "Standing" "Standing.__init__" 1 (["self", "minute", "since", "made", "last", "slept"] : List Str) W_Standing_init := newOk_of (by show ("Standing" : Str) ∈ cls; decide) F_Standing_init (He.mkr_ok (c.fact 85 (f := .mkr "Standing") rfl)) (He.glo_ok KX G (c.fact 84 (f := .glo "Standing") rfl)) ⟨rfl, rfl, rfl, by decide +kernel, rfl, by decide +kernel, by decide +kernel⟩ (fun _ _ _ _ _ _ us hl => match us, hl with | [_, _, _, _, _, _], _ => rfl) (b_Standing_init Y )
  obtain ⟨fd_begun, F_begun⟩ := c.def_ 19 rfl
  have D_begun : DefOk (cc K T) P w mg base (top 43) "begun" 3 (["book"] : List Str) W_begun := defOk_of F_begun (He.glo_ok KX G (c.fact 18 (f := .glo "begun") rfl)) ⟨rfl, rfl, rfl, by decide +kernel, rfl, by decide +kernel, by decide +kernel⟩ (fun _ _ _ _ _ _ us hl => match us, hl with | [_], _ => rfl) (b_begun Y N_Standing)
  obtain ⟨fd_has_form, F_has_form⟩ := c.def_ 20 rfl
  have D_has_form : DefOk (cc K T) P w mg base (top 44) "has_form" 2 (["value"] : List Str) W_has_form := defOk_of F_has_form (He.glo_ok KX G (c.fact 19 (f := .glo "has_form") rfl)) ⟨rfl, rfl, rfl, by decide +kernel, rfl, by decide +kernel, by decide +kernel⟩ (fun _ _ _ _ _ _ us hl => match us, hl with | [_], _ => rfl) (b_has_form Y D_is_string Z.gd_SIZES)
  obtain ⟨fd_check_deed, F_check_deed⟩ := c.def_ 21 rfl
  have D_check_deed : DefOk (cc K T) P w mg base (top 45) "check_deed" 3 (["book", "value"] : List Str) W_check_deed := defOk_of F_check_deed (He.glo_ok KX G (c.fact 20 (f := .glo "check_deed") rfl)) ⟨rfl, rfl, rfl, by decide +kernel, rfl, by decide +kernel, by decide +kernel⟩ (fun _ _ _ _ _ _ us hl => match us, hl with | [_, _], _ => rfl) (b_check_deed Y D_has_form X_InvalidDeed D_is_person D_is_truth)
  obtain ⟨fd_left_of, F_left_of⟩ := c.def_ 22 rfl
  have D_left_of : DefOk (cc K T) P w mg base (top 46) "left_of" 2 (["book", "standing", "caller"] : List Str) W_left_of := defOk_of F_left_of (He.glo_ok KX G (c.fact 21 (f := .glo "left_of") rfl)) ⟨rfl, rfl, rfl, by decide +kernel, rfl, by decide +kernel, by decide +kernel⟩ (fun _ _ _ _ _ _ us hl => match us, hl with | [_, _, _], _ => rfl) (b_left_of Y D_list_of)
  obtain ⟨fd_knows_ahead, F_knows_ahead⟩ := c.def_ 23 rfl
  have D_knows_ahead : DefOk (cc K T) P w mg base (top 47) "knows_ahead" 1 (["standing", "person"] : List Str) W_knows_ahead := defOk_of F_knows_ahead (He.glo_ok KX G (c.fact 22 (f := .glo "knows_ahead") rfl)) ⟨rfl, rfl, rfl, by decide +kernel, rfl, by decide +kernel, by decide +kernel⟩ (fun _ _ _ _ _ _ us hl => match us, hl with | [_, _], _ => rfl) (b_knows_ahead Y )
  obtain ⟨fd_could_call, F_could_call⟩ := c.def_ 24 rfl
  have D_could_call : DefOk (cc K T) P w mg base (top 48) "could_call" 3 (["book", "standing"] : List Str) W_could_call := defOk_of F_could_call (He.glo_ok KX G (c.fact 23 (f := .glo "could_call") rfl)) ⟨rfl, rfl, rfl, by decide +kernel, rfl, by decide +kernel, by decide +kernel⟩ (fun _ _ _ _ _ _ us hl => match us, hl with | [_, _], _ => rfl) (b_could_call Y D_knows_ahead D_left_of)
  obtain ⟨fd_is_over_by, F_is_over_by⟩ := c.def_ 25 rfl
  have D_is_over_by : DefOk (cc K T) P w mg base (top 49) "is_over_by" 3 (["book", "standing"] : List Str) W_is_over_by := defOk_of F_is_over_by (He.glo_ok KX G (c.fact 24 (f := .glo "is_over_by") rfl)) ⟨rfl, rfl, rfl, by decide +kernel, rfl, by decide +kernel, by decide +kernel⟩ (fun _ _ _ _ _ _ us hl => match us, hl with | [_, _], _ => rfl) (b_is_over_by Y D_left_of)
  obtain ⟨fd_standing_behind, F_standing_behind⟩ := c.def_ 26 rfl
  have D_standing_behind : DefOk (cc K T) P w mg base (top 50) "standing_behind" 3 (["book", "standing", "deed"] : List Str) W_standing_behind := defOk_of F_standing_behind (He.glo_ok KX G (c.fact 25 (f := .glo "standing_behind") rfl)) ⟨rfl, rfl, rfl, by decide +kernel, rfl, by decide +kernel, by decide +kernel⟩ (fun _ _ _ _ _ _ us hl => match us, hl with | [_, _, _], _ => rfl) (b_standing_behind Y N_Standing D_left_of)
  obtain ⟨fd_reason_against_call, F_reason_against_call⟩ := c.def_ 27 rfl
  have D_reason_against_call : DefOk (cc K T) P w mg base (top 51) "reason_against_call" 3 (["book", "standing", "caller", "answers"] : List Str) W_reason_against_call := defOk_of F_reason_against_call (He.glo_ok KX G (c.fact 26 (f := .glo "reason_against_call") rfl)) ⟨rfl, rfl, rfl, by decide +kernel, rfl, by decide +kernel, by decide +kernel⟩ (fun _ _ _ _ _ _ us hl => match us, hl with | [_, _, _, _], _ => rfl) (b_reason_against_call Y D_knows_ahead D_left_of)
  obtain ⟨fd_reason_against, F_reason_against⟩ := c.def_ 28 rfl
  have D_reason_against : DefOk (cc K T) P w mg base (top 52) "reason_against" 4 (["book", "standing", "deed"] : List Str) W_reason_against := defOk_of F_reason_against (He.glo_ok KX G (c.fact 27 (f := .glo "reason_against") rfl)) ⟨rfl, rfl, rfl, by decide +kernel, rfl, by decide +kernel, by decide +kernel⟩ (fun _ _ _ _ _ _ us hl => match us, hl with | [_, _, _], _ => rfl) (b_reason_against Y D_reason_against_call D_could_call)
  obtain ⟨fd_check_barred, F_check_barred⟩ := c.def_ 29 rfl
  have D_check_barred : DefOk (cc K T) P w mg base (top 53) "check_barred" 5 (["book", "standing", "deed"] : List Str) W_check_barred := defOk_of F_check_barred (He.glo_ok KX G (c.fact 28 (f := .glo "check_barred") rfl)) ⟨rfl, rfl, rfl, by decide +kernel, rfl, by decide +kernel, by decide +kernel⟩ (fun _ _ _ _ _ _ us hl => match us, hl with | [_, _, _], _ => rfl) (b_check_barred Y D_reason_against X_Barred)
  obtain ⟨fd__law_pool, F__law_pool⟩ := c.def_ 30 rfl
  have D__law_pool : DefOk (cc K T) P w mg base (top 57) "_law_pool" 1 (["script", "turn"] : List Str) W__law_pool := defOk_of F__law_pool (He.glo_ok KX G (c.fact 29 (f := .glo "_law_pool") rfl)) ⟨rfl, rfl, rfl, by decide +kernel, rfl, by decide +kernel, by decide +kernel⟩ (fun _ _ _ _ _ _ us hl => match us, hl with | [_, _], _ => rfl) (b__law_pool Y )
  obtain ⟨fd__law_draw, F__law_draw⟩ := c.def_ 31 rfl
  have D__law_draw : DefOk (cc K T) P w mg base (top 58) "_law_draw" 1 (["pool", "many"] : List Str) W__law_draw := defOk_of F__law_draw (He.glo_ok KX G (c.fact 30 (f := .glo "_law_draw") rfl)) ⟨rfl, rfl, rfl, by decide +kernel, rfl, by decide +kernel, by decide +kernel⟩ (fun _ _ _ _ _ _ us hl => match us, hl with | [_, _], _ => rfl) (b__law_draw Y )
  obtain ⟨fd__law_pick, F__law_pick⟩ := c.def_ 32 rfl
  have D__law_pick : DefOk (cc K T) P w mg base (top 59) "_law_pick" 2 (["pool", "some"] : List Str) W__law_pick := defOk_of F__law_pick (He.glo_ok KX G (c.fact 31 (f := .glo "_law_pick") rfl)) ⟨rfl, rfl, rfl, by decide +kernel, rfl, by decide +kernel, by decide +kernel⟩ (fun _ _ _ _ _ _ us hl => match us, hl with | [_, _], _ => rfl) (b__law_pick Y D__law_draw)
  obtain ⟨fd__law_book, F__law_book⟩ := c.def_ 33 rfl
  have D__law_book : DefOk (cc K T) P w mg base (top 60) "_law_book" 3 (["pool", "most", "each"] : List Str) W__law_book := defOk_of F__law_book (He.glo_ok KX G (c.fact 32 (f := .glo "_law_book") rfl)) ⟨rfl, rfl, rfl, by decide +kernel, rfl, by decide +kernel, by decide +kernel⟩ (fun _ _ _ _ _ _ us hl => match us, hl with | [_, _, _], _ => rfl) (b__law_book Y D__law_draw D__law_pick)
  obtain ⟨fd__law_small, F__law_small⟩ := c.def_ 34 rfl
  have D__law_small : DefOk (cc K T) P w mg base (top 61) "_law_small" 4 (["pool"] : List Str) W__law_small := defOk_of F__law_small (He.glo_ok KX G (c.fact 33 (f := .glo "_law_small") rfl)) ⟨rfl, rfl, rfl, by decide +kernel, rfl, by decide +kernel, by decide +kernel⟩ (fun _ _ _ _ _ _ us hl => match us, hl with | [_], _ => rfl) (b__law_small Y D__law_book)
  obtain ⟨fd_Book_init, F_Book_init⟩ := c.def_ 35 rfl
  have N_Book : NewOk (cc K T) P w mg base (mthOf (top 29) 0) "Book" "Book.__init__" 8 (["self", "people", "first", "lists"] : List Str) W_Book_init := newOk_of (by show ("Book" : Str) ∈ cls; decide) F_Book_init (He.mkr_ok (c.fact 83 (f := .mkr "Book") rfl)) (He.glo_ok KX G (c.fact 64 (f := .glo "Book") rfl)) ⟨rfl, rfl, rfl, by decide +kernel, rfl, by decide +kernel, by decide +kernel⟩ (fun _ _ _ _ _ _ us hl => match us, hl with | [_, _, _, _], _ => rfl) (b_Book_init Y D_check_people D_check_first D_check_lists)
  obtain ⟨fd__law_made, F__law_made⟩ := c.def_ 36 rfl
  have D__law_made : DefOk (cc K T) P w mg base (top 62) "_law_made" 10 (["book"] : List Str) W__law_made := defOk_of F__law_made (He.glo_ok KX G (c.fact 34 (f := .glo "_law_made") rfl)) ⟨rfl, rfl, rfl, by decide +kernel, rfl, by decide +kernel, by decide +kernel⟩ (fun _ _ _ _ _ _ us hl => match us, hl with | [_], _ => rfl) (b__law_made Y N_Book)
  obtain ⟨fd__law_list, F__law_list⟩ := c.def_ 37 rfl
  have D__law_list : DefOk (cc K T) P w mg base (top 63) "_law_list" 1 (["book", "name"] : List Str) W__law_list := defOk_of F__law_list (He.glo_ok KX G (c.fact 35 (f := .glo "_law_list") rfl)) ⟨rfl, rfl, rfl, by decide +kernel, rfl, by decide +kernel, by decide +kernel⟩ (fun _ _ _ _ _ _ us hl => match us, hl with | [_, _], _ => rfl) (b__law_list Y )
  obtain ⟨fd_Morning_move_to, F_Morning_move_to⟩ := c.def_ 38 rfl
  have M_Morning_move_to : MetOk (cc K T) P w mg base (mthOf (top 55) 1) "Morning" "move_to" "Morning.move_to" 1 (["self", "standing"] : List Str) W_Morning_move_to := metOk_of F_Morning_move_to (He.meth_ok (c.fact 89 (f := .meth "Morning" "move_to") rfl)) ⟨rfl, rfl, rfl, by decide +kernel, rfl, by decide +kernel, by decide +kernel⟩ (fun _ _ _ _ _ _ us hl => match us, hl with | [_, _], _ => rfl) (b_Morning_move_to Y )
  obtain ⟨fd_Morning_do, F_Morning_do⟩ := c.def_ 39 rfl
  have M_Morning_do : MetOk (cc K T) P w mg base (mthOf (top 55) 2) "Morning" "do" "Morning.do" 6 (["self", "deed"] : List Str) W_Morning_do := metOk_of F_Morning_do (He.meth_ok (c.fact 90 (f := .meth "Morning" "do") rfl)) ⟨rfl, rfl, rfl, by decide +kernel, rfl, by decide +kernel, by decide +kernel⟩ (fun _ _ _ _ _ _ us hl => match us, hl with | [_, _], _ => rfl) (b_Morning_do Y D_check_deed D_check_barred M_Morning_move_to D_standing_behind)
  obtain ⟨fd__law_barred, F__law_barred⟩ := c.def_ 40 rfl
  have D__law_barred : DefOk (cc K T) P w mg base (top 64) "_law_barred" 7 (["morning", "deed"] : List Str) W__law_barred := defOk_of F__law_barred (He.glo_ok KX G (c.fact 36 (f := .glo "_law_barred") rfl)) ⟨rfl, rfl, rfl, by decide +kernel, rfl, by decide +kernel, by decide +kernel⟩ (fun _ _ _ _ _ _ us hl => match us, hl with | [_, _], _ => rfl) (b__law_barred Y M_Morning_do)
  obtain ⟨fd__law_begun, F__law_begun⟩ := c.def_ 41 rfl
  have D__law_begun : DefOk (cc K T) P w mg base (top 65) "_law_begun" 1 (["book"] : List Str) W__law_begun := defOk_of F__law_begun (He.glo_ok KX G (c.fact 37 (f := .glo "_law_begun") rfl)) ⟨rfl, rfl, rfl, by decide +kernel, rfl, by decide +kernel, by decide +kernel⟩ (fun _ _ _ _ _ _ us hl => match us, hl with | [_], _ => rfl) (b__law_begun Y )
  obtain ⟨fd__law_may_call, F__law_may_call⟩ := c.def_ 42 rfl
  have D__law_may_call : DefOk (cc K T) P w mg base (top 66) "_law_may_call" 2 (["book", "now"] : List Str) W__law_may_call := defOk_of F__law_may_call (He.glo_ok KX G (c.fact 38 (f := .glo "_law_may_call") rfl)) ⟨rfl, rfl, rfl, by decide +kernel, rfl, by decide +kernel, by decide +kernel⟩ (fun _ _ _ _ _ _ us hl => match us, hl with | [_, _], _ => rfl) (b__law_may_call Y D__law_list)
  obtain ⟨fd__law_deed, F__law_deed⟩ := c.def_ 43 rfl
  have D__law_deed : DefOk (cc K T) P w mg base (top 67) "_law_deed" 3 (["pool", "book", "now"] : List Str) W__law_deed := defOk_of F__law_deed (He.glo_ok KX G (c.fact 39 (f := .glo "_law_deed") rfl)) ⟨rfl, rfl, rfl, by decide +kernel, rfl, by decide +kernel, by decide +kernel⟩ (fun _ _ _ _ _ _ us hl => match us, hl with | [_, _, _], _ => rfl) (b__law_deed Y D__law_draw D__law_may_call D__law_pick D__law_list)
  obtain ⟨fd__law_behind, F__law_behind⟩ := c.def_ 44 rfl
  have D__law_behind : DefOk (cc K T) P w mg base (top 68) "_law_behind" 2 (["book", "now", "deed"] : List Str) W__law_behind := defOk_of F__law_behind (He.glo_ok KX G (c.fact 40 (f := .glo "_law_behind") rfl)) ⟨rfl, rfl, rfl, by decide +kernel, rfl, by decide +kernel, by decide +kernel⟩ (fun _ _ _ _ _ _ us hl => match us, hl with | [_, _, _], _ => rfl) (b__law_behind Y D__law_list)
  obtain ⟨fd_Morning_is_over, F_Morning_is_over⟩ := c.def_ 45 rfl
  have M_Morning_is_over : MetOk (cc K T) P w mg base (mthOf (top 55) 5) "Morning" "is_over" "Morning.is_over" 4 (["self"] : List Str) W_Morning_is_over := metOk_of F_Morning_is_over (He.meth_ok (c.fact 93 (f := .meth "Morning" "is_over") rfl)) ⟨rfl, rfl, rfl, by decide +kernel, rfl, by decide +kernel, by decide +kernel⟩ (fun _ _ _ _ _ _ us hl => match us, hl with | [_], _ => rfl) (b_Morning_is_over Y D_is_over_by)
  obtain ⟨fd_Morning_may_call, F_Morning_may_call⟩ := c.def_ 46 rfl
  have M_Morning_may_call : MetOk (cc K T) P w mg base (mthOf (top 55) 4) "Morning" "may_call" "Morning.may_call" 4 (["self"] : List Str) W_Morning_may_call := metOk_of F_Morning_may_call (He.meth_ok (c.fact 92 (f := .meth "Morning" "may_call") rfl)) ⟨rfl, rfl, rfl, by decide +kernel, rfl, by decide +kernel, by decide +kernel⟩ (fun _ _ _ _ _ _ us hl => match us, hl with | [_], _ => rfl) (b_Morning_may_call Y D_could_call)
  obtain ⟨fd__law_told, F__law_told⟩ := c.def_ 47 rfl
  have D__law_told : DefOk (cc K T) P w mg base (top 69) "_law_told" 5 (["morning"] : List Str) W__law_told := defOk_of F__law_told (He.glo_ok KX G (c.fact 41 (f := .glo "_law_told") rfl)) ⟨rfl, rfl, rfl, by decide +kernel, rfl, by decide +kernel, by decide +kernel⟩ (fun _ _ _ _ _ _ us hl => match us, hl with | [_], _ => rfl) (b__law_told Y M_Morning_is_over M_Morning_may_call)
  obtain ⟨fd__law_refused, F__law_refused⟩ := c.def_ 48 rfl
  have H__law_refused : HofOk (cc K T) P w mg base "_law_refused" 14 13 1 0 W__law_refused := ⟨hofV_of (ps := (["call"] : List Str)) (N := (["call", "e"] : List Str)) F__law_refused ⟨rfl, rfl, rfl, by decide +kernel, rfl, by decide +kernel, by decide +kernel⟩ (F__law_refused.bindsN (ps := (["call"] : List Str)) (fun _ _ _ _ _ _ us hl => match us, hl with | [_], _ => rfl)) (b__law_refused Y Z.xis_CallError), He.glo_ok KX G (c.fact 42 (f := .glo "_law_refused") rfl), F__law_refused.kp⟩
  obtain ⟨fd_Morning_init, F_Morning_init⟩ := c.def_ 49 rfl
  have N_Morning : NewOk (cc K T) P w mg base (mthOf (top 55) 0) "Morning" "Morning.__init__" 4 (["self", "book"] : List Str) W_Morning_init := newOk_of (by show ("Morning" : Str) ∈ cls; decide) F_Morning_init (He.mkr_ok (c.fact 86 (f := .mkr "Morning") rfl)) (He.glo_ok KX G (c.fact 66 (f := .glo "Morning") rfl)) ⟨rfl, rfl, rfl, by decide +kernel, rfl, by decide +kernel, by decide +kernel⟩ (fun _ _ _ _ _ _ us hl => match us, hl with | [_, _], _ => rfl) (b_Morning_init Y D_check_book M_Morning_move_to D_begun)
  obtain ⟨fd_Book___eq__, F_Book___eq__⟩ := c.def_ 50 rfl
  have M_Book___eq__ : MetOk (cc K T) P w mg base (mthOf (top 29) 1) "Book" "__eq__" "Book.__eq__" 5 (["self", "other"] : List Str) W_Book___eq__ := metOk_of F_Book___eq__ (He.meth_ok (c.fact 87 (f := .meth "Book" "__eq__") rfl)) ⟨rfl, rfl, rfl, by decide +kernel, rfl, by decide +kernel, by decide +kernel⟩ (fun _ _ _ _ _ _ us hl => match us, hl with | [_, _], _ => rfl) (b_Book___eq__ Y D_parts_of)
  obtain ⟨fd_Morning___eq__, F_Morning___eq__⟩ := c.def_ 51 rfl
  have M_Morning___eq__ : MetOk (cc K T) P w mg base (mthOf (top 55) 6) "Morning" "__eq__" "Morning.__eq__" 6 (["self", "other"] : List Str) W_Morning___eq__ := metOk_of F_Morning___eq__ (He.meth_ok (c.fact 88 (f := .meth "Morning" "__eq__") rfl)) ⟨rfl, rfl, rfl, by decide +kernel, rfl, by decide +kernel, by decide +kernel⟩ (fun _ _ _ _ _ _ us hl => match us, hl with | [_, _], _ => rfl) (b_Morning___eq__ Y M_Book___eq__)
  obtain ⟨fd__law_right, F__law_right⟩ := c.def_ 52 rfl
  have D__law_right : DefOk (cc K T) P w mg base (top 71) "_law_right" 15 (["pool"] : List Str) W__law_right := defOk_of F__law_right (He.glo_ok KX G (c.fact 43 (f := .glo "_law_right") rfl)) ⟨rfl, rfl, rfl, by decide +kernel, rfl, by decide +kernel, by decide +kernel⟩ (fun _ _ _ _ _ _ us hl => match us, hl with | [_], _ => rfl) (b__law_right Y D__law_small D__law_made D__law_begun N_Morning D__law_list D__law_told M_Book___eq__ M_Morning___eq__ Z.ne_Morning Z.nf_Morning__Book D__law_deed D__law_barred D__law_behind M_Morning_do H__law_refused (TA__law_right fd__law_right F__law_right))
  obtain ⟨fd_law, F_law⟩ := c.def_ 53 rfl
  have D_law : DefOk (cc K T) P w mg base (top 72) "law" 16 (["script"] : List Str) W_law := defOk_of F_law (He.glo_ok KX G (c.fact 44 (f := .glo "law") rfl)) ⟨rfl, rfl, rfl, by decide +kernel, rfl, by decide +kernel, by decide +kernel⟩ (fun _ _ _ _ _ _ us hl => match us, hl with | [_], _ => rfl) (b_law Y D__law_right D__law_pool)
  obtain ⟨fd_Morning_undo, F_Morning_undo⟩ := c.def_ 54 rfl
  have M_Morning_undo : MetOk (cc K T) P w mg base (mthOf (top 55) 3) "Morning" "undo" "Morning.undo" 1 (["self"] : List Str) W_Morning_undo := metOk_of F_Morning_undo (He.meth_ok (c.fact 91 (f := .meth "Morning" "undo") rfl)) ⟨rfl, rfl, rfl, by decide +kernel, rfl, by decide +kernel, by decide +kernel⟩ (fun _ _ _ _ _ _ us hl => match us, hl with | [_], _ => rfl) (b_Morning_undo Y )
  exact D_law
end K78
end
section
set_option Elab.async false
set_option linter.all false
set_option maxRecDepth 100000
set_option maxHeartbeats 4000000
open PySem PySem.Spec L2 DL
namespace K78
local macro_rules | `(tactic| walk_at "st") => `(tactic| first
  | with_reducible refine c_seq ?_
  | with_reducible refine c_var (by with_unfolding_all exact rfl) ?_
  | with_reducible refine c_d2 ?_
  | with_reducible refine c_cons ?_
  | with_reducible refine c_nil ?_
  | with_reducible refine c_dL ?_
  | with_reducible refine c_call ?_
  | with_reducible refine c_int ?_
  | with_reducible refine c_str ?_
  | with_reducible refine c_bl ?_
  | with_reducible refine c_non ?_
  | with_reducible refine c_c ?_
  | with_reducible refine c_if ?_
  | with_reducible refine c_test ?_
  | with_reducible refine c_exb ?_
  | with_reducible refine c_tt ?_
  | with_reducible refine c_ff ?_
  | with_reducible refine c_nt ?_
  | with_reducible refine c_nf ?_
  | with_reducible refine c_ret ?_
  | with_reducible refine i_tup ?_
  | with_reducible refine i_fl ?_
  | with_reducible refine i_str ?_
  | with_reducible refine i_fd ?_
  | with_reducible refine c_sz (by with_unfolding_all exact rfl) ?_
  | with_reducible refine i_enumT ?_
  | with_reducible refine c_set ?_
  | with_reducible refine c_next ?_
  | with_reducible refine c_expr ?_
  | with_reducible refine c_fld ?_
  | with_reducible refine c_andT ?_
  | with_reducible refine c_orT ?_
  | with_reducible refine c_notT ?_
  | with_reducible refine c_and ?_
  | with_reducible refine c_or ?_
  | with_reducible refine c_not ?_
  | with_reducible refine c_ite ?_
  | with_reducible refine c_tup ?_
  | with_reducible refine c_lst ?_
  | with_reducible refine c_dM ?_
  | with_reducible refine c_met ?_
  | with_reducible refine c_new ?_
  | with_reducible refine c_sl ?_
  | with_reducible refine c_noP ?_
  | with_reducible refine c_part ?_
  | with_reducible refine c_chain ?_
  | with_reducible refine c_d1 ?_
  | with_reducible refine c_asg ?_
  | with_reducible refine c_par ?_
  | with_reducible refine c_par3 ?_
  | with_reducible refine v_par3 ?_
  | with_reducible refine c_raise ?_
  | with_reducible refine c_for ?_
  | with_reducible refine c_sfld ?_
  | with_reducible refine c_retN ?_
  | with_reducible refine c_gNm ?_
  | with_reducible refine c_gN ?_
  | with_reducible refine c_gC ?_
  | with_reducible refine c_gT (by with_unfolding_all exact rfl) ?_
  | with_reducible refine c_gSb ?_
  | with_reducible refine c_iAny ?_
  | with_reducible refine c_range1 ?_
  | with_reducible refine c_comp ?_
  | with_reducible refine c_enum ?_
  | with_reducible refine c_yes ?_
  | with_reducible refine c_st1 ?_
  | with_reducible refine c_tryAs ?_
  | with_reducible refine c_xf ?_
  | with_reducible refine c_hof ?_
  | with_reducible refine c_copyItems ?_
  | with_reducible refine c_lenSet ?_
  | with_reducible refine c_dict0 ?_
  | with_reducible refine v_onTb ?_
  | with_reducible refine v_onI ?_
  | with_reducible refine v_lt ?_
  | with_reducible refine v_gt ?_
  | with_reducible refine v_le ?_
  | with_reducible refine v_ge ?_
  | with_reducible refine v_eqI ?_
  | with_reducible refine v_neI ?_
  | with_reducible refine v_eqS ?_
  | with_reducible refine v_neS ?_
  | with_reducible refine v_add ?_
  | with_reducible refine v_sub ?_
  | with_reducible refine v_neg ?_
  | with_reducible refine v_mod (by decide) ?_
  | with_reducible refine v_int ?_
  | with_reducible refine v_isN ?_
  | with_reducible refine v_notN ?_
  | with_reducible refine v_insF ?_
  | with_reducible refine v_onO (by with_unfolding_all exact rfl) ?_
  | with_reducible refine v_kind (by with_unfolding_all exact rfl) ?_
  | with_reducible refine v_tupleT ?_
  | with_reducible refine v_tupleF ?_
  | with_reducible refine v_lenT ?_
  | with_reducible refine v_lenF ?_
  | with_reducible refine v_slT ?_
  | with_reducible refine v_ix (by with_unfolding_all exact rfl) ?_
  | with_reducible refine v_get1 ?_
  | with_reducible refine v_get2 ?_
  | with_reducible refine v_inD ?_
  | with_reducible refine v_notInD ?_
  | with_reducible refine v_max ?_
  | with_reducible refine v_min ?_
  | with_reducible refine v_isi (k := true) (by with_unfolding_all exact rfl) (by decide) ?_
  | with_reducible refine v_isi (k := false) (by with_unfolding_all exact rfl) (by decide) ?_
  | with_reducible refine ⟨rfl, ?_⟩)
local macro_rules | `(tactic| walk_at "go") => `(tactic| repeat (walk_at "st"))
abbrev six : List Str := ["ann", "ben", "cal", "dan", "eve", "fay"]
theorem s_is_string {x : Str} {h : Hd} {Q : DK} {E : DX} (q : Q (.bl true) h) : W_is_string [.str x] h Q E := by
  refine e_fn [some (.str x)] rfl ?_
  unfold w_is_string
  walk_at "go"
  exact f_q q
theorem s_is_truth {x : Bool} {h : Hd} {Q : DK} {E : DX} (q : Q (.bl true) h) : W_is_truth [.bl x] h Q E := by
  refine e_fn [some (.bl x)] rfl ?_
  unfold w_is_truth
  walk_at "go"
  exact f_q q
theorem s_is_tuple_of {xs : List D} {n : Int} {h : Hd} {Q : DK} {E : DX} (q : Q (.bl (decide ((xs.length : Int) = n))) h) : W_is_tuple_of [.tup xs, .int n] h Q E := by
  refine e_fn [some (.tup xs), some (.int n)] rfl ?_
  unfold w_is_tuple_of
  walk_at "go"
  exact f_q q
theorem s_is_row {xs : List D} {n m : Int} {h : Hd} {Q : DK} {E : DX} (h1 : n ≤ (xs.length : Int)) (h2 : (xs.length : Int) ≤ m) (q : Q (.bl true) h) : W_is_row [.tup xs, .int n, .int m] h Q E := by
  refine e_fn [some (.tup xs), some (.int n), some (.int m)] rfl ?_
  unfold w_is_row
  walk_at "go"
  refine c_t (decide_eq_true h1) ?_
  walk_at "go"
  rw [decide_eq_true h2]
  exact f_q q
theorem s_is_one_of {l : List Str} {x : Str} {h : Hd} {Q : DK} {E : DX} (q : Q (.bl (decide (x ∈ l))) h) : W_is_one_of [.tup (sD l), .str x] h Q E := by
  refine e_fn [some (.tup (sD l)), some (.str x)] rfl ?_
  unfold w_is_one_of
  walk_at "go"
  exact v_inS (f_q q)
/-- one of the six names: made of small letters -/
theorem s_is_made_of {x : Str} (hx : x ∈ six) {h : Hd} {Q : DK} {E : DX} (q : Q (.bl true) h) : W_is_made_of [.str x, .str "abcdefghijklmnopqrstuvwxyz"] h Q E := by
  refine e_fn [some (.str x), some (.str "abcdefghijklmnopqrstuvwxyz"), none] rfl ?_
  unfold w_is_made_of
  walk_at "go"
  have ne : decide (x = "") = false := by
    simp only [six, List.mem_cons, List.not_mem_nil, or_false] at hx
    rcases hx with rfl | rfl | rfl | rfl | rfl | rfl <;> decide
  rw [ne]
  walk_at "go"
  intro p hp
  have hl : x.cps.toList.length ≤ 900000 := by
    simp only [six, List.mem_cons, List.not_mem_nil, or_false] at hx
    rcases hx with rfl | rfl | rfl | rfl | rfl | rfl <;> decide
  have hc : ∀ c ∈ x.cps.toList, c ∈ ("abcdefghijklmnopqrstuvwxyz" : Str).cps.toList := by
    simp only [six, List.mem_cons, List.not_mem_nil, or_false] at hx
    rcases hx with rfl | rfl | rfl | rfl | rfl | rfl <;> decide
  refine lc_pure (fun _ => some (.bl true)) (fun _ => trivial) (by rw [List.length_map]; exact hl) (fun d hd h R acc e hs q => ?_) ?_
  · obtain ⟨c, hm, rfl⟩ := List.mem_map.mp hd
    walk_at "go"
    refine v_inC ?_
    rw [decide_eq_true (hc c hm)]
    exact v_onOl e ⟨hs, q⟩
  · walk_at "go"
    rw [fm_some (fun _ => D.bl true), List.map_map]
    refine v_allR (bs := x.cps.toList.map fun _ => true) (by rw [hup_same, List.map_map]; rfl) ?_
    rw [show (x.cps.toList.map fun _ => true).all id = true from by rw [List.all_eq_true]; intro b hb; obtain ⟨_, _, rfl⟩ := List.mem_map.mp hb; rfl]
    exact f_drop1 hp q
theorem six_len : ∀ x ∈ six, x.length = 3 := by decide
theorem s_is_name {x : Str} (hx : x ∈ six) {h : Hd} {Q : DK} {E : DX} (q : Q (.bl true) h) : W_is_name [.str x] h Q E := by
  refine e_fn [some (.str x)] rfl ?_
  unfold w_is_name
  walk_at "go"
  refine s_is_string ?_
  walk_at "go"
  refine v_lenS (by rw [six_len x hx]; unfold SZ; omega) ?_
  walk_at "go"
  rw [six_len x hx]
  refine c_t (by decide) ?_
  walk_at "go"
  exact s_is_made_of hx (f_q q)
theorem s_first_wrong {f : Addr} {Wf : DF} {xs : List D} {h : Hd} {Q : DK} {E : DX} (hw : ∀ i d, xs[i]? = some d → ∀ h Q E, Q (.bl true) h → Wf [d, .tup (xs.take i)] h Q E) (q : Q .non h) : W_first_wrong f Wf [.tup xs, .ref f] h Q E := by
  refine e_fn [some (.tup xs), some (.ref f), none, none] rfl ?_
  unfold w_first_wrong
  walk_at "go"
  refine for_inv (fun ds ρ h' => ∃ k a b, ds = (enumD xs).drop k ∧ ρ = [some (.tup xs), some (.ref f), a, b] ∧ h' = h) (fun _ _ _ _ => trivial) ?_ ?_ _ _ _ ⟨0, none, none, rfl, rfl, rfl⟩
  · rintro d ds ρ h' R ⟨k, a, b, e, rfl, rfl⟩ hR
    obtain ⟨e1, e2⟩ := drop_cons e
    obtain ⟨x, e3, rfl⟩ := enumD_get e1
    walk_at "go"
    refine c_clo rfl ?_
    walk_at "go"
    rw [cut_take (by omega), Int.toNat_natCast]
    refine hw k x e3 _ _ _ ?_
    walk_at "go"
    exact hR _ _ ⟨k + 1, _, _, e2, rfl, rfl⟩
  · rintro ρ h' ⟨k, a, b, e, rfl, rfl⟩
    walk_at "go"
    exact f_q q
theorem six_lt : ∀ i < 5, strLt (six.getD i "") (six.getD (i + 1) "") = true := by decide
theorem six_ok : ∀ x ∈ six, OkS x := by unfold OkS; decide +kernel
/-- some of the six, the first ones -/
def Ppl (l : List Str) : Prop := ∃ k, 2 ≤ k ∧ k ≤ 6 ∧ l = six.take k
theorem Ppl.mem {l : List Str} (p : Ppl l) {x : Str} (h : x ∈ l) : x ∈ six := by
  obtain ⟨k, _, _, rfl⟩ := p
  exact List.mem_of_mem_take h
theorem Ppl.at {l : List Str} (p : Ppl l) {i : Nat} {x : Str} (h : l[i]? = some x) : six[i]? = some x := by
  obtain ⟨k, _, _, rfl⟩ := p
  rw [List.getElem?_take] at h
  split at h
  · exact h
  · cases h
theorem Ppl.len {l : List Str} (p : Ppl l) : 2 ≤ l.length ∧ l.length ≤ 6 := by
  obtain ⟨k, h1, h2, rfl⟩ := p
  rw [List.length_take]
  show 2 ≤ min k 6 ∧ min k 6 ≤ 6
  omega
theorem s_wrong_name {l : List Str} (p : Ppl l) {h : Hd} {Q : DK} {E : DX} (q : Q .non h) : W_wrong_name [.tup (sD l)] h Q E := by
  refine e_fn [some (.tup (sD l))] rfl ?_
  unfold w_wrong_name
  walk_at "go"
  intro f hf
  refine s_first_wrong (fun i d e h' Q' E' q' => ?_) (f_q q)
  obtain ⟨x, ex, rfl⟩ : ∃ x, l[i]? = some x ∧ d = .str x := by
    rw [List.getElem?_map] at e
    cases z : l[i]? with
    | none => rw [z] at e; cases e
    | some x => rw [z] at e; cases e; exact ⟨x, rfl, rfl⟩
  have e6 := p.at ex
  refine e_lam [some (.str x), some (.tup ((sD l).take i))] rfl ?_
  walk_at "go"
  refine s_is_name (p.mem (List.mem_of_getElem? ex)) ?_
  walk_at "go"
  rw [← List.map_take]
  refine v_eqNil (fun y hy => six_ok y (p.mem (List.mem_of_mem_take hy))) ?_
  walk_at "go"
  cases z : (l.take i).isEmpty with
  | true => walk_at "go"; exact f_q q'
  | false =>
    walk_at "go"
    have hi : i < l.length := (List.getElem?_eq_some_iff.mp ex).1
    have i0 : i ≠ 0 := fun w => by subst w; simp at z
    have hl : (l.take i).length = i := by rw [List.length_take]; omega
    have hx : l[i - 1]? = some (l[i - 1]'(by omega)) := List.getElem?_eq_getElem _
    have h6 := p.at hx
    refine v_ix (d := .str (l[i - 1]'(by omega))) (atI_last (fun w => by rw [List.map_eq_nil_iff] at w; rw [w] at hl; simp at hl; omega) ?_) ?_
    · rw [List.length_map, hl, List.getElem?_map, List.getElem?_take_of_lt (by omega), hx]; rfl
    · walk_at "go"
      refine v_ltS ?_
      have := six_lt (i - 1) (by have := (List.getElem?_eq_some_iff.mp e6).1; simp [six] at this; omega)
      rw [List.getD_eq_getElem?_getD, List.getD_eq_getElem?_getD, h6, show i - 1 + 1 = i from by omega, e6] at this
      simp only [Option.getD_some] at this
      rw [this]
      exact f_q q'
theorem s_check_people {l : List Str} (p : Ppl l) {h : Hd} {Q : DK} {E : DX} (q : Q .non h) : W_check_people [.tup (sD l)] h Q E := by
  refine e_fn [some (.tup (sD l)), none] rfl ?_
  unfold w_check_people
  obtain ⟨h1, h2⟩ := p.len
  walk_at "go"
  refine s_is_row (by rw [List.length_map]; omega) (by rw [List.length_map]; omega) ?_
  walk_at "go"
  refine s_wrong_name p ?_
  walk_at "go"
  refine s_is_row (by rw [List.length_map]; omega) (by rw [List.length_map]; omega) ?_
  walk_at "go"
  exact f_q q
theorem s_check_first {l : List Str} {x : Str} (hx : x ∈ l) {h : Hd} {Q : DK} {E : DX} (q : Q .non h) : W_check_first [.tup (sD l), .str x] h Q E := by
  refine e_fn [some (.tup (sD l)), some (.str x)] rfl ?_
  unfold w_check_first
  walk_at "go"
  refine s_is_one_of ?_
  rw [decide_eq_true hx]
  walk_at "go"
  exact f_q q
theorem s_is_list {l people : List Str} {n : Str} (h1 : l.Nodup) (h2 : ∀ x ∈ l, x ∈ people ∧ x ≠ n) (h3 : l.length < 4000) {h : Hd} {Q : DK} {E : DX} (q : Q (.bl true) h) : W_is_list [.tup (sD people), .str n, .tup (sD l)] h Q E := by
  refine e_fn [some (.tup (sD people)), some (.str n), some (.tup (sD l)), none] rfl ?_
  unfold w_is_list
  walk_at "go"
  intro p hp
  refine lc_pure (fun _ => some (.bl true)) (fun _ => trivial) (by rw [List.length_map]; omega) (fun d hd h R acc e hs q => ?_) ?_
  · obtain ⟨x, hm, rfl⟩ := List.mem_map.mp hd
    walk_at "go"
    refine s_is_one_of ?_
    rw [decide_eq_true (h2 x hm).1]
    walk_at "go"
    rw [decide_eq_false (h2 x hm).2]
    exact v_onOl e ⟨hs, q⟩
  · walk_at "go"
    rw [fm_some (fun _ => D.bl true), List.map_map]
    refine v_allR (bs := l.map fun _ => true) (by rw [hup_same, List.map_map]; rfl) ?_
    rw [show (l.map fun _ => true).all id = true from by rw [List.all_eq_true]; intro b hb; obtain ⟨_, _, rfl⟩ := List.mem_map.mp hb; rfl]
    walk_at "go"
    refine ⟨l, rfl, h3, ?_⟩
    walk_at "go"
    rw [dcnt_nodup h1 _ (Nat.le_refl _), List.length_map, decide_eq_true rfl]
    exact f_drop1 hp q
abbrev lD (ls : List (List Str)) : List D := ls.map fun l => .tup (sD l)
structure LsOk (people : List Str) (lists : List (List Str)) : Prop where
  len : lists.length = people.length
  ok : ∀ (i : Nat) (n : Str) (l : List Str), people[i]? = some n → lists[i]? = some l → l.Nodup ∧ (∀ x ∈ l, x ∈ people ∧ x ≠ n) ∧ l.length < 4000
theorem s_wrong_list {people : List Str} {lists : List (List Str)} (o : LsOk people lists) {h : Hd} {Q : DK} {E : DX} (q : Q .non h) : W_wrong_list [.tup (sD people), .tup (lD lists)] h Q E := by
  refine e_fn [some (.tup (sD people)), some (.tup (lD lists))] rfl ?_
  unfold w_wrong_list
  walk_at "go"
  intro f hf
  refine s_first_wrong (fun i d e h' Q' E' q' => ?_) (f_q q)
  obtain ⟨l, el, rfl⟩ : ∃ l, lists[i]? = some l ∧ d = .tup (sD l) := by
    rw [List.getElem?_map] at e
    cases z : lists[i]? with
    | none => rw [z] at e; cases e
    | some x => rw [z] at e; cases e; exact ⟨x, rfl, rfl⟩
  have hi : i < lists.length := (List.getElem?_eq_some_iff.mp el).1
  have hi2 : i < people.length := by rw [← o.len]; exact hi
  have ep : people[i]? = some people[i] := List.getElem?_eq_getElem hi2
  obtain ⟨o1, o2, o3⟩ := o.ok i _ _ ep el
  refine e_lam [some (.tup (sD l)), some (.tup ((lD lists).take i)), some (.tup (sD people))] rfl ?_
  walk_at "go"
  have hl : ((lD lists).take i).length = i := by rw [List.length_take, List.length_map]; omega
  rw [hl]
  refine v_ix (d := .str people[i]) (atI_nat (by omega) (by rw [Int.toNat_natCast, List.getElem?_map, ep]; rfl)) ?_
  walk_at "go"
  exact s_is_list o1 o2 o3 (f_q q')
theorem s_check_lists {people : List Str} {lists : List (List Str)} (o : LsOk people lists) {h : Hd} {Q : DK} {E : DX} (q : Q .non h) : W_check_lists [.tup (sD people), .tup (lD lists)] h Q E := by
  refine e_fn [some (.tup (sD people)), some (.tup (lD lists)), none] rfl ?_
  unfold w_check_lists
  walk_at "go"
  refine s_is_tuple_of ?_
  rw [List.length_map, List.length_map, o.len, decide_eq_true rfl]
  walk_at "go"
  refine s_wrong_list o ?_
  walk_at "go"
  exact f_q q
structure Bk where
  people : List Str
  first : Str
  lists : List (List Str)
structure Bk.Ok (b : Bk) : Prop where
  ppl : Ppl b.people
  fst : b.first ∈ b.people
  lst : LsOk b.people b.lists
abbrev Bk.fs (b : Bk) : List (Str × D) := [("people", .tup (sD b.people)), ("first", .str b.first), ("lists", .tup (lD b.lists))]
abbrev Bk.D (b : Bk) : D := .fi "Book" b.fs
abbrev Bk.T (b : Bk) : DL.D := .tup [.tup (sD b.people), .str b.first, .tup (lD b.lists)]
theorem s_Book_init {b : Bk} (o : b.Ok) {p : Addr} {h : Hd} {Q : DK} {E : DX} (hp : h p = some (.oi "Book" [])) (q : Q .non (hup h p (.oi "Book" b.fs))) : W_Book_init [.ref p, .tup (sD b.people), .str b.first, .tup (lD b.lists)] h Q E := by
  refine e_fn [some (.ref p), some (.tup (sD b.people)), some (.str b.first), some (.tup (lD b.lists))] rfl ?_
  unfold w_Book_init
  walk_at "go"
  refine s_check_people o.ppl ?_
  walk_at "go"
  refine s_check_first o.fst ?_
  walk_at "go"
  refine s_check_lists o.lst ?_
  walk_at "go"
  refine c_ex_fld hp (by with_unfolding_all exact rfl) ?_
  walk_at "go"
  refine c_ex_fld hup_same (by with_unfolding_all exact rfl) ?_
  walk_at "go"
  refine c_ex_fld hup_same (by with_unfolding_all exact rfl) ?_
  rw [hup_hup, hup_hup]
  exact f_q q
theorem s_made {b : Bk} (o : b.Ok) {h : Hd} {Q : DK} {E : DX} (q : Q b.D h) : W__law_made [b.T] h Q E := by
  refine e_fn [some b.T] rfl ?_
  unfold w__law_made
  walk_at "go"
  intro p hp
  refine s_Book_init o hup_same ⟨rfl, ?_⟩
  rw [hup_hup]
  refine f_frz (h0 := h) 3 (sub_hup hp) ?_
  rw [res_oi (by rw [hp]; rfl) hup_same]
  simp only [List.map_cons, List.map_nil, res_sD, res_str, res_lD]
  exact f_q q

end K78
end
section
set_option Elab.async false
set_option linter.all false
set_option maxRecDepth 100000
set_option maxHeartbeats 4000000
open PySem PySem.Spec L2 DL
namespace K78
local macro_rules | `(tactic| walk_at "st") => `(tactic| first
  | with_reducible refine c_seq ?_
  | with_reducible refine c_var (by with_unfolding_all exact rfl) ?_
  | with_reducible refine c_d2 ?_
  | with_reducible refine c_cons ?_
  | with_reducible refine c_nil ?_
  | with_reducible refine c_dL ?_
  | with_reducible refine c_call ?_
  | with_reducible refine c_int ?_
  | with_reducible refine c_str ?_
  | with_reducible refine c_bl ?_
  | with_reducible refine c_non ?_
  | with_reducible refine c_c ?_
  | with_reducible refine c_if ?_
  | with_reducible refine c_test ?_
  | with_reducible refine c_exb ?_
  | with_reducible refine c_tt ?_
  | with_reducible refine c_ff ?_
  | with_reducible refine c_nt ?_
  | with_reducible refine c_nf ?_
  | with_reducible refine c_ret ?_
  | with_reducible refine i_tup ?_
  | with_reducible refine i_fl ?_
  | with_reducible refine i_str ?_
  | with_reducible refine i_fd ?_
  | with_reducible refine c_sz (by with_unfolding_all exact rfl) ?_
  | with_reducible refine i_enumT ?_
  | with_reducible refine c_set ?_
  | with_reducible refine c_next ?_
  | with_reducible refine c_expr ?_
  | with_reducible refine c_fld ?_
  | with_reducible refine c_andT ?_
  | with_reducible refine c_orT ?_
  | with_reducible refine c_notT ?_
  | with_reducible refine c_and ?_
  | with_reducible refine c_or ?_
  | with_reducible refine c_not ?_
  | with_reducible refine c_ite ?_
  | with_reducible refine c_tup ?_
  | with_reducible refine c_lst ?_
  | with_reducible refine c_dM ?_
  | with_reducible refine c_met ?_
  | with_reducible refine c_new ?_
  | with_reducible refine c_sl ?_
  | with_reducible refine c_noP ?_
  | with_reducible refine c_part ?_
  | with_reducible refine c_chain ?_
  | with_reducible refine c_d1 ?_
  | with_reducible refine c_asg ?_
  | with_reducible refine c_par ?_
  | with_reducible refine c_par3 ?_
  | with_reducible refine v_par3 ?_
  | with_reducible refine c_raise ?_
  | with_reducible refine c_for ?_
  | with_reducible refine c_sfld ?_
  | with_reducible refine c_retN ?_
  | with_reducible refine c_gNm ?_
  | with_reducible refine c_gN ?_
  | with_reducible refine c_gC ?_
  | with_reducible refine c_gT (by with_unfolding_all exact rfl) ?_
  | with_reducible refine c_gSb ?_
  | with_reducible refine c_iAny ?_
  | with_reducible refine c_range1 ?_
  | with_reducible refine c_comp ?_
  | with_reducible refine c_enum ?_
  | with_reducible refine c_yes ?_
  | with_reducible refine c_st1 ?_
  | with_reducible refine c_tryAs ?_
  | with_reducible refine c_xf ?_
  | with_reducible refine c_hof ?_
  | with_reducible refine c_copyItems ?_
  | with_reducible refine c_lenSet ?_
  | with_reducible refine c_dict0 ?_
  | with_reducible refine v_onTb ?_
  | with_reducible refine v_onI ?_
  | with_reducible refine v_lt ?_
  | with_reducible refine v_gt ?_
  | with_reducible refine v_le ?_
  | with_reducible refine v_ge ?_
  | with_reducible refine v_eqI ?_
  | with_reducible refine v_neI ?_
  | with_reducible refine v_eqS ?_
  | with_reducible refine v_neS ?_
  | with_reducible refine v_add ?_
  | with_reducible refine v_sub ?_
  | with_reducible refine v_neg ?_
  | with_reducible refine v_mod (by decide) ?_
  | with_reducible refine v_int ?_
  | with_reducible refine v_isN ?_
  | with_reducible refine v_notN ?_
  | with_reducible refine v_insF ?_
  | with_reducible refine v_onO (by with_unfolding_all exact rfl) ?_
  | with_reducible refine v_kind (by with_unfolding_all exact rfl) ?_
  | with_reducible refine v_tupleT ?_
  | with_reducible refine v_tupleF ?_
  | with_reducible refine v_lenT ?_
  | with_reducible refine v_lenF ?_
  | with_reducible refine v_slT ?_
  | with_reducible refine v_ix (by with_unfolding_all exact rfl) ?_
  | with_reducible refine v_get1 ?_
  | with_reducible refine v_get2 ?_
  | with_reducible refine v_inD ?_
  | with_reducible refine v_notInD ?_
  | with_reducible refine v_max ?_
  | with_reducible refine v_min ?_
  | with_reducible refine v_isi (k := true) (by with_unfolding_all exact rfl) (by decide) ?_
  | with_reducible refine v_isi (k := false) (by with_unfolding_all exact rfl) (by decide) ?_
  | with_reducible refine ⟨rfl, ?_⟩)
local macro_rules | `(tactic| walk_at "go") => `(tactic| repeat (walk_at "st"))
/-- the pool of draws -/
def IsP (h : Hd) (p : Addr) : Prop := ∃ a b c : Int, h p = some (.ol [.int a, .int b, .int c])
theorem s_draw {p : Addr} {m : Int} {h : Hd} {Q : DK} {E : DX} (hp : IsP h p) (h0 : 0 < m) (h1 : m < 2 ^ 64) (q : ∀ (k a b c : Int), 0 ≤ k → k < m → Q (.int k) (hup h p (.ol [.int a, .int b, .int c]))) : W__law_draw [.ref p, .int m] h Q E := by
  obtain ⟨a, b, c, e⟩ := hp
  have cd : ∀ i, CDivW i m := fun i => by
    refine ⟨h0, ?_⟩
    have : m.natAbs < 2 ^ 64 := by omega
    have := Nat.log2_lt (n := m.natAbs) (k := 64) (by omega)
    omega
  refine e_fn [some (.ref p), some (.int m), none, none] rfl ?_
  unfold w__law_draw
  walk_at "go"
  refine v_ixR e rfl ?_
  walk_at "go"
  refine c_ifd (fun hb => ?_) (fun _ => ?_)
  · walk_at "go"
    refine v_ixR e rfl ?_
    walk_at "go"
    refine v_divmod (cd b) ?_
    walk_at "go"
    refine v_putL (j := 1) e rfl ?_
    walk_at "go"
    exact f_q (q _ _ _ _ (Int.emod_nonneg _ (by omega)) (Int.emod_lt_of_pos _ h0))
  · walk_at "go"
    refine v_ixR e rfl ?_
    walk_at "go"
    refine v_putL (j := 2) e rfl ?_
    walk_at "go"
    refine v_ixR hup_same rfl ?_
    walk_at "go"
    refine v_mul (.inr (.inl ⟨by omega, by omega⟩)) ?_
    walk_at "go"
    refine v_ixR hup_same rfl ?_
    refine v_mul (.inl ⟨by decide, by decide⟩) ?_
    walk_at "go"
    refine v_putL (j := 0) hup_same rfl ?_
    walk_at "go"
    refine v_ixR hup_same rfl ?_
    walk_at "go"
    refine v_div ⟨by decide, by decide⟩ ?_
    walk_at "go"
    refine v_mod h0 ?_
    rw [hup_hup]
    exact f_q (q _ _ _ _ (Int.emod_nonneg _ (by omega)) (Int.emod_lt_of_pos _ h0))
theorem s_pick {p : Addr} {xs : List D} {h : Hd} {Q : DK} {E : DX} (hp : IsP h p) (h0 : 0 < xs.length) (h1 : xs.length < 1000) (q : ∀ (x : D) (a b c : Int), x ∈ xs → Q x (hup h p (.ol [.int a, .int b, .int c]))) : W__law_pick [.ref p, .tup xs] h Q E := by
  refine e_fn [some (.ref p), some (.tup xs)] rfl ?_
  unfold w__law_pick
  walk_at "go"
  refine s_draw hp (by omega) (by omega) fun k a b c k0 k1 => ?_
  have hk : k.toNat < xs.length := by omega
  refine v_ix (atI_nat k0 (List.getElem?_eq_getElem hk)) ?_
  exact f_q (q _ a b c (List.getElem_mem hk))
/-- what stood beside the pool stands -/
structure Ext (h g : Hd) (p : Addr) : Prop where
  ip : IsP g p
  ok : ∀ q o, q ≠ p → h q = some o → g q = some o
theorem Ext.refl {h : Hd} {p : Addr} (i : IsP h p) : Ext h h p := ⟨i, fun _ _ _ e => e⟩
theorem Ext.draw {h g : Hd} {p : Addr} (e : Ext h g p) {a b c : Int} : Ext h (hup g p (.ol [.int a, .int b, .int c])) p := ⟨⟨a, b, c, hup_same⟩, fun q o n z => by rw [hup_ne n]; exact e.ok q o n z⟩
theorem Ext.new {h g : Hd} {p r : Addr} {o : O} (e : Ext h g p) (hr : g r = none) : Ext h (hup g r o) p := by
  have rp : r ≠ p := fun z => by obtain ⟨a, b, c, w⟩ := e.ip; rw [z, w] at hr; cases hr
  refine ⟨let ⟨a, b, c, w⟩ := e.ip; ⟨a, b, c, by rw [hup_ne (Ne.symm rp)]; exact w⟩, fun q o n z => ?_⟩
  have qr : q ≠ r := fun w => by rw [← w, e.ok q o n z] at hr; cases hr
  rw [hup_ne qr]; exact e.ok q o n z
theorem Ext.put {h g : Hd} {p r : Addr} {o : O} (e : Ext h g p) (hr : h r = none) (rp : r ≠ p) : Ext h (hup g r o) p := by
  refine ⟨let ⟨a, b, c, w⟩ := e.ip; ⟨a, b, c, by rw [hup_ne (Ne.symm rp)]; exact w⟩, fun q o n z => ?_⟩
  have qr : q ≠ r := fun w => by rw [w, hr] at z; cases z
  rw [hup_ne qr]; exact e.ok q o n z
theorem Ext.fin {h g : Hd} {p : Addr} {Q : DK} {d : D} (e : Ext h g p) (q : ∀ a b c : Int, Q d (hup h p (.ol [.int a, .int b, .int c]))) : fin Q d g := by
  obtain ⟨a, b, c, w⟩ := e.ip
  refine f_drop (fun r o z => ?_) (q a b c)
  by_cases n : r = p
  · subst n; rw [hup_same] at z; rw [w]; exact z
  · rw [hup_ne n] at z; exact e.ok r o n z
theorem IsP.hup {h : Hd} {p r : Addr} {o : O} (i : IsP h p) (n : p ≠ r) : IsP (hup h r o) p := let ⟨a, b, c, w⟩ := i; ⟨a, b, c, by rw [hup_ne n]; exact w⟩
theorem IsP.ne {h : Hd} {p r : Addr} (i : IsP h p) (hr : h r = none) : p ≠ r := fun z => by obtain ⟨a, b, c, w⟩ := i; rw [z, hr] at w; cases w
def keepN (n : Str) : D → Option D
  | .str x => if x = n then none else some (.str x)
  | _ => none
theorem keepN_all (n : Str) : ∀ l : List Str, (sD l).filterMap (keepN n) = sD (l.filter fun x => decide (x ≠ n))
  | [] => rfl
  | x :: l => by
    by_cases h : x = n
    · have e : keepN n (.str x) = none := by simp [keepN, h]
      rw [sD, List.map_cons, List.filterMap_cons_none e, List.filter_cons_of_neg (by simp [h])]
      exact keepN_all n l
    · have e : keepN n (.str x) = some (.str x) := by simp [keepN, h]
      rw [sD, List.map_cons, List.filterMap_cons_some e, List.filter_cons_of_pos (by simp [h])]
      exact congrArg (D.str x :: ·) (keepN_all n l)
theorem s_book {p : Addr} {h : Hd} {Q : DK} {E : DX} (hp : IsP h p) (q : ∀ (b : Bk) (x y z : Int), b.Ok → Q b.T (hup h p (.ol [.int x, .int y, .int z]))) : W__law_book [.ref p, .int 5, .int 3] h Q E := by
  refine e_fn [some (.ref p), some (.int 5), some (.int 3), none, none, none, none, none, none, none] rfl ?_
  unfold w__law_book
  walk_at "go"
  refine s_draw hp (by decide) (by decide) fun k x y z k0 k1 => ?_
  walk_at "go"
  rw [cut_take (by omega)]
  walk_at "go"
  rw [show ([D.str "ann", D.str "ben", D.str "cal", D.str "dan", D.str "eve", D.str "fay"] : List D) = sD six from rfl, ← List.map_take]
  have ppl : Ppl (six.take (2 + k).toNat) := ⟨(2 + k).toNat, by omega, by omega, rfl⟩
  generalize six.take (2 + k).toNat = people at ppl ⊢
  have pl := ppl.len
  have pn : people.Nodup := by
    obtain ⟨k, _, _, rfl⟩ := ppl
    exact (List.take_sublist _ _).nodup (by decide)
  refine for_inv (fun ds ρ g => ∃ (ls : List (List Str)) (v5 v6 v7 v8 v9 : Option D), ds = (sD people).drop ls.length ∧ ls.length ≤ people.length ∧ ρ = [some (.ref p), some (.int 5), some (.int 3), some (.tup (sD people)), some (.tup (lD ls)), v5, v6, v7, v8, v9] ∧ Ext h g p ∧
    ∀ (i : Nat) (n : Str) (l : List Str), people[i]? = some n → ls[i]? = some l → l.Nodup ∧ (∀ x ∈ l, x ∈ people ∧ x ≠ n) ∧ l.length < 4000) (fun _ _ _ _ => trivial) ?_ ?_ _ _ _ ⟨[], none, none, none, none, none, rfl, Nat.zero_le _, rfl, (Ext.refl hp).draw, fun i n l _ e => by simp at e⟩
  · rintro d ds ρ g R ⟨ls, v5, v6, v7, v8, v9, e, _, rfl, ex, ok⟩ hR
    obtain ⟨e1, e2⟩ := drop_cons e
    obtain ⟨n, en, rfl⟩ : ∃ n, people[ls.length]? = some n ∧ d = .str n := by
      rw [List.getElem?_map] at e1
      cases z : people[ls.length]? with
      | none => rw [z] at e1; cases e1
      | some n => rw [z] at e1; cases e1; exact ⟨n, rfl, rfl⟩
    have lj : ls.length < people.length := (List.getElem?_eq_some_iff.mp en).1
    walk_at "go"
    intro o ho
    refine lc_pure (keepN n) (fun _ => trivial) (by rw [List.length_map]; omega) (fun d hd h' R' acc e' hs q' => ?_) ?_
    · obtain ⟨x, hm, rfl⟩ := List.mem_map.mp hd
      walk_at "go"
      by_cases hx : x = n
      · rw [decide_eq_true hx]
        simp only [keepN, if_pos hx] at q'
        walk_at "go"
        exact q'
      · rw [decide_eq_false hx]
        simp only [keepN, if_neg hx] at q'
        walk_at "go"
        exact v_onOl e' ⟨hs, q'⟩
    · rw [keepN_all]
      have op : o ≠ p := Ne.symm (ex.ip.ne ho)
      have ho' : h o = none := by
        cases z : h o with
        | none => rfl
        | some w => have := ex.ok o w op z; rw [ho] at this; cases this
      walk_at "go"
      refine v_lenR hup_same ?_
      walk_at "go"
      refine s_draw (ex.new ho).ip (by decide) (by decide) fun k2 x2 y2 z2 k20 k21 => ?_
      walk_at "go"
      have hlen : (sD (people.filter fun x => decide (x ≠ n))).length ≤ 6 := by
        rw [List.length_map]
        exact Nat.le_trans (List.length_filter_le _ _) pl.2
      refine ⟨by split <;> omega, ?_⟩
      have hr : ((List.range (if k2 < ((sD (people.filter fun x => decide (x ≠ n))).length : Int) then k2 else ((sD (people.filter fun x => decide (x ≠ n))).length : Int)).toNat).map fun (i : Nat) => DL.D.int (i : Int)).length ≤ (people.filter fun x => decide (x ≠ n)).length := by
        rw [List.length_map, List.length_range]
        rw [List.length_map] at hlen ⊢
        split <;> omega
      generalize ((List.range (if k2 < ((sD (people.filter fun x => decide (x ≠ n))).length : Int) then k2 else ((sD (people.filter fun x => decide (x ≠ n))).length : Int)).toNat).map fun (i : Nat) => DL.D.int (i : Int)) = laps at hr ⊢
      refine for_inv (fun ds ρ g => ∃ (rest own : List Str) (v8 : Option D), ds.length ≤ rest.length ∧ ρ = [some (.ref p), some (.int 5), some (.int 3), some (.tup (sD people)), some (.tup (lD ls)), some (.str n), some (.ref o), some (.tup (sD own)), v8, v9] ∧ Ext h g p ∧ g o = some (.ol (sD rest)) ∧
        (own ++ rest).Perm (people.filter fun x => decide (x ≠ n))) (fun _ _ _ _ => trivial) ?_ ?_ _ _ _ ⟨_, [], v8, hr, rfl, (ex.new ho).draw, by rw [hup_ne op, hup_same], .refl _⟩
      · rintro d ds ρ g R ⟨rest, own, v8, hl, rfl, ex2, go, pm⟩ hR
        rw [List.length_cons] at hl
        have pml := pm.length_eq
        rw [List.length_append] at pml
        rw [List.length_map] at hlen
        walk_at "go"
        refine v_kind (v_kindL go) ?_
        walk_at "go"
        refine v_lenR go ?_
        walk_at "go"
        rw [List.length_map]
        refine s_draw ex2.ip (by omega) (by omega) fun k3 x3 y3 z3 k30 k31 => ?_
        have hk : k3.toNat < rest.length := by omega
        walk_at "go"
        refine v_popAt (k := k3.toNat) (y := .str rest[k3.toNat]) (by rw [hup_ne op]; exact go) (by unfold SZ; rw [List.length_map]; omega) (by unfold ixN; rw [if_pos k30, if_pos (by rw [List.length_map]; omega)]) (by rw [List.getElem?_map, List.getElem?_eq_getElem hk]; rfl) ?_
        walk_at "go"
        refine v_addT (by unfold SZ; rw [List.length_map, List.length_singleton]; omega) ?_
        refine hR _ _ ⟨rest.eraseIdx k3.toNat, own ++ [rest[k3.toNat]], some d, by rw [List.length_eraseIdx_of_lt hk]; omega, by simp [sD], (ex2.draw).put ho' op, ?_, ?_⟩
        · rw [hup_same, sD, sD, map_erase]
        · refine .trans ?_ pm
          rw [List.append_assoc]
          exact (erase_perm _ _ hk).append_left own
      · rintro ρ g ⟨rest, own, v8, hl, rfl, ex2, go, pm⟩
        walk_at "go"
        refine v_addT (by unfold SZ; rw [List.length_map, List.length_singleton]; omega) ?_
        have nd : (own ++ rest).Nodup := pm.nodup_iff.mpr (List.Pairwise.filter _ pn)
        have mm : ∀ x ∈ own, x ∈ people ∧ x ≠ n := fun x hx => by
          have := pm.mem_iff.mp (List.mem_append_left rest hx)
          rw [List.mem_filter] at this
          exact ⟨this.1, by simpa using this.2⟩
        have ol : own.length ≤ 6 := by
          have := pm.length_eq
          rw [List.length_append] at this
          rw [List.length_map] at hlen
          omega
        refine hR _ _ ⟨ls ++ [own], some (.str n), some (.ref o), some (.tup (sD own)), v8, v9, by rw [List.length_append]; exact e2, by rw [List.length_append]; exact lj, by simp [lD], ex2, fun i n' l hn hl' => ?_⟩
        rw [List.getElem?_append] at hl'
        split at hl'
        · exact ok i n' l hn hl'
        · rename_i hi
          have hi0 : i = ls.length := by
            have := (List.getElem?_eq_some_iff.mp hl').1
            rw [List.length_singleton] at this
            omega
          subst hi0
          rw [Nat.sub_self] at hl'
          cases hl'
          rw [en] at hn
          cases hn
          exact ⟨(List.nodup_append.mp nd).1, mm, by omega⟩
  · rintro ρ g ⟨ls, v5, v6, v7, v8, v9, e, le, rfl, ex, ok⟩
    have hl : ls.length = people.length := by
      have := congrArg List.length e
      rw [List.length_drop, List.length_map, List.length_nil] at this
      omega
    walk_at "go"
    refine s_pick ex.ip (by rw [List.length_map]; omega) (by rw [List.length_map]; omega) fun x a b c hx => ?_
    obtain ⟨f, hf, rfl⟩ := List.mem_map.mp hx
    walk_at "go"
    exact ex.draw.fin fun a b c => q ⟨people, f, ls⟩ a b c ⟨ppl, hf, hl, ok⟩
theorem s_small {p : Addr} {h : Hd} {Q : DK} {E : DX} (hp : IsP h p) (q : ∀ (b : Bk) (x y z : Int), b.Ok → Q b.T (hup h p (.ol [.int x, .int y, .int z]))) : W__law_small [.ref p] h Q E := by
  refine e_fn [some (.ref p)] rfl ?_
  unfold w__law_small
  walk_at "go"
  exact s_book hp fun b x y z o => f_q (q b x y z o)

end K78
end
section
set_option Elab.async false
set_option linter.all false
set_option maxRecDepth 100000
set_option maxHeartbeats 4000000
open PySem PySem.Spec L2 DL
namespace K78
local macro_rules | `(tactic| walk_at "st") => `(tactic| first
  | with_reducible refine c_seq ?_
  | with_reducible refine c_var (by with_unfolding_all exact rfl) ?_
  | with_reducible refine c_d2 ?_
  | with_reducible refine c_cons ?_
  | with_reducible refine c_nil ?_
  | with_reducible refine c_dL ?_
  | with_reducible refine c_call ?_
  | with_reducible refine c_int ?_
  | with_reducible refine c_str ?_
  | with_reducible refine c_bl ?_
  | with_reducible refine c_non ?_
  | with_reducible refine c_c ?_
  | with_reducible refine c_if ?_
  | with_reducible refine c_test ?_
  | with_reducible refine c_exb ?_
  | with_reducible refine c_tt ?_
  | with_reducible refine c_ff ?_
  | with_reducible refine c_nt ?_
  | with_reducible refine c_nf ?_
  | with_reducible refine c_ret ?_
  | with_reducible refine i_tup ?_
  | with_reducible refine i_fl ?_
  | with_reducible refine i_str ?_
  | with_reducible refine i_fd ?_
  | with_reducible refine c_sz (by with_unfolding_all exact rfl) ?_
  | with_reducible refine i_enumT ?_
  | with_reducible refine c_set ?_
  | with_reducible refine c_next ?_
  | with_reducible refine c_expr ?_
  | with_reducible refine c_fld ?_
  | with_reducible refine c_andT ?_
  | with_reducible refine c_orT ?_
  | with_reducible refine c_notT ?_
  | with_reducible refine c_and ?_
  | with_reducible refine c_or ?_
  | with_reducible refine c_not ?_
  | with_reducible refine c_ite ?_
  | with_reducible refine c_tup ?_
  | with_reducible refine c_lst ?_
  | with_reducible refine c_dM ?_
  | with_reducible refine c_met ?_
  | with_reducible refine c_new ?_
  | with_reducible refine c_sl ?_
  | with_reducible refine c_noP ?_
  | with_reducible refine c_part ?_
  | with_reducible refine c_chain ?_
  | with_reducible refine c_d1 ?_
  | with_reducible refine c_asg ?_
  | with_reducible refine c_par ?_
  | with_reducible refine c_par3 ?_
  | with_reducible refine v_par3 ?_
  | with_reducible refine c_raise ?_
  | with_reducible refine c_for ?_
  | with_reducible refine c_sfld ?_
  | with_reducible refine c_retN ?_
  | with_reducible refine c_gNm ?_
  | with_reducible refine c_gN ?_
  | with_reducible refine c_gC ?_
  | with_reducible refine c_gT (by with_unfolding_all exact rfl) ?_
  | with_reducible refine c_gSb ?_
  | with_reducible refine c_iAny ?_
  | with_reducible refine c_range1 ?_
  | with_reducible refine c_comp ?_
  | with_reducible refine c_enum ?_
  | with_reducible refine c_yes ?_
  | with_reducible refine c_st1 ?_
  | with_reducible refine c_tryAs ?_
  | with_reducible refine c_xf ?_
  | with_reducible refine c_hof ?_
  | with_reducible refine c_copyItems ?_
  | with_reducible refine c_lenSet ?_
  | with_reducible refine c_dict0 ?_
  | with_reducible refine v_onTb ?_
  | with_reducible refine v_onI ?_
  | with_reducible refine v_lt ?_
  | with_reducible refine v_gt ?_
  | with_reducible refine v_le ?_
  | with_reducible refine v_ge ?_
  | with_reducible refine v_eqI ?_
  | with_reducible refine v_neI ?_
  | with_reducible refine v_eqS ?_
  | with_reducible refine v_neS ?_
  | with_reducible refine v_add ?_
  | with_reducible refine v_sub ?_
  | with_reducible refine v_neg ?_
  | with_reducible refine v_mod (by decide) ?_
  | with_reducible refine v_int ?_
  | with_reducible refine v_isN ?_
  | with_reducible refine v_notN ?_
  | with_reducible refine v_insF ?_
  | with_reducible refine v_onO (by with_unfolding_all exact rfl) ?_
  | with_reducible refine v_kind (by with_unfolding_all exact rfl) ?_
  | with_reducible refine v_tupleT ?_
  | with_reducible refine v_tupleF ?_
  | with_reducible refine v_lenT ?_
  | with_reducible refine v_lenF ?_
  | with_reducible refine v_slT ?_
  | with_reducible refine v_ix (by with_unfolding_all exact rfl) ?_
  | with_reducible refine v_get1 ?_
  | with_reducible refine v_get2 ?_
  | with_reducible refine v_inD ?_
  | with_reducible refine v_notInD ?_
  | with_reducible refine v_max ?_
  | with_reducible refine v_min ?_
  | with_reducible refine v_isi (k := true) (by with_unfolding_all exact rfl) (by decide) ?_
  | with_reducible refine v_isi (k := false) (by with_unfolding_all exact rfl) (by decide) ?_
  | with_reducible refine ⟨rfl, ?_⟩)
local macro_rules | `(tactic| walk_at "go") => `(tactic| repeat (walk_at "st"))
structure Sg where
  minute : Int
  since : List (Str × Int)
  made : List (Str × Int)
  last : List (Str × Int)
  slept : List Str
def dS (l : List Str) : List (D × D) := l.map fun x => (.str x, .bl true)
abbrev Sg.fs (s : Sg) : List (Str × D) := [("minute", .int s.minute), ("since", .fd (dk .int s.since)), ("made", .fd (dk .int s.made)), ("last", .fd (dk .int s.last)), ("slept", .fd (dS s.slept))]
abbrev Sg.D (s : Sg) : D := .fi "Standing" s.fs
abbrev Sg.T (s : Sg) : DL.D := .tup [.int s.minute, .fd (dk .int s.since), .fl (sD s.slept), .fd (dk .int s.made), .fd (dk .int s.last)]
theorem dget_dS (x : Str) : ∀ l : List Str, dget (dS l) (.inr x) = if x ∈ l then some (.bl true) else none
  | [] => rfl
  | y :: l => by
    show (if keyD (.str y) = some (.inr x) then some (D.bl true) else dget (dS l) (.inr x)) = _
    rw [dget_dS x l]
    by_cases h : y = x
    · rw [if_pos (by rw [h]; rfl), if_pos (by rw [h]; exact List.mem_cons_self ..)]
    · rw [if_neg (fun z => h (by cases z; rfl))]
      by_cases m : x ∈ l
      · rw [if_pos m, if_pos (List.mem_cons_of_mem _ m)]
      · rw [if_neg m, if_neg (fun z => (List.mem_cons.mp z).elim (fun z => h z.symm) m)]
def Bk.list (b : Bk) (n : Str) : List Str := match idxS b.people n with
  | some j => b.lists.getD j []
  | none => []
theorem Bk.Ok.list {b : Bk} (o : b.Ok) {n : Str} (hn : n ∈ b.people) : ∃ j, idxS b.people n = some j ∧ b.lists[j]? = some (b.list n) ∧ ∀ x ∈ b.list n, x ∈ b.people := by
  obtain ⟨j, e1, e2⟩ := idxS_mem hn
  have hj : j < b.lists.length := by rw [o.lst.len]; exact (List.getElem?_eq_some_iff.mp e2).1
  have e3 : b.list n = b.lists[j] := by unfold Bk.list; rw [e1]; simp [List.getD_eq_getElem?_getD, List.getElem?_eq_getElem hj]
  have e4 : b.lists[j]? = some (b.list n) := by rw [e3]; exact List.getElem?_eq_getElem hj
  exact ⟨j, e1, e4, fun x hx => ((o.lst.ok j n _ e2 e4).2.1 x hx).1⟩
theorem s_list_of {b : Bk} (o : b.Ok) {n : Str} (hn : n ∈ b.people) {h : Hd} {Q : DK} {E : DX} (q : Q (.tup (sD (b.list n))) h) : W_list_of [b.D, .str n] h Q E := by
  refine e_fn [some b.D, some (.str n)] rfl ?_
  unfold w_list_of
  obtain ⟨j, e1, e2, _⟩ := o.list hn
  walk_at "go"
  refine v_tindex e1 ?_
  refine v_ix (d := .tup (sD (b.list n))) (atI_nat (by omega) (by rw [Int.toNat_natCast, List.getElem?_map, e2]; rfl)) ?_
  exact f_q q
theorem s_law_list {b : Bk} (o : b.Ok) {n : Str} (hn : n ∈ b.people) {h : Hd} {Q : DK} {E : DX} (q : Q (.tup (sD (b.list n))) h) : W__law_list [b.T, .str n] h Q E := by
  refine e_fn [some b.T, some (.str n)] rfl ?_
  unfold w__law_list
  obtain ⟨j, e1, e2, _⟩ := o.list hn
  walk_at "go"
  refine v_tindex e1 ?_
  refine v_ix (d := .tup (sD (b.list n))) (atI_nat (by omega) (by rw [Int.toNat_natCast, List.getElem?_map, e2]; rfl)) ?_
  exact f_q q
def got (l : List (Str × Int)) (n : Str) : Int := (aget l n).getD 0
theorem got_eq (l : List (Str × Int)) (n : Str) : ((aget l n).map D.int).getD (.int 0) = .int (got l n) := by
  unfold got; cases aget l n <;> rfl
structure SOk (b : Bk) (s : Sg) (t : Nat) : Prop where
  m0 : 0 ≤ s.minute
  m1 : s.minute ≤ t
  made : ∀ n, 0 ≤ got s.made n
  keys : ∀ p ∈ s.since, p.1 ∈ b.people
  slp : ∀ x ∈ s.slept, x ∈ b.people
  l1 : s.since.length ≤ t + 1
  l2 : s.made.length ≤ t
  l3 : s.last.length ≤ t
  l4 : s.slept.length ≤ t
def left (b : Bk) (s : Sg) (n : Str) : List Str := (b.list n).drop (got s.made n).toNat
def ahead (s : Sg) (n : Str) : Bool := match aget s.since n with
  | some m => decide (m < s.minute)
  | none => false
def canCall (b : Bk) (s : Sg) (n : Str) : Bool := ahead s n && (!(left b s n).isEmpty && !decide (aget s.last n = some s.minute))
section
variable {b : Bk} {s : Sg} {t : Nat} {n : Str} {h : Hd} {Q : DK} {E : DX}
theorem left_mem (o : b.Ok) (hn : n ∈ b.people) : ∀ x ∈ left b s n, x ∈ b.people := fun x hx => (o.list hn).choose_spec.2.2 x (List.mem_of_mem_drop hx)
theorem left_ok (o : b.Ok) (hn : n ∈ b.people) : ∀ x ∈ left b s n, OkS x := fun x hx => six_ok x (o.ppl.mem (left_mem o hn x hx))
theorem left_nil (k : SOk b s t) : (left b s n).isEmpty = !decide (got s.made n < ((b.list n).length : Int)) := by
  have := k.made n
  unfold left
  rw [Bool.eq_iff_iff, List.isEmpty_iff, List.drop_eq_nil_iff]
  simp
  omega
theorem s_left_of (o : b.Ok) (k : SOk b s t) (hn : n ∈ b.people) (q : Q (.tup (sD (left b s n))) h) : W_left_of [b.D, s.D, .str n] h Q E := by
  refine e_fn [some b.D, some s.D, some (.str n)] rfl ?_
  unfold w_left_of
  walk_at "go"
  refine s_list_of o hn ?_
  walk_at "go"
  rw [dget_dk, got_eq]
  walk_at "go"
  rw [cut_drop (k.made n), ← List.map_drop]
  exact f_q q
theorem s_knows_ahead (q : Q (.bl (ahead s n)) h) : W_knows_ahead [s.D, .str n] h Q E := by
  refine e_fn [some s.D, some (.str n)] rfl ?_
  unfold w_knows_ahead
  walk_at "go"
  rw [dget_dk]
  unfold ahead at q
  cases z : aget s.since n with
  | none =>
    rw [z] at q
    walk_at "go"
    exact f_q q
  | some m =>
    rw [z] at q
    refine c_tt ?_
    walk_at "go"
    refine v_ixD (d := .int m) (by rw [dget_dk, z]; rfl) ?_
    walk_at "go"
    exact f_q q
end

end K78
end
section
set_option Elab.async false
set_option linter.all false
set_option maxRecDepth 100000
set_option maxHeartbeats 4000000
open PySem PySem.Spec L2 DL
namespace K78
local macro_rules | `(tactic| walk_at "st") => `(tactic| first
  | with_reducible refine c_seq ?_
  | with_reducible refine c_var (by with_unfolding_all exact rfl) ?_
  | with_reducible refine c_d2 ?_
  | with_reducible refine c_cons ?_
  | with_reducible refine c_nil ?_
  | with_reducible refine c_dL ?_
  | with_reducible refine c_call ?_
  | with_reducible refine c_int ?_
  | with_reducible refine c_str ?_
  | with_reducible refine c_bl ?_
  | with_reducible refine c_non ?_
  | with_reducible refine c_c ?_
  | with_reducible refine c_if ?_
  | with_reducible refine c_test ?_
  | with_reducible refine c_exb ?_
  | with_reducible refine c_tt ?_
  | with_reducible refine c_ff ?_
  | with_reducible refine c_nt ?_
  | with_reducible refine c_nf ?_
  | with_reducible refine c_ret ?_
  | with_reducible refine i_tup ?_
  | with_reducible refine i_fl ?_
  | with_reducible refine i_str ?_
  | with_reducible refine i_fd ?_
  | with_reducible refine c_sz (by with_unfolding_all exact rfl) ?_
  | with_reducible refine i_enumT ?_
  | with_reducible refine c_set ?_
  | with_reducible refine c_next ?_
  | with_reducible refine c_expr ?_
  | with_reducible refine c_fld ?_
  | with_reducible refine c_andT ?_
  | with_reducible refine c_orT ?_
  | with_reducible refine c_notT ?_
  | with_reducible refine c_and ?_
  | with_reducible refine c_or ?_
  | with_reducible refine c_not ?_
  | with_reducible refine c_ite ?_
  | with_reducible refine c_tup ?_
  | with_reducible refine c_lst ?_
  | with_reducible refine c_dM ?_
  | with_reducible refine c_met ?_
  | with_reducible refine c_new ?_
  | with_reducible refine c_sl ?_
  | with_reducible refine c_noP ?_
  | with_reducible refine c_part ?_
  | with_reducible refine c_chain ?_
  | with_reducible refine c_d1 ?_
  | with_reducible refine c_asg ?_
  | with_reducible refine c_par ?_
  | with_reducible refine c_par3 ?_
  | with_reducible refine v_par3 ?_
  | with_reducible refine c_raise ?_
  | with_reducible refine c_for ?_
  | with_reducible refine c_sfld ?_
  | with_reducible refine c_retN ?_
  | with_reducible refine c_gNm ?_
  | with_reducible refine c_gN ?_
  | with_reducible refine c_gC ?_
  | with_reducible refine c_gT (by with_unfolding_all exact rfl) ?_
  | with_reducible refine c_gSb ?_
  | with_reducible refine c_iAny ?_
  | with_reducible refine c_range1 ?_
  | with_reducible refine c_comp ?_
  | with_reducible refine c_enum ?_
  | with_reducible refine c_yes ?_
  | with_reducible refine c_st1 ?_
  | with_reducible refine c_tryAs ?_
  | with_reducible refine c_xf ?_
  | with_reducible refine c_hof ?_
  | with_reducible refine c_copyItems ?_
  | with_reducible refine c_lenSet ?_
  | with_reducible refine c_dict0 ?_
  | with_reducible refine v_onTb ?_
  | with_reducible refine v_onI ?_
  | with_reducible refine v_lt ?_
  | with_reducible refine v_gt ?_
  | with_reducible refine v_le ?_
  | with_reducible refine v_ge ?_
  | with_reducible refine v_eqI ?_
  | with_reducible refine v_neI ?_
  | with_reducible refine v_eqS ?_
  | with_reducible refine v_neS ?_
  | with_reducible refine v_add ?_
  | with_reducible refine v_sub ?_
  | with_reducible refine v_neg ?_
  | with_reducible refine v_mod (by decide) ?_
  | with_reducible refine v_int ?_
  | with_reducible refine v_isN ?_
  | with_reducible refine v_notN ?_
  | with_reducible refine v_insF ?_
  | with_reducible refine v_onO (by with_unfolding_all exact rfl) ?_
  | with_reducible refine v_kind (by with_unfolding_all exact rfl) ?_
  | with_reducible refine v_tupleT ?_
  | with_reducible refine v_tupleF ?_
  | with_reducible refine v_lenT ?_
  | with_reducible refine v_lenF ?_
  | with_reducible refine v_slT ?_
  | with_reducible refine v_ix (by with_unfolding_all exact rfl) ?_
  | with_reducible refine v_get1 ?_
  | with_reducible refine v_get2 ?_
  | with_reducible refine v_inD ?_
  | with_reducible refine v_notInD ?_
  | with_reducible refine v_max ?_
  | with_reducible refine v_min ?_
  | with_reducible refine v_isi (k := true) (by with_unfolding_all exact rfl) (by decide) ?_
  | with_reducible refine v_isi (k := false) (by with_unfolding_all exact rfl) (by decide) ?_
  | with_reducible refine ⟨rfl, ?_⟩)
local macro_rules | `(tactic| walk_at "go") => `(tactic| repeat (walk_at "st"))
def mayCall (b : Bk) (s : Sg) : List Str := b.people.filter (canCall b s)
theorem take_filter {α : Type} {l : List α} {k : Nat} {x : α} (p : α → Bool) (e : l[k]? = some x) : (l.take (k + 1)).filter p = (l.take k).filter p ++ (if p x = true then [x] else []) := by
  rw [List.take_add_one, e, List.filter_append]
  congr 1
  simp only [Option.toList_some, List.filter_cons, List.filter_nil]
theorem sD_get {l : List Str} {k : Nat} {d : D} (e : (sD l)[k]? = some d) : ∃ x, l[k]? = some x ∧ d = .str x := by
  rw [List.getElem?_map] at e
  cases z : l[k]? with
  | none => rw [z] at e; cases e
  | some n => rw [z] at e; cases e; exact ⟨n, rfl, rfl⟩
section
variable {b : Bk} {s : Sg} {t : Nat} {n : Str} {h : Hd} {Q : DK} {E : DX}
theorem may_len (o : b.Ok) : ∀ k, ((b.people.take k).filter (canCall b s)).length ≤ 6 := fun k => by
  have := List.length_filter_le (canCall b s) (b.people.take k)
  rw [List.length_take] at this
  have := o.ppl.len.2
  omega
theorem s_could_call (o : b.Ok) (k : SOk b s t) (q : Q (.tup (sD (mayCall b s))) h) : W_could_call [b.D, s.D] h Q E := by
  refine e_fn [some b.D, some s.D, none, none, none] rfl ?_
  unfold w_could_call
  walk_at "go"
  intro f hf
  walk_at "go"
  refine for_inv (fun ds ρ g => ∃ (i : Nat) (v3 v4 : Option D), ds = (sD b.people).drop i ∧ i ≤ b.people.length ∧ ρ = [some b.D, some s.D, some (.ref f), v3, v4] ∧ g = hup h f (.ol (sD ((b.people.take i).filter (canCall b s))))) (fun _ _ _ _ => trivial) ?_ ?_ _ _ _ ⟨0, none, none, rfl, Nat.zero_le _, rfl, rfl⟩
  · rintro d ds ρ g R ⟨i, v3, v4, e, _, rfl, rfl⟩ hR
    obtain ⟨e1, e2⟩ := drop_cons e
    obtain ⟨n, en, rfl⟩ := sD_get e1
    have hn : n ∈ b.people := List.mem_of_getElem? en
    have hi : i < b.people.length := (List.getElem?_eq_some_iff.mp en).1
    have tf := take_filter (canCall b s) en
    walk_at "go"
    rw [dget_dk]
    refine v_eqOI ?_
    walk_at "go"
    refine s_knows_ahead ?_
    walk_at "go"
    cases z1 : ahead s n with
    | false =>
      walk_at "go"
      exact hR _ _ ⟨i + 1, some (.str n), _, e2, hi, rfl, by rw [tf, if_neg (by simp [canCall, z1])]; simp⟩
    | true =>
      walk_at "go"
      refine s_left_of o k hn ?_
      walk_at "go"
      refine v_neNil (left_ok o hn) ?_
      walk_at "go"
      cases z2 : (left b s n).isEmpty with
      | true =>
        walk_at "go"
        exact hR _ _ ⟨i + 1, some (.str n), _, e2, hi, rfl, by rw [tf, if_neg (by simp [canCall, z2])]; simp⟩
      | false =>
        walk_at "go"
        cases z3 : decide (aget s.last n = some s.minute) with
        | true =>
          walk_at "go"
          exact hR _ _ ⟨i + 1, some (.str n), _, e2, hi, rfl, by rw [tf, if_neg (by simp [canCall, z3])]; simp⟩
        | false =>
          walk_at "go"
          refine v_kind (v_kindL hup_same) ?_
          walk_at "go"
          refine v_append hup_same (by have := may_len (s := s) o i; unfold SZ; rw [List.length_map]; omega) ?_
          walk_at "go"
          exact hR _ _ ⟨i + 1, some (.str n), _, e2, hi, rfl, by rw [tf, if_pos (by simp [canCall, z1, z2, z3]), hup_hup]; simp [sD]⟩
  · rintro ρ g ⟨i, v3, v4, e, hi, rfl, rfl⟩
    have hl : i = b.people.length := by
      have := congrArg List.length e
      rw [List.length_drop, List.length_map, List.length_nil] at this
      omega
    subst hl
    walk_at "go"
    refine v_tupleR hup_same ?_
    rw [List.take_length]
    exact f_drop1 hf q
theorem canCall_eq (k : SOk b s t) : canCall b s n = (ahead s n && (decide (got s.made n < ((b.list n).length : Int)) && !decide (aget s.last n = some s.minute))) := by
  unfold canCall
  rw [left_nil k, Bool.not_not]
theorem s_may_call (o : b.Ok) (k : SOk b s t) (q : Q (.tup (sD (mayCall b s))) h) : W__law_may_call [b.T, s.T] h Q E := by
  refine e_fn [some b.T, some s.T, none, none, none, none, none, none, none] rfl ?_
  unfold w__law_may_call
  walk_at "go"
  intro f hf
  walk_at "go"
  refine for_inv (fun ds ρ g => ∃ (i : Nat) (v8 : Option D), ds = (sD b.people).drop i ∧ i ≤ b.people.length ∧ ρ = [some b.T, some s.T, some (.int s.minute), some (.fd (dk .int s.since)), some (.fl (sD s.slept)), some (.fd (dk .int s.made)), some (.fd (dk .int s.last)), some (.ref f), v8] ∧ g = hup h f (.ol (sD ((b.people.take i).filter (canCall b s))))) (fun _ _ _ _ => trivial) ?_ ?_ _ _ _ ⟨0, none, rfl, Nat.zero_le _, rfl, rfl⟩
  · rintro d ds ρ g R ⟨i, v8, e, _, rfl, rfl⟩ hR
    obtain ⟨e1, e2⟩ := drop_cons e
    obtain ⟨n, en, rfl⟩ := sD_get e1
    have hn : n ∈ b.people := List.mem_of_getElem? en
    have hi : i < b.people.length := (List.getElem?_eq_some_iff.mp en).1
    have tf := take_filter (canCall b s) en
    have ce := canCall_eq (n := n) k
    have no : canCall b s n = false → R [some b.T, some s.T, some (.int s.minute), some (.fd (dk .int s.since)), some (.fl (sD s.slept)), some (.fd (dk .int s.made)), some (.fd (dk .int s.last)), some (.ref f), some (.str n)] (hup h f (.ol (sD ((b.people.take i).filter (canCall b s))))) := fun z => hR _ _ ⟨i + 1, some (.str n), e2, hi, rfl, by rw [tf, if_neg (by rw [z]; exact Bool.false_ne_true)]; simp⟩
    walk_at "go"
    rw [dget_dk]
    cases z : aget s.since n with
    | none =>
      walk_at "go"
      exact no (by rw [ce]; unfold ahead; rw [z]; rfl)
    | some m =>
      refine c_tt ?_
      walk_at "go"
      refine v_ixD (d := .int m) (by rw [dget_dk, z]; rfl) ?_
      walk_at "go"
      have za : ahead s n = decide (m < s.minute) := by unfold ahead; rw [z]
      rw [← za]
      cases z1 : ahead s n with
      | false =>
        walk_at "go"
        exact no (by rw [ce, z1]; rfl)
      | true =>
        walk_at "go"
        rw [dget_dk, got_eq]
        refine s_law_list o hn ?_
        walk_at "go"
        rw [List.length_map]
        cases z2 : decide (got s.made n < ((b.list n).length : Int)) with
        | false =>
          walk_at "go"
          exact no (by rw [ce, z1, z2]; rfl)
        | true =>
          walk_at "go"
          rw [dget_dk]
          refine v_neOI ?_
          walk_at "go"
          cases z3 : decide (aget s.last n = some s.minute) with
          | true =>
            walk_at "go"
            exact no (by rw [ce, z1, z2, z3]; rfl)
          | false =>
            walk_at "go"
            refine v_kind (v_kindL hup_same) ?_
            walk_at "go"
            refine v_append hup_same (by have := may_len (s := s) o i; unfold SZ; rw [List.length_map]; omega) ?_
            walk_at "go"
            exact hR _ _ ⟨i + 1, some (.str n), e2, hi, rfl, by rw [tf, if_pos (by rw [ce, z1, z2, z3]; rfl), hup_hup]; simp [sD]⟩
  · rintro ρ g ⟨i, v8, e, hi, rfl, rfl⟩
    have hl : i = b.people.length := by
      have := congrArg List.length e
      rw [List.length_drop, List.length_map, List.length_nil] at this
      omega
    subst hl
    walk_at "go"
    refine v_tupleR hup_same ?_
    rw [List.take_length]
    exact f_drop1 hf q
end

end K78
end
section
set_option Elab.async false
set_option linter.all false
set_option maxRecDepth 100000
set_option maxHeartbeats 4000000
open PySem PySem.Spec L2 DL
namespace K78
local macro_rules | `(tactic| walk_at "st") => `(tactic| first
  | with_reducible refine c_seq ?_
  | with_reducible refine c_var (by with_unfolding_all exact rfl) ?_
  | with_reducible refine c_d2 ?_
  | with_reducible refine c_cons ?_
  | with_reducible refine c_nil ?_
  | with_reducible refine c_dL ?_
  | with_reducible refine c_call ?_
  | with_reducible refine c_int ?_
  | with_reducible refine c_str ?_
  | with_reducible refine c_bl ?_
  | with_reducible refine c_non ?_
  | with_reducible refine c_c ?_
  | with_reducible refine c_if ?_
  | with_reducible refine c_test ?_
  | with_reducible refine c_exb ?_
  | with_reducible refine c_tt ?_
  | with_reducible refine c_ff ?_
  | with_reducible refine c_nt ?_
  | with_reducible refine c_nf ?_
  | with_reducible refine c_ret ?_
  | with_reducible refine i_tup ?_
  | with_reducible refine i_fl ?_
  | with_reducible refine i_str ?_
  | with_reducible refine i_fd ?_
  | with_reducible refine c_sz (by with_unfolding_all exact rfl) ?_
  | with_reducible refine i_enumT ?_
  | with_reducible refine c_set ?_
  | with_reducible refine c_next ?_
  | with_reducible refine c_expr ?_
  | with_reducible refine c_fld ?_
  | with_reducible refine c_andT ?_
  | with_reducible refine c_orT ?_
  | with_reducible refine c_notT ?_
  | with_reducible refine c_and ?_
  | with_reducible refine c_or ?_
  | with_reducible refine c_not ?_
  | with_reducible refine c_ite ?_
  | with_reducible refine c_tup ?_
  | with_reducible refine c_lst ?_
  | with_reducible refine c_dM ?_
  | with_reducible refine c_met ?_
  | with_reducible refine c_new ?_
  | with_reducible refine c_sl ?_
  | with_reducible refine c_noP ?_
  | with_reducible refine c_part ?_
  | with_reducible refine c_chain ?_
  | with_reducible refine c_d1 ?_
  | with_reducible refine c_asg ?_
  | with_reducible refine c_par ?_
  | with_reducible refine c_par3 ?_
  | with_reducible refine v_par3 ?_
  | with_reducible refine c_raise ?_
  | with_reducible refine c_for ?_
  | with_reducible refine c_sfld ?_
  | with_reducible refine c_retN ?_
  | with_reducible refine c_gNm ?_
  | with_reducible refine c_gN ?_
  | with_reducible refine c_gC ?_
  | with_reducible refine c_gT (by with_unfolding_all exact rfl) ?_
  | with_reducible refine c_gSb ?_
  | with_reducible refine c_iAny ?_
  | with_reducible refine c_range1 ?_
  | with_reducible refine c_comp ?_
  | with_reducible refine c_enum ?_
  | with_reducible refine c_yes ?_
  | with_reducible refine c_st1 ?_
  | with_reducible refine c_tryAs ?_
  | with_reducible refine c_xf ?_
  | with_reducible refine c_hof ?_
  | with_reducible refine c_copyItems ?_
  | with_reducible refine c_lenSet ?_
  | with_reducible refine c_dict0 ?_
  | with_reducible refine v_onTb ?_
  | with_reducible refine v_onI ?_
  | with_reducible refine v_lt ?_
  | with_reducible refine v_gt ?_
  | with_reducible refine v_le ?_
  | with_reducible refine v_ge ?_
  | with_reducible refine v_eqI ?_
  | with_reducible refine v_neI ?_
  | with_reducible refine v_eqS ?_
  | with_reducible refine v_neS ?_
  | with_reducible refine v_add ?_
  | with_reducible refine v_sub ?_
  | with_reducible refine v_neg ?_
  | with_reducible refine v_mod (by decide) ?_
  | with_reducible refine v_int ?_
  | with_reducible refine v_isN ?_
  | with_reducible refine v_notN ?_
  | with_reducible refine v_insF ?_
  | with_reducible refine v_onO (by with_unfolding_all exact rfl) ?_
  | with_reducible refine v_kind (by with_unfolding_all exact rfl) ?_
  | with_reducible refine v_tupleT ?_
  | with_reducible refine v_tupleF ?_
  | with_reducible refine v_lenT ?_
  | with_reducible refine v_lenF ?_
  | with_reducible refine v_slT ?_
  | with_reducible refine v_ix (by with_unfolding_all exact rfl) ?_
  | with_reducible refine v_get1 ?_
  | with_reducible refine v_get2 ?_
  | with_reducible refine v_inD ?_
  | with_reducible refine v_notInD ?_
  | with_reducible refine v_max ?_
  | with_reducible refine v_min ?_
  | with_reducible refine v_isi (k := true) (by with_unfolding_all exact rfl) (by decide) ?_
  | with_reducible refine v_isi (k := false) (by with_unfolding_all exact rfl) (by decide) ?_
  | with_reducible refine ⟨rfl, ?_⟩)
local macro_rules | `(tactic| walk_at "go") => `(tactic| repeat (walk_at "st"))
def over (b : Bk) (s : Sg) : Bool := s.since.all fun p => (left b s p.1).isEmpty
def leftB (b : Bk) (s : Sg) : D → Option D
  | .str x => some (.bl (left b s x).isEmpty)
  | _ => none
theorem leftB_all (b : Bk) (s : Sg) : ∀ l : List Str, (sD l).filterMap (leftB b s) = (l.map fun x => (left b s x).isEmpty).map .bl
  | [] => rfl
  | x :: l => by
    have e : leftB b s (.str x) = some (.bl (left b s x).isEmpty) := rfl
    rw [sD, List.map_cons, List.filterMap_cons_some e, List.map_cons, List.map_cons]
    exact congrArg (D.bl (left b s x).isEmpty :: ·) (leftB_all b s l)
def moreB (b : Bk) (s : Sg) : D → Option D
  | .str x => if (left b s x).isEmpty = true then none else some (.str x)
  | _ => none
theorem moreB_all (b : Bk) (s : Sg) : ∀ l : List Str, (sD l).filterMap (moreB b s) = sD (l.filter fun x => !(left b s x).isEmpty)
  | [] => rfl
  | x :: l => by
    by_cases h : (left b s x).isEmpty = true
    · have e : moreB b s (.str x) = none := by simp [moreB, h]
      rw [sD, List.map_cons, List.filterMap_cons_none e, List.filter_cons_of_neg (by simp [h])]
      exact moreB_all b s l
    · have e : moreB b s (.str x) = some (.str x) := by simp [moreB, h]
      rw [sD, List.map_cons, List.filterMap_cons_some e, List.filter_cons_of_pos (by simp [h])]
      exact congrArg (D.str x :: ·) (moreB_all b s l)
theorem over_eq (b : Bk) (s : Sg) : over b s = ((s.since.map (·.1)).filter fun x => !(left b s x).isEmpty).isEmpty := by
  unfold over
  rw [Bool.eq_iff_iff, List.isEmpty_iff, List.filter_eq_nil_iff, List.all_eq_true]
  simp
theorem v_eqLL {l : List Str} {p r : Addr} {h : Hd} {Q : DK} (ok : ∀ x ∈ l, OkS x) (e : h p = some (.ol (sD l))) (e2 : h r = some (.ol [])) (q : Q (.bl l.isEmpty) h) : wEq (.ref p) (.ref r) h Q := by
  have e1 : PyData.canLay0 (.list (l.map .str)) = true := canAll_s l ok
  have e3 : PyData.depth (.list (l.map .str)) = 1 := by show PyData.depthAll _ + 1 = 1; rw [depthAll_s]
  refine (onP_of (p := .list (l.map .str)) (q := .list []) ?_ ?_ ?_ rfl ?_ : onP h (.ref p) (.ref r) fun p q => Q (.bl (PyData.eqv p q)) h)
  · show pdG h 3 p = _
    simp only [pdG, e, pdFs_s]
    rfl
  · show pdG h 3 r = _
    simp only [pdG, e2]
    rfl
  · unfold SeqAt.shaped; rw [e1, e3]; rfl
  · have e : PyData.eqv (.list (l.map .str)) (.list []) = l.isEmpty := by
      unfold PyData.eqv; cases l <;> rfl
    rw [e]; exact q
section
variable {b : Bk} {s : Sg} {t : Nat} {n : Str} {h : Hd} {Q : DK} {E : DX}
theorem s_is_over_by (o : b.Ok) (k : SOk b s t) (ht : t < 1000) (q : Q (.bl (over b s)) h) : W_is_over_by [b.D, s.D] h Q E := by
  refine e_fn [some b.D, some s.D, none] rfl ?_
  unfold w_is_over_by
  walk_at "go"
  rw [dk_keys]
  intro p hp
  have hl := k.l1
  refine lc_pure (leftB b s) (fun _ => trivial) (by rw [List.length_map, List.length_map]; omega) (fun d hd h R acc e hs q => ?_) ?_
  · obtain ⟨x, hm, rfl⟩ := List.mem_map.mp hd
    obtain ⟨y, hy, rfl⟩ := List.mem_map.mp hm
    have hn := k.keys y hy
    walk_at "go"
    refine s_left_of o k hn ?_
    walk_at "go"
    refine v_eqNil (left_ok o hn) ?_
    exact v_onOl e ⟨hs, q⟩
  · walk_at "go"
    rw [leftB_all]
    refine v_allR hup_same ?_
    have e : ((s.since.map (·.1)).map fun x => (left b s x).isEmpty).all id = over b s := by
      unfold over; rw [List.all_map, List.all_map]; rfl
    rw [e]
    exact f_drop1 hp q
end
inductive Deed where
  | mi
  | ca (n : Str) (a : Bool)
abbrev Deed.D : Deed → DL.D
  | .mi => .tup [.str "minute"]
  | .ca n a => .tup [.str "call", .str n, .bl a]
def Deed.Ok (b : Bk) : Deed → Prop
  | .mi => True
  | .ca n _ => n ∈ b.people
def reasonL (s : Sg) (n : Str) (a : Bool) : List Str → Option Str
  | [] => some "done"
  | c :: _ => if decide (aget s.last n = some s.minute) = true then some "called" else if (aget s.since c).isSome = true ∧ a = false then some "awake" else if c ∈ s.slept ∧ a = true then some "slept" else none
def reasonC (b : Bk) (s : Sg) (n : Str) (a : Bool) : Option Str := if ahead s n = true then reasonL s n a (left b s n) else some "asleep"
def reason (b : Bk) (s : Sg) : Deed → Option Str
  | .mi => if (mayCall b s).isEmpty = true then none else some "due"
  | .ca n a => reasonC b s n a
def rD (r : Option Str) : D := (r.map .str).getD .non
section
variable {b : Bk} {s : Sg} {t : Nat} {n : Str} {h : Hd} {Q : DK} {E : DX}
theorem may_ok (o : b.Ok) : ∀ x ∈ mayCall b s, OkS x := fun x hx => six_ok x (o.ppl.mem (List.mem_filter.mp hx).1)
theorem isEm_false {α : Type} {l : List α} (z : l.isEmpty = false) : ∃ c r, l = c :: r := by
  cases l with
  | nil => cases z
  | cons c r => exact ⟨c, r, rfl⟩
theorem s_reason_call {a : Bool} (o : b.Ok) (k : SOk b s t) (hn : n ∈ b.people) (q : Q (rD (reasonC b s n a)) h) : W_reason_against_call [b.D, s.D, .str n, .bl a] h Q E := by
  refine e_fn [some b.D, some s.D, some (.str n), some (.bl a), none] rfl ?_
  unfold w_reason_against_call
  walk_at "go"
  refine s_knows_ahead ?_
  walk_at "go"
  unfold reasonC at q
  cases z1 : ahead s n with
  | false =>
    rw [z1] at q
    walk_at "go"
    exact f_q q
  | true =>
    rw [z1, if_pos rfl] at q
    walk_at "go"
    refine s_left_of o k hn ?_
    walk_at "go"
    refine v_eqNil (left_ok o hn) ?_
    walk_at "go"
    cases z2 : left b s n with
    | nil =>
      rw [z2] at q
      refine c_tt ?_
      walk_at "go"
      exact f_q q
    | cons c r =>
      rw [z2] at q
      unfold reasonL at q
      refine c_ff ?_
      walk_at "go"
      rw [dget_dk]
      refine v_eqOI ?_
      walk_at "go"
      cases z3 : decide (aget s.last n = some s.minute) with
      | true =>
        rw [z3] at q
        walk_at "go"
        exact f_q q
      | false =>
        rw [z3] at q
        simp only [Bool.false_eq_true, if_false] at q
        walk_at "go"
        refine v_ix (d := .str c) (atI_nat (by decide) rfl) ?_
        walk_at "go"
        rw [dget_dk, Option.isSome_map]
        cases z4 : (aget s.since c).isSome with
        | false =>
          simp only [z4, Bool.false_eq_true, false_and, if_false] at q
          walk_at "go"
          refine v_ix (d := .str c) (atI_nat (by decide) rfl) ?_
          walk_at "go"
          rw [dget_dS]
          by_cases z5 : c ∈ s.slept
          · rw [if_pos z5]
            refine c_tt ?_
            cases a with
            | true => rw [if_pos ⟨z5, rfl⟩] at q; walk_at "go"; exact f_q q
            | false => rw [if_neg (fun z => by cases z.2)] at q; walk_at "go"; exact f_q q
          · rw [if_neg z5]
            rw [if_neg (fun z => z5 z.1)] at q
            refine c_ff ?_
            walk_at "go"
            exact f_q q
        | true =>
          simp only [z4, true_and] at q
          cases a with
          | false => rw [if_pos rfl] at q; walk_at "go"; exact f_q q
          | true =>
            rw [if_neg (by decide)] at q
            walk_at "go"
            refine v_ix (d := .str c) (atI_nat (by decide) rfl) ?_
            walk_at "go"
            rw [dget_dS]
            by_cases z5 : c ∈ s.slept
            · rw [if_pos z5]
              rw [if_pos ⟨z5, rfl⟩] at q
              refine c_tt ?_
              walk_at "go"; exact f_q q
            · rw [if_neg z5]
              rw [if_neg (fun z => z5 z.1)] at q
              refine c_ff ?_
              walk_at "go"
              exact f_q q
theorem s_reason_against {d : Deed} (o : b.Ok) (k : SOk b s t) (hd : d.Ok b) (q : Q (rD (reason b s d)) h) : W_reason_against [b.D, s.D, d.D] h Q E := by
  refine e_fn [some b.D, some s.D, some d.D] rfl ?_
  unfold w_reason_against
  cases d with
  | mi =>
    walk_at "go"
    refine c_f (by decide) ?_
    walk_at "go"
    refine s_could_call o k ?_
    walk_at "go"
    refine v_neNil (may_ok o) ?_
    have q : Q (rD (if (mayCall b s).isEmpty = true then none else some "due")) h := q
    cases z : (mayCall b s).isEmpty with
    | true => rw [z, if_pos rfl] at q; walk_at "go"; exact f_q q
    | false => rw [z, if_neg Bool.false_ne_true] at q; walk_at "go"; exact f_q q
  | ca n a =>
    walk_at "go"
    refine c_t (by decide) ?_
    walk_at "go"
    exact s_reason_call o k hd (f_q q)
theorem s_check_barred {d : Deed} (o : b.Ok) (k : SOk b s t) (hd : d.Ok b) (q : reason b s d = none → Q .non h) (qx : ∀ r, reason b s d = some r → E ⟨"Barred", [("reason", .str r)]⟩ h) : W_check_barred [b.D, s.D, d.D] h Q E := by
  refine e_fn [some b.D, some s.D, some d.D, none] rfl ?_
  unfold w_check_barred
  walk_at "go"
  refine s_reason_against o k hd ?_
  cases z : reason b s d with
  | none =>
    walk_at "go"
    refine c_f rfl ?_
    walk_at "go"
    exact f_q (q z)
  | some r =>
    walk_at "go"
    refine c_t rfl ?_
    walk_at "go"
    exact f_qx (qx r z)
end

end K78
end
section
set_option Elab.async false
set_option linter.all false
set_option maxRecDepth 100000
set_option maxHeartbeats 4000000
open PySem PySem.Spec L2 DL
namespace K78
local macro_rules | `(tactic| walk_at "st") => `(tactic| first
  | with_reducible refine c_seq ?_
  | with_reducible refine c_var (by with_unfolding_all exact rfl) ?_
  | with_reducible refine c_d2 ?_
  | with_reducible refine c_cons ?_
  | with_reducible refine c_nil ?_
  | with_reducible refine c_dL ?_
  | with_reducible refine c_call ?_
  | with_reducible refine c_int ?_
  | with_reducible refine c_str ?_
  | with_reducible refine c_bl ?_
  | with_reducible refine c_non ?_
  | with_reducible refine c_c ?_
  | with_reducible refine c_if ?_
  | with_reducible refine c_test ?_
  | with_reducible refine c_exb ?_
  | with_reducible refine c_tt ?_
  | with_reducible refine c_ff ?_
  | with_reducible refine c_nt ?_
  | with_reducible refine c_nf ?_
  | with_reducible refine c_ret ?_
  | with_reducible refine i_tup ?_
  | with_reducible refine i_fl ?_
  | with_reducible refine i_str ?_
  | with_reducible refine i_fd ?_
  | with_reducible refine c_sz (by with_unfolding_all exact rfl) ?_
  | with_reducible refine i_enumT ?_
  | with_reducible refine c_set ?_
  | with_reducible refine c_next ?_
  | with_reducible refine c_expr ?_
  | with_reducible refine c_fld ?_
  | with_reducible refine c_andT ?_
  | with_reducible refine c_orT ?_
  | with_reducible refine c_notT ?_
  | with_reducible refine c_and ?_
  | with_reducible refine c_or ?_
  | with_reducible refine c_not ?_
  | with_reducible refine c_ite ?_
  | with_reducible refine c_tup ?_
  | with_reducible refine c_lst ?_
  | with_reducible refine c_dM ?_
  | with_reducible refine c_met ?_
  | with_reducible refine c_new ?_
  | with_reducible refine c_sl ?_
  | with_reducible refine c_noP ?_
  | with_reducible refine c_part ?_
  | with_reducible refine c_chain ?_
  | with_reducible refine c_d1 ?_
  | with_reducible refine c_asg ?_
  | with_reducible refine c_par ?_
  | with_reducible refine c_par3 ?_
  | with_reducible refine v_par3 ?_
  | with_reducible refine c_raise ?_
  | with_reducible refine c_for ?_
  | with_reducible refine c_sfld ?_
  | with_reducible refine c_retN ?_
  | with_reducible refine c_gNm ?_
  | with_reducible refine c_gN ?_
  | with_reducible refine c_gC ?_
  | with_reducible refine c_gT (by with_unfolding_all exact rfl) ?_
  | with_reducible refine c_gSb ?_
  | with_reducible refine c_iAny ?_
  | with_reducible refine c_range1 ?_
  | with_reducible refine c_comp ?_
  | with_reducible refine c_enum ?_
  | with_reducible refine c_yes ?_
  | with_reducible refine c_st1 ?_
  | with_reducible refine c_tryAs ?_
  | with_reducible refine c_xf ?_
  | with_reducible refine c_hof ?_
  | with_reducible refine c_copyItems ?_
  | with_reducible refine c_lenSet ?_
  | with_reducible refine c_dict0 ?_
  | with_reducible refine v_onTb ?_
  | with_reducible refine v_onI ?_
  | with_reducible refine v_lt ?_
  | with_reducible refine v_gt ?_
  | with_reducible refine v_le ?_
  | with_reducible refine v_ge ?_
  | with_reducible refine v_eqI ?_
  | with_reducible refine v_neI ?_
  | with_reducible refine v_eqS ?_
  | with_reducible refine v_neS ?_
  | with_reducible refine v_add ?_
  | with_reducible refine v_sub ?_
  | with_reducible refine v_neg ?_
  | with_reducible refine v_mod (by decide) ?_
  | with_reducible refine v_int ?_
  | with_reducible refine v_isN ?_
  | with_reducible refine v_notN ?_
  | with_reducible refine v_insF ?_
  | with_reducible refine v_onO (by with_unfolding_all exact rfl) ?_
  | with_reducible refine v_kind (by with_unfolding_all exact rfl) ?_
  | with_reducible refine v_tupleT ?_
  | with_reducible refine v_tupleF ?_
  | with_reducible refine v_lenT ?_
  | with_reducible refine v_lenF ?_
  | with_reducible refine v_slT ?_
  | with_reducible refine v_ix (by with_unfolding_all exact rfl) ?_
  | with_reducible refine v_get1 ?_
  | with_reducible refine v_get2 ?_
  | with_reducible refine v_inD ?_
  | with_reducible refine v_notInD ?_
  | with_reducible refine v_max ?_
  | with_reducible refine v_min ?_
  | with_reducible refine v_isi (k := true) (by with_unfolding_all exact rfl) (by decide) ?_
  | with_reducible refine v_isi (k := false) (by with_unfolding_all exact rfl) (by decide) ?_
  | with_reducible refine ⟨rfl, ?_⟩)
local macro_rules | `(tactic| walk_at "go") => `(tactic| repeat (walk_at "st"))
section
variable {b : Bk} {s : Sg} {t : Nat} {n : Str} {h : Hd} {Q : DK} {E : DX}
theorem s_is_person (q : Q (.bl (decide (n ∈ b.people))) h) : W_is_person [b.D, .str n] h Q E := by
  refine e_fn [some b.D, some (.str n)] rfl ?_
  unfold w_is_person
  walk_at "go"
  exact s_is_one_of (f_q q)
theorem s_has_form {d : Deed} (q : Q (.bl true) h) : W_has_form [d.D] h Q E := by
  refine e_fn [some d.D] rfl ?_
  unfold w_has_form
  cases d with
  | mi =>
    walk_at "go"
    refine c_f (by decide) ?_
    walk_at "go"
    refine s_is_string ?_
    walk_at "go"
    refine v_inG ?_
    rw [show (List.lookup ("minute" : Str) [(("call" : Str), D.int 3), ("minute", D.int 1)]).isSome = true from by decide]
    walk_at "go"
    refine v_ixG (d := .int 1) (by rfl) ?_
    walk_at "go"
    exact f_q q
  | ca n a =>
    walk_at "go"
    refine c_f rfl ?_
    walk_at "go"
    refine s_is_string ?_
    walk_at "go"
    refine v_inG ?_
    rw [show (List.lookup ("call" : Str) [(("call" : Str), D.int 3), ("minute", D.int 1)]).isSome = true from by decide]
    walk_at "go"
    refine v_ixG (d := .int 3) (by rfl) ?_
    walk_at "go"
    exact f_q q
theorem s_check_deed {d : Deed} (hd : d.Ok b) (q : Q .non h) : W_check_deed [b.D, d.D] h Q E := by
  refine e_fn [some b.D, some d.D] rfl ?_
  unfold w_check_deed
  walk_at "go"
  refine s_has_form ?_
  walk_at "go"
  cases d with
  | mi =>
    walk_at "go"
    refine c_f (by decide) ?_
    walk_at "go"
    refine c_f (by decide) ?_
    walk_at "go"
    exact f_q q
  | ca n a =>
    walk_at "go"
    refine c_t (by decide) ?_
    walk_at "go"
    refine s_is_person ?_
    have hd : n ∈ b.people := hd
    rw [decide_eq_true hd]
    walk_at "go"
    refine c_t (by decide) ?_
    walk_at "go"
    refine s_is_truth ?_
    walk_at "go"
    exact f_q q

end

end K78
end
section
set_option Elab.async false
set_option linter.all false
set_option maxRecDepth 100000
set_option maxHeartbeats 4000000
open PySem PySem.Spec L2 DL
namespace K78
local macro_rules | `(tactic| walk_at "st") => `(tactic| first
  | with_reducible refine c_seq ?_
  | with_reducible refine c_var (by with_unfolding_all exact rfl) ?_
  | with_reducible refine c_d2 ?_
  | with_reducible refine c_cons ?_
  | with_reducible refine c_nil ?_
  | with_reducible refine c_dL ?_
  | with_reducible refine c_call ?_
  | with_reducible refine c_int ?_
  | with_reducible refine c_str ?_
  | with_reducible refine c_bl ?_
  | with_reducible refine c_non ?_
  | with_reducible refine c_c ?_
  | with_reducible refine c_if ?_
  | with_reducible refine c_test ?_
  | with_reducible refine c_exb ?_
  | with_reducible refine c_tt ?_
  | with_reducible refine c_ff ?_
  | with_reducible refine c_nt ?_
  | with_reducible refine c_nf ?_
  | with_reducible refine c_ret ?_
  | with_reducible refine i_tup ?_
  | with_reducible refine i_fl ?_
  | with_reducible refine i_str ?_
  | with_reducible refine i_fd ?_
  | with_reducible refine c_sz (by with_unfolding_all exact rfl) ?_
  | with_reducible refine i_enumT ?_
  | with_reducible refine c_set ?_
  | with_reducible refine c_next ?_
  | with_reducible refine c_expr ?_
  | with_reducible refine c_fld ?_
  | with_reducible refine c_andT ?_
  | with_reducible refine c_orT ?_
  | with_reducible refine c_notT ?_
  | with_reducible refine c_and ?_
  | with_reducible refine c_or ?_
  | with_reducible refine c_not ?_
  | with_reducible refine c_ite ?_
  | with_reducible refine c_tup ?_
  | with_reducible refine c_lst ?_
  | with_reducible refine c_dM ?_
  | with_reducible refine c_met ?_
  | with_reducible refine c_new ?_
  | with_reducible refine c_sl ?_
  | with_reducible refine c_noP ?_
  | with_reducible refine c_part ?_
  | with_reducible refine c_chain ?_
  | with_reducible refine c_d1 ?_
  | with_reducible refine c_asg ?_
  | with_reducible refine c_par ?_
  | with_reducible refine c_par3 ?_
  | with_reducible refine v_par3 ?_
  | with_reducible refine c_raise ?_
  | with_reducible refine c_for ?_
  | with_reducible refine c_sfld ?_
  | with_reducible refine c_retN ?_
  | with_reducible refine c_gNm ?_
  | with_reducible refine c_gN ?_
  | with_reducible refine c_gC ?_
  | with_reducible refine c_gT (by with_unfolding_all exact rfl) ?_
  | with_reducible refine c_gSb ?_
  | with_reducible refine c_iAny ?_
  | with_reducible refine c_range1 ?_
  | with_reducible refine c_comp ?_
  | with_reducible refine c_enum ?_
  | with_reducible refine c_yes ?_
  | with_reducible refine c_st1 ?_
  | with_reducible refine c_tryAs ?_
  | with_reducible refine c_xf ?_
  | with_reducible refine c_hof ?_
  | with_reducible refine c_copyItems ?_
  | with_reducible refine c_lenSet ?_
  | with_reducible refine c_dict0 ?_
  | with_reducible refine v_onTb ?_
  | with_reducible refine v_onI ?_
  | with_reducible refine v_lt ?_
  | with_reducible refine v_gt ?_
  | with_reducible refine v_le ?_
  | with_reducible refine v_ge ?_
  | with_reducible refine v_eqI ?_
  | with_reducible refine v_neI ?_
  | with_reducible refine v_eqS ?_
  | with_reducible refine v_neS ?_
  | with_reducible refine v_add ?_
  | with_reducible refine v_sub ?_
  | with_reducible refine v_neg ?_
  | with_reducible refine v_mod (by decide) ?_
  | with_reducible refine v_int ?_
  | with_reducible refine v_isN ?_
  | with_reducible refine v_notN ?_
  | with_reducible refine v_insF ?_
  | with_reducible refine v_onO (by with_unfolding_all exact rfl) ?_
  | with_reducible refine v_kind (by with_unfolding_all exact rfl) ?_
  | with_reducible refine v_tupleT ?_
  | with_reducible refine v_tupleF ?_
  | with_reducible refine v_lenT ?_
  | with_reducible refine v_lenF ?_
  | with_reducible refine v_slT ?_
  | with_reducible refine v_ix (by with_unfolding_all exact rfl) ?_
  | with_reducible refine v_get1 ?_
  | with_reducible refine v_get2 ?_
  | with_reducible refine v_inD ?_
  | with_reducible refine v_notInD ?_
  | with_reducible refine v_max ?_
  | with_reducible refine v_min ?_
  | with_reducible refine v_isi (k := true) (by with_unfolding_all exact rfl) (by decide) ?_
  | with_reducible refine v_isi (k := false) (by with_unfolding_all exact rfl) (by decide) ?_
  | with_reducible refine ⟨rfl, ?_⟩)
local macro_rules | `(tactic| walk_at "go") => `(tactic| repeat (walk_at "st"))
def begun (b : Bk) : Sg := ⟨0, [(b.first, 0)], [], [], []⟩
def headS (l : List Str) : Str := match l with
  | [] => ""
  | c :: _ => c
def behindC (b : Bk) (s : Sg) (n : Str) (a : Bool) : Sg :=
  { minute := s.minute
    since := if a = true ∧ (aget s.since (headS (left b s n))).isSome = false then aput s.since (headS (left b s n)) s.minute else s.since
    made := aput s.made n (got s.made n + 1)
    last := aput s.last n s.minute
    slept := if a = true ∨ headS (left b s n) ∈ s.slept then s.slept else s.slept ++ [headS (left b s n)] }
def behind (b : Bk) (s : Sg) : Deed → Sg
  | .mi => { s with minute := s.minute + 1 }
  | .ca n a => behindC b s n a
theorem dput_dS (l : List Str) (c : Str) : dput (dS l) (.str c) (.bl true) (.inr c) = dS (if c ∈ l then l else l ++ [c]) := by
  unfold dput
  have e : ((dS l).any fun e => decide (keyD e.1 = some (.inr c))) = decide (c ∈ l) := by
    rw [Bool.eq_iff_iff, List.any_eq_true, decide_eq_true_eq]
    constructor
    · rintro ⟨x, hx, hk⟩
      obtain ⟨y, hy, rfl⟩ := List.mem_map.mp hx
      have hk : keyD (.str y) = some (.inr c) := by simpa using hk
      cases hk; exact hy
    · intro hc; exact ⟨_, List.mem_map.mpr ⟨c, hc, rfl⟩, by simp [keyD]⟩
  rw [e]
  by_cases h : c ∈ l
  · rw [if_pos (decide_eq_true h), if_pos h]
    unfold dS
    rw [List.map_map]
    refine List.map_congr_left fun y _ => ?_
    simp only [Function.comp]
    split <;> rfl
  · rw [if_neg (by rw [decide_eq_false h]; exact Bool.false_ne_true), if_neg h]
    unfold dS
    rw [List.map_append]; rfl
theorem res_odS {h : Hd} {S : Addr → Bool} {n : Nat} {p : Addr} {l : List Str} (s : S p = true) (e : h p = some (.od (dS l))) : res h S (n + 1) (.ref p) = .fd (dS l) := by
  rw [res_od s e]
  congr 1
  unfold dS
  rw [List.map_map]
  refine List.map_congr_left fun x _ => ?_
  simp only [Function.comp, res_bl]
section
variable {b : Bk} {s : Sg} {t : Nat} {n : Str} {h : Hd} {Q : DK} {E : DX}
theorem s_Standing_init {p : Addr} {m a c d e : D} (hp : h p = some (.oi "Standing" [])) (q : Q .non (hup h p (.oi "Standing" [("minute", m), ("since", a), ("made", c), ("last", d), ("slept", e)]))) : W_Standing_init [.ref p, m, a, c, d, e] h Q E := by
  refine e_fn [some (.ref p), some m, some a, some c, some d, some e] rfl ?_
  unfold w_Standing_init
  walk_at "go"
  refine c_ex_fld hp (by with_unfolding_all exact rfl) ?_
  walk_at "go"
  refine c_ex_fld hup_same (by with_unfolding_all exact rfl) ?_
  walk_at "go"
  refine c_ex_fld hup_same (by with_unfolding_all exact rfl) ?_
  walk_at "go"
  refine c_ex_fld hup_same (by with_unfolding_all exact rfl) ?_
  walk_at "go"
  refine c_ex_fld hup_same (by with_unfolding_all exact rfl) ?_
  rw [hup_hup, hup_hup, hup_hup, hup_hup]
  exact f_q q
theorem c_dict1 {wk wv : DE} {ρ : DL.Env} {h : Hd} {Q : DK} {z : Str} {vd : D} (e2 : ∀ (h : Hd) (Q : DK), Q (.str z) h → wk ρ h Q) (e3 : ∀ (h : Hd) (Q : DK), Q vd h → wv ρ h Q) (q : ∀ p, h p = none → Q (.ref p) (hup h p (.od [(.str z, vd)]))) : dDict1 wk wv ρ h Q := by
  intro p hp
  refine e2 _ _ (e3 _ _ ⟨hup_same, v_onO (z := .inr z) rfl ?_⟩)
  rw [hup_hup]
  exact q p hp
theorem s_begun (q : Q (begun b).D h) : W_begun [b.D] h Q E := by
  refine e_fn [some b.D] rfl ?_
  unfold w_begun
  walk_at "go"
  refine c_dict1 (z := b.first) (vd := .int 0) (fun h Q q => by walk_at "go"; exact q) (fun h Q q => by walk_at "go"; exact q) fun p1 h1 => ?_
  walk_at "go"
  intro p2 h2
  walk_at "go"
  intro p3 h3
  walk_at "go"
  intro p4 h4
  walk_at "go"
  intro p5 h5
  obtain ⟨n21, h2⟩ := hup_none h2
  obtain ⟨n32, h3⟩ := hup_none h3
  obtain ⟨n31, h3⟩ := hup_none h3
  obtain ⟨n43, h4⟩ := hup_none h4
  obtain ⟨n42, h4⟩ := hup_none h4
  obtain ⟨n41, h4⟩ := hup_none h4
  obtain ⟨n54, h5⟩ := hup_none h5
  obtain ⟨n53, h5⟩ := hup_none h5
  obtain ⟨n52, h5⟩ := hup_none h5
  obtain ⟨n51, h5⟩ := hup_none h5
  refine s_Standing_init hup_same ⟨rfl, ?_⟩
  rw [hup_hup]
  refine f_frz (h0 := h) 3 (sub_up h5 (sub_up h4 (sub_up h3 (sub_up h2 (sub_up h1 fun _ _ e => e))))) ?_
  rw [res_oi (by rw [h5]; rfl) hup_same]
  simp only [List.map_cons, List.map_nil, res_int]
  rw [res_odI (l := [(b.first, 0)]) (by rw [h1]; rfl) (by rw [hup_ne n51.symm, hup_ne n41.symm, hup_ne n31.symm, hup_ne n21.symm, hup_same]; rfl)]
  rw [res_odI (l := []) (by rw [h2]; rfl) (by rw [hup_ne n52.symm, hup_ne n42.symm, hup_ne n32.symm, hup_same]; rfl)]
  rw [res_odI (l := []) (by rw [h3]; rfl) (by rw [hup_ne n53.symm, hup_ne n43.symm, hup_same]; rfl)]
  rw [res_odS (l := []) (by rw [h4]; rfl) (by rw [hup_ne n54.symm, hup_same]; rfl)]
  exact f_q q
theorem s_law_begun (q : Q (begun b).T h) : W__law_begun [b.T] h Q E := by
  refine e_fn [some b.T] rfl ?_
  unfold w__law_begun
  walk_at "go"
  refine c_dict1 (z := b.first) (vd := .int 0) (fun h Q q => by walk_at "go"; exact q) (fun h Q q => by walk_at "go"; exact q) fun p1 h1 => ?_
  walk_at "go"
  intro p2 h2
  walk_at "go"
  intro p3 h3
  walk_at "go"
  intro p4 h4
  walk_at "go"
  obtain ⟨n21, h2⟩ := hup_none h2
  obtain ⟨n32, h3⟩ := hup_none h3
  obtain ⟨n31, h3⟩ := hup_none h3
  obtain ⟨n43, h4⟩ := hup_none h4
  obtain ⟨n42, h4⟩ := hup_none h4
  obtain ⟨n41, h4⟩ := hup_none h4
  refine f_frz (h0 := h) 3 (sub_up h4 (sub_up h3 (sub_up h2 (sub_up h1 fun _ _ e => e)))) ?_
  rw [res_tup]
  simp only [List.map_cons, List.map_nil, res_int]
  rw [res_odI (l := [(b.first, 0)]) (by rw [h1]; rfl) (by rw [hup_ne n41.symm, hup_ne n31.symm, hup_ne n21.symm, hup_same]; rfl)]
  rw [res_olS (l := []) (by rw [h2]; rfl) (by rw [hup_ne n42.symm, hup_ne n32.symm, hup_same]; rfl)]
  rw [res_odI (l := []) (by rw [h3]; rfl) (by rw [hup_ne n43.symm, hup_same]; rfl)]
  rw [res_odI (l := []) (by rw [h4]; rfl) (by rw [hup_same]; rfl)]
  exact q
end

end K78
end
section
set_option Elab.async false
set_option linter.all false
set_option maxRecDepth 100000
set_option maxHeartbeats 4000000
open PySem PySem.Spec L2 DL
namespace K78
local macro_rules | `(tactic| walk_at "st") => `(tactic| first
  | with_reducible refine c_seq ?_
  | with_reducible refine c_var (by with_unfolding_all exact rfl) ?_
  | with_reducible refine c_d2 ?_
  | with_reducible refine c_cons ?_
  | with_reducible refine c_nil ?_
  | with_reducible refine c_dL ?_
  | with_reducible refine c_call ?_
  | with_reducible refine c_int ?_
  | with_reducible refine c_str ?_
  | with_reducible refine c_bl ?_
  | with_reducible refine c_non ?_
  | with_reducible refine c_c ?_
  | with_reducible refine c_if ?_
  | with_reducible refine c_test ?_
  | with_reducible refine c_exb ?_
  | with_reducible refine c_tt ?_
  | with_reducible refine c_ff ?_
  | with_reducible refine c_nt ?_
  | with_reducible refine c_nf ?_
  | with_reducible refine c_ret ?_
  | with_reducible refine i_tup ?_
  | with_reducible refine i_fl ?_
  | with_reducible refine i_str ?_
  | with_reducible refine i_fd ?_
  | with_reducible refine c_sz (by with_unfolding_all exact rfl) ?_
  | with_reducible refine i_enumT ?_
  | with_reducible refine c_set ?_
  | with_reducible refine c_next ?_
  | with_reducible refine c_expr ?_
  | with_reducible refine c_fld ?_
  | with_reducible refine c_andT ?_
  | with_reducible refine c_orT ?_
  | with_reducible refine c_notT ?_
  | with_reducible refine c_and ?_
  | with_reducible refine c_or ?_
  | with_reducible refine c_not ?_
  | with_reducible refine c_ite ?_
  | with_reducible refine c_tup ?_
  | with_reducible refine c_lst ?_
  | with_reducible refine c_dM ?_
  | with_reducible refine c_met ?_
  | with_reducible refine c_new ?_
  | with_reducible refine c_sl ?_
  | with_reducible refine c_noP ?_
  | with_reducible refine c_part ?_
  | with_reducible refine c_chain ?_
  | with_reducible refine c_d1 ?_
  | with_reducible refine c_asg ?_
  | with_reducible refine c_par ?_
  | with_reducible refine c_par3 ?_
  | with_reducible refine v_par3 ?_
  | with_reducible refine c_raise ?_
  | with_reducible refine c_for ?_
  | with_reducible refine c_sfld ?_
  | with_reducible refine c_retN ?_
  | with_reducible refine c_gNm ?_
  | with_reducible refine c_gN ?_
  | with_reducible refine c_gC ?_
  | with_reducible refine c_gT (by with_unfolding_all exact rfl) ?_
  | with_reducible refine c_gSb ?_
  | with_reducible refine c_iAny ?_
  | with_reducible refine c_range1 ?_
  | with_reducible refine c_comp ?_
  | with_reducible refine c_enum ?_
  | with_reducible refine c_yes ?_
  | with_reducible refine c_st1 ?_
  | with_reducible refine c_tryAs ?_
  | with_reducible refine c_xf ?_
  | with_reducible refine c_hof ?_
  | with_reducible refine c_copyItems ?_
  | with_reducible refine c_lenSet ?_
  | with_reducible refine c_dict0 ?_
  | with_reducible refine v_onTb ?_
  | with_reducible refine v_onI ?_
  | with_reducible refine v_lt ?_
  | with_reducible refine v_gt ?_
  | with_reducible refine v_le ?_
  | with_reducible refine v_ge ?_
  | with_reducible refine v_eqI ?_
  | with_reducible refine v_neI ?_
  | with_reducible refine v_eqS ?_
  | with_reducible refine v_neS ?_
  | with_reducible refine v_add ?_
  | with_reducible refine v_sub ?_
  | with_reducible refine v_neg ?_
  | with_reducible refine v_mod (by decide) ?_
  | with_reducible refine v_int ?_
  | with_reducible refine v_isN ?_
  | with_reducible refine v_notN ?_
  | with_reducible refine v_insF ?_
  | with_reducible refine v_onO (by with_unfolding_all exact rfl) ?_
  | with_reducible refine v_kind (by with_unfolding_all exact rfl) ?_
  | with_reducible refine v_tupleT ?_
  | with_reducible refine v_tupleF ?_
  | with_reducible refine v_lenT ?_
  | with_reducible refine v_lenF ?_
  | with_reducible refine v_slT ?_
  | with_reducible refine v_ix (by with_unfolding_all exact rfl) ?_
  | with_reducible refine v_get1 ?_
  | with_reducible refine v_get2 ?_
  | with_reducible refine v_inD ?_
  | with_reducible refine v_notInD ?_
  | with_reducible refine v_max ?_
  | with_reducible refine v_min ?_
  | with_reducible refine v_isi (k := true) (by with_unfolding_all exact rfl) (by decide) ?_
  | with_reducible refine v_isi (k := false) (by with_unfolding_all exact rfl) (by decide) ?_
  | with_reducible refine ⟨rfl, ?_⟩)
local macro_rules | `(tactic| walk_at "go") => `(tactic| repeat (walk_at "st"))
section
variable {b : Bk} {s : Sg} {t : Nat} {n : Str} {h : Hd} {Q : DK} {E : DX}
theorem reason_head {a : Bool} (z : reasonC b s n a = none) : ∃ c r, left b s n = c :: r ∧ ahead s n = true := by
  unfold reasonC at z
  split at z
  · rename_i za
    cases e : left b s n with
    | nil => rw [e] at z; cases z
    | cons c r => exact ⟨c, r, rfl, za⟩
  · cases z
theorem s_standing_behind {d : Deed} (o : b.Ok) (k : SOk b s t) (ht : t < 1000) (hd : d.Ok b) (hz : reason b s d = none) (q : Q (behind b s d).D h) : W_standing_behind [b.D, s.D, d.D] h Q E := by
  refine e_fn [some b.D, some s.D, some d.D, none, none, none, none, none, none] rfl ?_
  unfold w_standing_behind
  have k1 := k.l1
  have k2 := k.l2
  have k3 := k.l3
  have k4 := k.l4
  cases d with
  | mi =>
    walk_at "go"
    refine c_t (by decide) ?_
    walk_at "go"
    intro p hp
    refine s_Standing_init hup_same ⟨rfl, ?_⟩
    rw [hup_hup]
    refine f_frz (h0 := h) 3 (sub_hup hp) ?_
    rw [res_oi (by rw [hp]; rfl) hup_same]
    simp only [List.map_cons, List.map_nil, res_int, res_fd]
    exact f_q q
  | ca n a =>
    have hd : n ∈ b.people := hd
    obtain ⟨c, r, ec, _⟩ := reason_head hz
    have q : Q (behindC b s n a).D h := q
    unfold behindC at q
    rw [show headS (left b s n) = c from by rw [ec]; rfl] at q
    walk_at "go"
    refine c_f (by decide) ?_
    walk_at "go"
    rw [show cutL [D.str "call", D.str n, D.bl a] (some 1) none = [D.str n, D.bl a] from rfl]
    walk_at "go"
    refine s_left_of o k hd ?_
    rw [ec]
    walk_at "go"
    refine v_ix (d := .str c) (atI_nat (by decide) rfl) ?_
    walk_at "go"
    refine v_dict fun p1 h1 => ?_
    walk_at "go"
    refine v_dict fun p2 h2 => ?_
    obtain ⟨n21, h2⟩ := hup_none h2
    walk_at "go"
    -- since
    have e1 : (hup (hup h p1 (.od (dk .int s.since))) p2 (.od (dS s.slept))) p1 = some (.od (dk .int s.since)) := by rw [hup_ne n21.symm, hup_same]
    -- behind the two stores
    have tail : ∀ (ρ : DL.Env) (since : List (Str × Int)) (slept : List Str) (v : Option D), since = (if a = true ∧ (aget s.since c).isSome = false then aput s.since c s.minute else s.since) → slept = (if a = true ∨ c ∈ s.slept then s.slept else s.slept ++ [c]) →
        ρ = [some b.D, some s.D, some (Deed.ca n a).D, some (.str n), some (.bl a), some (.str c), some (.ref p1), some (.ref p2), v] →
        dSeq (dSet 8 (dSpread (dFld "made" (dVar 1)) (dVar 3) (d2 wAdd (dM "dict" wGet (dFld "made" (dVar 1)) (dCons (dVar 3) (dCons (dInt 0) dNil))) (dInt 1)))) (dRet (dNew "Standing" 6 W_Standing_init (xE E) (dCons (dFld "minute" (dVar 1)) (dCons (dVar 6) (dCons (dVar 8) (dCons (dSpread (dFld "last" (dVar 1)) (dVar 3) (dFld "minute" (dVar 1))) (dCons (dVar 7) dNil))))))) ⟨fun _ h' => fin Q .non h', fin Q, fun _ _ => False, fun _ _ => False⟩ ρ (hup (hup h p1 (.od (dk .int since))) p2 (.od (dS slept))) := by
      rintro ρ since slept v rfl rfl rfl
      walk_at "go"
      refine c_spread (kvs := dk .int s.made) (z := n) (vd := .int (got s.made n + 1)) (fun h Q q => by walk_at "go"; exact q) (fun h Q q => by walk_at "go"; exact q) (fun h Q q => by walk_at "go"; rw [dget_dk, got_eq]; walk_at "go"; exact q) (by unfold SZ; rw [dk_len]; omega) fun p3 h3 => ?_
      rw [dput_dk]
      walk_at "go"
      refine c_spread (kvs := dk .int s.last) (z := n) (vd := .int s.minute) (fun h Q q => by walk_at "go"; exact q) (fun h Q q => by walk_at "go"; exact q) (fun h Q q => by walk_at "go"; exact q) (by unfold SZ; rw [dk_len]; omega) fun p4 h4 => ?_
      rw [dput_dk]
      walk_at "go"
      intro p5 h5
      obtain ⟨n32, h3⟩ := hup_none h3
      obtain ⟨n31, h3⟩ := hup_none h3
      obtain ⟨n43, h4⟩ := hup_none h4
      obtain ⟨n42, h4⟩ := hup_none h4
      obtain ⟨n41, h4⟩ := hup_none h4
      obtain ⟨n54, h5⟩ := hup_none h5
      obtain ⟨n53, h5⟩ := hup_none h5
      obtain ⟨n52, h5⟩ := hup_none h5
      obtain ⟨n51, h5⟩ := hup_none h5
      refine s_Standing_init hup_same ⟨rfl, ?_⟩
      rw [hup_hup]
      refine f_frz (h0 := h) 3 (sub_up h5 (sub_up h4 (sub_up h3 (sub_up h2 (sub_up h1 fun _ _ e => e))))) ?_
      rw [res_oi (by rw [h5]; rfl) hup_same]
      simp only [List.map_cons, List.map_nil, res_int]
      rw [res_odI (p := p1) (by rw [h1]; rfl) (by rw [hup_ne n51.symm, hup_ne n41.symm, hup_ne n31.symm, hup_ne n21.symm, hup_same])]
      rw [res_odS (p := p2) (by rw [h2]; rfl) (by rw [hup_ne n52.symm, hup_ne n42.symm, hup_ne n32.symm, hup_same])]
      rw [res_odI (p := p3) (by rw [h3]; rfl) (by rw [hup_ne n53.symm, hup_ne n43.symm, hup_same])]
      rw [res_odI (p := p4) (by rw [h4]; rfl) (by rw [hup_ne n54.symm, hup_same])]
      exact f_q q
    have mid : ∀ (ρ : DL.Env) (since : List (Str × Int)) (v : Option D), since = (if a = true ∧ (aget s.since c).isSome = false then aput s.since c s.minute else s.since) →
        ρ = [some b.D, some s.D, some (Deed.ca n a).D, some (.str n), some (.bl a), some (.str c), some (.ref p1), some (.ref p2), v] →
        dSeq (dIf (dNotT (dTest (dVar 4))) (dAsg (dBl true) (gSb (dVar 7) (dVar 5))) dNext) (dSeq (dSet 8 (dSpread (dFld "made" (dVar 1)) (dVar 3) (d2 wAdd (dM "dict" wGet (dFld "made" (dVar 1)) (dCons (dVar 3) (dCons (dInt 0) dNil))) (dInt 1)))) (dRet (dNew "Standing" 6 W_Standing_init (xE E) (dCons (dFld "minute" (dVar 1)) (dCons (dVar 6) (dCons (dVar 8) (dCons (dSpread (dFld "last" (dVar 1)) (dVar 3) (dFld "minute" (dVar 1))) (dCons (dVar 7) dNil)))))))) ⟨fun _ h' => fin Q .non h', fin Q, fun _ _ => False, fun _ _ => False⟩ ρ (hup (hup h p1 (.od (dk .int since))) p2 (.od (dS s.slept))) := by
      rintro ρ since v es rfl
      refine c_seq ?_
      walk_at "st"
      walk_at "st"
      walk_at "st"
      walk_at "st"
      walk_at "st"
      cases a with
      | true =>
        refine c_nt ?_
        walk_at "st"
        exact tail _ _ _ v es (by rw [if_pos (.inl rfl)]) rfl
      | false =>
        refine c_nf ?_
        refine c_asg ?_
        walk_at "st"
        walk_at "st"
        walk_at "st"
        walk_at "st"
        refine v_putD hup_same (by unfold SZ dS; rw [List.length_map]; omega) ?_
        rw [hup_hup, dput_dS]
        refine tail _ _ _ v es ?_ rfl
        by_cases z : c ∈ s.slept
        · rw [if_pos z, if_pos (.inr z)]
        · rw [if_neg z, if_neg (fun w => w.elim (fun w => by cases w) z)]
    cases a with
    | false =>
      walk_at "st"
      walk_at "st"
      exact mid _ _ none (by rw [if_neg (fun w => by cases w.1)]) rfl
    | true =>
      walk_at "st"
      walk_at "st"
      walk_at "st"
      walk_at "st"
      walk_at "st"
      refine v_notInDR e1 ?_
      rw [dget_dk, Option.isSome_map]
      cases z : (aget s.since c).isSome with
      | true =>
        refine c_exb ?_
        refine c_nt ?_
        refine c_next ?_
        exact mid _ _ none (by rw [if_neg (fun w => by rw [z] at w; cases w.2)]) rfl
      | false =>
        refine c_exb ?_
        refine c_nf ?_
        refine c_asg ?_
        walk_at "st"
        walk_at "st"
        walk_at "st"
        walk_at "st"
        walk_at "st"
        walk_at "st"
        walk_at "st"
        refine v_putD e1 (by unfold SZ; rw [dk_len]; omega) ?_
        rw [hup_comm n21.symm, hup_hup, hup_comm n21, dput_dk]
        exact mid _ _ none (by rw [if_pos ⟨rfl, z⟩]) rfl
end

end K78
end
section
set_option Elab.async false
set_option linter.all false
set_option maxRecDepth 100000
set_option maxHeartbeats 4000000
open PySem PySem.Spec L2 DL
namespace K78
local macro_rules | `(tactic| walk_at "st") => `(tactic| first
  | with_reducible refine c_seq ?_
  | with_reducible refine c_var (by with_unfolding_all exact rfl) ?_
  | with_reducible refine c_d2 ?_
  | with_reducible refine c_cons ?_
  | with_reducible refine c_nil ?_
  | with_reducible refine c_dL ?_
  | with_reducible refine c_call ?_
  | with_reducible refine c_int ?_
  | with_reducible refine c_str ?_
  | with_reducible refine c_bl ?_
  | with_reducible refine c_non ?_
  | with_reducible refine c_c ?_
  | with_reducible refine c_if ?_
  | with_reducible refine c_test ?_
  | with_reducible refine c_exb ?_
  | with_reducible refine c_tt ?_
  | with_reducible refine c_ff ?_
  | with_reducible refine c_nt ?_
  | with_reducible refine c_nf ?_
  | with_reducible refine c_ret ?_
  | with_reducible refine i_tup ?_
  | with_reducible refine i_fl ?_
  | with_reducible refine i_str ?_
  | with_reducible refine i_fd ?_
  | with_reducible refine c_sz (by with_unfolding_all exact rfl) ?_
  | with_reducible refine i_enumT ?_
  | with_reducible refine c_set ?_
  | with_reducible refine c_next ?_
  | with_reducible refine c_expr ?_
  | with_reducible refine c_fld ?_
  | with_reducible refine c_andT ?_
  | with_reducible refine c_orT ?_
  | with_reducible refine c_notT ?_
  | with_reducible refine c_and ?_
  | with_reducible refine c_or ?_
  | with_reducible refine c_not ?_
  | with_reducible refine c_ite ?_
  | with_reducible refine c_tup ?_
  | with_reducible refine c_lst ?_
  | with_reducible refine c_dM ?_
  | with_reducible refine c_met ?_
  | with_reducible refine c_new ?_
  | with_reducible refine c_sl ?_
  | with_reducible refine c_noP ?_
  | with_reducible refine c_part ?_
  | with_reducible refine c_chain ?_
  | with_reducible refine c_d1 ?_
  | with_reducible refine c_asg ?_
  | with_reducible refine c_par ?_
  | with_reducible refine c_par3 ?_
  | with_reducible refine v_par3 ?_
  | with_reducible refine c_raise ?_
  | with_reducible refine c_for ?_
  | with_reducible refine c_sfld ?_
  | with_reducible refine c_retN ?_
  | with_reducible refine c_gNm ?_
  | with_reducible refine c_gN ?_
  | with_reducible refine c_gC ?_
  | with_reducible refine c_gT (by with_unfolding_all exact rfl) ?_
  | with_reducible refine c_gSb ?_
  | with_reducible refine c_iAny ?_
  | with_reducible refine c_range1 ?_
  | with_reducible refine c_comp ?_
  | with_reducible refine c_enum ?_
  | with_reducible refine c_yes ?_
  | with_reducible refine c_st1 ?_
  | with_reducible refine c_tryAs ?_
  | with_reducible refine c_xf ?_
  | with_reducible refine c_hof ?_
  | with_reducible refine c_copyItems ?_
  | with_reducible refine c_lenSet ?_
  | with_reducible refine c_dict0 ?_
  | with_reducible refine v_onTb ?_
  | with_reducible refine v_onI ?_
  | with_reducible refine v_lt ?_
  | with_reducible refine v_gt ?_
  | with_reducible refine v_le ?_
  | with_reducible refine v_ge ?_
  | with_reducible refine v_eqI ?_
  | with_reducible refine v_neI ?_
  | with_reducible refine v_eqS ?_
  | with_reducible refine v_neS ?_
  | with_reducible refine v_add ?_
  | with_reducible refine v_sub ?_
  | with_reducible refine v_neg ?_
  | with_reducible refine v_mod (by decide) ?_
  | with_reducible refine v_int ?_
  | with_reducible refine v_isN ?_
  | with_reducible refine v_notN ?_
  | with_reducible refine v_insF ?_
  | with_reducible refine v_onO (by with_unfolding_all exact rfl) ?_
  | with_reducible refine v_kind (by with_unfolding_all exact rfl) ?_
  | with_reducible refine v_tupleT ?_
  | with_reducible refine v_tupleF ?_
  | with_reducible refine v_lenT ?_
  | with_reducible refine v_lenF ?_
  | with_reducible refine v_slT ?_
  | with_reducible refine v_ix (by with_unfolding_all exact rfl) ?_
  | with_reducible refine v_get1 ?_
  | with_reducible refine v_get2 ?_
  | with_reducible refine v_inD ?_
  | with_reducible refine v_notInD ?_
  | with_reducible refine v_max ?_
  | with_reducible refine v_min ?_
  | with_reducible refine v_isi (k := true) (by with_unfolding_all exact rfl) (by decide) ?_
  | with_reducible refine v_isi (k := false) (by with_unfolding_all exact rfl) (by decide) ?_
  | with_reducible refine ⟨rfl, ?_⟩)
local macro_rules | `(tactic| walk_at "go") => `(tactic| repeat (walk_at "st"))
section
variable {b : Bk} {s : Sg} {t : Nat} {n : Str} {h : Hd} {Q : DK} {E : DX}
theorem s_law_behind {d : Deed} (o : b.Ok) (k : SOk b s t) (ht : t < 1000) (hd : d.Ok b) (hz : reason b s d = none) (q : Q (behind b s d).T h) : W__law_behind [b.T, s.T, d.D] h Q E := by
  refine e_fn [some b.T, some s.T, some d.D, none, none, none, none, none, none] rfl ?_
  unfold w__law_behind
  have k1 := k.l1
  have k2 := k.l2
  have k3 := k.l3
  have k4 := k.l4
  cases d with
  | mi =>
    walk_at "go"
    refine c_t (by decide) ?_
    walk_at "go"
    exact f_q q
  | ca n a =>
    have hd : n ∈ b.people := hd
    obtain ⟨c, r, ec, _⟩ := reason_head hz
    have q : Q (behindC b s n a).T h := q
    unfold behindC at q
    rw [show headS (left b s n) = c from by rw [ec]; rfl] at q
    have ec' : (b.list n)[(got s.made n).toNat]? = some c := by
      have : (left b s n)[0]? = some c := by rw [ec]; rfl
      unfold left at this
      rw [List.getElem?_drop] at this
      simpa using this
    walk_at "go"
    refine c_f (by decide) ?_
    walk_at "go"
    intro p1 h1
    walk_at "go"
    intro p2 h2
    walk_at "go"
    intro p3 h3
    obtain ⟨n21, h2⟩ := hup_none h2
    obtain ⟨n32, h3⟩ := hup_none h3
    obtain ⟨n31, h3⟩ := hup_none h3
    walk_at "go"
    refine s_law_list o hd ?_
    walk_at "go"
    have e1 : ∀ {M L : O}, (hup (hup (hup h p1 (.od (dk .int s.since))) p2 M) p3 L) p1 = some (.od (dk .int s.since)) := by intro M L; rw [hup_ne n31.symm, hup_ne n21.symm, hup_same]
    have e2 : ∀ {S M L : O}, (hup (hup (hup h p1 S) p2 M) p3 L) p2 = some M := by intro S M L; rw [hup_ne n32.symm, hup_same]
    refine v_kind (v_kindD e2) ?_
    walk_at "go"
    refine v_get2R e2 ?_
    rw [dget_dk, got_eq]
    refine v_ix (d := .str c) (atI_nat (k.made n) (by rw [List.getElem?_map, ec']; rfl)) ?_
    walk_at "go"
    refine v_kind (v_kindD e2) ?_
    walk_at "go"
    refine v_get2R e2 ?_
    rw [dget_dk, got_eq]
    walk_at "go"
    refine v_putD e2 (by unfold SZ; rw [dk_len]; omega) ?_
    rw [hup_comm n32, hup_hup, dput_dk]
    walk_at "go"
    refine v_putD hup_same (by unfold SZ; rw [dk_len]; omega) ?_
    rw [hup_hup, dput_dk]
    -- behind the stores
    have tail : ∀ (ρ : DL.Env) (since : List (Str × Int)), since = (if a = true ∧ (aget s.since c).isSome = false then aput s.since c s.minute else s.since) →
        ρ = [some b.T, some s.T, some (Deed.ca n a).D, some (.int s.minute), some (.ref p1), some (.fl (sD s.slept)), some (.ref p2), some (.ref p3), some (.str c)] →
        dRet (dTup (dCons (dVar 3) (dCons (dVar 4) (dCons (dIte (dOrT (dTest (d2 wIx (dVar 2) (dInt 2))) (dTest (d2 wIn (dVar 8) (dVar 5)))) (dVar 5) (d2 wAdd (dVar 5) (dLst (dCons (dVar 8) dNil)))) (dCons (dVar 6) (dCons (dVar 7) dNil)))))) ⟨fun _ h' => fin Q .non h', fin Q, fun _ _ => False, fun _ _ => False⟩ ρ (hup (hup (hup h p1 (.od (dk .int since))) p2 (.od (dk .int (aput s.made n (got s.made n + 1))))) p3 (.od (dk .int (aput s.last n s.minute)))) := by
      rintro ρ since rfl rfl
      have same : (a = true ∨ c ∈ s.slept) → fin Q (.tup [.int s.minute, .ref p1, .fl (sD s.slept), .ref p2, .ref p3]) (hup (hup (hup h p1 (.od (dk .int (if a = true ∧ (aget s.since c).isSome = false then aput s.since c s.minute else s.since)))) p2 (.od (dk .int (aput s.made n (got s.made n + 1))))) p3 (.od (dk .int (aput s.last n s.minute)))) := fun z => by
        rw [if_pos z] at q
        refine f_frz (h0 := h) 3 (sub_up h3 (sub_up h2 (sub_up h1 fun _ _ e => e))) ?_
        rw [res_tup]
        simp only [List.map_cons, List.map_nil, res_int, res_fl]
        rw [res_odI (p := p1) (by rw [h1]; rfl) (by rw [hup_ne n31.symm, hup_ne n21.symm, hup_same])]
        rw [res_odI (p := p2) (by rw [h2]; rfl) (by rw [hup_ne n32.symm, hup_same])]
        rw [res_odI (p := p3) (by rw [h3]; rfl) hup_same]
        exact q
      walk_at "go"
      cases a with
      | true =>
        walk_at "go"
        exact same (.inl rfl)
      | false =>
        walk_at "go"
        refine v_inSF ?_
        walk_at "go"
        by_cases z : c ∈ s.slept
        · rw [decide_eq_true z]
          walk_at "go"
          exact same (.inr z)
        · rw [decide_eq_false z]
          rw [if_neg (show ¬ (false = true ∨ c ∈ s.slept) from fun w => w.elim (fun w => by cases w) z)] at q
          walk_at "go"
          intro p4 h4
          obtain ⟨n43, h4⟩ := hup_none h4
          obtain ⟨n42, h4⟩ := hup_none h4
          obtain ⟨n41, h4⟩ := hup_none h4
          refine v_addFR hup_same (by unfold SZ; rw [List.length_map, List.length_singleton]; omega) fun p5 h5 => ?_
          obtain ⟨n54, h5⟩ := hup_none h5
          obtain ⟨n53, h5⟩ := hup_none h5
          obtain ⟨n52, h5⟩ := hup_none h5
          obtain ⟨n51, h5⟩ := hup_none h5
          walk_at "go"
          refine f_frz (h0 := h) 3 (sub_up h5 (sub_up h4 (sub_up h3 (sub_up h2 (sub_up h1 fun _ _ e => e))))) ?_
          rw [res_tup]
          simp only [List.map_cons, List.map_nil, res_int]
          rw [res_odI (p := p1) (by rw [h1]; rfl) (by rw [hup_ne n51.symm, hup_ne n41.symm, hup_ne n31.symm, hup_ne n21.symm, hup_same])]
          rw [res_odI (p := p2) (by rw [h2]; rfl) (by rw [hup_ne n52.symm, hup_ne n42.symm, hup_ne n32.symm, hup_same])]
          rw [res_odI (p := p3) (by rw [h3]; rfl) (by rw [hup_ne n53.symm, hup_ne n43.symm, hup_same])]
          rw [res_olS (p := p5) (l := s.slept ++ [c]) (by rw [h5]; rfl) (by rw [hup_same]; simp [sD])]
          exact q
    cases a with
    | false =>
      iterate 12 walk_at "st"
      exact tail _ _ (by rw [if_neg (fun w => by cases w.1)]) rfl
    | true =>
      walk_at "go"
      refine v_notInDR e1 ?_
      rw [dget_dk, Option.isSome_map]
      cases z : (aget s.since c).isSome with
      | true =>
        refine c_exb ?_
        refine c_nt ?_
        refine c_next ?_
        exact tail _ _ (by rw [if_neg (fun w => by rw [z] at w; cases w.2)]) rfl
      | false =>
        refine c_exb ?_
        refine c_nf ?_
        refine c_asg ?_
        walk_at "go"
        refine v_putD e1 (by unfold SZ; rw [dk_len]; omega) ?_
        rw [hup_comm n31, hup_comm n21, hup_hup, dput_dk]
        exact tail _ _ (by rw [if_pos ⟨rfl, z⟩]) rfl
end

end K78
end
section
set_option Elab.async false
set_option linter.all false
set_option maxRecDepth 100000
set_option maxHeartbeats 4000000
open PySem PySem.Spec L2 DL
namespace K78
local macro_rules | `(tactic| walk_at "st") => `(tactic| first
  | with_reducible refine c_seq ?_
  | with_reducible refine c_var (by with_unfolding_all exact rfl) ?_
  | with_reducible refine c_d2 ?_
  | with_reducible refine c_cons ?_
  | with_reducible refine c_nil ?_
  | with_reducible refine c_dL ?_
  | with_reducible refine c_call ?_
  | with_reducible refine c_int ?_
  | with_reducible refine c_str ?_
  | with_reducible refine c_bl ?_
  | with_reducible refine c_non ?_
  | with_reducible refine c_c ?_
  | with_reducible refine c_if ?_
  | with_reducible refine c_test ?_
  | with_reducible refine c_exb ?_
  | with_reducible refine c_tt ?_
  | with_reducible refine c_ff ?_
  | with_reducible refine c_nt ?_
  | with_reducible refine c_nf ?_
  | with_reducible refine c_ret ?_
  | with_reducible refine i_tup ?_
  | with_reducible refine i_fl ?_
  | with_reducible refine i_str ?_
  | with_reducible refine i_fd ?_
  | with_reducible refine c_sz (by with_unfolding_all exact rfl) ?_
  | with_reducible refine i_enumT ?_
  | with_reducible refine c_set ?_
  | with_reducible refine c_next ?_
  | with_reducible refine c_expr ?_
  | with_reducible refine c_fld ?_
  | with_reducible refine c_andT ?_
  | with_reducible refine c_orT ?_
  | with_reducible refine c_notT ?_
  | with_reducible refine c_and ?_
  | with_reducible refine c_or ?_
  | with_reducible refine c_not ?_
  | with_reducible refine c_ite ?_
  | with_reducible refine c_tup ?_
  | with_reducible refine c_lst ?_
  | with_reducible refine c_dM ?_
  | with_reducible refine c_met ?_
  | with_reducible refine c_new ?_
  | with_reducible refine c_sl ?_
  | with_reducible refine c_noP ?_
  | with_reducible refine c_part ?_
  | with_reducible refine c_chain ?_
  | with_reducible refine c_d1 ?_
  | with_reducible refine c_asg ?_
  | with_reducible refine c_par ?_
  | with_reducible refine c_par3 ?_
  | with_reducible refine v_par3 ?_
  | with_reducible refine c_raise ?_
  | with_reducible refine c_for ?_
  | with_reducible refine c_sfld ?_
  | with_reducible refine c_retN ?_
  | with_reducible refine c_gNm ?_
  | with_reducible refine c_gN ?_
  | with_reducible refine c_gC ?_
  | with_reducible refine c_gT (by with_unfolding_all exact rfl) ?_
  | with_reducible refine c_gSb ?_
  | with_reducible refine c_iAny ?_
  | with_reducible refine c_range1 ?_
  | with_reducible refine c_comp ?_
  | with_reducible refine c_enum ?_
  | with_reducible refine c_yes ?_
  | with_reducible refine c_st1 ?_
  | with_reducible refine c_tryAs ?_
  | with_reducible refine c_xf ?_
  | with_reducible refine c_hof ?_
  | with_reducible refine c_copyItems ?_
  | with_reducible refine c_lenSet ?_
  | with_reducible refine c_dict0 ?_
  | with_reducible refine v_onTb ?_
  | with_reducible refine v_onI ?_
  | with_reducible refine v_lt ?_
  | with_reducible refine v_gt ?_
  | with_reducible refine v_le ?_
  | with_reducible refine v_ge ?_
  | with_reducible refine v_eqI ?_
  | with_reducible refine v_neI ?_
  | with_reducible refine v_eqS ?_
  | with_reducible refine v_neS ?_
  | with_reducible refine v_add ?_
  | with_reducible refine v_sub ?_
  | with_reducible refine v_neg ?_
  | with_reducible refine v_mod (by decide) ?_
  | with_reducible refine v_int ?_
  | with_reducible refine v_isN ?_
  | with_reducible refine v_notN ?_
  | with_reducible refine v_insF ?_
  | with_reducible refine v_onO (by with_unfolding_all exact rfl) ?_
  | with_reducible refine v_kind (by with_unfolding_all exact rfl) ?_
  | with_reducible refine v_tupleT ?_
  | with_reducible refine v_tupleF ?_
  | with_reducible refine v_lenT ?_
  | with_reducible refine v_lenF ?_
  | with_reducible refine v_slT ?_
  | with_reducible refine v_ix (by with_unfolding_all exact rfl) ?_
  | with_reducible refine v_get1 ?_
  | with_reducible refine v_get2 ?_
  | with_reducible refine v_inD ?_
  | with_reducible refine v_notInD ?_
  | with_reducible refine v_max ?_
  | with_reducible refine v_min ?_
  | with_reducible refine v_isi (k := true) (by with_unfolding_all exact rfl) (by decide) ?_
  | with_reducible refine v_isi (k := false) (by with_unfolding_all exact rfl) (by decide) ?_
  | with_reducible refine ⟨rfl, ?_⟩)
local macro_rules | `(tactic| walk_at "go") => `(tactic| repeat (walk_at "st"))
noncomputable abbrev mor (b : Bk) (s : Sg) (ds : List Deed) (r : Addr) : List (Str × D) := [("book", b.D), ("deeds", .tup (ds.map Deed.D)), ("past", .ref r), ("standing", s.D), ("minute", .int s.minute), ("knowing", .tup (sD (srt (s.since.map (·.1))))), ("sleeping", .tup (sD (srt s.slept)))]
noncomputable abbrev moved (s : Sg) (fs : List (Str × D)) : List (Str × D) := putD "sleeping" (.tup (sD (srt s.slept))) (putD "knowing" (.tup (sD (srt (s.since.map (·.1))))) (putD "minute" (.int s.minute) (putD "standing" s.D fs)))
theorem dS_keys (l : List Str) : (dS l).map (·.1) = sD l := by unfold dS sD; rw [List.map_map]; rfl
section
variable {b : Bk} {s : Sg} {t : Nat} {n : Str} {h : Hd} {Q : DK} {E : DX} {m r : Addr} {ds : List Deed} {past : List D}
theorem putD_len (f : Str) (v : D) : ∀ fs : List (Str × D), (putD f v fs).length ≤ fs.length + 1
  | [] => Nat.le_refl _
  | (g, u) :: r => by
    unfold putD
    split
    · exact Nat.le_succ _
    · have := putD_len f v r
      rw [List.length_cons, List.length_cons]; omega
theorem s_move_to {fs : List (Str × D)} (l1 : s.since.length < 64) (l2 : s.slept.length < 64) (hl : fs.length ≤ 100) (e : h m = some (.oi "Morning" fs)) (q : Q .non (hup h m (.oi "Morning" (moved s fs)))) : W_Morning_move_to [.ref m, s.D] h Q E := by
  refine e_fn [some (.ref m), some s.D] rfl ?_
  unfold w_Morning_move_to
  have ble : ∀ {k j : Nat}, k ≤ j → Nat.ble k j = true := fun h => Nat.ble_eq_true_of_le h
  have p1 := putD_len "standing" s.D fs
  have p2 := putD_len "minute" (.int s.minute) (putD "standing" s.D fs)
  have p3 := putD_len "knowing" (.tup (sD (srt (s.since.map (·.1))))) (putD "minute" (.int s.minute) (putD "standing" s.D fs))
  walk_at "go"
  refine c_ex_fld e (ble (by omega)) ?_
  walk_at "go"
  refine c_ex_fld hup_same (ble (by omega)) ?_
  rw [hup_hup]
  walk_at "go"
  refine v_sortD (dk_keys (f := D.int) (l := s.since)) (by rw [List.length_map]; exact l1) fun a ha => ?_
  obtain ⟨am, ha⟩ := hup_none ha
  walk_at "go"
  refine v_tupleR hup_same ?_
  walk_at "go"
  refine c_ex_fld (by rw [hup_ne am.symm, hup_same]) (ble (by omega)) ?_
  rw [hup_comm am, hup_hup]
  walk_at "go"
  refine v_sortD (dS_keys s.slept) l2 fun c hc => ?_
  obtain ⟨ca, hc⟩ := hup_none hc
  obtain ⟨cm, hc⟩ := hup_none hc
  walk_at "go"
  refine v_tupleR hup_same ?_
  walk_at "go"
  refine c_ex_fld (by rw [hup_ne cm.symm, hup_ne am.symm, hup_same]) (ble (by omega)) ?_
  rw [hup_comm cm, hup_comm am, hup_hup]
  refine f_drop (fun x o z => sub_up (by rw [hup_ne cm]; exact hc) (sub_hup (by rw [hup_ne am]; exact ha)) x o z) q
theorem moved_mor {s' : Sg} : moved s' (mor b s ds r) = mor b s' ds r := by rfl
theorem put_deeds {v : List Deed} : putD "deeds" (.tup (v.map Deed.D)) (mor b s ds r) = mor b s v r := by rfl
end
structure HM (h : Hd) (m r : Addr) (b : Bk) (s : Sg) (ds : List Deed) (past : List D) : Prop where
  om : h m = some (.oi "Morning" (mor b s ds r))
  or_ : h r = some (.ol past)
  ne : r ≠ m
section
variable {b : Bk} {s : Sg} {t : Nat} {n : Str} {h : Hd} {Q : DK} {E : DX} {m r : Addr} {ds : List Deed} {past : List D}
theorem s_do {d : Deed} (o : b.Ok) (k : SOk b s t) (ht : t < 50) (hd : d.Ok b) (hm : HM h m r b s ds past) (l1 : ds.length ≤ 1000) (l2 : past.length ≤ 1000) (hb : reason b s d = none → (behind b s d).since.length < 64 ∧ (behind b s d).slept.length < 64)
    (q : reason b s d = none → Q .non (hup (hup h r (.ol (past ++ [s.D]))) m (.oi "Morning" (mor b (behind b s d) (ds ++ [d]) r)))) (qx : ∀ x, reason b s d = some x → E ⟨"Barred", [("reason", .str x)]⟩ h) : W_Morning_do [.ref m, d.D] h Q E := by
  refine e_fn [some (.ref m), some d.D] rfl ?_
  unfold w_Morning_do
  walk_at "go"
  refine v_insR hm.om ?_
  walk_at "go"
  refine s_check_deed hd ?_
  walk_at "go"
  refine v_insR hm.om ?_
  walk_at "go"
  refine v_insR hm.om ?_
  walk_at "go"
  refine s_check_barred o k hd (fun hz => ?_) fun x hx => f_qx (qx x hx)
  walk_at "go"
  refine v_insR hm.om ?_
  walk_at "go"
  refine v_kind (v_kindL hm.or_) ?_
  walk_at "go"
  refine v_insR hm.om ?_
  walk_at "go"
  refine v_append hm.or_ (by unfold SZ; omega) ?_
  walk_at "go"
  have om' : hup h r (.ol (past ++ [s.D])) m = some (.oi "Morning" (mor b s ds r)) := by rw [hup_ne hm.ne.symm]; exact hm.om
  refine v_insR om' ?_
  walk_at "go"
  refine v_addT (by unfold SZ; rw [List.length_map, List.length_singleton]; omega) ?_
  rw [show ds.map Deed.D ++ [d.D] = (ds ++ [d]).map Deed.D from by rw [List.map_append]; rfl]
  walk_at "go"
  refine c_ex_fld om' (by with_unfolding_all exact rfl) ?_
  rw [put_deeds]
  walk_at "go"
  refine v_isInsR hup_same (by rfl) ?_
  walk_at "go"
  refine v_insR hup_same ?_
  walk_at "go"
  refine v_insR hup_same ?_
  walk_at "go"
  refine s_standing_behind o k (by omega) hd hz ?_
  walk_at "go"
  refine s_move_to (fs := mor b s (ds ++ [d]) r) (hb hz).1 (hb hz).2 (show 7 ≤ 100 from by decide) hup_same ?_
  rw [hup_hup]
  exact f_q (q hz)
theorem s_check_book (q : Q .non h) : W_check_book [b.D] h Q E := by
  refine e_fn [some b.D] rfl ?_
  unfold w_check_book
  walk_at "go"
  exact f_q q
theorem s_law_barred {d : Deed} (o : b.Ok) (k : SOk b s t) (ht : t < 50) (hd : d.Ok b) (hm : HM h m r b s ds past) (l1 : ds.length ≤ 1000) (l2 : past.length ≤ 1000) (hb : reason b s d = none → (behind b s d).since.length < 64 ∧ (behind b s d).slept.length < 64)
    (q : reason b s d = none → Q (.str "") (hup (hup h r (.ol (past ++ [s.D]))) m (.oi "Morning" (mor b (behind b s d) (ds ++ [d]) r)))) (qx : ∀ x, reason b s d = some x → Q (.str x) h) : W__law_barred [.ref m, d.D] h Q E := by
  refine e_fn [some (.ref m), some d.D, none] rfl ?_
  unfold w__law_barred
  walk_at "go"
  refine v_isInsR hm.om (by rfl) ?_
  walk_at "go"
  refine s_do o k ht hd hm l1 l2 hb (fun hz => ?_) fun x hx => ?_
  · walk_at "go"
    exact f_q (q hz)
  · refine v_onO (z := true) (show subX "Barred" "Barred" = some true from by decide) ?_
    refine c_tt ?_
    intro a ha
    walk_at "go"
    exact f_q (qx x hx)
theorem s_Morning_init (o : b.Ok) (hm : h m = some (.oi "Morning" [])) (q : ∀ r, r ≠ m → h r = none → Q .non (hup (hup h r (.ol [])) m (.oi "Morning" (mor b (begun b) [] r)))) : W_Morning_init [.ref m, b.D] h Q E := by
  refine e_fn [some (.ref m), some b.D] rfl ?_
  unfold w_Morning_init
  walk_at "go"
  refine s_check_book ?_
  walk_at "go"
  refine c_ex_fld hm (by with_unfolding_all exact rfl) ?_
  walk_at "go"
  refine c_ex_fld hup_same (by with_unfolding_all exact rfl) ?_
  rw [hup_hup]
  walk_at "go"
  intro r hr
  obtain ⟨rm, hr⟩ := hup_none hr
  walk_at "go"
  refine c_ex_fld (by rw [hup_ne rm.symm, hup_same]) (by with_unfolding_all exact rfl) ?_
  rw [hup_comm rm, hup_hup, hup_comm rm.symm]
  walk_at "go"
  refine v_isInsR hup_same (by rfl) ?_
  walk_at "go"
  refine s_begun ?_
  walk_at "go"
  refine s_move_to (by show 1 < 64; decide) (by show 0 < 64; decide) (by show 3 ≤ 100; decide) hup_same ?_
  rw [hup_hup]
  exact f_q (q r rm hr)
end

end K78
end
section
set_option Elab.async false
set_option linter.all false
set_option maxRecDepth 100000
set_option maxHeartbeats 4000000
open PySem PySem.Spec L2 DL
namespace K78
local macro_rules | `(tactic| walk_at "st") => `(tactic| first
  | with_reducible refine c_seq ?_
  | with_reducible refine c_var (by with_unfolding_all exact rfl) ?_
  | with_reducible refine c_d2 ?_
  | with_reducible refine c_cons ?_
  | with_reducible refine c_nil ?_
  | with_reducible refine c_dL ?_
  | with_reducible refine c_call ?_
  | with_reducible refine c_int ?_
  | with_reducible refine c_str ?_
  | with_reducible refine c_bl ?_
  | with_reducible refine c_non ?_
  | with_reducible refine c_c ?_
  | with_reducible refine c_if ?_
  | with_reducible refine c_test ?_
  | with_reducible refine c_exb ?_
  | with_reducible refine c_tt ?_
  | with_reducible refine c_ff ?_
  | with_reducible refine c_nt ?_
  | with_reducible refine c_nf ?_
  | with_reducible refine c_ret ?_
  | with_reducible refine i_tup ?_
  | with_reducible refine i_fl ?_
  | with_reducible refine i_str ?_
  | with_reducible refine i_fd ?_
  | with_reducible refine c_sz (by with_unfolding_all exact rfl) ?_
  | with_reducible refine i_enumT ?_
  | with_reducible refine c_set ?_
  | with_reducible refine c_next ?_
  | with_reducible refine c_expr ?_
  | with_reducible refine c_fld ?_
  | with_reducible refine c_andT ?_
  | with_reducible refine c_orT ?_
  | with_reducible refine c_notT ?_
  | with_reducible refine c_and ?_
  | with_reducible refine c_or ?_
  | with_reducible refine c_not ?_
  | with_reducible refine c_ite ?_
  | with_reducible refine c_tup ?_
  | with_reducible refine c_lst ?_
  | with_reducible refine c_dM ?_
  | with_reducible refine c_met ?_
  | with_reducible refine c_new ?_
  | with_reducible refine c_sl ?_
  | with_reducible refine c_noP ?_
  | with_reducible refine c_part ?_
  | with_reducible refine c_chain ?_
  | with_reducible refine c_d1 ?_
  | with_reducible refine c_asg ?_
  | with_reducible refine c_par ?_
  | with_reducible refine c_par3 ?_
  | with_reducible refine v_par3 ?_
  | with_reducible refine c_raise ?_
  | with_reducible refine c_for ?_
  | with_reducible refine c_sfld ?_
  | with_reducible refine c_retN ?_
  | with_reducible refine c_gNm ?_
  | with_reducible refine c_gN ?_
  | with_reducible refine c_gC ?_
  | with_reducible refine c_gT (by with_unfolding_all exact rfl) ?_
  | with_reducible refine c_gSb ?_
  | with_reducible refine c_iAny ?_
  | with_reducible refine c_range1 ?_
  | with_reducible refine c_comp ?_
  | with_reducible refine c_enum ?_
  | with_reducible refine c_yes ?_
  | with_reducible refine c_st1 ?_
  | with_reducible refine c_tryAs ?_
  | with_reducible refine c_xf ?_
  | with_reducible refine c_hof ?_
  | with_reducible refine c_copyItems ?_
  | with_reducible refine c_lenSet ?_
  | with_reducible refine c_dict0 ?_
  | with_reducible refine v_onTb ?_
  | with_reducible refine v_onI ?_
  | with_reducible refine v_lt ?_
  | with_reducible refine v_gt ?_
  | with_reducible refine v_le ?_
  | with_reducible refine v_ge ?_
  | with_reducible refine v_eqI ?_
  | with_reducible refine v_neI ?_
  | with_reducible refine v_eqS ?_
  | with_reducible refine v_neS ?_
  | with_reducible refine v_add ?_
  | with_reducible refine v_sub ?_
  | with_reducible refine v_neg ?_
  | with_reducible refine v_mod (by decide) ?_
  | with_reducible refine v_int ?_
  | with_reducible refine v_isN ?_
  | with_reducible refine v_notN ?_
  | with_reducible refine v_insF ?_
  | with_reducible refine v_onO (by with_unfolding_all exact rfl) ?_
  | with_reducible refine v_kind (by with_unfolding_all exact rfl) ?_
  | with_reducible refine v_tupleT ?_
  | with_reducible refine v_tupleF ?_
  | with_reducible refine v_lenT ?_
  | with_reducible refine v_lenF ?_
  | with_reducible refine v_slT ?_
  | with_reducible refine v_ix (by with_unfolding_all exact rfl) ?_
  | with_reducible refine v_get1 ?_
  | with_reducible refine v_get2 ?_
  | with_reducible refine v_inD ?_
  | with_reducible refine v_notInD ?_
  | with_reducible refine v_max ?_
  | with_reducible refine v_min ?_
  | with_reducible refine v_isi (k := true) (by with_unfolding_all exact rfl) (by decide) ?_
  | with_reducible refine v_isi (k := false) (by with_unfolding_all exact rfl) (by decide) ?_
  | with_reducible refine ⟨rfl, ?_⟩)
local macro_rules | `(tactic| walk_at "go") => `(tactic| repeat (walk_at "st"))
/-! ### data that is shown -/
structure Pl (p : PyData) (w d : Nat) : Prop where
  can : p.canLay0 = true
  sh : p.showable = true
  hd : p.hasDict = false
  is : p.intsShort 13 = true
  dp : p.depth ≤ d
  wt : p.weight ≤ w
structure Pls (p : List PyData) (w d : Nat) : Prop where
  can : PyData.canLayAll0 p = true
  sh : PyData.showableAll p = true
  hd : PyData.hasDictAll p = false
  is : PyData.intsShortAll 13 p = true
  dp : PyData.depthAll p ≤ d
  wt : PyData.weightAll p ≤ w
theorem Pls.nil {d : Nat} : Pls [] 0 d := ⟨rfl, rfl, rfl, rfl, Nat.zero_le _, Nat.le_refl _⟩
theorem Pls.cons {x : PyData} {xs : List PyData} {w w' d : Nat} (a : Pl x w d) (r : Pls xs w' d) : Pls (x :: xs) (w + 1 + w') d := by
  refine ⟨?_, ?_, ?_, ?_, ?_, ?_⟩
  · show (x.canLay0 && PyData.canLayAll0 xs) = true; rw [a.can, r.can]; rfl
  · show (x.showable && PyData.showableAll xs) = true; rw [a.sh, r.sh]; rfl
  · show (x.hasDict || PyData.hasDictAll xs) = false; rw [a.hd, r.hd]; rfl
  · show (x.intsShort 13 && PyData.intsShortAll 13 xs) = true; rw [a.is, r.is]; rfl
  · show max x.depth (PyData.depthAll xs) ≤ d; exact Nat.max_le.mpr ⟨a.dp, r.dp⟩
  · show x.weight + 1 + PyData.weightAll xs ≤ _; have := a.wt; have := r.wt; omega
theorem Pls.tup {xs : List PyData} {w d : Nat} (r : Pls xs w d) : Pl (.tuple xs) w (d + 1) := ⟨r.can, r.sh, r.hd, r.is, Nat.succ_le_succ r.dp, r.wt⟩
theorem Pls.lst {xs : List PyData} {w d : Nat} (r : Pls xs w d) : Pl (.list xs) w (d + 1) := ⟨r.can, r.sh, r.hd, r.is, Nat.succ_le_succ r.dp, r.wt⟩
theorem Pl.str {x : Str} {d w : Nat} (o : OkS x) (l : x.cps.size ≤ w) : Pl (.str x) w d := ⟨o, rfl, rfl, rfl, Nat.zero_le _, l⟩
theorem Pl.bl {x : Bool} {d : Nat} : Pl (.bool x) 0 d := ⟨rfl, rfl, rfl, rfl, Nat.zero_le _, Nat.le_refl _⟩
theorem int_small : ∀ i : Fin 1000, (PyData.showable (.int (i.val : Int)) = true ∧ PyData.intsShort 13 (.int (i.val : Int)) = true) ∧ PyData.weight (.int (i.val : Int)) ≤ 64 := by decide +kernel
theorem Pl.int {i : Int} {d : Nat} (h0 : 0 ≤ i) (h1 : i < 1000) : Pl (.int i) 64 d := by
  obtain ⟨k, rfl⟩ : ∃ k : Nat, i = (k : Int) := ⟨i.toNat, by omega⟩
  obtain ⟨⟨a, b⟩, c⟩ := int_small ⟨k, by omega⟩
  exact ⟨rfl, a, rfl, b, Nat.zero_le _, c⟩
theorem Pl.mono {p : PyData} {w w' d d' : Nat} (a : Pl p w d) (hw : w ≤ w') (hd : d ≤ d') : Pl p w' d' := ⟨a.can, a.sh, a.hd, a.is, Nat.le_trans a.dp hd, Nat.le_trans a.wt hw⟩
theorem Pls.all {α : Type} {f : α → PyData} {w d : Nat} : ∀ {l : List α}, (∀ x ∈ l, Pl (f x) w d) → Pls (l.map f) ((w + 1) * l.length) d
  | [], _ => Pls.nil
  | x :: l, h => by
    have := Pls.cons (h x (List.mem_cons_self ..)) (Pls.all (l := l) fun y hy => h y (List.mem_cons_of_mem _ hy))
    rw [List.length_cons, Nat.mul_succ, Nat.add_comm]
    exact this
theorem v_repr {p : PyData} {w d : Nat} {x : D} {h : Hd} {Q : DK} (e : pd h x = some p) (a : Pl p w d) (hw : w ≤ 60000) (hd : d ≤ 60) (hi : ∀ i, p ≠ .int i) (q : Q (.str p.shown) h) : wRepr [x] h Q := by
  unfold wRepr on1
  refine v_onO e ⟨a.sh, a.hd, ?_, Nat.le_trans a.dp hd, fun i z => absurd z (hi i), q⟩
  have h2 := PyData.shown_le 13 (by decide) p (PyData.leavesShort_of_canLay0 13 p a.can a.is)
  have := a.wt
  omega
def Deed.P : Deed → PyData
  | .mi => .tuple [.str "minute"]
  | .ca n a => .tuple [.str "call", .str n, .bool a]
theorem pdF_deed (g : Addr → Option PyData) : ∀ d : Deed, pdF g d.D = some d.P
  | .mi => rfl
  | .ca _ _ => rfl
theorem pdFs_deeds (g : Addr → Option PyData) : ∀ ds : List Deed, pdFs g (ds.map Deed.D) = some (ds.map Deed.P)
  | [] => rfl
  | d :: ds => by
    show (match pdF g d.D, pdFs g (ds.map Deed.D) with | some p, some ps => some (p :: ps) | _, _ => none) = _
    rw [pdF_deed, pdFs_deeds]; rfl
theorem pdF_sD (g : Addr → Option PyData) (l : List Str) : pdF g (.tup (sD l)) = some (.tuple (l.map .str)) := by
  show (pdFs g (sD l)).map PyData.tuple = _
  rw [pdFs_s]; rfl
noncomputable def toldL (b : Bk) (s : Sg) : List D := [.int s.minute, .tup (sD (srt (s.since.map (·.1)))), .tup (sD (srt s.slept)), .tup (sD (mayCall b s)), .bl (over b s)]
noncomputable def toldP (b : Bk) (s : Sg) : List PyData := [.int s.minute, .tuple ((srt (s.since.map (·.1))).map .str), .tuple ((srt s.slept).map .str), .tuple ((mayCall b s).map .str), .bool (over b s)]
theorem pdFs_told (g : Addr → Option PyData) (b : Bk) (s : Sg) : pdFs g (toldL b s) = some (toldP b s) := by
  unfold toldL toldP
  simp only [pdFs, pdF, pdFs_s, Option.map_some]
section
variable {b : Bk} {s : Sg} {t : Nat} {n : Str} {h : Hd} {Q : DK} {E : DX} {m r : Addr} {ds : List Deed} {past : List D}
theorem six_size : ∀ x ∈ six, x.cps.size ≤ 3 := by decide
theorem names_pl (o : b.Ok) {l : List Str} (hl : ∀ x ∈ l, x ∈ b.people) : Pls (l.map .str) (4 * l.length) 0 :=
  Pls.all (w := 3) fun x hx => Pl.str (six_ok x (o.ppl.mem (hl x hx))) (six_size x (o.ppl.mem (hl x hx)))
theorem told_pl (o : b.Ok) (k : SOk b s t) (ht : t < 50) : Pl (.list (toldP b s)) 2000 2 := by
  have k1 := k.l1
  have k4 := k.l4
  have m0 := k.m0
  have m1 := k.m1
  have h1 := names_pl o (l := srt (s.since.map (·.1))) fun x hx => by
    obtain ⟨y, hy, rfl⟩ := List.mem_map.mp ((srt_perm _).mem_iff.mp hx)
    exact k.keys y hy
  have h2 := names_pl o (l := srt s.slept) fun x hx => k.slp x ((srt_perm _).mem_iff.mp hx)
  have h3 := names_pl o (l := mayCall b s) fun x hx => (List.mem_filter.mp hx).1
  rw [(srt_perm _).length_eq, List.length_map] at h1
  rw [(srt_perm _).length_eq] at h2
  have l3 : (mayCall b s).length ≤ 6 := Nat.le_trans (List.length_filter_le _ _) o.ppl.len.2
  exact (Pls.cons (Pl.int (d := 1) m0 (by omega)) (Pls.cons h1.tup (Pls.cons h2.tup (Pls.cons h3.tup (Pls.cons Pl.bl Pls.nil))))).lst.mono (by omega) (by omega)
theorem deeds_pl (o : b.Ok) (hd : ∀ d ∈ ds, d.Ok b) : Pl (.tuple (ds.map Deed.P)) (21 * ds.length) 2 := by
  refine (Pls.all (w := 20) (d := 1) fun d hx => ?_).tup
  cases d with
  | mi => exact (Pls.cons (Pl.str (w := 6) (d := 0) (by unfold OkS; decide +kernel) (by decide)) Pls.nil).tup.mono (by omega) (by omega)
  | ca n a =>
    have hn : n ∈ b.people := hd _ hx
    exact (Pls.cons (Pl.str (w := 4) (d := 0) (by unfold OkS; decide +kernel) (by decide)) (Pls.cons (Pl.str (six_ok n (o.ppl.mem hn)) (six_size n (o.ppl.mem hn))) (Pls.cons Pl.bl Pls.nil))).tup.mono (by omega) (by omega)
theorem s_M_may (o : b.Ok) (k : SOk b s t) (hm : h m = some (.oi "Morning" (mor b s ds r))) (q : Q (.tup (sD (mayCall b s))) h) : W_Morning_may_call [.ref m] h Q E := by
  refine e_fn [some (.ref m)] rfl ?_
  unfold w_Morning_may_call
  walk_at "go"
  refine v_insR hm ?_
  walk_at "go"
  refine v_insR hm ?_
  walk_at "go"
  exact s_could_call o k (f_q q)
theorem s_M_over (o : b.Ok) (k : SOk b s t) (ht : t < 50) (hm : h m = some (.oi "Morning" (mor b s ds r))) (q : Q (.bl (over b s)) h) : W_Morning_is_over [.ref m] h Q E := by
  refine e_fn [some (.ref m)] rfl ?_
  unfold w_Morning_is_over
  walk_at "go"
  refine v_insR hm ?_
  walk_at "go"
  refine v_insR hm ?_
  walk_at "go"
  exact s_is_over_by o k (by omega) (f_q q)
theorem s_told (o : b.Ok) (k : SOk b s t) (ht : t < 50) (hm : h m = some (.oi "Morning" (mor b s ds r))) (q : ∀ p, h p = none → Q (.ref p) (hup h p (.ol (toldL b s)))) : W__law_told [.ref m] h Q E := by
  refine e_fn [some (.ref m)] rfl ?_
  unfold w__law_told
  walk_at "go"
  refine v_insR hm ?_
  walk_at "go"
  refine v_insR hm ?_
  walk_at "go"
  refine v_insR hm ?_
  walk_at "go"
  refine v_isInsR hm (by rfl) ?_
  walk_at "go"
  refine s_M_may o k hm ?_
  walk_at "go"
  refine v_isInsR hm (by rfl) ?_
  walk_at "go"
  refine s_M_over o k ht hm ?_
  walk_at "go"
  intro p hp
  exact f_q (q p hp)
theorem v_listD {kvs : List (D × D)} (q : ∀ p, h p = none → Q (.ref p) (hup h p (.ol (kvs.map (·.1))))) : wList [.fd kvs] h Q := q
end

end K78
end
section
set_option Elab.async false
set_option linter.all false
set_option maxRecDepth 100000
set_option maxHeartbeats 4000000
open PySem PySem.Spec L2 DL
namespace K78
local macro_rules | `(tactic| walk_at "st") => `(tactic| first
  | with_reducible refine c_seq ?_
  | with_reducible refine c_var (by with_unfolding_all exact rfl) ?_
  | with_reducible refine c_d2 ?_
  | with_reducible refine c_cons ?_
  | with_reducible refine c_nil ?_
  | with_reducible refine c_dL ?_
  | with_reducible refine c_call ?_
  | with_reducible refine c_int ?_
  | with_reducible refine c_str ?_
  | with_reducible refine c_bl ?_
  | with_reducible refine c_non ?_
  | with_reducible refine c_c ?_
  | with_reducible refine c_if ?_
  | with_reducible refine c_test ?_
  | with_reducible refine c_exb ?_
  | with_reducible refine c_tt ?_
  | with_reducible refine c_ff ?_
  | with_reducible refine c_nt ?_
  | with_reducible refine c_nf ?_
  | with_reducible refine c_ret ?_
  | with_reducible refine i_tup ?_
  | with_reducible refine i_fl ?_
  | with_reducible refine i_str ?_
  | with_reducible refine i_fd ?_
  | with_reducible refine c_sz (by with_unfolding_all exact rfl) ?_
  | with_reducible refine i_enumT ?_
  | with_reducible refine c_set ?_
  | with_reducible refine c_next ?_
  | with_reducible refine c_expr ?_
  | with_reducible refine c_fld ?_
  | with_reducible refine c_andT ?_
  | with_reducible refine c_orT ?_
  | with_reducible refine c_notT ?_
  | with_reducible refine c_and ?_
  | with_reducible refine c_or ?_
  | with_reducible refine c_not ?_
  | with_reducible refine c_ite ?_
  | with_reducible refine c_tup ?_
  | with_reducible refine c_lst ?_
  | with_reducible refine c_dM ?_
  | with_reducible refine c_met ?_
  | with_reducible refine c_new ?_
  | with_reducible refine c_sl ?_
  | with_reducible refine c_noP ?_
  | with_reducible refine c_part ?_
  | with_reducible refine c_chain ?_
  | with_reducible refine c_d1 ?_
  | with_reducible refine c_asg ?_
  | with_reducible refine c_par ?_
  | with_reducible refine c_par3 ?_
  | with_reducible refine v_par3 ?_
  | with_reducible refine c_raise ?_
  | with_reducible refine c_for ?_
  | with_reducible refine c_sfld ?_
  | with_reducible refine c_retN ?_
  | with_reducible refine c_gNm ?_
  | with_reducible refine c_gN ?_
  | with_reducible refine c_gC ?_
  | with_reducible refine c_gT (by with_unfolding_all exact rfl) ?_
  | with_reducible refine c_gSb ?_
  | with_reducible refine c_iAny ?_
  | with_reducible refine c_range1 ?_
  | with_reducible refine c_comp ?_
  | with_reducible refine c_enum ?_
  | with_reducible refine c_yes ?_
  | with_reducible refine c_st1 ?_
  | with_reducible refine c_tryAs ?_
  | with_reducible refine c_xf ?_
  | with_reducible refine c_hof ?_
  | with_reducible refine c_copyItems ?_
  | with_reducible refine c_lenSet ?_
  | with_reducible refine c_dict0 ?_
  | with_reducible refine v_onTb ?_
  | with_reducible refine v_onI ?_
  | with_reducible refine v_lt ?_
  | with_reducible refine v_gt ?_
  | with_reducible refine v_le ?_
  | with_reducible refine v_ge ?_
  | with_reducible refine v_eqI ?_
  | with_reducible refine v_neI ?_
  | with_reducible refine v_eqS ?_
  | with_reducible refine v_neS ?_
  | with_reducible refine v_add ?_
  | with_reducible refine v_sub ?_
  | with_reducible refine v_neg ?_
  | with_reducible refine v_mod (by decide) ?_
  | with_reducible refine v_int ?_
  | with_reducible refine v_isN ?_
  | with_reducible refine v_notN ?_
  | with_reducible refine v_insF ?_
  | with_reducible refine v_onO (by with_unfolding_all exact rfl) ?_
  | with_reducible refine v_kind (by with_unfolding_all exact rfl) ?_
  | with_reducible refine v_tupleT ?_
  | with_reducible refine v_tupleF ?_
  | with_reducible refine v_lenT ?_
  | with_reducible refine v_lenF ?_
  | with_reducible refine v_slT ?_
  | with_reducible refine v_ix (by with_unfolding_all exact rfl) ?_
  | with_reducible refine v_get1 ?_
  | with_reducible refine v_get2 ?_
  | with_reducible refine v_inD ?_
  | with_reducible refine v_notInD ?_
  | with_reducible refine v_max ?_
  | with_reducible refine v_min ?_
  | with_reducible refine v_isi (k := true) (by with_unfolding_all exact rfl) (by decide) ?_
  | with_reducible refine v_isi (k := false) (by with_unfolding_all exact rfl) (by decide) ?_
  | with_reducible refine ⟨rfl, ?_⟩)
local macro_rules | `(tactic| walk_at "go") => `(tactic| repeat (walk_at "st"))
section
variable {b : Bk} {s : Sg} {t : Nat} {n : Str} {h : Hd} {Q : DK} {E : DX}
theorem ok_begun (o : b.Ok) : SOk b (begun b) 0 where
  m0 := Int.le_refl _
  m1 := Int.le_refl _
  made := fun n => Int.le_refl _
  keys := fun p hp => by
    have : p = (b.first, 0) := by simpa [begun] using hp
    rw [this]; exact o.fst
  slp := fun x hx => by simp [begun] at hx
  l1 := Nat.le_refl _
  l2 := Nat.le_refl _
  l3 := Nat.le_refl _
  l4 := Nat.le_refl _
theorem got_aput (l : List (Str × Int)) (x y : Str) (v : Int) : got (aput l x v) y = if x = y then v else got l y := by
  unfold got
  rw [aget_aput]
  split <;> rfl
theorem ok_behind {d : Deed} (o : b.Ok) (k : SOk b s t) (hd : d.Ok b) (hz : reason b s d = none) : SOk b (behind b s d) (t + 1) := by
  have k1 := k.l1
  have k2 := k.l2
  have k3 := k.l3
  have k4 := k.l4
  have m0 := k.m0
  have m1 := k.m1
  cases d with
  | mi => exact ⟨by show 0 ≤ s.minute + 1; omega, by show s.minute + 1 ≤ _; omega, k.made, k.keys, k.slp, by show s.since.length ≤ _; omega, by show s.made.length ≤ _; omega, by show s.last.length ≤ _; omega, by show s.slept.length ≤ _; omega⟩
  | ca n a =>
    have hn : n ∈ b.people := hd
    obtain ⟨c, r, ec, _⟩ := reason_head hz
    have hc : c ∈ b.people := left_mem o hn c (by rw [ec]; exact List.mem_cons_self ..)
    show SOk b (behindC b s n a) (t + 1)
    unfold behindC
    rw [show headS (left b s n) = c from by rw [ec]; rfl]
    refine ⟨m0, by show s.minute ≤ _; omega, fun y => ?_, fun p hp => ?_, fun x hx => ?_, ?_, ?_, ?_, ?_⟩
    · show 0 ≤ got (aput s.made n (got s.made n + 1)) y
      rw [got_aput]
      have := k.made n
      have := k.made y
      split <;> omega
    · have hp : p ∈ (if a = true ∧ (aget s.since c).isSome = false then aput s.since c s.minute else s.since) := hp
      split at hp
      · rcases aput_mem hp with z | ⟨z, _⟩
        · exact k.keys p z
        · rw [z]; exact hc
      · exact k.keys p hp
    · have hx : x ∈ (if a = true ∨ c ∈ s.slept then s.slept else s.slept ++ [c]) := hx
      split at hx
      · exact k.slp x hx
      · rcases List.mem_append.mp hx with z | z
        · exact k.slp x z
        · rw [List.mem_singleton] at z; rw [z]; exact hc
    · show (if a = true ∧ (aget s.since c).isSome = false then aput s.since c s.minute else s.since).length ≤ _
      have := aput_len (l := s.since) (x := c) (v := s.minute)
      split <;> omega
    · show (aput s.made n (got s.made n + 1)).length ≤ _
      have := aput_len (l := s.made) (x := n) (v := got s.made n + 1)
      omega
    · show (aput s.last n s.minute).length ≤ _
      have := aput_len (l := s.last) (x := n) (v := s.minute)
      omega
    · show (if a = true ∨ c ∈ s.slept then s.slept else s.slept ++ [c]).length ≤ _
      split
      · omega
      · rw [List.length_append, List.length_singleton]; omega
theorem SOk.up (k : SOk b s t) : SOk b s (t + 1) := ⟨k.m0, by have := k.m1; omega, k.made, k.keys, k.slp, by have := k.l1; omega, by have := k.l2; omega, by have := k.l3; omega, by have := k.l4; omega⟩
theorem reason_ne {d : Deed} {x : Str} (hz : reason b s d = some x) : decide (x = "") = false := by
  have h : x = "due" ∨ x = "asleep" ∨ x = "done" ∨ x = "called" ∨ x = "awake" ∨ x = "slept" := by
    cases d with
    | mi =>
      have hz : (if (mayCall b s).isEmpty = true then none else some "due" : Option Str) = some x := hz
      split at hz
      · cases hz
      · cases hz; exact .inl rfl
    | ca n a =>
      have hz : (if ahead s n = true then reasonL s n a (left b s n) else some "asleep") = some x := hz
      split at hz
      · cases e : left b s n with
        | nil => rw [e] at hz; cases hz; exact .inr (.inr (.inl rfl))
        | cons c r =>
          rw [e] at hz
          have hz : (if decide (aget s.last n = some s.minute) = true then some "called" else if (aget s.since c).isSome = true ∧ a = false then some "awake" else if c ∈ s.slept ∧ a = true then some "slept" else none : Option Str) = some x := hz
          split at hz
          · cases hz; exact .inr (.inr (.inr (.inl rfl)))
          · split at hz
            · cases hz; exact .inr (.inr (.inr (.inr (.inl rfl))))
            · split at hz
              · cases hz; exact .inr (.inr (.inr (.inr (.inr rfl))))
              · cases hz
      · cases hz; exact .inr (.inl rfl)
  rcases h with rfl | rfl | rfl | rfl | rfl | rfl <;> decide
theorem s_pickS {p : Addr} {l : List Str} (hp : IsP h p) (h0 : l ≠ []) (h1 : l.length < 1000) (q : ∀ (x : Str) (a b c : Int), x ∈ l → Q (.str x) (hup h p (.ol [.int a, .int b, .int c]))) : W__law_pick [.ref p, .tup (sD l)] h Q E :=
  s_pick hp (by rw [List.length_map]; exact List.length_pos_iff.mpr h0) (by rw [List.length_map]; exact h1) fun x a b c hx => by
    obtain ⟨y, hy, rfl⟩ := List.mem_map.mp hx
    exact q y a b c hy
theorem s_deed {p : Addr} (o : b.Ok) (k : SOk b s t) (hp : IsP h p) (q : ∀ (d : Deed) (x y z : Int), d.Ok b → Q d.D (hup h p (.ol [.int x, .int y, .int z]))) : W__law_deed [.ref p, b.T, s.T] h Q E := by
  refine e_fn [some (.ref p), some b.T, some s.T, none, none, none, none, none, none] rfl ?_
  unfold w__law_deed
  have pl := o.ppl.len
  walk_at "st"
  walk_at "st"
  walk_at "go"
  refine s_draw hp (by decide) (by decide) fun way x y z w0 w1 => ?_
  walk_at "go"
  refine s_may_call o k ?_
  -- behind the name
  have rest2 : ∀ (n : Str) (x y z : Int) (ρ : DL.Env), n ∈ b.people → ρ = [some (.ref p), some b.T, some s.T, some (.int way), some (.tup (sD (mayCall b s))), some (.str n), none, none, none] →
      dSeq (dPar 6 7 (dM "dict" wGet (d2 wIx (dVar 2) (dInt 3)) (dCons (dVar 5) (dCons (dInt 0) dNil))) (d2 wGt (dCall 2 W__law_draw (xE E) (dCons (dVar 0) (dCons (dInt 3) dNil))) (dInt 0))) (dSeq (dIf (dAndT (dTest (d2 wLt (dVar 3) (dInt 5))) (dTest (d2 wLt (dVar 6) (dL wLen (dCons (dCall 2 W__law_list (xE E) (dCons (dVar 1) (dCons (dVar 5) dNil))) dNil))))) (dSeq (dSet 8 (d2 wIx (dCall 2 W__law_list (xE E) (dCons (dVar 1) (dCons (dVar 5) dNil))) (dVar 6))) (dSet 7 (dIte (dTest (d2 wIn (dVar 8) (d2 wIx (dVar 2) (dInt 1)))) (dBl true) (dIte (dTest (d2 wIn (dVar 8) (d2 wIx (dVar 2) (dInt 2)))) (dBl false) (dVar 7))))) dNext) (dRet (dTup (dCons (dStr "call") (dCons (dVar 5) (dCons (dVar 7) dNil))))))
        ⟨fun _ h' => fin Q .non h', fin Q, fun _ _ => False, fun _ _ => False⟩ ρ (hup h p (.ol [.int x, .int y, .int z])) := by
    rintro n x y z ρ hn rfl
    walk_at "go"
    rw [dget_dk, got_eq]
    refine s_draw ⟨x, y, z, hup_same⟩ (by decide) (by decide) fun k3 x y z _ _ => ?_
    rw [hup_hup]
    have last : ∀ (an : Bool) (ρ : DL.Env) (v8 : Option DL.D), ρ = [some (.ref p), some b.T, some s.T, some (.int way), some (.tup (sD (mayCall b s))), some (.str n), some (.int (got s.made n)), some (.bl an), v8] →
        dRet (dTup (dCons (dStr "call") (dCons (dVar 5) (dCons (dVar 7) dNil)))) ⟨fun _ h' => fin Q .non h', fin Q, fun _ _ => False, fun _ _ => False⟩ ρ (hup h p (.ol [.int x, .int y, .int z])) := by
      rintro an ρ v8 rfl
      walk_at "go"
      exact f_q (q (.ca n an) x y z hn)
    walk_at "go"
    refine c_ifd (fun _ => ?_) (fun _ => ?_)
    · walk_at "go"
      refine s_law_list o hn ?_
      walk_at "go"
      rw [List.length_map]
      refine c_ifd (fun hl => ?_) (fun _ => ?_)
      · walk_at "go"
        refine s_law_list o hn ?_
        walk_at "go"
        have k0 := k.made n
        have hlt : (got s.made n).toNat < (b.list n).length := by omega
        refine v_ix (d := .str (b.list n)[(got s.made n).toNat]) (atI_nat k0 (by rw [List.getElem?_map, List.getElem?_eq_getElem hlt]; rfl)) ?_
        walk_at "go"
        rw [dget_dk, Option.isSome_map]
        cases z1 : (aget s.since (b.list n)[(got s.made n).toNat]).isSome with
        | true =>
          iterate 4 walk_at "st"
          exact last true _ _ rfl
        | false =>
          walk_at "go"
          refine v_inSF ?_
          walk_at "st"
          refine c_if2 (fun _ => ?_) (fun _ => ?_)
          · walk_at "st"
            exact last false _ _ rfl
          · walk_at "st"
            exact last _ _ _ rfl
      · walk_at "st"
        exact last _ _ _ rfl
    · walk_at "st"
      walk_at "st"
      exact last _ _ _ rfl
  have rest : ∀ (ρ : DL.Env), ρ = [some (.ref p), some b.T, some s.T, some (.int way), some (.tup (sD (mayCall b s))), none, none, none, none] →
      dSeq (dSet 5 (dIte (dAndT (dTest (d2 wNe (dVar 4) (dTup dNil))) (dTest (d2 wLt (dVar 3) (dInt 6)))) (dCall 2 W__law_pick (xE E) (dCons (dVar 0) (dCons (dVar 4) dNil))) (dCall 2 W__law_pick (xE E) (dCons (dVar 0) (dCons (d2 wIx (dVar 1) (dInt 0)) dNil))))) (dSeq (dPar 6 7 (dM "dict" wGet (d2 wIx (dVar 2) (dInt 3)) (dCons (dVar 5) (dCons (dInt 0) dNil))) (d2 wGt (dCall 2 W__law_draw (xE E) (dCons (dVar 0) (dCons (dInt 3) dNil))) (dInt 0))) (dSeq (dIf (dAndT (dTest (d2 wLt (dVar 3) (dInt 5))) (dTest (d2 wLt (dVar 6) (dL wLen (dCons (dCall 2 W__law_list (xE E) (dCons (dVar 1) (dCons (dVar 5) dNil))) dNil))))) (dSeq (dSet 8 (d2 wIx (dCall 2 W__law_list (xE E) (dCons (dVar 1) (dCons (dVar 5) dNil))) (dVar 6))) (dSet 7 (dIte (dTest (d2 wIn (dVar 8) (d2 wIx (dVar 2) (dInt 1)))) (dBl true) (dIte (dTest (d2 wIn (dVar 8) (d2 wIx (dVar 2) (dInt 2)))) (dBl false) (dVar 7))))) dNext) (dRet (dTup (dCons (dStr "call") (dCons (dVar 5) (dCons (dVar 7) dNil)))))))
        ⟨fun _ h' => fin Q .non h', fin Q, fun _ _ => False, fun _ _ => False⟩ ρ (hup h p (.ol [.int x, .int y, .int z])) := by
    rintro ρ rfl
    have all : W__law_pick [.ref p, .tup (sD b.people)] (hup h p (.ol [.int x, .int y, .int z])) (fun d h1 => ∃ n x y z, n ∈ b.people ∧ d = .str n ∧ h1 = hup h p (.ol [.int x, .int y, .int z])) (fun _ _ => False) := by
      refine s_pickS ⟨x, y, z, hup_same⟩ (fun w => by rw [w] at pl; simp at pl) (by omega) fun n a b c hn => ⟨n, a, b, c, hn, rfl, by rw [hup_hup]⟩
    walk_at "go"
    refine v_neNil (may_ok o) ?_
    walk_at "go"
    cases z1 : (mayCall b s).isEmpty with
    | true =>
      walk_at "go"
      refine s_pickS ⟨x, y, z, hup_same⟩ (fun w => by rw [w] at pl; simp at pl) (by omega) fun n a b c hn => ?_
      rw [hup_hup]
      exact rest2 n _ _ _ _ hn rfl
    | false =>
      walk_at "go"
      refine c_ifd (fun _ => ?_) (fun _ => ?_)
      · walk_at "go"
        refine s_pickS ⟨x, y, z, hup_same⟩ (fun w => by rw [w] at z1; cases z1) (Nat.lt_of_le_of_lt (List.length_filter_le _ _) (by omega)) fun n a b c hn => ?_
        rw [hup_hup]
        exact rest2 n _ _ _ _ (List.mem_filter.mp hn).1 rfl
      · walk_at "go"
        refine s_pickS ⟨x, y, z, hup_same⟩ (fun w => by rw [w] at pl; simp at pl) (by omega) fun n a b c hn => ?_
        rw [hup_hup]
        exact rest2 n _ _ _ _ hn rfl
  walk_at "go"
  refine c_ifd (fun _ => ?_) (fun _ => ?_)
  · walk_at "go"
    refine v_eqNil (may_ok o) ?_
    walk_at "go"
    cases z1 : (mayCall b s).isEmpty with
    | true =>
      walk_at "go"
      exact f_q (q .mi _ _ _ trivial)
    | false =>
      walk_at "go"
      refine c_ifd (fun _ => ?_) (fun _ => ?_)
      · walk_at "go"
        exact f_q (q .mi _ _ _ trivial)
      · walk_at "st"
        exact rest _ rfl
  · walk_at "go"
    refine c_ifd (fun _ => ?_) (fun _ => ?_)
    · walk_at "go"
      exact f_q (q .mi _ _ _ trivial)
    · walk_at "st"
      exact rest _ rfl
end

end K78
end
section
set_option Elab.async false
set_option linter.all false
set_option maxRecDepth 100000
set_option maxHeartbeats 4000000
open PySem PySem.Spec L2 DL
namespace K78
local macro_rules | `(tactic| walk_at "st") => `(tactic| first
  | with_reducible refine c_seq ?_
  | with_reducible refine c_var (by with_unfolding_all exact rfl) ?_
  | with_reducible refine c_d2 ?_
  | with_reducible refine c_cons ?_
  | with_reducible refine c_nil ?_
  | with_reducible refine c_dL ?_
  | with_reducible refine c_call ?_
  | with_reducible refine c_int ?_
  | with_reducible refine c_str ?_
  | with_reducible refine c_bl ?_
  | with_reducible refine c_non ?_
  | with_reducible refine c_c ?_
  | with_reducible refine c_if ?_
  | with_reducible refine c_test ?_
  | with_reducible refine c_exb ?_
  | with_reducible refine c_tt ?_
  | with_reducible refine c_ff ?_
  | with_reducible refine c_nt ?_
  | with_reducible refine c_nf ?_
  | with_reducible refine c_ret ?_
  | with_reducible refine i_tup ?_
  | with_reducible refine i_fl ?_
  | with_reducible refine i_str ?_
  | with_reducible refine i_fd ?_
  | with_reducible refine c_sz (by with_unfolding_all exact rfl) ?_
  | with_reducible refine i_enumT ?_
  | with_reducible refine c_set ?_
  | with_reducible refine c_next ?_
  | with_reducible refine c_expr ?_
  | with_reducible refine c_fld ?_
  | with_reducible refine c_andT ?_
  | with_reducible refine c_orT ?_
  | with_reducible refine c_notT ?_
  | with_reducible refine c_and ?_
  | with_reducible refine c_or ?_
  | with_reducible refine c_not ?_
  | with_reducible refine c_ite ?_
  | with_reducible refine c_tup ?_
  | with_reducible refine c_lst ?_
  | with_reducible refine c_dM ?_
  | with_reducible refine c_met ?_
  | with_reducible refine c_new ?_
  | with_reducible refine c_sl ?_
  | with_reducible refine c_noP ?_
  | with_reducible refine c_part ?_
  | with_reducible refine c_chain ?_
  | with_reducible refine c_d1 ?_
  | with_reducible refine c_asg ?_
  | with_reducible refine c_par ?_
  | with_reducible refine c_par3 ?_
  | with_reducible refine v_par3 ?_
  | with_reducible refine c_raise ?_
  | with_reducible refine c_for ?_
  | with_reducible refine c_sfld ?_
  | with_reducible refine c_retN ?_
  | with_reducible refine c_gNm ?_
  | with_reducible refine c_gN ?_
  | with_reducible refine c_gC ?_
  | with_reducible refine c_gT (by with_unfolding_all exact rfl) ?_
  | with_reducible refine c_gSb ?_
  | with_reducible refine c_iAny ?_
  | with_reducible refine c_range1 ?_
  | with_reducible refine c_comp ?_
  | with_reducible refine c_enum ?_
  | with_reducible refine c_yes ?_
  | with_reducible refine c_st1 ?_
  | with_reducible refine c_tryAs ?_
  | with_reducible refine c_xf ?_
  | with_reducible refine c_hof ?_
  | with_reducible refine c_copyItems ?_
  | with_reducible refine c_lenSet ?_
  | with_reducible refine c_dict0 ?_
  | with_reducible refine v_onTb ?_
  | with_reducible refine v_onI ?_
  | with_reducible refine v_lt ?_
  | with_reducible refine v_gt ?_
  | with_reducible refine v_le ?_
  | with_reducible refine v_ge ?_
  | with_reducible refine v_eqI ?_
  | with_reducible refine v_neI ?_
  | with_reducible refine v_eqS ?_
  | with_reducible refine v_neS ?_
  | with_reducible refine v_add ?_
  | with_reducible refine v_sub ?_
  | with_reducible refine v_neg ?_
  | with_reducible refine v_mod (by decide) ?_
  | with_reducible refine v_int ?_
  | with_reducible refine v_isN ?_
  | with_reducible refine v_notN ?_
  | with_reducible refine v_insF ?_
  | with_reducible refine v_onO (by with_unfolding_all exact rfl) ?_
  | with_reducible refine v_kind (by with_unfolding_all exact rfl) ?_
  | with_reducible refine v_tupleT ?_
  | with_reducible refine v_tupleF ?_
  | with_reducible refine v_lenT ?_
  | with_reducible refine v_lenF ?_
  | with_reducible refine v_slT ?_
  | with_reducible refine v_ix (by with_unfolding_all exact rfl) ?_
  | with_reducible refine v_get1 ?_
  | with_reducible refine v_get2 ?_
  | with_reducible refine v_inD ?_
  | with_reducible refine v_notInD ?_
  | with_reducible refine v_max ?_
  | with_reducible refine v_min ?_
  | with_reducible refine v_isi (k := true) (by with_unfolding_all exact rfl) (by decide) ?_
  | with_reducible refine v_isi (k := false) (by with_unfolding_all exact rfl) (by decide) ?_
  | with_reducible refine ⟨rfl, ?_⟩)
local macro_rules | `(tactic| walk_at "go") => `(tactic| repeat (walk_at "st"))
section
variable {b : Bk} {s : Sg} {t : Nat} {n : Str} {h : Hd} {Q : DK} {E : DX} {m r : Addr} {ds : List Deed} {past : List D}
theorem shaped_pl {p : PyData} {w d : Nat} (a : Pl p w d) (hd : d ≤ 60) : SeqAt.shaped p = true := by
  unfold SeqAt.shaped
  rw [a.can, Bool.true_and]
  exact decide_eq_true (by have := a.dp; omega)
/-- == of two of one data -/
theorem v_eqP {x y : D} {p : PyData} {w d : Nat} (hx : ∀ i, x ≠ .str i) (e1 : pd h x = some p) (e2 : pd h y = some p) (a : Pl p w d) (hd : d ≤ 60) (q : Q (.bl true) h) : wEq x y h Q := by
  have z : onP h x y fun p q => Q (.bl (PyData.eqv p q)) h := onP_of e1 e2 (shaped_pl a hd) (shaped_pl a hd) (by rw [eqv_refl a.can]; exact q)
  unfold wEq
  split
  · rename_i i j; exact absurd rfl (hx i)
  · exact z
theorem lists_pl (o : b.Ok) : Pl (.tuple (b.lists.map fun l => .tuple (l.map .str))) (16001 * b.lists.length) 2 := by
  refine (Pls.all (w := 16000) (d := 1) fun l hl => ?_).tup
  obtain ⟨i, hi, e⟩ := List.mem_iff_getElem.mp hl
  have hi2 : i < b.people.length := by rw [← o.lst.len]; exact hi
  obtain ⟨_, h2, h3⟩ := o.lst.ok i b.people[i] l (List.getElem?_eq_getElem hi2) (by rw [List.getElem?_eq_getElem hi, e])
  exact (names_pl o (l := l) fun x hx => (h2 x hx).1).tup.mono (by omega) (by omega)
theorem pdFs_lD (g : Addr → Option PyData) : ∀ ls : List (List Str), pdFs g (lD ls) = some (ls.map fun l => .tuple (l.map .str))
  | [] => rfl
  | l :: ls => by
    show (match pdF g (.tup (sD l)), pdFs g (lD ls) with | some p, some ps => some (p :: ps) | _, _ => none) = _
    rw [pdF_sD, pdFs_lD]; rfl
theorem s_parts (q : Q (.tup [.tup (sD b.people), .str b.first, .tup (lD b.lists)]) h) : W_parts_of [b.D] h Q E := by
  refine e_fn [some b.D] rfl ?_
  unfold w_parts_of
  walk_at "go"
  refine s_check_book ?_
  walk_at "go"
  exact f_q q
theorem s_Book_eq (o : b.Ok) (q : Q (.bl true) h) : W_Book___eq__ [b.D, b.D] h Q E := by
  refine e_fn [some b.D, some b.D] rfl ?_
  unfold w_Book___eq__
  walk_at "go"
  refine s_parts ?_
  walk_at "go"
  refine s_parts ?_
  walk_at "go"
  refine v_eqP (p := .tuple [.tuple (b.people.map .str), .str b.first, .tuple (b.lists.map fun l => .tuple (l.map .str))]) (fun _ w => by cases w) ?_ ?_ (Pls.cons ((names_pl o (l := b.people) fun x hx => hx).tup.mono (Nat.le_refl _) (show 1 ≤ 2 by decide)) (Pls.cons (Pl.str (w := 3) (six_ok _ (o.ppl.mem o.fst)) (six_size _ (o.ppl.mem o.fst))) (Pls.cons (lists_pl o) Pls.nil))).tup (by decide) (f_q q)
  · show pdF _ (.tup _) = _
    simp only [pdF, pdFs, pdFs_s, pdFs_lD, Option.map_some]
  · show pdF _ (.tup _) = _
    simp only [pdF, pdFs, pdFs_s, pdFs_lD, Option.map_some]
/-- == of two tuples of deeds -/
theorem v_eqTT {ds2 : List Deed} (o : b.Ok) (hd : ∀ d ∈ ds, d.Ok b) (hd2 : ∀ d ∈ ds2, d.Ok b) (q : Q (.bl (PyData.eqv (.tuple (ds.map Deed.P)) (.tuple (ds2.map Deed.P)))) h) : wEq (.tup (ds.map Deed.D)) (.tup (ds2.map Deed.D)) h Q := by
  have z : onP h (.tup (ds.map Deed.D)) (.tup (ds2.map Deed.D)) fun p q => Q (.bl (PyData.eqv p q)) h := onP_of (p := .tuple (ds.map Deed.P)) (q := .tuple (ds2.map Deed.P))
    (by show pdF _ (.tup _) = _; simp only [pdF, pdFs_deeds, Option.map_some]) (by show pdF _ (.tup _) = _; simp only [pdF, pdFs_deeds, Option.map_some]) (shaped_pl (deeds_pl o hd) (by decide)) (shaped_pl (deeds_pl o hd2) (by decide)) q
  exact z
theorem s_Morning_eqG {m2 r2 : Addr} {s2 : Sg} {ds2 : List Deed} (o : b.Ok) (hd : ∀ d ∈ ds, d.Ok b) (hd2 : ∀ d ∈ ds2, d.Ok b) (h1 : h m = some (.oi "Morning" (mor b s ds r))) (h2 : h m2 = some (.oi "Morning" (mor b s2 ds2 r2))) (q : Q (.bl (PyData.eqv (.tuple (ds.map Deed.P)) (.tuple (ds2.map Deed.P)))) h) : W_Morning___eq__ [.ref m, .ref m2] h Q E := by
  refine e_fn [some (.ref m), some (.ref m2)] rfl ?_
  unfold w_Morning___eq__
  walk_at "go"
  refine v_isi (t := .inr "Morning") (k := true) (by show tyD h (.ref m2) = _; unfold tyD; simp only [h2]) (by decide) ?_
  walk_at "go"
  refine v_insR h1 ?_
  walk_at "go"
  refine v_insR h2 ?_
  walk_at "go"
  refine v_own ⟨_, rfl⟩ ⟨_, rfl⟩ (s_Book_eq o ⟨⟨_, rfl⟩, ?_⟩)
  walk_at "go"
  refine v_insR h1 ?_
  walk_at "go"
  refine v_insR h2 ?_
  walk_at "go"
  exact v_eqTT o hd hd2 (f_q q)
end

end K78
end
section
set_option Elab.async false
set_option linter.all false
set_option maxRecDepth 100000
set_option maxHeartbeats 4000000
open PySem PySem.Spec L2 DL
namespace K78
local macro_rules | `(tactic| walk_at "st") => `(tactic| first
  | with_reducible refine c_seq ?_
  | with_reducible refine c_var (by with_unfolding_all exact rfl) ?_
  | with_reducible refine c_d2 ?_
  | with_reducible refine c_cons ?_
  | with_reducible refine c_nil ?_
  | with_reducible refine c_dL ?_
  | with_reducible refine c_call ?_
  | with_reducible refine c_int ?_
  | with_reducible refine c_str ?_
  | with_reducible refine c_bl ?_
  | with_reducible refine c_non ?_
  | with_reducible refine c_c ?_
  | with_reducible refine c_if ?_
  | with_reducible refine c_test ?_
  | with_reducible refine c_exb ?_
  | with_reducible refine c_tt ?_
  | with_reducible refine c_ff ?_
  | with_reducible refine c_nt ?_
  | with_reducible refine c_nf ?_
  | with_reducible refine c_ret ?_
  | with_reducible refine i_tup ?_
  | with_reducible refine i_fl ?_
  | with_reducible refine i_str ?_
  | with_reducible refine i_fd ?_
  | with_reducible refine c_sz (by with_unfolding_all exact rfl) ?_
  | with_reducible refine i_enumT ?_
  | with_reducible refine c_set ?_
  | with_reducible refine c_next ?_
  | with_reducible refine c_expr ?_
  | with_reducible refine c_fld ?_
  | with_reducible refine c_andT ?_
  | with_reducible refine c_orT ?_
  | with_reducible refine c_notT ?_
  | with_reducible refine c_and ?_
  | with_reducible refine c_or ?_
  | with_reducible refine c_not ?_
  | with_reducible refine c_ite ?_
  | with_reducible refine c_tup ?_
  | with_reducible refine c_lst ?_
  | with_reducible refine c_dM ?_
  | with_reducible refine c_met ?_
  | with_reducible refine c_new ?_
  | with_reducible refine c_sl ?_
  | with_reducible refine c_noP ?_
  | with_reducible refine c_part ?_
  | with_reducible refine c_chain ?_
  | with_reducible refine c_d1 ?_
  | with_reducible refine c_asg ?_
  | with_reducible refine c_par ?_
  | with_reducible refine c_par3 ?_
  | with_reducible refine v_par3 ?_
  | with_reducible refine c_raise ?_
  | with_reducible refine c_for ?_
  | with_reducible refine c_sfld ?_
  | with_reducible refine c_retN ?_
  | with_reducible refine c_gNm ?_
  | with_reducible refine c_gN ?_
  | with_reducible refine c_gC ?_
  | with_reducible refine c_gT (by with_unfolding_all exact rfl) ?_
  | with_reducible refine c_gSb ?_
  | with_reducible refine c_iAny ?_
  | with_reducible refine c_range1 ?_
  | with_reducible refine c_comp ?_
  | with_reducible refine c_enum ?_
  | with_reducible refine c_yes ?_
  | with_reducible refine c_st1 ?_
  | with_reducible refine c_tryAs ?_
  | with_reducible refine c_xf ?_
  | with_reducible refine c_hof ?_
  | with_reducible refine c_copyItems ?_
  | with_reducible refine c_lenSet ?_
  | with_reducible refine c_dict0 ?_
  | with_reducible refine v_onTb ?_
  | with_reducible refine v_onI ?_
  | with_reducible refine v_lt ?_
  | with_reducible refine v_gt ?_
  | with_reducible refine v_le ?_
  | with_reducible refine v_ge ?_
  | with_reducible refine v_eqI ?_
  | with_reducible refine v_neI ?_
  | with_reducible refine v_eqS ?_
  | with_reducible refine v_neS ?_
  | with_reducible refine v_add ?_
  | with_reducible refine v_sub ?_
  | with_reducible refine v_neg ?_
  | with_reducible refine v_mod (by decide) ?_
  | with_reducible refine v_int ?_
  | with_reducible refine v_isN ?_
  | with_reducible refine v_notN ?_
  | with_reducible refine v_insF ?_
  | with_reducible refine v_onO (by with_unfolding_all exact rfl) ?_
  | with_reducible refine v_kind (by with_unfolding_all exact rfl) ?_
  | with_reducible refine v_tupleT ?_
  | with_reducible refine v_tupleF ?_
  | with_reducible refine v_lenT ?_
  | with_reducible refine v_lenF ?_
  | with_reducible refine v_slT ?_
  | with_reducible refine v_ix (by with_unfolding_all exact rfl) ?_
  | with_reducible refine v_get1 ?_
  | with_reducible refine v_get2 ?_
  | with_reducible refine v_inD ?_
  | with_reducible refine v_notInD ?_
  | with_reducible refine v_max ?_
  | with_reducible refine v_min ?_
  | with_reducible refine v_isi (k := true) (by with_unfolding_all exact rfl) (by decide) ?_
  | with_reducible refine v_isi (k := false) (by with_unfolding_all exact rfl) (by decide) ?_
  | with_reducible refine ⟨rfl, ?_⟩)
local macro_rules | `(tactic| walk_at "go") => `(tactic| repeat (walk_at "st"))
/-! ### runs of deeds -/
def runD (b : Bk) (ds : List Deed) : Sg := ds.foldl (behind b) (begun b)
def pre (b : Bk) (ds : List Deed) : List Sg := (List.range ds.length).map fun k => runD b (ds.take k)
theorem runD_snoc (b : Bk) (ds : List Deed) (d : Deed) : runD b (ds ++ [d]) = behind b (runD b ds) d := by unfold runD; rw [List.foldl_append]; rfl
theorem pre_len (b : Bk) (ds : List Deed) : (pre b ds).length = ds.length := by unfold pre; rw [List.length_map, List.length_range]
theorem pre_snoc (b : Bk) (ds : List Deed) (d : Deed) : pre b (ds ++ [d]) = pre b ds ++ [runD b ds] := by
  unfold pre
  rw [List.length_append, List.length_singleton, List.range_succ, List.map_append]
  congr 1
  · refine List.map_congr_left fun k hk => ?_
    rw [List.take_append_of_le_length (Nat.le_of_lt (List.mem_range.mp hk))]
  · rw [List.map_singleton, List.take_left]
inductive Good (b : Bk) : List Deed → Prop
  | nil : Good b []
  | snoc {ds : List Deed} {d : Deed} : Good b ds → d.Ok b → reason b (runD b ds) d = none → Good b (ds ++ [d])
theorem Good.at {b : Bk} {ds : List Deed} (g : Good b ds) : ∀ {k : Nat} {d : Deed}, ds[k]? = some d → d.Ok b ∧ Good b (ds.take k) ∧ reason b (runD b (ds.take k)) d = none := by
  induction g with
  | nil => intro k d e; cases e
  | snoc g hd hz ih =>
    rename_i ds d
    intro k d' e
    rcases Nat.lt_or_ge k ds.length with z | z
    · rw [List.getElem?_append_left z] at e
      rw [List.take_append_of_le_length (Nat.le_of_lt z)]
      exact ih e
    · rw [List.getElem?_append_right z] at e
      have k0 : k - ds.length = 0 := by
        have := (List.getElem?_eq_some_iff.mp e).1
        rw [List.length_singleton] at this
        omega
      have k1 : k = ds.length := by omega
      subst k1
      rw [Nat.sub_self] at e
      cases e
      rw [List.take_left]
      exact ⟨hd, g, hz⟩
theorem Good.sok {b : Bk} {ds : List Deed} (o : b.Ok) (g : Good b ds) : SOk b (runD b ds) ds.length := by
  induction g with
  | nil => exact ok_begun o
  | snoc g hd hz ih => rw [runD_snoc, List.length_append]; exact ok_behind o ih hd hz
theorem Good.oks {b : Bk} {ds : List Deed} (g : Good b ds) : ∀ d ∈ ds, d.Ok b := fun d hd => by
  obtain ⟨k, _, e⟩ := List.mem_iff_getElem.mp hd
  exact (g.at (k := k) (List.getElem?_eq_some_iff.mpr ⟨by assumption, e⟩)).1
theorem i_refL {h : Hd} {p : Addr} {ρ : DL.Env} {xs : List D} {R : List D → (Hd → Prop) → Hd → Prop} (e : h p = some (.ol xs)) (q : R xs (fun h => h p = some (.ol xs)) h) : anyK (.ref p) ρ h R := by
  unfold anyK kvsOf
  simp only [e]
  show iSeq (dC (.ref p)) ρ h R
  unfold iSeq dC
  simp only [e]
  exact q
theorem insR {h : Hd} {p : Addr} {k : Str} {fs : List (Str × D)} (e : h p = some (.oi k fs)) : insC h k (.ref p) := ⟨fs, by unfold insOf; simp only [e]⟩
theorem c_seqJ {w1 w2 : DS} {nx bk ct : DL.Env → Hd → Prop} {rt : DK} {ρ : DL.Env} {h : Hd} (P : DL.Env → Hd → Prop) (h2 : ∀ ρ h, P ρ h → w2 ⟨nx, rt, bk, ct⟩ ρ h) (q : ∀ N : DL.Env → Hd → Prop, (∀ ρ h, P ρ h → N ρ h) → w1 ⟨N, rt, bk, ct⟩ ρ h) : dSeq w1 w2 ⟨nx, rt, bk, ct⟩ ρ h := q _ h2

/-! ### objects that stand apart -/
structure Rg (h g : Hd) (L : List (Addr × O)) : Prop where
  all : ∀ x ∈ L, g x.1 = some x.2
  nd : (L.map (·.1)).Nodup
  fr : ∀ x ∈ L, h x.1 = none
  sub : ∀ a o, h a = some o → g a = some o
section
variable {h g : Hd} {L L1 L2 : List (Addr × O)} {a : Addr} {o o' : O}
theorem Rg.get (R : Rg h g L) {k : Nat} (e : L[k]? = some (a, o)) : g a = some o := R.all _ (List.mem_of_getElem? e)
theorem Rg.fresh (R : Rg h g L) (ha : g a = none) : h a = none := by
  cases z : h a with
  | none => rfl
  | some o => have := R.sub a o z; rw [ha] at this; cases this
theorem Rg.new (R : Rg h g L) (ha : g a = none) : Rg h (hup g a o) ((a, o) :: L) := by
  have n : ∀ x ∈ L, x.1 ≠ a := fun x hx z => by have := R.all x hx; rw [z, ha] at this; cases this
  refine ⟨fun x hx => ?_, ?_, fun x hx => ?_, sub_up (R.fresh ha) R.sub⟩
  · rcases List.mem_cons.mp hx with rfl | z
    · exact hup_same
    · rw [hup_ne (n x z)]; exact R.all x z
  · rw [List.map_cons, List.nodup_cons]
    refine ⟨fun z => ?_, R.nd⟩
    obtain ⟨x, hx, e⟩ := List.mem_map.mp z
    exact n x hx e
  · rcases List.mem_cons.mp hx with rfl | z
    · exact R.fresh ha
    · exact R.fr x z
theorem Rg.perm (R : Rg h g L) (p : L.Perm L1) : Rg h g L1 :=
  ⟨fun x hx => R.all x (p.mem_iff.mpr hx), (p.map _).nodup_iff.mp R.nd, fun x hx => R.fr x (p.mem_iff.mpr hx), R.sub⟩
theorem Rg.put (R : Rg h g ((a, o) :: L)) : Rg h (hup g a o') ((a, o') :: L) := by
  have nd := R.nd
  rw [List.map_cons, List.nodup_cons] at nd
  have n : ∀ x ∈ L, x.1 ≠ a := fun x hx z => nd.1 (List.mem_map.mpr ⟨x, hx, z⟩)
  refine ⟨fun x hx => ?_, R.nd, fun x hx => ?_, sub_up (R.fr (a, o) (List.mem_cons_self ..)) R.sub⟩
  · rcases List.mem_cons.mp hx with rfl | z
    · exact hup_same
    · rw [hup_ne (n x z)]; exact R.all x (List.mem_cons_of_mem _ z)
  · rcases List.mem_cons.mp hx with rfl | z
    · exact R.fr (a, o) (List.mem_cons_self ..)
    · exact R.fr x (List.mem_cons_of_mem _ z)
theorem Rg.putM (R : Rg h g (L1 ++ (a, o) :: L2)) : Rg h (hup g a o') (L1 ++ (a, o') :: L2) :=
  ((R.perm List.perm_middle).put (o' := o')).perm List.perm_middle.symm
theorem Rg.drop (R : Rg h g (L1 ++ L2)) : Rg h g L2 := by
  have nd := R.nd
  rw [List.map_append] at nd
  exact ⟨fun x hx => R.all x (List.mem_append_right _ hx), (List.nodup_append.mp nd).2.1, fun x hx => R.fr x (List.mem_append_right _ hx), R.sub⟩
theorem Rg.ne (R : Rg h g L) {i j : Nat} {x y : Addr × O} (e1 : L[i]? = some x) (e2 : L[j]? = some y) (n : i ≠ j) : x.1 ≠ y.1 := fun z => by
  obtain ⟨h1, e1⟩ := List.getElem?_eq_some_iff.mp e1
  obtain ⟨h2, e2⟩ := List.getElem?_eq_some_iff.mp e2
  have e : (L.map (·.1))[i]'(by rw [List.length_map]; exact h1) = (L.map (·.1))[j]'(by rw [List.length_map]; exact h2) := by rw [List.getElem_map, List.getElem_map, e1, e2]; exact z
  exact n ((List.getElem_inj R.nd).mp e)
end
/-! ### a morning among others -/
structure Mo where
  m : Addr
  r : Addr
  b : Bk
  ds : List Deed
noncomputable abbrev Mo.s (x : Mo) : Sg := runD x.b x.ds
noncomputable abbrev Mo.L (x : Mo) : List (Addr × O) := [(x.r, .ol ((pre x.b x.ds).map Sg.D)), (x.m, .oi "Morning" (mor x.b x.s x.ds x.r))]
theorem Mo.hm {h g : Hd} {x : Mo} {L1 L2 : List (Addr × O)} (R : Rg h g (L1 ++ (x.L ++ L2))) : HM g x.m x.r x.b x.s x.ds ((pre x.b x.ds).map Sg.D) := by
  have R := R.drop
  exact ⟨R.get (k := 1) rfl, R.get (k := 0) rfl, R.ne (i := 0) (j := 1) rfl rfl (by decide)⟩
abbrev Mo.doit (x : Mo) (d : Deed) : Mo := { x with ds := x.ds ++ [d] }
theorem Mo.did {h g : Hd} {x : Mo} {L1 L2 : List (Addr × O)} (R : Rg h g (L1 ++ (x.L ++ L2))) (d : Deed) :
    Rg h (hup (hup g x.r (.ol ((pre x.b x.ds).map Sg.D ++ [x.s.D]))) x.m (.oi "Morning" (mor x.b (behind x.b x.s d) (x.ds ++ [d]) x.r))) (L1 ++ ((x.doit d).L ++ L2)) := by
  have R2 := Rg.putM (o' := .ol ((pre x.b x.ds).map Sg.D ++ [x.s.D])) (show Rg h g (L1 ++ (x.r, .ol ((pre x.b x.ds).map Sg.D)) :: ((x.m, .oi "Morning" (mor x.b x.s x.ds x.r)) :: L2)) from R)
  have R3 : Rg h (hup g x.r (.ol ((pre x.b x.ds).map Sg.D ++ [x.s.D]))) ((L1 ++ [(x.r, .ol ((pre x.b x.ds).map Sg.D ++ [x.s.D]))]) ++ (x.m, .oi "Morning" (mor x.b x.s x.ds x.r)) :: L2) := by rw [List.append_assoc]; exact R2
  have R4 := R3.putM (o' := .oi "Morning" (mor x.b (behind x.b x.s d) (x.ds ++ [d]) x.r))
  rw [List.append_assoc] at R4
  have e1 : runD x.b (x.ds ++ [d]) = behind x.b x.s d := runD_snoc x.b x.ds d
  have e2 : (pre x.b (x.ds ++ [d])).map Sg.D = (pre x.b x.ds).map Sg.D ++ [x.s.D] := by rw [pre_snoc, List.map_append]; rfl
  show Rg h _ (L1 ++ ([(x.r, .ol ((pre x.b (x.ds ++ [d])).map Sg.D)), (x.m, .oi "Morning" (mor x.b (runD x.b (x.ds ++ [d])) (x.ds ++ [d]) x.r))] ++ L2))
  rw [e1, e2]
  exact R4
/-! ### what was kept -/
structure Ent where
  q : Addr
  w : Addr
  b : Bk
  s : Sg
  ds : List Deed
noncomputable abbrev Ent.P (e : Ent) : PyData := .list [.list (toldP e.b e.s), .tuple (e.ds.map Deed.P)]
noncomputable abbrev Ent.D (e : Ent) : D := .tup [.ref e.q, .str e.P.shown]
noncomputable abbrev Ent.L (e : Ent) : List (Addr × O) := [(e.q, .ol [.ref e.w, .tup (e.ds.map Deed.D)]), (e.w, .ol (toldL e.b e.s))]
theorem Ent.pd {h g : Hd} {e : Ent} {L1 L2 : List (Addr × O)} (R : Rg h g (L1 ++ (e.L ++ L2))) : DL.pd g (.ref e.q) = some e.P := by
  have R := R.drop
  show pdG g 3 e.q = _
  have e1 := R.get (k := 0) rfl
  have e2 := R.get (k := 1) rfl
  simp only [pdG, pdFs, pdF, e1, e2, pdFs_told, pdFs_deeds, Option.map_some]
theorem Rg.putC {h g : Hd} {A B C1 C2 : List (Addr × O)} {a : Addr} {o o' : O} (R : Rg h g (A ++ (B ++ (C1 ++ (a, o) :: C2)))) : Rg h (hup g a o') (A ++ (B ++ (C1 ++ (a, o') :: C2))) := by
  have R1 : Rg h g ((A ++ (B ++ C1)) ++ (a, o) :: C2) := by simpa [List.append_assoc] using R
  simpa [List.append_assoc] using R1.putM (o' := o')
theorem c_lcY {i : Nat} {te : DE} {chk : Hd → Prop} {p : Addr} {Q : Hd → Prop} {ρ0 : DL.Env} {d : D} {ds : List D} {h : Hd} (c : chk h) (q : te (ρ0.set i (some d)) h fun y h3 => onOl h3 (.ref p) fun _ acc => SZ (acc.length + 1) ∧ dLcL (st1 i) dYes te chk p Q ρ0 ds (hup h3 p (.ol (acc ++ [y])))) : dLcL (st1 i) dYes te chk p Q ρ0 (d :: ds) h := ⟨c, q⟩
theorem c_lcN {st : D → DL.Env → (DL.Env → Prop) → Prop} {tt : DT} {te : DE} {chk : Hd → Prop} {p : Addr} {Q : Hd → Prop} {ρ0 : DL.Env} {h : Hd} (c : chk h) (q : Q h) : dLcL st tt te chk p Q ρ0 [] h := ⟨c, q⟩

noncomputable abbrev fixd (p kp f md st ml : Addr) (mos : List Mo) (ents : List Ent) (pool : List D) : List (Addr × O) := [(ml, .ol (mos.map fun x => .ref x.m)), (st, .ol (mos.map fun x => x.s.T)), (md, .ol (mos.map fun x => x.b.D)), (f, .ol (mos.map fun x => x.b.T)), (kp, .ol (ents.reverse.map Ent.D)), (p, .ol pool)]
noncomputable abbrev all3 (p kp f md st ml : Addr) (mos : List Mo) (ents : List Ent) (pool : List D) : List (Addr × O) := ents.flatMap Ent.L ++ (mos.reverse.flatMap Mo.L ++ fixd p kp f md st ml mos ents pool)
section
variable {h g : Hd} {p kp f md st ml : Addr} {mos A B : List Mo} {ents : List Ent} {pool : List D} {x : Mo}
theorem A3.g_ml (R : Rg h g (all3 p kp f md st ml mos ents pool)) : g ml = some (.ol (mos.map fun x => .ref x.m)) := R.drop.drop.get (k := 0) rfl
theorem A3.g_st (R : Rg h g (all3 p kp f md st ml mos ents pool)) : g st = some (.ol (mos.map fun x => x.s.T)) := R.drop.drop.get (k := 1) rfl
theorem A3.g_md (R : Rg h g (all3 p kp f md st ml mos ents pool)) : g md = some (.ol (mos.map fun x => x.b.D)) := R.drop.drop.get (k := 2) rfl
theorem A3.g_f (R : Rg h g (all3 p kp f md st ml mos ents pool)) : g f = some (.ol (mos.map fun x => x.b.T)) := R.drop.drop.get (k := 3) rfl
theorem A3.g_kp (R : Rg h g (all3 p kp f md st ml mos ents pool)) : g kp = some (.ol (ents.reverse.map Ent.D)) := R.drop.drop.get (k := 4) rfl
theorem A3.g_p (R : Rg h g (all3 p kp f md st ml mos ents pool)) : g p = some (.ol pool) := R.drop.drop.get (k := 5) rfl
theorem A3.g_pool {pool' : List D} (R : Rg h g (all3 p kp f md st ml mos ents pool)) : Rg h (hup g p (.ol pool')) (all3 p kp f md st ml mos ents pool') :=
  Rg.putC (C1 := [(ml, .ol (mos.map fun x => .ref x.m)), (st, .ol (mos.map fun x => x.s.T)), (md, .ol (mos.map fun x => x.b.D)), (f, .ol (mos.map fun x => x.b.T)), (kp, .ol (ents.reverse.map Ent.D))]) (C2 := []) R
theorem A3.split (R : Rg h g (all3 p kp f md st ml (A ++ x :: B) ents pool)) : Rg h g ((ents.flatMap Ent.L ++ B.reverse.flatMap Mo.L) ++ (x.L ++ (A.reverse.flatMap Mo.L ++ fixd p kp f md st ml (A ++ x :: B) ents pool))) := by
  have e : (A ++ x :: B).reverse.flatMap Mo.L = B.reverse.flatMap Mo.L ++ (x.L ++ A.reverse.flatMap Mo.L) := by
    rw [List.reverse_append, List.reverse_cons, List.flatMap_append, List.flatMap_append, List.flatMap_cons, List.flatMap_nil, List.append_nil, List.append_assoc]
  have R : Rg h g (ents.flatMap Ent.L ++ ((A ++ x :: B).reverse.flatMap Mo.L ++ fixd p kp f md st ml (A ++ x :: B) ents pool)) := R
  rw [e] at R
  rw [List.append_assoc]
  rw [List.append_assoc, List.append_assoc] at R
  exact R
theorem A3.join {L : List (Addr × O)} {y : Mo} (R : Rg h g ((ents.flatMap Ent.L ++ B.reverse.flatMap Mo.L) ++ (y.L ++ (A.reverse.flatMap Mo.L ++ L)))) : Rg h g (ents.flatMap Ent.L ++ ((A ++ y :: B).reverse.flatMap Mo.L ++ L)) := by
  have e : (A ++ y :: B).reverse.flatMap Mo.L = B.reverse.flatMap Mo.L ++ (y.L ++ A.reverse.flatMap Mo.L) := by
    rw [List.reverse_append, List.reverse_cons, List.flatMap_append, List.flatMap_append, List.flatMap_cons, List.flatMap_nil, List.append_nil, List.append_assoc]
  rw [e, List.append_assoc, List.append_assoc]
  rw [List.append_assoc] at R
  exact R
theorem A3.hm (R : Rg h g (all3 p kp f md st ml (A ++ x :: B) ents pool)) : HM g x.m x.r x.b x.s x.ds ((pre x.b x.ds).map Sg.D) := Mo.hm (A3.split R)
/-- a deed done by one of the mornings, before the states are told -/
theorem A3.did (R : Rg h g (all3 p kp f md st ml (A ++ x :: B) ents pool)) (d : Deed) :
    Rg h (hup (hup g x.r (.ol ((pre x.b x.ds).map Sg.D ++ [x.s.D]))) x.m (.oi "Morning" (mor x.b (behind x.b x.s d) (x.ds ++ [d]) x.r))) (ents.flatMap Ent.L ++ ((A ++ x.doit d :: B).reverse.flatMap Mo.L ++ fixd p kp f md st ml (A ++ x :: B) ents pool)) :=
  A3.join (Mo.did (A3.split R) d)
theorem A3.told {d : Deed} (R : Rg h g (ents.flatMap Ent.L ++ ((A ++ x.doit d :: B).reverse.flatMap Mo.L ++ fixd p kp f md st ml (A ++ x :: B) ents pool))) :
    Rg h (hup g st (.ol (((A ++ x :: B).map fun x => x.s.T).set A.length (behind x.b x.s d).T))) (all3 p kp f md st ml (A ++ x.doit d :: B) ents pool) := by
  have R1 := Rg.putC (o' := .ol ((A ++ x.doit d :: B).map fun x => x.s.T)) (C1 := [(ml, .ol ((A ++ x :: B).map fun x => .ref x.m))]) (C2 := [(md, .ol ((A ++ x :: B).map fun x => x.b.D)), (f, .ol ((A ++ x :: B).map fun x => x.b.T)), (kp, .ol (ents.reverse.map Ent.D)), (p, .ol pool)]) R
  have e : ((A ++ x :: B).map fun x => x.s.T).set A.length (behind x.b x.s d).T = (A ++ x.doit d :: B).map fun x => x.s.T := by
    rw [List.map_append, List.map_append, List.map_cons, List.map_cons]
    have : A.length = (A.map fun x => x.s.T).length := by rw [List.length_map]
    rw [this, List.set_append_right _ _ (Nat.le_refl _), Nat.sub_self, List.set_cons_zero]
    show _ ++ (behind x.b x.s d).T :: _ = _ ++ (runD x.b (x.ds ++ [d])).T :: _
    rw [runD_snoc]
  rw [e]
  have e1 : ((A ++ x.doit d :: B).map fun x => (.ref x.m : D)) = (A ++ x :: B).map fun x => .ref x.m := by simp
  have e2 : ((A ++ x.doit d :: B).map fun x => x.b.D) = (A ++ x :: B).map fun x => x.b.D := by simp
  have e3 : ((A ++ x.doit d :: B).map fun x => x.b.T) = (A ++ x :: B).map fun x => x.b.T := by simp
  show Rg h _ (ents.flatMap Ent.L ++ ((A ++ x.doit d :: B).reverse.flatMap Mo.L ++ [(ml, .ol ((A ++ x.doit d :: B).map fun x => .ref x.m)), (st, .ol ((A ++ x.doit d :: B).map fun x => x.s.T)), (md, .ol ((A ++ x.doit d :: B).map fun x => x.b.D)), (f, .ol ((A ++ x.doit d :: B).map fun x => x.b.T)), (kp, .ol (ents.reverse.map Ent.D)), (p, .ol pool)]))
  rw [e1, e2, e3]
  exact R1
/-- a look kept -/
theorem A3.kept {w q : Addr} {s : Sg} {b : Bk} {ds : List Deed} (R : Rg h g (all3 p kp f md st ml mos ents pool)) (hw : g w = none) (hq : hup g w (.ol (toldL b s)) q = none) :
    Rg h (hup (hup (hup g w (.ol (toldL b s))) q (.ol [.ref w, .tup (ds.map Deed.D)])) kp (.ol (ents.reverse.map Ent.D ++ [(⟨q, w, b, s, ds⟩ : Ent).D]))) (all3 p kp f md st ml mos (⟨q, w, b, s, ds⟩ :: ents) pool) := by
  have R1 : Rg h (hup (hup g w (.ol (toldL b s))) q (.ol [.ref w, .tup (ds.map Deed.D)])) ((⟨q, w, b, s, ds⟩ : Ent).L ++ all3 p kp f md st ml mos ents pool) := (R.new hw).new hq
  have R2 : Rg h (hup (hup g w (.ol (toldL b s))) q (.ol [.ref w, .tup (ds.map Deed.D)])) (((⟨q, w, b, s, ds⟩ :: ents : List Ent).flatMap Ent.L) ++ (mos.reverse.flatMap Mo.L ++ fixd p kp f md st ml mos ents pool)) := by
    rw [List.flatMap_cons, List.append_assoc]; exact R1
  have R3 := Rg.putC (o' := .ol (ents.reverse.map Ent.D ++ [(⟨q, w, b, s, ds⟩ : Ent).D])) (C1 := [(ml, .ol (mos.map fun x => .ref x.m)), (st, .ol (mos.map fun x => x.s.T)), (md, .ol (mos.map fun x => x.b.D)), (f, .ol (mos.map fun x => x.b.T))]) (C2 := [(p, .ol pool)]) R2
  have e : (⟨q, w, b, s, ds⟩ :: ents : List Ent).reverse.map Ent.D = ents.reverse.map Ent.D ++ [(⟨q, w, b, s, ds⟩ : Ent).D] := by rw [List.reverse_cons, List.map_append]; rfl
  show Rg h _ ((⟨q, w, b, s, ds⟩ :: ents : List Ent).flatMap Ent.L ++ (mos.reverse.flatMap Mo.L ++ [(ml, .ol (mos.map fun x => .ref x.m)), (st, .ol (mos.map fun x => x.s.T)), (md, .ol (mos.map fun x => x.b.D)), (f, .ol (mos.map fun x => x.b.T)), (kp, .ol ((⟨q, w, b, s, ds⟩ :: ents : List Ent).reverse.map Ent.D)), (p, .ol pool)]))
  rw [e]
  exact R3
theorem A3.ent {e : Ent} (R : Rg h g (all3 p kp f md st ml mos ents pool)) (he : e ∈ ents) : DL.pd g (.ref e.q) = some e.P := by
  obtain ⟨L1, L2, rfl⟩ := List.append_of_mem he
  have R : Rg h g ((L1 ++ e :: L2).flatMap Ent.L ++ (mos.reverse.flatMap Mo.L ++ fixd p kp f md st ml mos (L1 ++ e :: L2) pool)) := R
  rw [List.flatMap_append, List.flatMap_cons, List.append_assoc, List.append_assoc] at R
  exact Ent.pd R
end

theorem lc_none {st : D → DL.Env → (DL.Env → Prop) → Prop} {tt : DT} {te : DE} {chk : Hd → Prop} {p : Addr} {Q : Hd → Prop} {ρ0 : DL.Env} {h : Hd} (hc : chk h) : ∀ ds : List D,
    (∀ d ∈ ds, ∀ (Y : DL.Env → Hd → Prop) (N : Hd → Prop), N h → st d ρ0 fun ρ1 => tt ρ1 h fun b h2 => if b = true then Y ρ1 h2 else N h2) → Q h → dLcL st tt te chk p Q ρ0 ds h
  | [], _, q => ⟨hc, q⟩
  | d :: ds, H, q => ⟨hc, H d (List.mem_cons_self ..) (fun ρ1 h2 => te ρ1 h2 fun y h3 => onOl h3 (.ref p) fun _ acc => SZ (acc.length + 1) ∧ dLcL st tt te chk p Q ρ0 ds (hup h3 p (.ol (acc ++ [y])))) (fun h2 => dLcL st tt te chk p Q ρ0 ds h2) (lc_none hc ds (fun d hd => H d (List.mem_cons_of_mem _ hd)) q)⟩
theorem v_neP {x y : D} {p : PyData} {w d : Nat} {h : Hd} {Q : DK} (hx : ∀ i, x ≠ .str i) (e1 : DL.pd h x = some p) (e2 : DL.pd h y = some p) (a : Pl p w d) (hd : d ≤ 60) (q : Q (.bl false) h) : wNe x y h Q := by
  have z : onP h x y fun p q => Q (.bl (!PyData.eqv p q)) h := onP_of e1 e2 (shaped_pl a hd) (shaped_pl a hd) (by rw [eqv_refl a.can]; exact q)
  unfold wNe
  split
  · rename_i i j; exact absurd rfl (hx i)
  · exact z
theorem v_eqB {i j : Bool} {h : Hd} {Q : DK} (q : Q (.bl (decide (i = j))) h) : wEq (.bl i) (.bl j) h Q := by
  have z : onP h (.bl i) (.bl j) fun p q => Q (.bl (PyData.eqv p q)) h := onP_of (p := .bool i) (q := .bool j) rfl rfl rfl rfl (by
    have e : PyData.eqv (.bool i) (.bool j) = decide (i = j) := by unfold PyData.eqv; cases i <;> cases j <;> rfl
    rw [e]; exact q)
  exact z
theorem v_neB {i j : Bool} {h : Hd} {Q : DK} (q : Q (.bl (!decide (i = j))) h) : wNe (.bl i) (.bl j) h Q := by
  have z : onP h (.bl i) (.bl j) fun p q => Q (.bl (!PyData.eqv p q)) h := onP_of (p := .bool i) (q := .bool j) rfl rfl rfl rfl (by
    have e : PyData.eqv (.bool i) (.bool j) = decide (i = j) := by unfold PyData.eqv; cases i <;> cases j <;> rfl
    rw [e]; exact q)
  exact z
theorem v_neNN {p r : Addr} {h : Hd} {Q : DK} (e1 : h p = some (.ol [])) (e2 : h r = some (.ol [])) (q : Q (.bl false) h) : wNe (.ref p) (.ref r) h Q :=
  v_neP (p := .list []) (fun _ w => by cases w) (by show pdG h 3 p = _; simp only [pdG, e1]; rfl) (by show pdG h 3 r = _; simp only [pdG, e2]; rfl) (Pls.nil (d := 0)).lst (by decide) q
theorem A3.new {h g : Hd} {p kp f md st ml a : Addr} {mos : List Mo} {ents : List Ent} {pool : List D} {o : O} (R : Rg h g (all3 p kp f md st ml mos ents pool)) (ha : g a = none) : Rg h (hup g a o) (all3 p kp f md st ml mos ents pool) := Rg.drop (L1 := [_]) (Rg.new (o := o) R ha)
theorem Rg.one {h g : Hd} {L : List (Addr × O)} {y : Addr × O} (R : Rg h g (y :: L)) : Rg h g L := Rg.drop (L1 := [y]) R

end K78
end
section
set_option linter.all false
open PySem PySem.Spec
/-! shown tuples can be read in one way only (in wip: for k78) -/
namespace PInj
def PFx {α : Type} (P : α → Prop) (f : α → List Nat) : Prop := ∀ x y s t, P x → P y → f x ++ s = f y ++ t → x = y ∧ s = t
/-- the rest of a row of at least one -/
def hh : List (List Nat) → List Nat
  | [] => [41]
  | [y] => y ++ [41]
  | y :: z :: r => y ++ 44 :: 32 :: hh (z :: r)
/-- a tuple's text behind its bracket -/
def gg : List (List Nat) → List Nat
  | [] => [41]
  | [x] => x ++ [44, 41]
  | x :: y :: r => x ++ 44 :: 32 :: hh (y :: r)
section
variable {α : Type} {P : α → Prop} {f : α → List Nat}
theorem hh_inj (F : PFx P f) : ∀ (l m : List α) (s t : List Nat), l ≠ [] → m ≠ [] → (∀ x ∈ l, P x) → (∀ x ∈ m, P x) → hh (l.map f) ++ s = hh (m.map f) ++ t → l = m ∧ s = t
  | [], _, _, _, h, _, _, _, _ => absurd rfl h
  | _ :: _, [], _, _, _, h, _, _, _ => absurd rfl h
  | [x], [y], s, t, _, _, p, q, e => by
    simp only [List.map_cons, List.map_nil, hh, List.append_assoc] at e
    obtain ⟨rfl, e⟩ := F _ _ _ _ (p x (by simp)) (q y (by simp)) e
    simp at e
    exact ⟨rfl, e⟩
  | [x], y :: z :: r, s, t, _, _, p, q, e => by
    simp only [List.map_cons, List.map_nil, hh, List.append_assoc] at e
    obtain ⟨rfl, e⟩ := F _ _ _ _ (p x (by simp)) (q y (by simp)) e
    simp at e
  | x :: z :: r, [y], s, t, _, _, p, q, e => by
    simp only [List.map_cons, List.map_nil, hh, List.append_assoc] at e
    obtain ⟨rfl, e⟩ := F _ _ _ _ (p x (by simp)) (q y (by simp)) e
    simp at e
  | x :: z :: r, y :: w :: u, s, t, _, _, p, q, e => by
    simp only [List.map_cons, hh, List.append_assoc] at e
    obtain ⟨rfl, e⟩ := F _ _ _ _ (p x (by simp)) (q y (by simp)) e
    simp only [List.cons_append, List.cons.injEq, true_and] at e
    obtain ⟨e1, e2⟩ := hh_inj F (z :: r) (w :: u) s t (by simp) (by simp) (fun a h => p a (List.mem_cons_of_mem _ h)) (fun a h => q a (List.mem_cons_of_mem _ h)) (by simpa using e)
    exact ⟨by rw [e1], e2⟩
theorem gg_inj (F : PFx P f) (H : ∀ x, P x → ∃ c r, f x = c :: r ∧ c ≠ 41) : PFx (fun l : List α => ∀ x ∈ l, P x) fun l => gg (l.map f) := by
  intro l m s t p q e
  match l, m with
  | [], [] => simp [gg] at e; exact ⟨rfl, e⟩
  | [], [y] =>
    obtain ⟨c, r, ec, hc⟩ := H y (q y (by simp))
    simp [gg, ec] at e
    exact absurd e.1.symm hc
  | [], y :: z :: r =>
    obtain ⟨c, r', ec, hc⟩ := H y (q y (by simp))
    simp [gg, ec] at e
    exact absurd e.1.symm hc
  | [y], [] =>
    obtain ⟨c, r, ec, hc⟩ := H y (p y (by simp))
    simp [gg, ec] at e
    exact absurd e.1 hc
  | y :: z :: r, [] =>
    obtain ⟨c, r', ec, hc⟩ := H y (p y (by simp))
    simp [gg, ec] at e
    exact absurd e.1 hc
  | [x], [y] =>
    simp only [List.map_cons, List.map_nil, gg, List.append_assoc] at e
    obtain ⟨rfl, e⟩ := F _ _ _ _ (p x (by simp)) (q y (by simp)) e
    simp at e
    exact ⟨rfl, e⟩
  | [x], y :: z :: r =>
    simp only [List.map_cons, List.map_nil, gg, List.append_assoc] at e
    obtain ⟨rfl, e⟩ := F _ _ _ _ (p x (by simp)) (q y (by simp)) e
    simp at e
  | x :: z :: r, [y] =>
    simp only [List.map_cons, List.map_nil, gg, List.append_assoc] at e
    obtain ⟨rfl, e⟩ := F _ _ _ _ (p x (by simp)) (q y (by simp)) e
    simp at e
  | x :: z :: r, y :: w :: u =>
    simp only [List.map_cons, gg, List.append_assoc] at e
    obtain ⟨rfl, e⟩ := F _ _ _ _ (p x (by simp)) (q y (by simp)) e
    simp only [List.cons_append, List.cons.injEq, true_and] at e
    obtain ⟨e1, e2⟩ := hh_inj F (z :: r) (w :: u) s t (by simp) (by simp) (fun a h => p a (List.mem_cons_of_mem _ h)) (fun a h => q a (List.mem_cons_of_mem _ h)) (by simpa using e)
    exact ⟨by rw [e1], e2⟩
end
open TL in
theorem hh_join : ∀ (y : List Nat) (r : List (List Nat)), joinL [44, 32] (y :: r) ++ [41] = hh (y :: r)
  | y, [] => by simp [joinL, hh]
  | y, z :: r => by
    have := hh_join z r
    simp only [joinL, hh, List.append_assoc] at this ⊢
    rw [this]; rfl
open TL in
theorem tl_tuple (ts : List Str) : tl (PySem.tupleText ts) = 40 :: gg (ts.map tl) := by
  unfold PySem.tupleText
  rw [tl_append, tl_append, tl_join]
  match ts with
  | [] => rfl
  | [x] =>
    show [40] ++ joinL [44, 32] [tl x] ++ [44, 41] = _
    simp [joinL, gg]
  | x :: y :: r =>
    have := hh_join (tl y) (r.map tl)
    show [40] ++ joinL [44, 32] (tl x :: tl y :: r.map tl) ++ [41] = 40 :: gg (tl x :: tl y :: r.map tl)
    simp only [joinL, gg, List.append_assoc, List.cons_append, List.nil_append] at this ⊢
    rw [this]
end PInj
end
section
set_option Elab.async false
set_option linter.all false
set_option maxRecDepth 100000
set_option maxHeartbeats 4000000
open PySem PySem.Spec L2 DL
namespace K78
local macro_rules | `(tactic| walk_at "st") => `(tactic| first
  | with_reducible refine c_seq ?_
  | with_reducible refine c_var (by with_unfolding_all exact rfl) ?_
  | with_reducible refine c_d2 ?_
  | with_reducible refine c_cons ?_
  | with_reducible refine c_nil ?_
  | with_reducible refine c_dL ?_
  | with_reducible refine c_call ?_
  | with_reducible refine c_int ?_
  | with_reducible refine c_str ?_
  | with_reducible refine c_bl ?_
  | with_reducible refine c_non ?_
  | with_reducible refine c_c ?_
  | with_reducible refine c_if ?_
  | with_reducible refine c_test ?_
  | with_reducible refine c_exb ?_
  | with_reducible refine c_tt ?_
  | with_reducible refine c_ff ?_
  | with_reducible refine c_nt ?_
  | with_reducible refine c_nf ?_
  | with_reducible refine c_ret ?_
  | with_reducible refine i_tup ?_
  | with_reducible refine i_fl ?_
  | with_reducible refine i_str ?_
  | with_reducible refine i_fd ?_
  | with_reducible refine c_sz (by with_unfolding_all exact rfl) ?_
  | with_reducible refine i_enumT ?_
  | with_reducible refine c_set ?_
  | with_reducible refine c_next ?_
  | with_reducible refine c_expr ?_
  | with_reducible refine c_fld ?_
  | with_reducible refine c_andT ?_
  | with_reducible refine c_orT ?_
  | with_reducible refine c_notT ?_
  | with_reducible refine c_and ?_
  | with_reducible refine c_or ?_
  | with_reducible refine c_not ?_
  | with_reducible refine c_ite ?_
  | with_reducible refine c_tup ?_
  | with_reducible refine c_lst ?_
  | with_reducible refine c_dM ?_
  | with_reducible refine c_met ?_
  | with_reducible refine c_new ?_
  | with_reducible refine c_sl ?_
  | with_reducible refine c_noP ?_
  | with_reducible refine c_part ?_
  | with_reducible refine c_chain ?_
  | with_reducible refine c_d1 ?_
  | with_reducible refine c_asg ?_
  | with_reducible refine c_par ?_
  | with_reducible refine c_par3 ?_
  | with_reducible refine v_par3 ?_
  | with_reducible refine c_raise ?_
  | with_reducible refine c_for ?_
  | with_reducible refine c_sfld ?_
  | with_reducible refine c_retN ?_
  | with_reducible refine c_gNm ?_
  | with_reducible refine c_gN ?_
  | with_reducible refine c_gC ?_
  | with_reducible refine c_gT (by with_unfolding_all exact rfl) ?_
  | with_reducible refine c_gSb ?_
  | with_reducible refine c_iAny ?_
  | with_reducible refine c_range1 ?_
  | with_reducible refine c_comp ?_
  | with_reducible refine c_enum ?_
  | with_reducible refine c_yes ?_
  | with_reducible refine c_st1 ?_
  | with_reducible refine c_tryAs ?_
  | with_reducible refine c_xf ?_
  | with_reducible refine c_hof ?_
  | with_reducible refine c_copyItems ?_
  | with_reducible refine c_lenSet ?_
  | with_reducible refine c_dict0 ?_
  | with_reducible refine v_onTb ?_
  | with_reducible refine v_onI ?_
  | with_reducible refine v_lt ?_
  | with_reducible refine v_gt ?_
  | with_reducible refine v_le ?_
  | with_reducible refine v_ge ?_
  | with_reducible refine v_eqI ?_
  | with_reducible refine v_neI ?_
  | with_reducible refine v_eqS ?_
  | with_reducible refine v_neS ?_
  | with_reducible refine v_add ?_
  | with_reducible refine v_sub ?_
  | with_reducible refine v_neg ?_
  | with_reducible refine v_mod (by decide) ?_
  | with_reducible refine v_int ?_
  | with_reducible refine v_isN ?_
  | with_reducible refine v_notN ?_
  | with_reducible refine v_insF ?_
  | with_reducible refine v_onO (by with_unfolding_all exact rfl) ?_
  | with_reducible refine v_kind (by with_unfolding_all exact rfl) ?_
  | with_reducible refine v_tupleT ?_
  | with_reducible refine v_tupleF ?_
  | with_reducible refine v_lenT ?_
  | with_reducible refine v_lenF ?_
  | with_reducible refine v_slT ?_
  | with_reducible refine v_ix (by with_unfolding_all exact rfl) ?_
  | with_reducible refine v_get1 ?_
  | with_reducible refine v_get2 ?_
  | with_reducible refine v_inD ?_
  | with_reducible refine v_notInD ?_
  | with_reducible refine v_max ?_
  | with_reducible refine v_min ?_
  | with_reducible refine v_isi (k := true) (by with_unfolding_all exact rfl) (by decide) ?_
  | with_reducible refine v_isi (k := false) (by with_unfolding_all exact rfl) (by decide) ?_
  | with_reducible refine ⟨rfl, ?_⟩)
local macro_rules | `(tactic| walk_at "go") => `(tactic| repeat (walk_at "st"))
/-! ### shown books -/
section
open TL PInj
def fS (x : Str) : List Nat := tl (PyData.shown (.str x))
theorem six_fS : ∀ x ∈ six, (fS x).length = 5 ∧ (fS x)[0]? = some 39 := by decide +kernel
theorem six_inj : ∀ x ∈ six, ∀ y ∈ six, fS x = fS y → x = y := by decide +kernel
theorem fS_px : PFx (fun x => x ∈ six) fS := fun x y s t hx hy e => by
  obtain ⟨e1, e2⟩ := List.append_inj e ((six_fS x hx).1.trans (six_fS y hy).1.symm)
  exact ⟨six_inj x hx y hy e1, e2⟩
theorem fS_hd : ∀ x, x ∈ six → ∃ c r, fS x = c :: r ∧ c ≠ 41 := fun x hx => by
  have := (six_fS x hx).2
  cases e : fS x with
  | nil => rw [e] at this; cases this
  | cons c r => rw [e] at this; simp at this; subst this; exact ⟨39, r, rfl, by decide⟩
theorem shownAll_map {α : Type} (f : α → PyData) : ∀ l : List α, PyData.shownAll (l.map f) = l.map fun x => (f x).shown
  | [] => PyData.shownAll_nil
  | x :: l => by rw [List.map_cons, PyData.shownAll_cons, shownAll_map f l]; rfl
def fL (l : List Str) : List Nat := tl (PyData.shown (.tuple (l.map .str)))
theorem fL_eq (l : List Str) : fL l = 40 :: gg (l.map fS) := by
  unfold fL
  rw [show PyData.shown (.tuple (l.map .str)) = tupleText (PyData.shownAll (l.map .str)) from by simp only [PyData.shown], tl_tuple, shownAll_map, List.map_map]
  rfl
theorem fL_px : PFx (fun l => ∀ x ∈ l, x ∈ six) fL := fun l m s t hl hm e => by
  rw [fL_eq, fL_eq, List.cons_append, List.cons_append] at e
  exact gg_inj fS_px fS_hd l m s t hl hm (List.cons.inj e).2
def fT (ls : List (List Str)) : List Nat := tl (PyData.shown (.tuple (ls.map fun l => .tuple (l.map .str))))
theorem fT_eq (ls : List (List Str)) : fT ls = 40 :: gg (ls.map fL) := by
  unfold fT
  rw [show PyData.shown (.tuple (ls.map fun l => .tuple (l.map .str))) = tupleText (PyData.shownAll (ls.map fun l => .tuple (l.map .str))) from by simp only [PyData.shown], tl_tuple, shownAll_map, List.map_map]
  rfl
theorem fT_px : PFx (fun ls => ∀ l ∈ ls, ∀ x ∈ l, x ∈ six) fT := fun l m s t hl hm e => by
  rw [fT_eq, fT_eq, List.cons_append, List.cons_append] at e
  exact gg_inj fL_px (fun l _ => ⟨40, _, fL_eq l, by decide⟩) l m s t hl hm (List.cons.inj e).2
abbrev Bk.P (b : Bk) : PyData := .tuple [.tuple (b.people.map .str), .str b.first, .tuple (b.lists.map fun l => .tuple (l.map .str))]
theorem bk_shown (b : Bk) : tl b.P.shown = 40 :: gg [fL b.people, fS b.first, fT b.lists] := by
  rw [show b.P.shown = tupleText (PyData.shownAll [.tuple (b.people.map .str), .str b.first, .tuple (b.lists.map fun l => .tuple (l.map .str))]) from by simp only [PyData.shown], tl_tuple, PyData.shownAll_cons, PyData.shownAll_cons, PyData.shownAll_cons, PyData.shownAll_nil]
  rfl
theorem Bk.Ok.sx {b : Bk} (o : b.Ok) : (∀ x ∈ b.people, x ∈ six) ∧ b.first ∈ six ∧ ∀ l ∈ b.lists, ∀ x ∈ l, x ∈ six := by
  refine ⟨fun x hx => o.ppl.mem hx, o.ppl.mem o.fst, fun l hl x hx => ?_⟩
  obtain ⟨i, hi, e⟩ := List.mem_iff_getElem.mp hl
  have hi2 : i < b.people.length := by rw [← o.lst.len]; exact hi
  obtain ⟨_, h2, h3⟩ := o.lst.ok i b.people[i] l (List.getElem?_eq_getElem hi2) (by rw [List.getElem?_eq_getElem hi, e])
  exact o.ppl.mem (h2 x hx).1
theorem bk_inj {b c : Bk} (o : b.Ok) (o2 : c.Ok) (e : b.P.shown = c.P.shown) : b = c := by
  have e := congrArg tl e
  rw [bk_shown, bk_shown] at e
  simp only [gg, hh, List.cons.injEq, true_and, List.append_assoc] at e
  obtain ⟨s1, s2, s3⟩ := o.sx
  obtain ⟨t1, t2, t3⟩ := o2.sx
  obtain ⟨e1, e⟩ := fL_px _ _ _ _ s1 t1 e
  simp only [List.cons.injEq, true_and, List.append_assoc, List.cons_append] at e
  obtain ⟨e2, e⟩ := fS_px _ _ _ _ s2 t2 e
  simp only [List.cons.injEq, true_and, List.append_assoc, List.cons_append] at e
  obtain ⟨e3, e⟩ := fT_px _ _ _ _ s3 t3 e
  obtain ⟨bp, bf, bl⟩ := b
  obtain ⟨cp, cf, cl⟩ := c
  simp only at e1 e2 e3
  subst e1; subst e2; subst e3; rfl
/-- == of texts, rows, rows of rows -/
theorem eqv_strs : ∀ l m : List Str, PyData.eqvAll (l.map .str) (m.map .str) = true → l = m
  | [], [], _ => rfl
  | [], _ :: _, e => by simp [PyData.eqvAll] at e
  | _ :: _, [], e => by simp [PyData.eqvAll] at e
  | x :: l, y :: m, e => by
    simp only [List.map_cons, PyData.eqvAll, PyData.eqv, Bool.and_eq_true, beq_iff_eq] at e
    rw [e.1, eqv_strs l m e.2]
theorem eqv_rows : ∀ l m : List (List Str), PyData.eqvAll (l.map fun l => .tuple (l.map .str)) (m.map fun l => .tuple (l.map .str)) = true → l = m
  | [], [], _ => rfl
  | [], _ :: _, e => by simp [PyData.eqvAll] at e
  | _ :: _, [], e => by simp [PyData.eqvAll] at e
  | x :: l, y :: m, e => by
    simp only [List.map_cons, PyData.eqvAll, PyData.eqv, Bool.and_eq_true] at e
    rw [eqv_strs _ _ e.1, eqv_rows l m e.2]
theorem bk_eqv {b c : Bk} (e : PyData.eqv b.P c.P = true) : b = c := by
  simp only [PyData.eqv, PyData.eqvAll, Bool.and_eq_true, beq_iff_eq] at e
  obtain ⟨e1, e2, e3, _⟩ := e
  obtain ⟨bp, bf, bl⟩ := b
  obtain ⟨cp, cf, cl⟩ := c
  simp only at e1 e2 e3
  have := eqv_strs _ _ e1
  have := eqv_rows _ _ e3
  subst e2; simp_all
end

end K78
end
section
set_option Elab.async false
set_option linter.all false
set_option maxRecDepth 100000
set_option maxHeartbeats 4000000
open PySem PySem.Spec L2 DL
namespace K78
local macro_rules | `(tactic| walk_at "st") => `(tactic| first
  | with_reducible refine c_seq ?_
  | with_reducible refine c_var (by with_unfolding_all exact rfl) ?_
  | with_reducible refine c_d2 ?_
  | with_reducible refine c_cons ?_
  | with_reducible refine c_nil ?_
  | with_reducible refine c_dL ?_
  | with_reducible refine c_call ?_
  | with_reducible refine c_int ?_
  | with_reducible refine c_str ?_
  | with_reducible refine c_bl ?_
  | with_reducible refine c_non ?_
  | with_reducible refine c_c ?_
  | with_reducible refine c_if ?_
  | with_reducible refine c_test ?_
  | with_reducible refine c_exb ?_
  | with_reducible refine c_tt ?_
  | with_reducible refine c_ff ?_
  | with_reducible refine c_nt ?_
  | with_reducible refine c_nf ?_
  | with_reducible refine c_ret ?_
  | with_reducible refine i_tup ?_
  | with_reducible refine i_fl ?_
  | with_reducible refine i_str ?_
  | with_reducible refine i_fd ?_
  | with_reducible refine c_sz (by with_unfolding_all exact rfl) ?_
  | with_reducible refine i_enumT ?_
  | with_reducible refine c_set ?_
  | with_reducible refine c_next ?_
  | with_reducible refine c_expr ?_
  | with_reducible refine c_fld ?_
  | with_reducible refine c_andT ?_
  | with_reducible refine c_orT ?_
  | with_reducible refine c_notT ?_
  | with_reducible refine c_and ?_
  | with_reducible refine c_or ?_
  | with_reducible refine c_not ?_
  | with_reducible refine c_ite ?_
  | with_reducible refine c_tup ?_
  | with_reducible refine c_lst ?_
  | with_reducible refine c_dM ?_
  | with_reducible refine c_met ?_
  | with_reducible refine c_new ?_
  | with_reducible refine c_sl ?_
  | with_reducible refine c_noP ?_
  | with_reducible refine c_part ?_
  | with_reducible refine c_chain ?_
  | with_reducible refine c_d1 ?_
  | with_reducible refine c_asg ?_
  | with_reducible refine c_par ?_
  | with_reducible refine c_par3 ?_
  | with_reducible refine v_par3 ?_
  | with_reducible refine c_raise ?_
  | with_reducible refine c_for ?_
  | with_reducible refine c_sfld ?_
  | with_reducible refine c_retN ?_
  | with_reducible refine c_gNm ?_
  | with_reducible refine c_gN ?_
  | with_reducible refine c_gC ?_
  | with_reducible refine c_gT (by with_unfolding_all exact rfl) ?_
  | with_reducible refine c_gSb ?_
  | with_reducible refine c_iAny ?_
  | with_reducible refine c_range1 ?_
  | with_reducible refine c_comp ?_
  | with_reducible refine c_enum ?_
  | with_reducible refine c_yes ?_
  | with_reducible refine c_st1 ?_
  | with_reducible refine c_tryAs ?_
  | with_reducible refine c_xf ?_
  | with_reducible refine c_hof ?_
  | with_reducible refine c_copyItems ?_
  | with_reducible refine c_lenSet ?_
  | with_reducible refine c_dict0 ?_
  | with_reducible refine v_onTb ?_
  | with_reducible refine v_onI ?_
  | with_reducible refine v_lt ?_
  | with_reducible refine v_gt ?_
  | with_reducible refine v_le ?_
  | with_reducible refine v_ge ?_
  | with_reducible refine v_eqI ?_
  | with_reducible refine v_neI ?_
  | with_reducible refine v_eqS ?_
  | with_reducible refine v_neS ?_
  | with_reducible refine v_add ?_
  | with_reducible refine v_sub ?_
  | with_reducible refine v_neg ?_
  | with_reducible refine v_mod (by decide) ?_
  | with_reducible refine v_int ?_
  | with_reducible refine v_isN ?_
  | with_reducible refine v_notN ?_
  | with_reducible refine v_insF ?_
  | with_reducible refine v_onO (by with_unfolding_all exact rfl) ?_
  | with_reducible refine v_kind (by with_unfolding_all exact rfl) ?_
  | with_reducible refine v_tupleT ?_
  | with_reducible refine v_tupleF ?_
  | with_reducible refine v_lenT ?_
  | with_reducible refine v_lenF ?_
  | with_reducible refine v_slT ?_
  | with_reducible refine v_ix (by with_unfolding_all exact rfl) ?_
  | with_reducible refine v_get1 ?_
  | with_reducible refine v_get2 ?_
  | with_reducible refine v_inD ?_
  | with_reducible refine v_notInD ?_
  | with_reducible refine v_max ?_
  | with_reducible refine v_min ?_
  | with_reducible refine v_isi (k := true) (by with_unfolding_all exact rfl) (by decide) ?_
  | with_reducible refine v_isi (k := false) (by with_unfolding_all exact rfl) (by decide) ?_
  | with_reducible refine ⟨rfl, ?_⟩)
local macro_rules | `(tactic| walk_at "go") => `(tactic| repeat (walk_at "st"))
section
variable {b c : Bk} {s : Sg} {t : Nat} {n : Str} {h g : Hd} {Q : DK} {E : DX} {p m r m2 r2 : Addr} {ds ds2 : List Deed}
theorem bk_pd (b : Bk) (g : Addr → Option PyData) : pdF g (.tup [.tup (sD b.people), .str b.first, .tup (lD b.lists)]) = some b.P := by
  simp only [pdF, pdFs, pdFs_s, pdFs_lD, Option.map_some]
theorem nodup_le : ∀ (l m : List Str), l.Nodup → (∀ x ∈ l, x ∈ m) → l.length ≤ m.length
  | [], m, _, _ => Nat.zero_le _
  | x :: l, m, hn, hs => by
    have hn := List.nodup_cons.mp hn
    have hx := hs x (List.mem_cons_self ..)
    have := nodup_le l (m.erase x) hn.2 fun y hy => (List.mem_erase_of_ne (fun (z : y = x) => hn.1 (z ▸ hy))).mpr (hs y (List.mem_cons_of_mem _ hy))
    rw [List.length_erase_of_mem hx] at this
    have := List.length_pos_of_mem hx
    rw [List.length_cons]; omega
theorem bk_pl (o : b.Ok) : Pl b.P 400 3 := by
  have pl := o.ppl.len
  have h1 : Pl (.tuple (b.people.map .str)) 24 2 := (names_pl o (l := b.people) fun x hx => hx).tup.mono (by omega) (by omega)
  have h2 : Pl (.str b.first) 3 2 := Pl.str (six_ok _ (o.ppl.mem o.fst)) (six_size _ (o.ppl.mem o.fst))
  have h3 : Pl (.tuple (b.lists.map fun l => .tuple (l.map .str))) 150 2 := by
    have : Pls (b.lists.map fun l => .tuple (l.map .str)) ((24 + 1) * b.lists.length) 1 := Pls.all (w := 24) (d := 1) fun l hl => by
      obtain ⟨i, hi, e⟩ := List.mem_iff_getElem.mp hl
      have hi2 : i < b.people.length := by rw [← o.lst.len]; exact hi
      obtain ⟨h4, h2, h3⟩ := o.lst.ok i b.people[i] l (List.getElem?_eq_getElem hi2) (by rw [List.getElem?_eq_getElem hi, e])
      have := nodup_le l b.people h4 fun x hx => (h2 x hx).1
      exact (names_pl o (l := l) fun x hx => (h2 x hx).1).tup.mono (by omega) (by omega)
    have hl := o.lst.len
    exact this.tup.mono (by omega) (by omega)
  exact (Pls.cons h1 (Pls.cons h2 (Pls.cons h3 Pls.nil))).tup.mono (by omega) (by omega)
theorem s_Book_eqG (o : b.Ok) (o2 : c.Ok) (q : Q (.bl (PyData.eqv b.P c.P)) h) : W_Book___eq__ [b.D, c.D] h Q E := by
  refine e_fn [some b.D, some c.D] rfl ?_
  unfold w_Book___eq__
  walk_at "go"
  refine s_parts ?_
  walk_at "go"
  refine s_parts ?_
  walk_at "go"
  have z : onP h (.tup [.tup (sD b.people), .str b.first, .tup (lD b.lists)]) (.tup [.tup (sD c.people), .str c.first, .tup (lD c.lists)]) fun p q => fin Q (.bl (PyData.eqv p q)) h :=
    onP_of (bk_pd b _) (bk_pd c _) (shaped_pl (bk_pl o) (by decide)) (shaped_pl (bk_pl o2) (by decide)) (f_q q)
  exact z
theorem insR' {k : Str} {fs : List (Str × D)} {P : Prop} (e : h p = some (.oi k fs)) (q : P) : insC h k (.ref p) ∧ P := ⟨insR e, q⟩
theorem s_Morning_eqX (o : b.Ok) (o2 : c.Ok) (h1 : h m = some (.oi "Morning" (mor b s [] r))) {s2 : Sg} (h2 : h m2 = some (.oi "Morning" (mor c s2 [] r2))) (q : Q (.bl (PyData.eqv b.P c.P)) h) : W_Morning___eq__ [.ref m, .ref m2] h Q E := by
  refine e_fn [some (.ref m), some (.ref m2)] rfl ?_
  unfold w_Morning___eq__
  walk_at "go"
  refine v_isi (t := .inr "Morning") (k := true) (by show tyD h (.ref m2) = _; unfold tyD; simp only [h2]) (by decide) ?_
  walk_at "go"
  refine v_insR h1 ?_
  walk_at "go"
  refine v_insR h2 ?_
  walk_at "go"
  refine v_own ⟨_, rfl⟩ ⟨_, rfl⟩ (s_Book_eqG o o2 ⟨⟨_, rfl⟩, ?_⟩)
  cases z : PyData.eqv b.P c.P with
  | false =>
    rw [z] at q
    walk_at "go"
    exact f_q q
  | true =>
    rw [z] at q
    walk_at "go"
    refine v_insR h1 ?_
    walk_at "go"
    refine v_insR h2 ?_
    walk_at "go"
    exact v_eqTT (ds := []) (ds2 := []) o (fun _ z => (nomatch z)) (fun _ z => (nomatch z)) (f_q q)
theorem s_Morning_eqF {x : D} {k : Sum String Str} (e : tyD h x = some k) (e2 : isiD cls k (.glo "Morning") = some false) (q : Q (.bl false) h) : W_Morning___eq__ [.ref m, x] h Q E := by
  refine e_fn [some (.ref m), some x] rfl ?_
  unfold w_Morning___eq__
  walk_at "go"
  refine v_isi e e2 ?_
  walk_at "go"
  exact f_q q
theorem s_check_book_bad {x : D} {k : Sum String Str} (e : tyD h x = some k) (e2 : isiD cls k (.glo "Book") = some false) (q : E ⟨"NotABook", [("given", x)]⟩ h) : W_check_book [x] h Q E := by
  refine e_fn [some x] rfl ?_
  unfold w_check_book
  walk_at "go"
  refine v_isi e e2 ?_
  walk_at "go"
  exact f_qx q
theorem s_Morning_bad {x : D} {k : Sum String Str} (e : tyD h x = some k) (e2 : isiD cls k (.glo "Book") = some false) (q : E ⟨"NotABook", [("given", x)]⟩ h) : W_Morning_init [.ref m, x] h Q E := by
  refine e_fn [some (.ref m), some x] rfl ?_
  unfold w_Morning_init
  walk_at "go"
  refine s_check_book_bad e e2 ?_
  exact f_qx q
/-- what is refused -/
theorem s_refused {f : Addr} {Wf : DF} {x : D} {txt : Str} (hW : ∀ Q E, E ⟨"NotABook", [("given", x)]⟩ h → Wf [] h Q E) (hr : ∀ (Q : DK), Q (.str txt) h → wReprX [x] h Q) (q : ∀ p, h p = none → Q (.ref p) (hup h p (.ol [.str txt, .bl true]))) : W__law_refused f Wf [.ref f] h Q E := by
  refine e_fn [some (.ref f), none] rfl ?_
  unfold w__law_refused
  walk_at "go"
  refine c_clo rfl ?_
  walk_at "go"
  refine hW _ _ ?_
  refine v_onO (z := true) (show subX "NotABook" "NotABook" = some true from by decide) ?_
  refine c_tt ?_
  intro a ha
  walk_at "go"
  refine hr _ ?_
  walk_at "go"
  refine c_xis ?_
  walk_at "go"
  have e : (decide (("NotABook" : Str) = "CallError") || decide (("CallError" : Str) = "CallError")) = true := by decide
  intro p hp
  show fin Q (.ref p) (hup h p (.ol [.str txt, .bl (decide (("NotABook" : Str) = "CallError") || decide (("CallError" : Str) = "CallError"))]))
  rw [e]
  exact f_q (q p hp)
theorem told_begun (o : b.Ok) : toldP b (begun b) = [.int 0, .tuple [.str b.first], .tuple [], .tuple [], .bool (b.list b.first).isEmpty] := by
  have e1 : srt [b.first] = [b.first] := (srt_eq (l := [b.first]) (l' := [b.first]) (.refl _) rfl).symm
  have e2 : srt ([] : List Str) = [] := (srt_eq (l := []) (l' := []) (.refl _) rfl).symm
  have e3 : mayCall b (begun b) = [] := by
    unfold mayCall
    rw [List.filter_eq_nil_iff]
    intro x hx
    have : ahead (begun b) x = false := by
      unfold ahead begun
      dsimp only
      by_cases h : b.first = x
      · subst h
        rw [show aget [(b.first, (0 : Int))] b.first = some 0 from by simp [aget]]
        rfl
      · rw [show aget [(b.first, (0 : Int))] x = none from by simp [aget, h]]
    simp [canCall, this]
  have e4 : over b (begun b) = (b.list b.first).isEmpty := by
    unfold over begun left got
    simp [aget]
  unfold toldP
  rw [e3, e4]
  show [PyData.int 0, .tuple ((srt [b.first]).map .str), .tuple ((srt []).map .str), _, _] = _
  rw [e1, e2]; rfl
end

end K78
end
section
set_option Elab.async false
set_option linter.all false
set_option maxRecDepth 100000
set_option maxHeartbeats 4000000
open PySem PySem.Spec L2 DL
namespace K78
local macro_rules | `(tactic| walk_at "st") => `(tactic| first
  | with_reducible refine c_seq ?_
  | with_reducible refine c_var (by with_unfolding_all exact rfl) ?_
  | with_reducible refine c_d2 ?_
  | with_reducible refine c_cons ?_
  | with_reducible refine c_nil ?_
  | with_reducible refine c_dL ?_
  | with_reducible refine c_call ?_
  | with_reducible refine c_int ?_
  | with_reducible refine c_str ?_
  | with_reducible refine c_bl ?_
  | with_reducible refine c_non ?_
  | with_reducible refine c_c ?_
  | with_reducible refine c_if ?_
  | with_reducible refine c_test ?_
  | with_reducible refine c_exb ?_
  | with_reducible refine c_tt ?_
  | with_reducible refine c_ff ?_
  | with_reducible refine c_nt ?_
  | with_reducible refine c_nf ?_
  | with_reducible refine c_ret ?_
  | with_reducible refine i_tup ?_
  | with_reducible refine i_fl ?_
  | with_reducible refine i_str ?_
  | with_reducible refine i_fd ?_
  | with_reducible refine c_sz (by with_unfolding_all exact rfl) ?_
  | with_reducible refine i_enumT ?_
  | with_reducible refine c_set ?_
  | with_reducible refine c_next ?_
  | with_reducible refine c_expr ?_
  | with_reducible refine c_fld ?_
  | with_reducible refine c_andT ?_
  | with_reducible refine c_orT ?_
  | with_reducible refine c_notT ?_
  | with_reducible refine c_and ?_
  | with_reducible refine c_or ?_
  | with_reducible refine c_not ?_
  | with_reducible refine c_ite ?_
  | with_reducible refine c_tup ?_
  | with_reducible refine c_lst ?_
  | with_reducible refine c_dM ?_
  | with_reducible refine c_met ?_
  | with_reducible refine c_new ?_
  | with_reducible refine c_sl ?_
  | with_reducible refine c_noP ?_
  | with_reducible refine c_part ?_
  | with_reducible refine c_chain ?_
  | with_reducible refine c_d1 ?_
  | with_reducible refine c_asg ?_
  | with_reducible refine c_par ?_
  | with_reducible refine c_par3 ?_
  | with_reducible refine v_par3 ?_
  | with_reducible refine c_raise ?_
  | with_reducible refine c_for ?_
  | with_reducible refine c_sfld ?_
  | with_reducible refine c_retN ?_
  | with_reducible refine c_gNm ?_
  | with_reducible refine c_gN ?_
  | with_reducible refine c_gC ?_
  | with_reducible refine c_gT (by with_unfolding_all exact rfl) ?_
  | with_reducible refine c_gSb ?_
  | with_reducible refine c_iAny ?_
  | with_reducible refine c_range1 ?_
  | with_reducible refine c_comp ?_
  | with_reducible refine c_enum ?_
  | with_reducible refine c_yes ?_
  | with_reducible refine c_st1 ?_
  | with_reducible refine c_tryAs ?_
  | with_reducible refine c_xf ?_
  | with_reducible refine c_hof ?_
  | with_reducible refine c_copyItems ?_
  | with_reducible refine c_lenSet ?_
  | with_reducible refine c_dict0 ?_
  | with_reducible refine v_onTb ?_
  | with_reducible refine v_onI ?_
  | with_reducible refine v_lt ?_
  | with_reducible refine v_gt ?_
  | with_reducible refine v_le ?_
  | with_reducible refine v_ge ?_
  | with_reducible refine v_eqI ?_
  | with_reducible refine v_neI ?_
  | with_reducible refine v_eqS ?_
  | with_reducible refine v_neS ?_
  | with_reducible refine v_add ?_
  | with_reducible refine v_sub ?_
  | with_reducible refine v_neg ?_
  | with_reducible refine v_mod (by decide) ?_
  | with_reducible refine v_int ?_
  | with_reducible refine v_isN ?_
  | with_reducible refine v_notN ?_
  | with_reducible refine v_insF ?_
  | with_reducible refine v_onO (by with_unfolding_all exact rfl) ?_
  | with_reducible refine v_kind (by with_unfolding_all exact rfl) ?_
  | with_reducible refine v_tupleT ?_
  | with_reducible refine v_tupleF ?_
  | with_reducible refine v_lenT ?_
  | with_reducible refine v_lenF ?_
  | with_reducible refine v_slT ?_
  | with_reducible refine v_ix (by with_unfolding_all exact rfl) ?_
  | with_reducible refine v_get1 ?_
  | with_reducible refine v_get2 ?_
  | with_reducible refine v_inD ?_
  | with_reducible refine v_notInD ?_
  | with_reducible refine v_max ?_
  | with_reducible refine v_min ?_
  | with_reducible refine v_isi (k := true) (by with_unfolding_all exact rfl) (by decide) ?_
  | with_reducible refine v_isi (k := false) (by with_unfolding_all exact rfl) (by decide) ?_
  | with_reducible refine ⟨rfl, ?_⟩)
local macro_rules | `(tactic| walk_at "go") => `(tactic| repeat (walk_at "st"))
theorem cut_last {α : Type} {xs : List α} {y : α} : cutL (xs ++ [y]) none (some (-1)) = xs := by
  unfold cutL
  have e : HT.sIx (xs ++ [y]).length (xs ++ [y]).length (some (-1)) = xs.length := by
    show (if (-1 : Int) < 0 then (-1 + ((xs ++ [y]).length : Int)).toNat else min (-1 : Int).toNat (xs ++ [y]).length) = _
    rw [if_pos (by decide), List.length_append, List.length_singleton]
    omega
  rw [HT.sIx_none, e, List.drop_zero, Nat.sub_zero, List.take_left]
theorem eqvAll_len : ∀ {l m : List PyData}, l.length ≠ m.length → PyData.eqvAll l m = false
  | [], [], h => absurd rfl h
  | [], _ :: _, _ => rfl
  | _ :: _, [], _ => rfl
  | x :: l, y :: m, h => by
    simp only [PyData.eqvAll]
    rw [eqvAll_len (l := l) (m := m) (by simpa using h), Bool.and_false]
theorem eqv_len {l m : List PyData} (h : l.length ≠ m.length) : PyData.eqv (.tuple l) (.tuple m) = false := by
  simp only [PyData.eqv]
  exact eqvAll_len h
theorem wRepr_of {x : D} {P : PyData} {g : Hd} {Q : DK} (e : pd g x = some P) (h1 : P.showable = true) (h2 : P.hasDict = false) (h3 : P.shown.length ≤ 1000000) (h4 : P.depth ≤ 60) (h5 : ∀ i, P = .int i → i.natAbs.log2 < 1920) (q : Q (.str P.shown) g) : wRepr [x] g Q := by
  unfold wRepr on1
  dsimp only
  rw [e]
  exact ⟨h1, h2, h3, h4, h5, q⟩
/-- a thing that is no book, and how it is shown; dd an empty dict -/
def Thing (dd : Addr) (x : D) : Prop := ∃ (txt : Str) (k : Sum String Str), (∀ g : Hd, g dd = some (.od []) → tyD g x = some k) ∧ isiD cls k (.glo "Book") = some false ∧ OkS txt ∧ ∀ (g : Hd) (Q : DK), g dd = some (.od []) → Q (.str txt) g → wReprX [x] g Q
theorem thing_non {dd : Addr} : Thing dd .non := ⟨PyData.shown .none, .inl "NoneType", fun _ _ => rfl, by decide, by unfold OkS; decide +kernel, fun g Q _ q => .inr (wRepr_of rfl (by decide +kernel) (by decide +kernel) (by decide +kernel) (by decide +kernel) (fun i e => by cases e) q)⟩
theorem thing_5 {dd : Addr} : Thing dd (.int 5) := ⟨PyData.shown (.int 5), .inl "int", fun _ _ => rfl, by decide, by unfold OkS; decide +kernel, fun g Q _ q => .inr (wRepr_of rfl (by decide +kernel) (by decide +kernel) (by decide +kernel) (by decide +kernel) (fun i e => by cases e; decide +kernel) q)⟩
theorem thing_book {dd : Addr} : Thing dd (.str "book") := ⟨PyData.shown (.str "book"), .inl "str", fun _ _ => rfl, by decide, by unfold OkS; decide +kernel, fun g Q _ q => .inr (wRepr_of rfl (by decide +kernel) (by decide +kernel) (by decide +kernel) (by decide +kernel) (fun i e => by cases e) q)⟩
theorem thing_dd {dd : Addr} : Thing dd (.ref dd) := ⟨"{}", .inl "dict", fun g e => by unfold tyD; simp only [e], by decide, by unfold OkS; decide +kernel, fun g Q e q => v_reprE (by unfold dicOf; simp only [e]) q⟩
open TL PInj in
theorem bk_okS {b : Bk} (o : b.Ok) : OkS b.P.shown := by
  have sm : ∀ x ∈ six, ∀ n ∈ fS x, n < 200 := by decide +kernel
  have hhs : ∀ ls : List (List Nat), (∀ l ∈ ls, ∀ n ∈ l, n < 200) → ∀ n ∈ hh ls, n < 200 := by
    intro ls
    induction ls with
    | nil => intro _ n hn; simp [hh] at hn; omega
    | cons l ls ih =>
      intro h n hn
      cases ls with
      | nil =>
        simp only [hh, List.mem_append, List.mem_singleton] at hn
        rcases hn with hn | hn
        · exact h l (by simp) n hn
        · omega
      | cons l2 ls =>
        simp only [hh, List.mem_append, List.mem_cons] at hn
        rcases hn with hn | rfl | rfl | hn
        · exact h l (by simp) n hn
        · omega
        · omega
        · exact ih (fun l' h' => h l' (List.mem_cons_of_mem _ h')) n (by simpa [hh] using hn)
  have ggs : ∀ ls : List (List Nat), (∀ l ∈ ls, ∀ n ∈ l, n < 200) → ∀ n ∈ gg ls, n < 200 := by
    intro ls h n hn
    match ls, h, hn with
    | [], _, hn => simp [gg] at hn; omega
    | [l], h, hn =>
      simp only [gg, List.mem_append, List.mem_cons, List.not_mem_nil, or_false] at hn
      rcases hn with hn | rfl | rfl
      · exact h l (by simp) n hn
      · omega
      · omega
    | l :: l2 :: ls, h, hn =>
      simp only [gg, List.mem_append, List.mem_cons] at hn
      rcases hn with hn | rfl | rfl | hn
      · exact h l (by simp) n hn
      · omega
      · omega
      · exact hhs (l2 :: ls) (fun l' h' => h l' (List.mem_cons_of_mem _ h')) n (by simpa [hh] using hn)
  have fl : ∀ l : List Str, (∀ x ∈ l, x ∈ six) → ∀ n ∈ fL l, n < 200 := fun l h n hn => by
    rw [fL_eq] at hn
    rcases List.mem_cons.mp hn with rfl | hn
    · omega
    · exact ggs _ (fun m hm => by obtain ⟨x, hx, rfl⟩ := List.mem_map.mp hm; exact sm x (h x hx)) n hn
  obtain ⟨s1, s2, s3⟩ := o.sx
  have all : ∀ n ∈ tl b.P.shown, n < 200 := fun n hn => by
    rw [bk_shown] at hn
    rcases List.mem_cons.mp hn with rfl | hn
    · omega
    · refine ggs _ (fun m hm => ?_) n hn
      simp only [List.mem_cons, List.not_mem_nil, or_false] at hm
      rcases hm with rfl | rfl | rfl
      · exact fl _ s1
      · exact sm _ s2
      · intro n hn
        rw [fT_eq] at hn
        rcases List.mem_cons.mp hn with rfl | hn
        · omega
        · exact ggs _ (fun m hm => by obtain ⟨x, hx, rfl⟩ := List.mem_map.mp hm; exact fl x (s3 x hx)) n hn
  unfold OkS PyData.strOk
  rw [Array.all_eq_true']
  intro n hn
  have := all n (by unfold tl; simpa using hn)
  simp; omega
theorem thing_T {b : Bk} (o : b.Ok) {dd : Addr} : Thing dd b.T := ⟨b.P.shown, .inl "tuple", fun _ _ => rfl, by decide, bk_okS o, fun g Q _ q => v_reprX (v_repr (p := b.P) (bk_pd b _) (bk_pl o) (by omega) (by omega) (fun _ w => by cases w) q)⟩
section
variable {b : Bk} {s : Sg} {t : Nat} {n : Str} {h g : Hd} {Q : DK} {E : DX} {p m r lg st : Addr} {ds : List Deed}
theorem s_right (hp : h p = none) {x y z : Int} (q : Q (.bl true) h) : W__law_right [.ref p] (hup h p (.ol [.int x, .int y, .int z])) Q E := by
  refine e_fn [some (.ref p), none, none, none, none, none, none, none, none, none, none] rfl ?_
  unfold w__law_right
  walk_at "go"
  refine s_small ⟨x, y, z, hup_same⟩ fun b x y z o => ?_
  rw [hup_hup]
  walk_at "go"
  refine s_made o ?_
  have R0 : Rg h (hup h p (.ol [.int x, .int y, .int z])) [(p, .ol [.int x, .int y, .int z])] := Rg.new (L := []) ⟨fun _ z => (nomatch z), .nil, fun _ z => (nomatch z), fun _ _ e => e⟩ hp
  generalize hup h p _ = g at R0 ⊢
  walk_at "go"
  intro m1 hm1
  refine s_Morning_init o hup_same fun r1 n1 hr1 => ⟨rfl, ?_⟩
  have R1 := Rg.putM (L1 := [_]) (o' := .oi "Morning" (mor b (begun b) [] r1)) ((R0.new (o := .oi "Morning" []) hm1).new (o := .ol []) hr1)
  refine f_q ?_
  generalize (hup (hup (hup g m1 _) r1 _) m1 _) = g at R1 ⊢
  walk_at "go"
  refine c_newK ?_
  walk_at "go"
  refine s_made o ?_
  walk_at "go"
  intro m2 hm2
  refine s_Morning_init o hup_same fun r2 n2 hr2 => ⟨rfl, ?_⟩
  have R2 := Rg.putM (L1 := [_]) (o' := .oi "Morning" (mor b (begun b) [] r2)) ((R1.new (o := .oi "Morning" []) hm2).new (o := .ol []) hr2)
  refine f_q ?_
  generalize (hup (hup (hup g m2 _) r2 _) m2 _) = g at R2 ⊢
  walk_at "go"
  refine s_law_begun ?_
  walk_at "go"
  refine s_law_list o o.fst ?_
  walk_at "go"
  refine v_eqNil (fun x hx => six_ok x (o.ppl.mem ((o.list o.fst).choose_spec.2.2 x hx))) ?_
  walk_at "go"
  intro d6 hd6
  have R3 := R2.new (o := .ol [.int 0, .tup [.str b.first], .tup [], .tup [], .bl (b.list b.first).isEmpty]) hd6
  generalize hup g d6 _ = g at R3 ⊢
  walk_at "go"
  refine s_told o (ok_begun o) (by decide) (R3.get (k := 4) rfl) fun w hw => ?_
  have R4 := R3.new (o := .ol (toldL b (begun b))) hw
  generalize hup g w _ = g at R4 ⊢
  walk_at "go"
  refine v_insR (R4.get (k := 5) rfl) ?_
  walk_at "go"
  intro q1 hq1
  have R5 := R4.new (o := .ol [.ref w, .tup (([] : List Deed).map Deed.D)]) hq1
  generalize hup g q1 _ = g at R5 ⊢
  walk_at "go"
  have P : Pl (.list [.list (toldP b (begun b)), .tuple []]) 4000 3 := (Pls.cons (told_pl o (ok_begun o) (by decide)) (Pls.cons (Pls.nil (d := 1)).tup Pls.nil)).lst.mono (by omega) (by omega)
  refine v_repr (p := .list [.list (toldP b (begun b)), .tuple []]) ?_ P (by omega) (by omega) (fun _ w => by cases w) ?_
  · show pdG _ 3 q1 = _
    have e1 := R5.get (k := 0) rfl
    have e2 := R5.get (k := 1) rfl
    simp only [pdG, pdFs, pdF, e1, e2, pdFs_told, Option.map_some, List.map_nil]
  walk_at "go"
  intro q2 hq2
  have R6 := R5.new (o := .ol [.ref d6, .tup []]) hq2
  generalize hup g q2 _ = g at R6 ⊢
  walk_at "go"
  refine v_repr (p := .list [.list (toldP b (begun b)), .tuple []]) ?_ P (by omega) (by omega) (fun _ w => by cases w) ?_
  · show pdG _ 3 q2 = _
    have e1 := R6.get (k := 0) rfl
    have e2 := R6.get (k := 3) rfl
    simp only [pdG, pdFs, pdF, e1, e2, Option.map_some, told_begun o, List.map_cons, List.map_nil]
  walk_at "go"
  rw [decide_eq_true rfl]
  walk_at "go"
  refine v_insR (R6.get (k := 7) rfl) ?_
  walk_at "go"
  refine v_own ⟨_, rfl⟩ ⟨_, rfl⟩ (s_Book_eq o ⟨⟨true, rfl⟩, ?_⟩)
  walk_at "go"
  have W : Rg h g ((⟨m2, r2, b, []⟩ : Mo).L ++ ((⟨m1, r1, b, []⟩ : Mo).L ++ [(p, .ol [.int x, .int y, .int z])])) := R6.one.one.one.one
  clear R0 R1 R2 R3 R4 R5 R6 P
  have o1 := (Mo.hm W.drop (L1 := [])).om
  have o2m := (Mo.hm (L1 := []) W).om
  have ee : PyData.eqv (.tuple (([] : List Deed).map Deed.P)) (.tuple (([] : List Deed).map Deed.P)) = true := rfl
  refine v_own (insR o1) (insR o2m) (s_Morning_eqG (ds := []) (ds2 := []) o (fun _ z => (nomatch z)) (fun _ z => (nomatch z)) o1 o2m ⟨⟨_, rfl⟩, ?_⟩)
  rw [ee]
  walk_at "go"
  refine v_ownNe (insR o1) (insR o2m) (s_Morning_eqG (ds := []) (ds2 := []) o (fun _ z => (nomatch z)) (fun _ z => (nomatch z)) o1 o2m ⟨_, rfl, ?_⟩)
  rw [ee]
  walk_at "go"
  refine ⟨insR o1, ⟨_, rfl⟩, s_Morning_eqF (k := .inr "Book") rfl (by decide) ⟨⟨false, rfl⟩, ?_⟩⟩
  walk_at "go"
  refine ⟨insR o1, rfl, s_Morning_eqF (k := .inl "NoneType") rfl (by decide) ⟨⟨false, rfl⟩, ?_⟩⟩
  walk_at "go"
  clear o1 o2m
  refine s_small ⟨_, _, _, W.drop.drop.get (k := 0) rfl⟩ fun c x y z o2 => ?_
  have W : Rg h _ ((⟨m2, r2, b, []⟩ : Mo).L ++ ((⟨m1, r1, b, []⟩ : Mo).L ++ [(p, .ol [.int x, .int y, .int z])])) := Rg.putM (L1 := [_, _, _, _]) (L2 := []) W
  generalize hup g p _ = g at W ⊢
  walk_at "go"
  refine s_made o2 ?_
  walk_at "go"
  intro m3 hm3
  refine s_Morning_init o2 hup_same fun r3 n3 hr3 => ⟨rfl, ?_⟩
  have R1 := Rg.putM (L1 := [_]) (o' := .oi "Morning" (mor c (begun c) [] r3)) ((W.new (o := .oi "Morning" []) hm3).new (o := .ol []) hr3)
  refine f_q ?_
  generalize (hup (hup (hup g m3 _) r3 _) m3 _) = g at R1 ⊢
  walk_at "go"
  have o3 := R1.get (k := 1) rfl
  have o1 := R1.get (k := 5) rfl
  refine v_own (insR o3) (insR o1) (s_Morning_eqX o2 o o3 o1 ⟨⟨_, rfl⟩, ?_⟩)
  walk_at "go"
  refine v_repr (p := c.P) (bk_pd c _) (bk_pl o2) (by omega) (by omega) (fun _ w => by cases w) ?_
  walk_at "go"
  refine v_repr (p := b.P) (bk_pd b _) (bk_pl o) (by omega) (by omega) (fun _ w => by cases w) ?_
  walk_at "go"
  refine v_neB ?_
  have eb : PyData.eqv c.P b.P = decide (c.P.shown = b.P.shown) := by
    by_cases k : c = b
    · subst k; rw [eqv_refl (bk_pl o).can, decide_eq_true rfl]
    · rw [decide_eq_false fun w => k (bk_inj o2 o w)]
      cases w : PyData.eqv c.P b.P with
      | false => rfl
      | true => exact absurd (bk_eqv w) k
  rw [eb, decide_eq_true rfl]
  walk_at "go"
  have W : Rg h g ((⟨m2, r2, b, []⟩ : Mo).L ++ ((⟨m1, r1, b, []⟩ : Mo).L ++ [(p, .ol [.int x, .int y, .int z])])) := R1.one.one
  clear R1 o3 o1 ee eb
  refine ⟨by decide, ?_⟩
  have hl : ((List.range (8 : Int).toNat).map fun (i : Nat) => DL.D.int (i : Int)).length = 8 := by rw [List.length_map, List.length_range]; rfl
  have hi : ∀ d ∈ ((List.range (8 : Int).toNat).map fun (i : Nat) => DL.D.int (i : Int)), ∃ i : Int, d = .int i := fun d hd => by obtain ⟨i, _, rfl⟩ := List.mem_map.mp hd; exact ⟨_, rfl⟩
  generalize ((List.range (8 : Int).toNat).map fun (i : Nat) => DL.D.int (i : Int)) = turns at hl hi ⊢
  refine for_inv (fun tl ρ g => ∃ (ds : List Deed) (t : Nat) (xi yi zi : Int) (v8 v9 : Option D), tl.length + t = 8 ∧ (∀ d ∈ tl, ∃ i : Int, d = .int i) ∧ ρ = [some (.ref p), some b.T, some b.D, some (.ref m1), some (.ref m2), some (runD b ds).T, some (.ref d6), some c.T, v8, v9, none] ∧
    Rg h g ((⟨m2, r2, b, ds⟩ : Mo).L ++ ((⟨m1, r1, b, ds⟩ : Mo).L ++ [(p, .ol [.int xi, .int yi, .int zi])])) ∧ Good b ds ∧ ds.length ≤ t) (fun _ _ _ _ => trivial) ?_ ?_ _ _ _ ⟨[], 0, _, _, _, none, none, hl, hi, rfl, W, .nil, Nat.le_refl _⟩
  · clear W hi hl
    rintro dd tl ρ g R ⟨ds, t, xi, yi, zi, v8, v9, ht, hi, rfl, W, gd, gl⟩ hR
    rw [List.length_cons] at ht
    obtain ⟨tn, rfl⟩ := hi dd (List.mem_cons_self ..)
    have hi' := fun d h => hi d (List.mem_cons_of_mem _ h)
    have sk := gd.sok o
    walk_at "go"
    refine s_deed o sk ⟨_, _, _, W.drop.drop.get (k := 0) rfl⟩ fun d a1 a2 a3 hd => ?_
    have W : Rg h _ ((⟨m2, r2, b, ds⟩ : Mo).L ++ ((⟨m1, r1, b, ds⟩ : Mo).L ++ [(p, .ol [.int a1, .int a2, .int a3])])) := Rg.putM (L1 := [_, _, _, _]) (L2 := []) W
    generalize hup g p _ = g at W ⊢
    walk_at "go"
    have hb : reason b (runD b ds) d = none → (behind b (runD b ds) d).since.length < 64 ∧ (behind b (runD b ds) d).slept.length < 64 := fun hz => by
      have k' : SOk b (behind b (runD b ds) d) (ds.length + 1) := ok_behind o sk hd hz
      have := k'.l1
      have := k'.l4
      exact ⟨by omega, by omega⟩
    refine s_law_barred o sk (by omega) hd (Mo.hm (L1 := (⟨m2, r2, b, ds⟩ : Mo).L) (x := ⟨m1, r1, b, ds⟩) W) (by show ds.length ≤ 1000; omega) (by rw [List.length_map, pre_len]; show ds.length ≤ 1000; omega) hb (fun hz => ?_) fun r hx => ?_
    · have W1 := Mo.did (L1 := (⟨m2, r2, b, ds⟩ : Mo).L) (x := ⟨m1, r1, b, ds⟩) W d
      generalize (hup (hup g r1 _) m1 _) = g at W1 ⊢
      walk_at "go"
      refine c_t (by decide) ?_
      walk_at "go"
      refine s_law_behind o sk (by omega) hd hz ?_
      walk_at "go"
      have o1 := (Mo.hm (L1 := (⟨m2, r2, b, ds⟩ : Mo).L) W1).om
      have o2m := (Mo.hm (L1 := []) (x := ⟨m2, r2, b, ds⟩) W1).om
      have k1 : ∀ e ∈ ds ++ [d], e.Ok b := (Good.snoc gd hd hz).oks
      have e0 : PyData.eqv (.tuple ((ds ++ [d]).map Deed.P)) (.tuple (ds.map Deed.P)) = false := eqv_len (by simp)
      refine v_own (insR o1) (insR o2m) (s_Morning_eqG (ds := ds ++ [d]) (ds2 := ds) o k1 gd.oks o1 o2m ⟨⟨_, rfl⟩, ?_⟩)
      rw [e0]
      walk_at "go"
      refine v_ownNe (insR o1) (insR o2m) (s_Morning_eqG (ds := ds ++ [d]) (ds2 := ds) o k1 gd.oks o1 o2m ⟨_, rfl, ?_⟩)
      rw [e0]
      walk_at "go"
      rw [show (!!false) = false from rfl]
      walk_at "go"
      refine v_insR o1 ?_
      walk_at "go"
      rw [List.map_append, show ([d].map Deed.D) = [d.D] from rfl, cut_last]
      refine v_insR o2m ?_
      walk_at "go"
      have pd1 : pd g (.tup (ds.map Deed.D)) = some (.tuple (ds.map Deed.P)) := by show pdF _ (.tup _) = _; simp only [pdF, pdFs_deeds, Option.map_some]
      refine v_neP (p := .tuple (ds.map Deed.P)) (fun _ w => by cases w) pd1 pd1 (deeds_pl o gd.oks) (by decide) ?_
      walk_at "go"
      refine c_metK ?_
      walk_at "go"
      refine v_isInsR o2m (by rfl) ?_
      walk_at "go"
      refine s_do o sk (by omega) hd (Mo.hm (L1 := []) (x := ⟨m2, r2, b, ds⟩) W1) (by show ds.length ≤ 1000; omega) (by rw [List.length_map, pre_len]; show ds.length ≤ 1000; omega) hb (fun _ => ?_) fun x hx => by rw [hz] at hx; cases hx
      have W2 := Mo.did (L1 := []) (x := ⟨m2, r2, b, ds⟩) W1 d
      generalize (hup (hup g r2 _) m2 _) = g at W2 ⊢
      walk_at "go"
      have gd2 := Good.snoc gd hd hz
      have sk2 := gd2.sok o
      have o1 := (Mo.hm (L1 := (⟨m2, r2, b, ds ++ [d]⟩ : Mo).L) W2).om
      have o2m := (Mo.hm (L1 := []) (x := ⟨m2, r2, b, ds ++ [d]⟩) W2).om
      refine v_own (insR o1) (insR o2m) (s_Morning_eqG (ds := ds ++ [d]) (ds2 := ds ++ [d]) o k1 k1 o1 o2m ⟨⟨_, rfl⟩, ?_⟩)
      rw [eqv_refl (deeds_pl o k1).can]
      walk_at "go"
      refine s_told o sk2 (by rw [List.length_append, List.length_singleton]; omega) o1 fun w1 hw1 => ?_
      have R3 := Rg.new (o := .ol (toldL b (runD b (ds ++ [d])))) W2 hw1
      generalize hup g w1 _ = g at R3 ⊢
      walk_at "go"
      refine s_told o sk2 (by rw [List.length_append, List.length_singleton]; omega) (R3.get (k := 2) rfl) fun w2 hw2 => ?_
      have R4 := Rg.new (o := .ol (toldL b (runD b (ds ++ [d])))) R3 hw2
      generalize hup g w2 _ = g at R4 ⊢
      walk_at "go"
      have e1 := R4.get (k := 0) rfl
      have e2 := R4.get (k := 1) rfl
      refine v_neP (p := .list (toldP b (runD b (ds ++ [d])))) (fun _ w => by cases w) ?_ ?_ (told_pl o sk2 (by rw [List.length_append, List.length_singleton]; omega)) (by decide) ?_
      · show pdG _ 3 w1 = _
        simp only [pdG, e2, pdFs_told, Option.map_some]
      · show pdG _ 3 w2 = _
        simp only [pdG, e1, pdFs_told, Option.map_some]
      walk_at "go"
      exact hR _ _ ⟨ds ++ [d], t + 1, _, _, _, some (.int tn), some d.D, by omega, hi', by rw [runD_snoc]; rfl, R4.one.one, gd2, by rw [List.length_append, List.length_singleton]; omega⟩
    · walk_at "go"
      refine c_f (reason_ne hx) ?_
      walk_at "go"
      exact hR _ _ ⟨ds, t + 1, _, _, _, _, _, by omega, hi', rfl, W, gd, by omega⟩
  · clear W hi hl
    rintro ρ g ⟨ds, t, xi, yi, zi, v8, v9, ht, hi, rfl, W, gd, gl⟩
    walk_at "go"
    intro dd hdd
    have W1 := Rg.new (o := .od []) W hdd
    generalize hup g dd _ = g at W1 ⊢
    walk_at "go"
    intro l5 hl5
    have W2 := Rg.new (o := .ol [.non, .int 5, b.T, .str "book", .ref dd]) W1 hl5
    generalize hup g l5 _ = g at W2 ⊢
    refine i_refL (W2.get (k := 0) rfl) ?_
    have things : ∀ d ∈ ([.non, .int 5, b.T, .str "book", .ref dd] : List D), Thing dd d := fun d hd => by
      simp only [List.mem_cons, List.not_mem_nil, or_false] at hd
      rcases hd with rfl | rfl | rfl | rfl | rfl
      · exact thing_non
      · exact thing_5
      · exact thing_T o
      · exact thing_book
      · exact thing_dd
    refine for_inv (fun tl ρ g => ∃ (v10 : Option D), (∀ d ∈ tl, Thing dd d) ∧ ρ = [some (.ref p), some b.T, some b.D, some (.ref m1), some (.ref m2), some (runD b ds).T, some (.ref d6), some c.T, v8, v9, v10] ∧
      Rg h g ((l5, .ol [.non, .int 5, b.T, .str "book", .ref dd]) :: (dd, .od []) :: ((⟨m2, r2, b, ds⟩ : Mo).L ++ ((⟨m1, r1, b, ds⟩ : Mo).L ++ [(p, .ol [.int xi, .int yi, .int zi])])))) (fun _ _ _ ⟨_, _, _, R⟩ => R.get (k := 0) rfl) ?_ ?_ _ _ _ ⟨none, things, rfl, W2⟩
    · clear W2 things W W1
      rintro d tl ρ g R ⟨v10, hth, rfl, W⟩ hR
      obtain ⟨txt, k, h1, h2, h3, h4⟩ := hth d (List.mem_cons_self ..)
      have edd : g dd = some (.od []) := W.get (k := 1) rfl
      walk_at "go"
      intro f hf
      refine s_refused (x := d) (txt := txt) (fun Q' E' q' => ?_) (fun Q' q' => h4 g Q' edd q') fun p1 hp1 => ?_
      · refine e_lam [some d] rfl ?_
        walk_at "go"
        intro a ha
        have ne : dd ≠ a := fun z => by rw [z, ha] at edd; cases edd
        refine s_Morning_bad (h1 _ (by rw [hup_ne ne]; exact edd)) h2 ?_
        exact ⟨g, sub_hup ha, q'⟩
      have R1 := Rg.new (o := .ol [.str txt, .bl true]) W hp1
      generalize hup g p1 _ = g at R1 ⊢
      walk_at "go"
      refine h4 _ _ (R1.get (k := 2) rfl) ?_
      walk_at "go"
      intro p2 hp2
      have R2 := Rg.new (o := .ol [.str txt, .bl true]) R1 hp2
      generalize hup g p2 _ = g at R2 ⊢
      have e1 := R2.get (k := 1) rfl
      have e2 := R2.get (k := 0) rfl
      refine v_neP (p := .list [.str txt, .bool true]) (fun _ w => by cases w) ?_ ?_ (Pls.cons (Pl.str h3 (Nat.le_refl _)) (Pls.cons (Pl.bl (d := 0)) Pls.nil)).lst (by decide) ?_
      · show pdG _ 3 p1 = _
        simp only [pdG, pdFs, pdF, e1, Option.map_some]
      · show pdG _ 3 p2 = _
        simp only [pdG, pdFs, pdF, e2, Option.map_some]
      walk_at "go"
      exact hR _ _ ⟨_, fun d hd => hth d (List.mem_cons_of_mem _ hd), rfl, R2.one.one⟩
    · clear W2 things W W1
      rintro ρ g ⟨v10, _, rfl, W⟩
      walk_at "go"
      have pT : ∀ {x : D} {P : PyData} {w : Nat} {h : Hd} {Q : DK}, (∀ i, x ≠ .str i) → pd h x = some P → Pl P w 2 → Q (.bl true) h → wEq x x h Q := fun a e1 e2 q => v_eqP a e1 e1 e2 (by decide) q
      have pl1 : Pl (.tuple (b.people.map .str)) _ 2 := ((names_pl o (l := b.people) fun x hx => hx).tup).mono (Nat.le_refl _) (by omega)
      refine v_eqP (p := .tuple (b.people.map .str)) (fun _ w => by cases w) ?_ ?_ pl1 (by decide) ?_
      · show pdF _ (.tup _) = _
        simp only [pdF, pdFs_s, Option.map_some]
      · show pdF _ (.tup _) = _
        simp only [pdF, pdFs_s, Option.map_some]
      walk_at "go"
      rw [decide_eq_true rfl]
      walk_at "go"
      refine v_eqP (p := .tuple (b.lists.map fun l => .tuple (l.map .str))) (fun _ w => by cases w) ?_ ?_ (lists_pl o) (by decide) ?_
      · show pdF _ (.tup _) = _
        simp only [pdF, pdFs_lD, Option.map_some]
      · show pdF _ (.tup _) = _
        simp only [pdF, pdFs_lD, Option.map_some]
      exact f_drop W.sub q
end

end K78
end
section
set_option Elab.async false
set_option linter.all false
set_option maxRecDepth 100000
set_option maxHeartbeats 4000000
open PySem PySem.Spec L2 DL
namespace K78
local macro_rules | `(tactic| walk_at "st") => `(tactic| first
  | with_reducible refine c_seq ?_
  | with_reducible refine c_var (by with_unfolding_all exact rfl) ?_
  | with_reducible refine c_d2 ?_
  | with_reducible refine c_cons ?_
  | with_reducible refine c_nil ?_
  | with_reducible refine c_dL ?_
  | with_reducible refine c_call ?_
  | with_reducible refine c_int ?_
  | with_reducible refine c_str ?_
  | with_reducible refine c_bl ?_
  | with_reducible refine c_non ?_
  | with_reducible refine c_c ?_
  | with_reducible refine c_if ?_
  | with_reducible refine c_test ?_
  | with_reducible refine c_exb ?_
  | with_reducible refine c_tt ?_
  | with_reducible refine c_ff ?_
  | with_reducible refine c_nt ?_
  | with_reducible refine c_nf ?_
  | with_reducible refine c_ret ?_
  | with_reducible refine i_tup ?_
  | with_reducible refine i_fl ?_
  | with_reducible refine i_str ?_
  | with_reducible refine i_fd ?_
  | with_reducible refine c_sz (by with_unfolding_all exact rfl) ?_
  | with_reducible refine i_enumT ?_
  | with_reducible refine c_set ?_
  | with_reducible refine c_next ?_
  | with_reducible refine c_expr ?_
  | with_reducible refine c_fld ?_
  | with_reducible refine c_andT ?_
  | with_reducible refine c_orT ?_
  | with_reducible refine c_notT ?_
  | with_reducible refine c_and ?_
  | with_reducible refine c_or ?_
  | with_reducible refine c_not ?_
  | with_reducible refine c_ite ?_
  | with_reducible refine c_tup ?_
  | with_reducible refine c_lst ?_
  | with_reducible refine c_dM ?_
  | with_reducible refine c_met ?_
  | with_reducible refine c_new ?_
  | with_reducible refine c_sl ?_
  | with_reducible refine c_noP ?_
  | with_reducible refine c_part ?_
  | with_reducible refine c_chain ?_
  | with_reducible refine c_d1 ?_
  | with_reducible refine c_asg ?_
  | with_reducible refine c_par ?_
  | with_reducible refine c_par3 ?_
  | with_reducible refine v_par3 ?_
  | with_reducible refine c_raise ?_
  | with_reducible refine c_for ?_
  | with_reducible refine c_sfld ?_
  | with_reducible refine c_retN ?_
  | with_reducible refine c_gNm ?_
  | with_reducible refine c_gN ?_
  | with_reducible refine c_gC ?_
  | with_reducible refine c_gT (by with_unfolding_all exact rfl) ?_
  | with_reducible refine c_gSb ?_
  | with_reducible refine c_iAny ?_
  | with_reducible refine c_range1 ?_
  | with_reducible refine c_comp ?_
  | with_reducible refine c_enum ?_
  | with_reducible refine c_yes ?_
  | with_reducible refine c_st1 ?_
  | with_reducible refine c_tryAs ?_
  | with_reducible refine c_xf ?_
  | with_reducible refine c_hof ?_
  | with_reducible refine c_copyItems ?_
  | with_reducible refine c_lenSet ?_
  | with_reducible refine c_dict0 ?_
  | with_reducible refine v_onTb ?_
  | with_reducible refine v_onI ?_
  | with_reducible refine v_lt ?_
  | with_reducible refine v_gt ?_
  | with_reducible refine v_le ?_
  | with_reducible refine v_ge ?_
  | with_reducible refine v_eqI ?_
  | with_reducible refine v_neI ?_
  | with_reducible refine v_eqS ?_
  | with_reducible refine v_neS ?_
  | with_reducible refine v_add ?_
  | with_reducible refine v_sub ?_
  | with_reducible refine v_neg ?_
  | with_reducible refine v_mod (by decide) ?_
  | with_reducible refine v_int ?_
  | with_reducible refine v_isN ?_
  | with_reducible refine v_notN ?_
  | with_reducible refine v_insF ?_
  | with_reducible refine v_onO (by with_unfolding_all exact rfl) ?_
  | with_reducible refine v_kind (by with_unfolding_all exact rfl) ?_
  | with_reducible refine v_tupleT ?_
  | with_reducible refine v_tupleF ?_
  | with_reducible refine v_lenT ?_
  | with_reducible refine v_lenF ?_
  | with_reducible refine v_slT ?_
  | with_reducible refine v_ix (by with_unfolding_all exact rfl) ?_
  | with_reducible refine v_get1 ?_
  | with_reducible refine v_get2 ?_
  | with_reducible refine v_inD ?_
  | with_reducible refine v_notInD ?_
  | with_reducible refine v_max ?_
  | with_reducible refine v_min ?_
  | with_reducible refine v_isi (k := true) (by with_unfolding_all exact rfl) (by decide) ?_
  | with_reducible refine v_isi (k := false) (by with_unfolding_all exact rfl) (by decide) ?_
  | with_reducible refine ⟨rfl, ?_⟩)
local macro_rules | `(tactic| walk_at "go") => `(tactic| repeat (walk_at "st"))
section
variable {h : Hd} {Q : DK} {E : DX} {p : Addr}
theorem s_pool {ns : List Int} {turn : Int} (h0 : 0 ≤ turn) (h1 : turn < 100) (hn : ns.length ≤ 63) (q : ∀ (p : Addr) (x y z : Int), h p = none → Q (.ref p) (hup h p (.ol [.int x, .int y, .int z]))) : W__law_pool [.fl (ns.map .int), .int turn] h Q E := by
  refine e_fn [some (.fl (ns.map .int)), some (.int turn), none, none, none] rfl ?_
  unfold w__law_pool
  have main : ∀ (own : Int), dSeq (dFor (iAny (dSl (dVar 0) dNoP (dPart (dInt 6)))) (gNm 4) (dSet 3 (d2 wMod (dL wInt (dCons (d2 wAdd (d2 wAdd (d2 wMul (dVar 3) (dInt 48271)) (d2 wMod (dL wInt (dCons (dVar 4) dNil)) (dInt 2147482937))) (dInt 43)) dNil)) (dInt 2147482937)))) (dRet (dLst (dCons (d2 wMod (dL wInt (dCons (d2 wAdd (dVar 3) (d2 wMul (dVar 2) (dInt 1033))) dNil)) (dInt 2147482937)) (dCons (dIte (dOrT (dTest (d2 wLt (dVar 2) (dInt 0))) (dTest (d2 wGe (dVar 2) (d2 wPow (dInt 10) (dInt 18))))) (dL wAbs (dCons (dVar 2) dNil)) (dInt 0)) (dCons (dInt 0) dNil)))))
      ⟨fun _ h' => fin Q .non h', fin Q, fun _ _ => False, fun _ _ => False⟩ [some (.fl (ns.map .int)), some (.int turn), some (.int own), some (.int (60013 + 5003 * turn)), none] h := by
    intro own
    walk_at "go"
    refine v_slF fun p1 h1 => ?_
    rw [cut_take (by decide)]
    refine i_refL hup_same ?_
    refine for_inv (fun ds ρ g => ∃ (st : Int) (v4 : Option D), (∀ d ∈ ds, ∃ i : Int, d = .int i) ∧ ρ = [some (.fl (ns.map .int)), some (.int turn), some (.int own), some (.int st), v4] ∧ g = hup h p1 (.ol ((ns.map D.int).take (6 : Int).toNat))) (fun ds ρ g ⟨_, _, _, _, e⟩ => by rw [e]; exact hup_same) ?_ ?_ _ _ _ ⟨_, none, fun d hd => ?_, rfl, rfl⟩
    · rintro d ds ρ g R ⟨st, v4, hd, rfl, rfl⟩ hR
      obtain ⟨i, rfl⟩ := hd d (List.mem_cons_self ..)
      walk_at "go"
      refine v_mul (.inr (.inl ⟨by decide, by decide⟩)) ?_
      walk_at "go"
      exact hR _ _ ⟨_, some (.int i), fun d h => hd d (List.mem_cons_of_mem _ h), rfl, rfl⟩
    · rintro ρ g ⟨st, v4, _, rfl, rfl⟩
      have fin3 : ∀ x y : Int, ∀ p2, (hup h p1 (.ol ((ns.map D.int).take (6 : Int).toNat))) p2 = none → fin Q (.ref p2) (hup (hup h p1 (.ol ((ns.map D.int).take (6 : Int).toNat))) p2 (.ol [.int x, .int y, .int 0])) := fun x y p2 h2 => by
        obtain ⟨n21, h2⟩ := hup_none h2
        rw [hup_comm n21.symm]
        exact f_drop1 (by rw [hup_ne n21.symm]; exact h1) (q p2 x y 0 h2)
      walk_at "go"
      refine v_mul (.inr (.inl ⟨by decide, by decide⟩)) ?_
      walk_at "go"
      refine c_ifd (fun _ => ?_) (fun _ => ?_)
      · walk_at "go"
        refine v_absI ?_
        walk_at "go"
        exact fun p2 h2 => fin3 _ _ p2 h2
      · walk_at "go"
        refine v_pow ⟨by decide, by decide, by decide⟩ ?_
        walk_at "go"
        refine c_ifd (fun _ => ?_) (fun _ => ?_)
        · walk_at "go"
          refine v_absI ?_
          walk_at "go"
          exact fun p2 h2 => fin3 _ _ p2 h2
        · walk_at "go"
          exact fun p2 h2 => fin3 _ _ p2 h2
    · obtain ⟨i, _, rfl⟩ := List.mem_map.mp (List.mem_of_mem_take hd)
      exact ⟨i, rfl⟩
  walk_at "st"
  walk_at "st"
  walk_at "go"
  rw [List.length_map]
  refine c_ifd (fun hl => ?_) (fun _ => ?_)
  · walk_at "go"
    have ht : turn.toNat < ns.length := by omega
    refine v_ixF (d := .int ns[turn.toNat]) (atI_nat h0 (by rw [List.getElem?_map, List.getElem?_eq_getElem ht]; rfl)) ?_
    walk_at "go"
    refine v_mul (.inl ⟨by decide, by decide⟩) ?_
    iterate 1 walk_at "st"
    exact main _
  · walk_at "go"
    refine v_mul (.inl ⟨by decide, by decide⟩) ?_
    walk_at "go"
    refine v_mul (.inl ⟨by decide, by decide⟩) ?_
    iterate 1 walk_at "st"
    exact main _
theorem s_law {ns : List Int} (hn : ns.length ≤ 63) (q : Q (.bl true) h) : W_law [.fl (ns.map .int)] h Q E := by
  refine e_fn [some (.fl (ns.map .int)), none] rfl ?_
  unfold w_law
  walk_at "go"
  rw [List.length_map]
  refine ⟨by split <;> split <;> omega, ?_⟩
  intro p hp
  refine lc_pure (fun _ => some (.bl true)) (fun _ => trivial) (by rw [List.length_map, List.length_range]; split <;> split <;> omega) (fun d hd h R acc e hs q => ?_) ?_
  · obtain ⟨i, hm, rfl⟩ := List.mem_map.mp hd
    have hi : i < 100 := by
      have := List.mem_range.mp hm
      revert this
      split <;> split <;> omega
    walk_at "go"
    refine s_pool (by omega) (by omega) hn fun p2 x y z h2 => ?_
    walk_at "go"
    refine s_right h2 ?_
    exact v_onOl e ⟨hs, q⟩
  · walk_at "go"
    rw [fm_some (fun _ => D.bl true), List.map_map]
    generalize (List.range _) = l
    refine v_allR (bs := l.map fun _ => true) (by rw [hup_same, List.map_map]; rfl) ?_
    rw [show (l.map fun _ => true).all id = true from by rw [List.all_eq_true]; intro b hb; obtain ⟨_, _, rfl⟩ := List.mem_map.mp hb; rfl]
    exact f_drop1 hp q
end

end K78
end
section
set_option Elab.async false
set_option linter.all false
set_option maxRecDepth 100000
set_option maxHeartbeats 0
namespace K78
open PySem PySem.Spec PyProof.Rows L2 DL
theorem kz {w : World} {h : Heap} {K : PySem.W.Frag} (c : He.SaysX fa fn hin.tabs hin.tf hin.ex w h K) : KZ K (hin.T K) w := by
  have z := head_says c
  exact ⟨z.ok _, fun y hy => z.sb y hy, z.xf, z.xn, z.oex, z.init, xis_of (Bool.and_eq_true_iff.mp (Bool.and_eq_true_iff.mp (head_says c).more).1).1, ne_of (Bool.and_eq_true_iff.mp (Bool.and_eq_true_iff.mp (head_says c).more).1).2, nf_of (Bool.and_eq_true_iff.mp (head_says c).more).2, z.gd 0 _ rfl⟩
theorem fact_law {w : World} {mg : Str → Option Value} {f : Addr} {h : Heap} {K : PySem.W.Frag} (KX : K.In h) (G : h.Ns mainGlobals mg) (c : He.SaysX fa fn hin.tabs hin.tf hin.ex w h K) (hf : mg "law" = some (.ref f)) :
    LawAtG PySem.Challenge.rw_callchains_k78_mornings_made w K (L2.CX PySem.Challenge.rw_callchains_k78_mornings_made.prog w) 16 63 "script" mg f h := by
  obtain ⟨fd, F⟩ := c.t.d.def_ 53 rfl
  refine law_at (I := hin) (st := top 72) (W := W_law) KX G c hf (He.glo_ok KX G (c.t.d.fact 44 (f := .glo "law") rfl)) F (fun _ _ _ _ _ _ us hl => match us, hl with | [_], _ => rfl) (fun base hK hN hB => ?_) fun ns hl _ => s_law hl rfl
  exact chain KX G c.t.d (kz c) (fun fd F => tabAt_of hB (head_says c).ap (p := ("wrong_name", none)) (by decide) (by decide) F) (fun fd F => tabAt_of hB (head_says c).ap (p := ("wrong_list", none)) (by decide) (by decide) F) (fun fd F => tabAt_of hB (head_says c).ap (p := ("_law_right", none)) (by decide) (by decide) F)
end K78
open PySem PySem.W PySem.Calls PyProof.Rows
theorem PySem.Challenge.cw_callchains_k78_mornings_made_holds : PySem.Challenge.rw_callchains_k78_mornings_made.Holds := by
  w_on; o_law
  refine HandSHeadRun.head_any (r := OpenLaw.row PySem.Challenge.rw_callchains_k78_mornings_made) (q := view (OpenLaw.row PySem.Challenge.rw_callchains_k78_mornings_made).prog [72]) (H := K78.hk) (ob := K78.ob) (M := 6000) (loose := K78.loose) (d := HandSHeadRun.topDef (OpenLaw.row PySem.Challenge.rw_callchains_k78_mornings_made).prog 72) (kwd := []) K78.ob_eq
    (by kernel_rfl) (fun s => by kernel_rfl) K78.run (by kernel_rfl) (by kernel_rfl) (by kernel_rfl) (by rfl) (by first | assumption | decide +kernel) (by decide +kernel) ⟨rfl, rfl, rfl, rfl, rfl, by decide +kernel⟩ ?hw ?hc
  case hw => w_witness2
  case hc =>
    refine DL.walk_ofGE (l := PySem.Challenge.rw_callchains_k78_mornings_made) (n := 63) (k := 16) (x := "script") (CX := fun w => L2.CX PySem.Challenge.rw_callchains_k78_mornings_made.prog w) rfl (by decide) (by kernel_rfl) (DL.roomC ⟨rfl, by decide, by decide⟩) ?F (fun w H s e s' z => DL.cx_no z)
    intro w mg fa h Y G hmg0
    obtain ⟨K, KX, c⟩ := Y
    have hmg : mg ("law" : PySem.Str) = some (.ref fa) := by
      have e : (HandSHeadRun.topDef (OpenLaw.row PySem.Challenge.rw_callchains_k78_mornings_made).prog 72).name = ("law" : PySem.Str) := by kernel_rfl
      rw [← e]
      exact hmg0
    exact ⟨K, KX, K78.fact_law KX G c hmg⟩
end
