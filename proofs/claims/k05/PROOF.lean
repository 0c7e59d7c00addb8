import PyProof.Rows.All
import Wide.All
import OpenK.AllK
import Wide.FinOn
import HandS.ForMost
import HandS.ForExc
import HandS.Lambda
import HandS.EndTab
import HandS.Wide
import HandS.IsInst
import HandS.Flow
import HandS.SortInts
import HandS.NoneIn
import HandS.Defaults
import HandS.Head0
import HandS.Head1
import HandS.Head2
import HandS.HeadEnd
import HandS.HeadHook1
import HandS.HeadHook2
import KE.SortData
import KE.DataMinMax
import HandS.SortKw
import KE.KDictZip
import HandS.Deep
import HandS.SetFor
import HandS.SetTxt0
import HandS.Flt
import HandS.Zip
import HandS.Iter
import HandS.SetKeys
import HandS.WordsDict
import HandS.Sort
import HandS.Rev
import HandS.RevTup
import KE.KDictSum
import KE.SortKeyHeap
import KE.KLam
import HandS.Conv
import HandS.HeadHook4
import HandS.ExcInit
import HandS.ExcOwn
import HandS.ExcField
import HandS.ExcIs
import KE.KExcIs
import HandS.FStr
import HandS.Text
import HandS.ExcValue
import HandS.TupLe
import PyProof.ListOps
import PyProof.StrBlock2
import PyProof.Rows.StrJoinRep
import PyProof.DictMoreH
import KE.KDictCopyH
import HandS.Style
import HandS.TryOnly
import PyProof.StrLawsTight
import PyProof.Rows.StrItems
import PySem.Challenge.RW_wirechannel_k05_bounds
set_option Elab.async false
set_option linter.all false
set_option maxRecDepth 100000
section
namespace PV
open PySem PySem.Spec PyProof.Rows L2
inductive Tag where
  | own | frz | tmp
  deriving DecidableEq
inductive Kind where
  | lst
  | dic (ks : List Key)
  | dit (ks : List (List Key))
  | dil (ks : List Key)
  | ins (c : Str) (ns : List Str)
  | inv (c : Str) (ns : List Str) (as : List Addr)
  | exc (c : Str)
  | xdk (ns : List Str)
  deriving DecidableEq
inductive D where
  | non | bl (b : Bool) | int (i : Int) | str (s : Str)
  | tup (ds : List D)
  | nd (t : Tag) (k : Kind) (ds : List D)
  | pin (j : Nat) (d : D)
  | pack (d : D) (cs : List D)
abbrev D.lst (t : Tag) (ds : List D) : D := .nd t .lst ds
def Tag.rd : Tag → Tag
  | .own => .tmp
  | .frz => .frz
  | .tmp => .tmp
def Tag.fz : Tag → Tag
  | .own => .frz
  | .frz => .frz
  | .tmp => .tmp
mutual
def rd : D → D
  | .tup ds => .tup (rdL ds)
  | .nd t k ds => .nd t.rd k (rdL ds)
  | .pin _ d => rd d
  | .pack d _ => rd d
  | d => d
def rdL : List D → List D
  | [] => []
  | d :: ds => rd d :: rdL ds
end
mutual
def fz : D → D
  | .tup ds => .tup (fzL ds)
  | .nd t k ds => .nd t.fz k (fzL ds)
  | .pin _ d => fz d
  | .pack d _ => fz d
  | d => d
def fzL : List D → List D
  | [] => []
  | d :: ds => fz d :: fzL ds
end
mutual
def fa : D → D
  | .tup ds => .tup (faL ds)
  | .nd _ k ds => .nd .frz k (faL ds)
  | .pin _ d => fa d
  | .pack d _ => fa d
  | d => d
def faL : List D → List D
  | [] => []
  | d :: ds => fa d :: faL ds
end
mutual
def noT : D → Bool
  | .tup ds => noTL ds
  | .nd t _ ds => decide (t ≠ .tmp) && noTL ds
  | .pin _ d => noT d
  | .pack d cs => noT d && noTL cs
  | _ => true
def noTL : List D → Bool
  | [] => true
  | d :: ds => noT d && noTL ds
end
mutual
def imm : D → Bool
  | .tup ds => immL ds
  | .nd _ _ _ => false
  | .pin _ _ => false
  | .pack _ _ => false
  | _ => true
def immL : List D → Bool
  | [] => true
  | d :: ds => imm d && immL ds
end
mutual
def imO : D → Bool
  | .tup ds => imOL ds
  | .nd t _ ds => decide (t = .own) && imOL ds
  | .pin _ _ => false
  | .pack _ _ => false
  | _ => true
def imOL : List D → Bool
  | [] => true
  | d :: ds => imO d && imOL ds
end
def IsTup' : HO → Prop
  | .tup _ => True
  | .tbl _ => True
  | .ext _ => True
  | _ => False
structure Kap (M : PySem.W.Frag) where
  cls : Str → Addr
  tb : List (Addr × Str) := []
  pv : List Addr := []
def markT (q : Str) : HO := .tbl #[.str q 0]
structure Mks {M : PySem.W.Frag} (κ : Kap M) (F : Hp) : Prop where
  mt : ∀ p ∈ κ.tb, F p.1 = some (markT p.2)
  tt : ∀ a ps, F a = some (.tbl ps) → ∃ p ∈ κ.tb, p.1 = a
structure SameT (F F' : Hp) : Prop where
  same : Same F F'
  nt : ∀ a ps, F' a = some (.tbl ps) → F a = some (.tbl ps)
instance {F F' : Hp} : CoeOut (SameT F F') (Same F F') := ⟨SameT.same⟩
instance {F F' : Hp} : CoeFun (SameT F F') fun _ => ∀ a o, F a = some o → F' a = some o := ⟨fun s => s.same⟩
theorem SameT.refl (F : Hp) : SameT F F := ⟨Same.refl _, fun _ _ e => e⟩
theorem SameT.trans {F F1 F2 : Hp} (a : SameT F F1) (b : SameT F1 F2) : SameT F F2 := ⟨a.same.trans b.same, fun x ps e => a.nt x ps (b.nt x ps e)⟩
structure FF {M : PySem.W.Frag} (κ : Kap M) (F0 F : Hp) : Prop where
  same : Same F0 F
  mks : Mks κ F
instance {M : PySem.W.Frag} {κ : Kap M} {F0 F : Hp} : CoeOut (FF κ F0 F) (Same F0 F) := ⟨FF.same⟩
theorem FF.trans {M : PySem.W.Frag} {κ : Kap M} {F0 F F' : Hp} (a : FF κ F0 F) (b : SameT F F') : FF κ F0 F' := ⟨a.same.trans b.same, ⟨fun p hp => b.same _ _ (a.mks.mt p hp), fun x ps e => a.mks.tt x ps (b.nt x ps e)⟩⟩
theorem FF.then {M : PySem.W.Frag} {κ : Kap M} {F0 F F' : Hp} (a : FF κ F0 F) (b : FF κ F F') : FF κ F0 F' := ⟨a.same.trans b.same, b.mks⟩
theorem FF.sameT {M : PySem.W.Frag} {κ : Kap M} {F F' : Hp} (b : FF κ F F') (m : Mks κ F) : SameT F F' := ⟨b.same, fun x ps e => by
  obtain ⟨p, hp, rfl⟩ := b.mks.tt x ps e
  have h := m.mt p hp
  rw [b.same _ _ h] at e
  rw [h]; exact e⟩
theorem FF.refl {M : PySem.W.Frag} {κ : Kap M} {F0 F : Hp} (a : FF κ F0 F) : FF κ F F := ⟨Same.refl _, a.mks⟩
theorem Mks.up {M : PySem.W.Frag} {κ : Kap M} {F F' : Hp} (m : Mks κ F) (s : SameT F F') : Mks κ F' := ⟨fun p hp => s.same _ _ (m.mt p hp), fun x ps e => m.tt x ps (s.nt x ps e)⟩
def KL (M : PySem.W.Frag) (a : Addr) (xs : List V) : Prop := ∃ (o : Obj) (its : Array Value) (n : Nat), M.lookup a = some o ∧ o.cls = .type "list" ∧ o.dict = none ∧ o.data = .seq its n ∧ its.size ≤ sizeLine ∧ Vals xs its.toList
def IsHO {M : PySem.W.Frag} (κ : Kap M) : Kind → List V → HO → Prop
  | .lst, vs, o => o = .lst vs
  | .dic ks, vs, o => (ks.Nodup ∧ ks.length = vs.length) ∧ o = .dK (ks.zip vs)
  | .dit ks, vs, o => (ks.Nodup ∧ ks.length = vs.length) ∧ o = .dT (ks.zip vs)
  | .dil ks, vs, o => (ks.Nodup ∧ ks.length = vs.length) ∧ ∃ od, o = .frz od (.dK (ks.zip vs))
  | .ins c ns, vs, o => ns.length = vs.length ∧ ∃ dx, o = .ins (κ.cls c) dx (ns.zip vs)
  | .inv c ns as, vs, o => (ns.length = vs.length ∧ ∃ dx, o = .ins (κ.cls c) dx (ns.zip vs)) ∧ vs = as.map V.ref
  | .exc c, vs, o => ∃ (oe : Obj) (dd : Option Addr), o = .frz oe (.ext fun _ => True) ∧ (oe.cls = .ref (κ.cls c) ∧ oe.dict = dd) ∧ (∃ fv, oe.data = .fields fv) ∧ vs = (dd.map V.ref).toList
  | .xdk ns, vs, o => ns.length = vs.length ∧ ∃ fs : List (Str × V), o = .xd fs ∧ ∀ (j : Nat) (n : Str) (v : V), ns[j]? = some n → vs[j]? = some v → fs.lookup n = some v
theorem IsHO.nt {M : PySem.W.Frag} {κ : Kap M} {k : Kind} {vs : List V} {o : HO} (h : IsHO κ k vs o) : ¬ IsTup' o := by
  cases k with
  | lst => cases h; exact fun z => z
  | dic ks => obtain ⟨_, rfl⟩ := h; exact fun z => z
  | dit ks => obtain ⟨_, rfl⟩ := h; exact fun z => z
  | dil ks => obtain ⟨_, _, rfl⟩ := h; exact fun z => z
  | ins c ns => obtain ⟨_, dx, rfl⟩ := h; exact fun z => z
  | inv c ns as => obtain ⟨⟨_, dx, rfl⟩, _⟩ := h; exact fun z => z
  | exc c => obtain ⟨_, _, rfl, _⟩ := h; exact fun z => z
  | xdk ns => obtain ⟨_, fs, rfl, _⟩ := h; exact fun z => z
def RdO (k : Kind) (o u : HO) : Prop := o = u ∨ k = .lst ∧ ∃ ob, o = .frz ob u
mutual
inductive Rep {M : PySem.W.Frag} (κ : Kap M) (F H : Hp) : D → V → List Addr → Prop
  | non : Rep κ F H .non .non []
  | bl (b : Bool) : Rep κ F H (.bl b) (.bl b) []
  | int (i : Int) : Rep κ F H (.int i) (.int i) []
  | str (s : Str) : Rep κ F H (.str s) (.str s) []
  | tup {a : Addr} {ds : List D} {vs : List V} {fp : List Addr} : F a = some (.tup vs) → RepL κ F H ds vs fp → Rep κ F H (.tup ds) (.ref a) fp
  | ndO {a : Addr} {k : Kind} {ds : List D} {vs : List V} {fp : List Addr} {o : HO} : H a = some o → IsHO κ k vs o → RepL κ F H ds vs fp → Rep κ F H (.nd .own k ds) (.ref a) (a :: fp)
  | ndF {a : Addr} {k : Kind} {ds : List D} {vs : List V} {o u : HO} : F a = some o → RdO k o u → IsHO κ k vs u → RepL κ F H ds vs [] → Rep κ F H (.nd .frz k ds) (.ref a) []
  | ndT {a : Addr} {k : Kind} {ds : List D} {vs : List V} {o u : HO} : H a = some o → RdO k o u → IsHO κ k vs u → RepL κ F H ds vs [] → Rep κ F H (.nd .tmp k ds) (.ref a) []
  | ndK {a : Addr} {ds : List D} {vs : List V} : KL M a vs → RepL κ F H ds vs [] → Rep κ F H (.nd .frz .lst ds) (.ref a) []
  | pin {j : Nat} {a : Addr} {d : D} {fp : List Addr} : κ.pv[j]? = some a → Rep κ F H d (.ref a) fp → Rep κ F H (.pin j d) (.ref a) fp
  | pack {d : D} {cs : List D} {v : V} {fp fq : List Addr} : κ.pv ≠ [] → Rep κ F H d v fp → RepL κ F H cs (κ.pv.map V.ref) fq → Rep κ F H (.pack d cs) v (fp ++ fq)
inductive RepL {M : PySem.W.Frag} (κ : Kap M) (F H : Hp) : List D → List V → List Addr → Prop
  | nil : RepL κ F H [] [] []
  | cons {d : D} {v : V} {ds : List D} {vs : List V} {fp fq : List Addr} : Rep κ F H d v fp → RepL κ F H ds vs fq → RepL κ F H (d :: ds) (v :: vs) (fp ++ fq)
end
def nTb : HO → Prop
  | .tbl _ => False
  | _ => True
theorem nTb_rd {k : Kind} {o u : HO} (r : RdO k o u) (h : nTb u) : nTb o := by
  rcases r with rfl | ⟨_, _, rfl⟩
  · exact h
  · exact True.intro
theorem nTb_of {o : HO} (h : ¬ IsTup' o) : nTb o := by
  cases o with
  | tbl ps => exact (h True.intro).elim
  | _ => exact True.intro
structure Sm (H H' : Hp) : Prop where
  at_ : ∀ a o, H a = some o → nTb o → H' a = some o
  fr : ∀ a, H' a = none → H a = none
structure Sub (F H : Hp) : Prop where
  at_ : ∀ a o, F a = some o → nTb o → H a = some o
  tb : ∀ a ps, F a = some (.tbl ps) → ∃ q t, ps = #[.str q t] ∧ LamX.TabS H a q
theorem Sm.ap {H H' : Hp} (s : Sm H H') (a : Addr) (o : HO) (e : H a = some o) (h : nTb o := by first | exact True.intro | assumption | (refine nTb_rd (by assumption) ?_; exact True.intro)) : H' a = some o := s.at_ a o e h
theorem Sub.ap {H H' : Hp} (s : Sub H H') (a : Addr) (o : HO) (e : H a = some o) (h : nTb o := by first | exact True.intro | assumption | (refine nTb_rd (by assumption) ?_; exact True.intro)) : H' a = some o := s.at_ a o e h
instance {H H' : Hp} : CoeFun (Sm H H') fun _ => ∀ a o, H a = some o → (h : nTb o := by first | exact True.intro | assumption | (refine nTb_rd (by assumption) ?_; exact True.intro)) → H' a = some o := ⟨fun s => @Sm.ap _ _ s⟩
instance {H H' : Hp} : CoeFun (Sub H H') fun _ => ∀ a o, H a = some o → (h : nTb o := by first | exact True.intro | assumption | (refine nTb_rd (by assumption) ?_; exact True.intro)) → H' a = some o := ⟨fun s => @Sub.ap _ _ s⟩
theorem Sm.refl (H : Hp) : Sm H H := ⟨fun _ _ e _ => e, fun _ e => e⟩
theorem Sm.trans {H H1 H2 : Hp} (a : Sm H H1) (b : Sm H1 H2) : Sm H H2 := ⟨fun c o e n => b.at_ c o (a.at_ c o e n) n, fun c e => a.fr c (b.fr c e)⟩
theorem Sm.free {H H' : Hp} (e : Sm H H') {l : Addr} (h : H' l = none) : H l = none := e.fr l h
theorem Sm.of {H H' : Hp} (e : Same H H') : Sm H H' := ⟨fun a o h _ => e a o h, fun a h => e.free h⟩
theorem Sub.free {F H : Hp} (e : Sub F H) {l : Addr} (h : H l = none) : F l = none := by
  cases q : F l with
  | none => rfl
  | some o =>
    by_cases n : nTb o
    · rw [e.at_ l o q n] at h; cases h
    · cases o with
      | tbl ps =>
        obtain ⟨_, _, _, ps', h1, _⟩ := e.tb l ps q
        rw [h1] at h; cases h
      | _ => exact absurd True.intro n
theorem Sub.grow {F H H' : Hp} (e : Sub F H) (s : Same H H') : Sub F H' := ⟨fun a o h n => s a o (e.at_ a o h n), fun a ps h => by
  obtain ⟨q, t, h1, h2⟩ := e.tb a ps h
  exact ⟨q, t, h1, h2.ext s⟩⟩
theorem Sub.sm {F H : Hp} (e : Sub F H) : Sm F H := ⟨e.at_, fun _ h => e.free h⟩
theorem TabS.upd {H : Hp} {P a : Addr} {q : Str} {o x : HO} (t : LamX.TabS H P q) (e : H a = some x) (n : ¬ IsTup' x) : LamX.TabS (upd H a o) P q := by
  obtain ⟨ps, h1, h2, h3⟩ := t
  have ne : ∀ b u, H b = some u → IsTup' u → b ≠ a := fun b u h t z => by rw [z, e] at h; cases h; exact n t
  refine ⟨ps, by rw [upd_ne (ne _ _ h1 True.intro)]; exact h1, h2, fun pos cv hc => ?_⟩
  obtain ⟨c, e1, e2⟩ := h3 pos cv hc
  exact ⟨c, e1, by rw [upd_ne (ne _ _ e2 True.intro)]; exact e2⟩
theorem Sm.upd {K H : Hp} (s : Sm K H) {a : Addr} {o : HO} (h : K a = none) : Sm K (L2.upd H a o) := ⟨fun b x e n => by rw [upd_ne (ne_of_none e h)]; exact s.at_ b x e n, fun b e => by
  by_cases z : b = a
  · rw [z, upd_same] at e; cases e
  · rw [upd_ne z] at e; exact s.free e⟩
theorem Sub.upd {F H : Hp} (s : Sub F H) {a : Addr} {o x : HO} (h : F a = none) (e : H a = some x) (n : ¬ IsTup' x) : Sub F (L2.upd H a o) := ⟨fun b x e n => by rw [upd_ne (ne_of_none e h)]; exact s.at_ b x e n, fun b ps hb => by
  obtain ⟨q, t, h1, h2⟩ := s.tb b ps hb
  exact ⟨q, t, h1, TabS.upd h2 e n⟩⟩
theorem Sub.notOwn {F H : Hp} (s : Sub F H) {a : Addr} {u o : HO} (h : F a = some u) (t : IsTup' u) (e : H a = some o) (n : ¬ IsTup' o) : False := by
  by_cases k : nTb u
  · have := s.at_ a u h k
    rw [e] at this; cases this; exact n t
  · cases u with
    | tbl ps =>
      obtain ⟨_, _, _, ps', h1, _⟩ := s.tb a ps h
      rw [e] at h1; cases h1; exact n True.intro
    | _ => exact k True.intro
theorem IsHO.nTb {M : PySem.W.Frag} {κ : Kap M} {k : Kind} {vs : List V} {o : HO} (h : IsHO κ k vs o) : nTb o := by
  cases k with
  | lst => cases h; exact True.intro
  | dic ks => obtain ⟨_, rfl⟩ := h; exact True.intro
  | dit ks => obtain ⟨_, rfl⟩ := h; exact True.intro
  | dil ks => obtain ⟨_, _, rfl⟩ := h; exact True.intro
  | ins c ns => obtain ⟨_, dx, rfl⟩ := h; exact True.intro
  | inv c ns as => obtain ⟨⟨_, dx, rfl⟩, _⟩ := h; exact True.intro
  | exc c => obtain ⟨_, _, rfl, _⟩ := h; exact True.intro
  | xdk ns => obtain ⟨_, fs, rfl, _⟩ := h; exact True.intro
theorem RdO.nTb {M : PySem.W.Frag} {κ : Kap M} {k : Kind} {vs : List V} {o u : HO} (r : RdO k o u) (h : IsHO κ k vs u) : nTb o := by
  rcases r with rfl | ⟨_, _, rfl⟩
  · exact h.nTb
  · exact True.intro
def seen (F H : Hp) : Hp := fun a => match F a with
  | some o => some o
  | none => match H a with
    | some (.tbl _) => none
    | o => o
theorem same_seen {F H : Hp} : Same F (seen F H) := fun a o e => by unfold seen; rw [e]
theorem sameT_seen {F H : Hp} : SameT F (seen F H) := ⟨same_seen, fun a ps e => by
  unfold seen at e
  cases q : F a with
  | some o => rw [q] at e; exact e
  | none =>
    rw [q] at e
    dsimp only at e
    split at e
    · cases e
    · rename_i h; exact (h _ e).elim⟩
theorem seen_of {F H : Hp} (fh : Sub F H) {a : Addr} {o : HO} (e : H a = some o) (n : nTb o) : seen F H a = some o := by
  unfold seen
  cases q : F a with
  | some u =>
    by_cases n2 : PV.nTb u
    · have := fh.at_ a u q n2
      rw [e] at this; exact this.symm
    · cases u with
      | tbl ps =>
        obtain ⟨_, _, _, ps', h1, _⟩ := fh.tb a ps q
        rw [e] at h1; cases h1; exact n.elim
      | _ => exact absurd True.intro n2
  | none =>
    rw [e]
    cases o with
    | tbl ps => exact n.elim
    | _ => rfl
theorem seen_sub {F H : Hp} (fh : Sub F H) : Sub (seen F H) H := ⟨fun a o e n => by
  unfold seen at e
  cases q : F a with
  | some u => rw [q] at e; cases e; exact fh.at_ a _ q n
  | none =>
    rw [q] at e
    dsimp only at e
    split at e
    · cases e
    · exact e, fun a ps e => by
  unfold seen at e
  cases q : F a with
  | some u => rw [q] at e; cases e; exact fh.tb a _ q
  | none =>
    rw [q] at e
    dsimp only at e
    split at e
    · cases e
    · rename_i h; exact absurd e (h ps)⟩
section
variable {M : PySem.W.Frag} {κ : Kap M} {F H F' H' : Hp}
theorem RepL.length {ds : List D} {vs : List V} {fp : List Addr} (h : RepL κ F H ds vs fp) : ds.length = vs.length := by
  induction ds generalizing vs fp with
  | nil => cases h; rfl
  | cons d ds ih => cases h with | cons _ r => simp [ih r]
theorem rep_mono (hF : Same F F') (hT : Sm H H') : 
    (∀ d v fp, Rep κ F H d v fp → Rep κ F' H' d v fp) ∧ (∀ ds vs fp, RepL κ F H ds vs fp → RepL κ F' H' ds vs fp) := by
  have key : ∀ n : Nat, (∀ d v fp, sizeOf d ≤ n → Rep κ F H d v fp → Rep κ F' H' d v fp) ∧ (∀ ds vs fp, sizeOf ds ≤ n → RepL κ F H ds vs fp → RepL κ F' H' ds vs fp) := by
    intro n
    induction n with
    | zero =>
      refine ⟨fun d v fp hz h => ?_, fun ds vs fp hz h => ?_⟩
      · cases d <;> simp at hz
      · cases ds <;> simp at hz
    | succ n ih =>
      refine ⟨fun d v fp hz h => ?_, fun ds vs fp hz h => ?_⟩
      · cases h with
        | non => exact .non
        | bl b => exact .bl b
        | int i => exact .int i
        | str s => exact .str s
        | tup ha hl => exact .tup (hF _ _ ha) (ih.2 _ _ _ (by simp at hz; omega) hl)
        | ndO ha hs hl => exact .ndO (hT.at_ _ _ ha hs.nTb) hs (ih.2 _ _ _ (by simp at hz; omega) hl)
        | ndF ha hr hs hl => exact .ndF (hF _ _ ha) hr hs (ih.2 _ _ _ (by simp at hz; omega) hl)
        | ndT ha hr hs hl => exact .ndT (hT.at_ _ _ ha (hr.nTb hs)) hr hs (ih.2 _ _ _ (by simp at hz; omega) hl)
        | ndK ha hl => exact .ndK ha (ih.2 _ _ _ (by simp at hz; omega) hl)
        | pin hp hd => exact .pin hp (ih.1 _ _ _ (by simp at hz; omega) hd)
        | pack hn h1 h2 => exact .pack hn (ih.1 _ _ _ (by simp at hz; omega) h1) (ih.2 _ _ _ (by simp at hz; omega) h2)
      · cases h with
        | nil => exact .nil
        | cons hd hl => exact .cons (ih.1 _ _ _ (by simp at hz; omega) hd) (ih.2 _ _ _ (by simp at hz; omega) hl)
  exact ⟨fun d v fp h => (key _).1 d v fp (Nat.le_refl _) h, fun ds vs fp h => (key _).2 ds vs fp (Nat.le_refl _) h⟩
end
structure Ext (F H F' H' : Hp) : Prop where
  hh : Sm H H'
  ff : SameT F F'
  fh : Sub F' H'
  gr : ∀ a o, F' a = some o → F a = some o ∨ H a = none ∨ IsTup' o
theorem Ext.refl {F H : Hp} (h : Sub F H) : Ext F H F H := ⟨Sm.refl _, SameT.refl _, h, fun _ _ e => .inl e⟩
theorem Ext.trans {F H F1 H1 F2 H2 : Hp} (a : Ext F H F1 H1) (b : Ext F1 H1 F2 H2) : Ext F H F2 H2 := ⟨a.hh.trans b.hh, a.ff.trans b.ff, b.fh, fun x o e => by
  rcases b.gr x o e with h | h | h
  · exact a.gr x o h
  · exact .inr (.inl (a.hh.free h))
  · exact .inr (.inr h)⟩
theorem same_upd {H : Hp} {p : Addr} {o : HO} (h : H p = none) : Same H (upd H p o) := fun b x e => by rw [upd_ne (ne_of_none e h)]; exact e
theorem Ext.newF {F H : Hp} {p : Addr} {o : HO} (fh : Sub F H) (h : H p = none) (n : nTb o := by exact True.intro) : Ext F H (upd F p o) (upd H p o) := ⟨.of (same_upd h),
  ⟨same_upd (fh.free h), fun b ps e => by
    by_cases z : b = p
    · rw [z, upd_same] at e; cases e; exact n.elim
    · rw [upd_ne z] at e; exact e⟩, ⟨fun b x e n2 => by
    unfold upd at e ⊢
    split
    · rename_i q; rw [if_pos q] at e; exact e
    · rename_i q; rw [if_neg q] at e; exact fh.at_ _ _ e n2, fun b ps e => by
    unfold upd at e
    split at e
    · cases e; exact n.elim
    · exact (fh.grow (same_upd h)).tb _ _ e⟩, fun b x e => by
    unfold upd at e
    split at e
    · rename_i q; subst q; exact .inr (.inl h)
    · exact .inl e⟩
theorem Ext.newO {F H : Hp} {p : Addr} {o : HO} (fh : Sub F H) (h : H p = none) : Ext F H F (upd H p o) := ⟨.of (same_upd h),
  SameT.refl _, fh.grow (same_upd h), fun b x e => .inl e⟩
section
variable {M : PySem.W.Frag} {κ : Kap M} {F H F' H' : Hp}
theorem Rep.ext {d : D} {v : V} {fp : List Addr} (h : Rep κ F H d v fp) (e : Ext F H F' H') : Rep κ F' H' d v fp := (rep_mono e.ff e.hh).1 _ _ _ h
theorem RepL.ext {d : List D} {v : List V} {fp : List Addr} (h : RepL κ F H d v fp) (e : Ext F H F' H') : RepL κ F' H' d v fp := (rep_mono e.ff e.hh).2 _ _ _ h
mutual
theorem Rep.own {M : PySem.W.Frag} (κ : Kap M) (F H : Hp) : ∀ (d : D) (v : V) (fp : List Addr), Rep κ F H d v fp → ∀ a ∈ fp, ∃ o, H a = some o ∧ ¬ IsTup' o
  | .non, _, _, h => by cases h; simp
  | .bl _, _, _, h => by cases h; simp
  | .int _, _, _, h => by cases h; simp
  | .str _, _, _, h => by cases h; simp
  | .tup ds, _, _, h => by cases h with | tup _ hl => exact RepL.own κ F H ds _ _ hl
  | .nd t k ds, _, _, h => by
    cases h with
    | ndO ha hs hl =>
      intro a hm
      rcases List.mem_cons.mp hm with rfl | hm
      · exact ⟨_, ha, hs.nt⟩
      · exact RepL.own κ F H ds _ _ hl a hm
    | ndF => simp
    | ndT => simp
    | ndK => simp
  | .pin _ d, _, _, h => by cases h with | pin _ hd => exact Rep.own κ F H d _ _ hd
  | .pack d cs, _, _, h => by
    cases h with
    | pack _ h1 h2 =>
      intro a hm
      rcases List.mem_append.mp hm with hm | hm
      · exact Rep.own κ F H d _ _ h1 a hm
      · exact RepL.own κ F H cs _ _ h2 a hm
theorem RepL.own {M : PySem.W.Frag} (κ : Kap M) (F H : Hp) : ∀ (ds : List D) (vs : List V) (fp : List Addr), RepL κ F H ds vs fp → ∀ a ∈ fp, ∃ o, H a = some o ∧ ¬ IsTup' o
  | [], _, _, h => by cases h; simp
  | d :: ds, _, _, h => by
    cases h with
    | cons h1 h2 =>
      intro a hm
      rcases List.mem_append.mp hm with hm | hm
      · exact Rep.own κ F H d _ _ h1 a hm
      · exact RepL.own κ F H ds _ _ h2 a hm
end
mutual
theorem Rep.rd {M : PySem.W.Frag} (κ : Kap M) (F H : Hp) (fh : Sub F H) : ∀ (d : D) (v : V) (fp : List Addr), Rep κ F H d v fp → Rep κ F H (rd d) v []
  | .non, _, _, h => by cases h; exact .non
  | .bl _, _, _, h => by cases h; exact .bl _
  | .int _, _, _, h => by cases h; exact .int _
  | .str _, _, _, h => by cases h; exact .str _
  | .tup ds, _, _, h => by
    cases h with
    | tup ha hl =>
      rw [PV.rd]
      exact .tup ha (RepL.rd κ F H fh ds _ _ hl)
  | .nd t k ds, _, _, h => by
    rw [PV.rd]
    cases h with
    | ndO ha hs hl => exact .ndT ha (.inl rfl) hs (RepL.rd κ F H fh ds _ _ hl)
    | ndF ha hr hs hl => exact .ndF ha hr hs (RepL.rd κ F H fh ds _ _ hl)
    | ndT ha hr hs hl => exact .ndT ha hr hs (RepL.rd κ F H fh ds _ _ hl)
    | ndK ha hl => exact .ndK ha (RepL.rd κ F H fh ds _ _ hl)
  | .pin _ d, _, _, h => by
    rw [PV.rd]
    cases h with | pin _ hd => exact Rep.rd κ F H fh d _ _ hd
  | .pack d cs, _, _, h => by
    rw [PV.rd]
    cases h with | pack _ h1 _ => exact Rep.rd κ F H fh d _ _ h1
theorem RepL.rd {M : PySem.W.Frag} (κ : Kap M) (F H : Hp) (fh : Sub F H) : ∀ (ds : List D) (vs : List V) (fp : List Addr), RepL κ F H ds vs fp → RepL κ F H (rdL ds) vs []
  | [], _, _, h => by cases h; exact .nil
  | d :: ds, _, _, h => by
    cases h with
    | cons h1 h2 =>
      rw [PV.rdL]
      exact .cons (fp := []) (fq := []) (Rep.rd κ F H fh d _ _ h1) (RepL.rd κ F H fh ds _ _ h2)
end
mutual
theorem Rep.fa {M : PySem.W.Frag} (κ : Kap M) (F H : Hp) (fh : Sub F H) : ∀ (d : D) (v : V) (fp : List Addr), Rep κ F H d v fp → Rep κ (seen F H) H (fa d) v []
  | .non, _, _, h => by cases h; exact .non
  | .bl _, _, _, h => by cases h; exact .bl _
  | .int _, _, _, h => by cases h; exact .int _
  | .str _, _, _, h => by cases h; exact .str _
  | .tup ds, _, _, h => by
    cases h with
    | tup ha hl =>
      rw [PV.fa]
      exact .tup (same_seen _ _ ha) (RepL.fa κ F H fh ds _ _ hl)
  | .nd t k ds, _, _, h => by
    rw [PV.fa]
    cases h with
    | ndO ha hs hl => exact .ndF (seen_of fh ha hs.nTb) (.inl rfl) hs (RepL.fa κ F H fh ds _ _ hl)
    | ndF ha hr hs hl => exact .ndF (same_seen _ _ ha) hr hs (RepL.fa κ F H fh ds _ _ hl)
    | ndT ha hr hs hl => exact .ndF (seen_of fh ha (hr.nTb hs)) hr hs (RepL.fa κ F H fh ds _ _ hl)
    | ndK ha hl => exact .ndK ha (RepL.fa κ F H fh ds _ _ hl)
  | .pin _ d, _, _, h => by
    rw [PV.fa]
    cases h with | pin _ hd => exact Rep.fa κ F H fh d _ _ hd
  | .pack d cs, _, _, h => by
    rw [PV.fa]
    cases h with | pack _ h1 _ => exact Rep.fa κ F H fh d _ _ h1
theorem RepL.fa {M : PySem.W.Frag} (κ : Kap M) (F H : Hp) (fh : Sub F H) : ∀ (ds : List D) (vs : List V) (fp : List Addr), RepL κ F H ds vs fp → RepL κ (seen F H) H (faL ds) vs []
  | [], _, _, h => by cases h; exact .nil
  | d :: ds, _, _, h => by
    cases h with
    | cons h1 h2 =>
      rw [PV.faL]
      exact .cons (fp := []) (fq := []) (Rep.fa κ F H fh d _ _ h1) (RepL.fa κ F H fh ds _ _ h2)
end
def grab (F H : Hp) (fp : List Addr) : Hp := fun a => if a ∈ fp then H a else F a
theorem grab_mem {F H : Hp} {fp : List Addr} {a : Addr} (h : a ∈ fp) : grab F H fp a = H a := if_pos h
theorem grab_not {F H : Hp} {fp : List Addr} {a : Addr} (h : a ∉ fp) : grab F H fp a = F a := if_neg h
theorem same_grab {F H : Hp} {fp : List Addr} (hf : ∀ a ∈ fp, F a = none) : Same F (grab F H fp) := fun a o e => by
  unfold grab
  split
  · rename_i m; rw [hf a m] at e; cases e
  · exact e
theorem sameT_grab {F H : Hp} {fp : List Addr} (hf : ∀ a ∈ fp, F a = none) (ow : ∀ a ∈ fp, ∃ o, H a = some o ∧ ¬ IsTup' o) : SameT F (grab F H fp) := ⟨same_grab hf, fun a ps e => by
  by_cases m : a ∈ fp
  · rw [grab_mem m] at e
    obtain ⟨o, h1, h2⟩ := ow a m
    rw [h1] at e; cases e; exact (h2 True.intro).elim
  · rw [grab_not m] at e; exact e⟩
theorem grab_same {F H : Hp} {fp : List Addr} (fh : Sub F H) (hh : ∀ a ∈ fp, ∃ o, H a = some o ∧ ¬ IsTup' o) : Sub (grab F H fp) H := ⟨fun a o e n => by
  unfold grab at e
  split at e
  · exact e
  · exact fh.at_ _ _ e n, fun a ps e => by
  unfold grab at e
  split at e
  · rename_i m
    obtain ⟨o, h1, h2⟩ := hh a m
    rw [e] at h1; cases h1; exact (h2 True.intro).elim
  · exact fh.tb _ _ e⟩
theorem grab_sm {K H : Hp} {fp : List Addr} (s : Sm K H) : Sm (grab K H fp) H := ⟨fun a o e n => by
  unfold grab at e
  split at e
  · exact e
  · exact s.at_ _ _ e n, fun a e => by
  unfold grab
  split
  · exact e
  · exact s.free e⟩
mutual
theorem Rep.fz {M : PySem.W.Frag} (κ : Kap M) (F H G : Hp) (fg : Same F G) : ∀ (d : D) (v : V) (fp : List Addr), (∀ a ∈ fp, G a = H a) → Rep κ F H d v fp → Rep κ G H (fz d) v []
  | .non, _, _, _, h => by cases h; exact .non
  | .bl _, _, _, _, h => by cases h; exact .bl _
  | .int _, _, _, _, h => by cases h; exact .int _
  | .str _, _, _, _, h => by cases h; exact .str _
  | .tup ds, _, _, hg, h => by
    cases h with
    | tup ha hl =>
      rw [PV.fz]
      exact .tup (fg _ _ ha) (RepL.fz κ F H G fg ds _ _ hg hl)
  | .nd t k ds, _, _, hg, h => by
    rw [PV.fz]
    cases h with
    | ndO ha hs hl => exact .ndF ((hg _ List.mem_cons_self).trans ha) (.inl rfl) hs (RepL.fz κ F H G fg ds _ _ (fun a hm => hg a (List.mem_cons_of_mem _ hm)) hl)
    | ndF ha hr hs hl => exact .ndF (fg _ _ ha) hr hs (RepL.fz κ F H G fg ds _ _ hg hl)
    | ndT ha hr hs hl => exact .ndT ha hr hs (RepL.fz κ F H G fg ds _ _ hg hl)
    | ndK ha hl => exact .ndK ha (RepL.fz κ F H G fg ds _ _ hg hl)
  | .pin _ d, _, _, hg, h => by
    rw [PV.fz]
    cases h with | pin _ hd => exact Rep.fz κ F H G fg d _ _ hg hd
  | .pack d cs, _, _, hg, h => by
    rw [PV.fz]
    cases h with | pack _ h1 _ => exact Rep.fz κ F H G fg d _ _ (fun a hm => hg a (List.mem_append_left _ hm)) h1
theorem RepL.fz {M : PySem.W.Frag} (κ : Kap M) (F H G : Hp) (fg : Same F G) : ∀ (ds : List D) (vs : List V) (fp : List Addr), (∀ a ∈ fp, G a = H a) → RepL κ F H ds vs fp → RepL κ G H (fzL ds) vs []
  | [], _, _, _, h => by cases h; exact .nil
  | d :: ds, _, _, hg, h => by
    cases h with
    | cons h1 h2 =>
      rw [PV.fzL]
      exact .cons (fp := []) (fq := []) (Rep.fz κ F H G fg d _ _ (fun a hm => hg a (List.mem_append_left _ hm)) h1) (RepL.fz κ F H G fg ds _ _ (fun a hm => hg a (List.mem_append_right _ hm)) h2)
end
mutual
theorem Rep.stay {M : PySem.W.Frag} (κ : Kap M) (F H F' H' : Hp) (ff : Same F F') : ∀ (d : D) (v : V) (fp : List Addr), (∀ a ∈ fp, H' a = H a) → noT d = true → Rep κ F H d v fp → Rep κ F' H' d v fp
  | .non, _, _, _, _, h => by cases h; exact .non
  | .bl _, _, _, _, _, h => by cases h; exact .bl _
  | .int _, _, _, _, _, h => by cases h; exact .int _
  | .str _, _, _, _, _, h => by cases h; exact .str _
  | .tup ds, _, _, hg, hn, h => by
    cases h with
    | tup ha hl =>
      rw [noT] at hn
      exact .tup (ff _ _ ha) (RepL.stay κ F H F' H' ff ds _ _ hg hn hl)
  | .nd t k ds, _, _, hg, hn, h => by
    rw [noT, Bool.and_eq_true] at hn
    cases h with
    | ndO ha hs hl => exact .ndO ((hg _ List.mem_cons_self).trans ha) hs (RepL.stay κ F H F' H' ff ds _ _ (fun a hm => hg a (List.mem_cons_of_mem _ hm)) hn.2 hl)
    | ndF ha hr hs hl => exact .ndF (ff _ _ ha) hr hs (RepL.stay κ F H F' H' ff ds _ _ (fun a hm => absurd hm (by simp)) hn.2 hl)
    | ndT ha hr hs hl => exact absurd (of_decide_eq_true hn.1) (by simp)
    | ndK ha hl => exact .ndK ha (RepL.stay κ F H F' H' ff ds _ _ (fun a hm => absurd hm (by simp)) hn.2 hl)
  | .pin _ d, _, _, hg, hn, h => by
    rw [noT] at hn
    cases h with | pin hp hd => exact .pin hp (Rep.stay κ F H F' H' ff d _ _ hg hn hd)
  | .pack d cs, _, _, hg, hn, h => by
    rw [noT, Bool.and_eq_true] at hn
    cases h with | pack hp h1 h2 => exact .pack hp (Rep.stay κ F H F' H' ff d _ _ (fun a hm => hg a (List.mem_append_left _ hm)) hn.1 h1) (RepL.stay κ F H F' H' ff cs _ _ (fun a hm => hg a (List.mem_append_right _ hm)) hn.2 h2)
theorem RepL.stay {M : PySem.W.Frag} (κ : Kap M) (F H F' H' : Hp) (ff : Same F F') : ∀ (ds : List D) (vs : List V) (fp : List Addr), (∀ a ∈ fp, H' a = H a) → noTL ds = true → RepL κ F H ds vs fp → RepL κ F' H' ds vs fp
  | [], _, _, _, _, h => by cases h; exact .nil
  | d :: ds, _, _, hg, hn, h => by
    rw [noTL, Bool.and_eq_true] at hn
    cases h with
    | cons h1 h2 =>
      exact .cons (Rep.stay κ F H F' H' ff d _ _ (fun a hm => hg a (List.mem_append_left _ hm)) hn.1 h1) (RepL.stay κ F H F' H' ff ds _ _ (fun a hm => hg a (List.mem_append_right _ hm)) hn.2 h2)
end
mutual
theorem Rep.imm {M : PySem.W.Frag} (κ : Kap M) (F H G H' : Hp) (ft : ∀ a vs, F a = some (.tup vs) → G a = some (.tup vs)) : ∀ (d : D) (v : V) (fp : List Addr), imm d = true → Rep κ F H d v fp → fp = [] ∧ Rep κ G H' d v []
  | .non, _, _, _, h => by cases h; exact ⟨rfl, .non⟩
  | .bl _, _, _, _, h => by cases h; exact ⟨rfl, .bl _⟩
  | .int _, _, _, _, h => by cases h; exact ⟨rfl, .int _⟩
  | .str _, _, _, _, h => by cases h; exact ⟨rfl, .str _⟩
  | .tup ds, _, _, hn, h => by
    cases h with
    | tup ha hl =>
      rw [PV.imm] at hn
      obtain ⟨e, r⟩ := RepL.imm κ F H G H' ft ds _ _ hn hl
      exact ⟨e, .tup (ft _ _ ha) r⟩
  | .nd t k ds, _, _, hn, h => by rw [PV.imm] at hn; cases hn
  | .pin _ _, _, _, hn, h => by rw [PV.imm] at hn; cases hn
  | .pack _ _, _, _, hn, h => by rw [PV.imm] at hn; cases hn
theorem RepL.imm {M : PySem.W.Frag} (κ : Kap M) (F H G H' : Hp) (ft : ∀ a vs, F a = some (.tup vs) → G a = some (.tup vs)) : ∀ (ds : List D) (vs : List V) (fp : List Addr), immL ds = true → RepL κ F H ds vs fp → fp = [] ∧ RepL κ G H' ds vs []
  | [], _, _, _, h => by cases h; exact ⟨rfl, .nil⟩
  | d :: ds, _, _, hn, h => by
    rw [immL, Bool.and_eq_true] at hn
    cases h with
    | cons h1 h2 =>
      obtain ⟨e1, r1⟩ := Rep.imm κ F H G H' ft d _ _ hn.1 h1
      obtain ⟨e2, r2⟩ := RepL.imm κ F H G H' ft ds _ _ hn.2 h2
      subst e1 e2
      exact ⟨rfl, .cons (fp := []) (fq := []) r1 r2⟩
end
mutual
theorem Rep.imO {M : PySem.W.Frag} (κ : Kap M) (F H G : Hp) (ft : ∀ a vs, F a = some (.tup vs) → G a = some (.tup vs)) : ∀ (d : D) (v : V) (fp : List Addr), imO d = true → Rep κ F H d v fp → Rep κ G H d v fp
  | .non, _, _, _, h => by cases h; exact .non
  | .bl _, _, _, _, h => by cases h; exact .bl _
  | .int _, _, _, _, h => by cases h; exact .int _
  | .str _, _, _, _, h => by cases h; exact .str _
  | .tup ds, _, _, hn, h => by
    cases h with
    | tup ha hl =>
      rw [PV.imO] at hn
      exact .tup (ft _ _ ha) (RepL.imO κ F H G ft ds _ _ hn hl)
  | .nd t k ds, _, _, hn, h => by
    rw [PV.imO, Bool.and_eq_true] at hn
    have ht := of_decide_eq_true hn.1
    subst ht
    cases h with
    | ndO ha hs hl => exact .ndO ha hs (RepL.imO κ F H G ft ds _ _ hn.2 hl)
  | .pin _ _, _, _, hn, h => by rw [PV.imO] at hn; cases hn
  | .pack _ _, _, _, hn, h => by rw [PV.imO] at hn; cases hn
theorem RepL.imO {M : PySem.W.Frag} (κ : Kap M) (F H G : Hp) (ft : ∀ a vs, F a = some (.tup vs) → G a = some (.tup vs)) : ∀ (ds : List D) (vs : List V) (fp : List Addr), imOL ds = true → RepL κ F H ds vs fp → RepL κ G H ds vs fp
  | [], _, _, _, h => by cases h; exact .nil
  | d :: ds, _, _, hn, h => by
    rw [imOL, Bool.and_eq_true] at hn
    cases h with
    | cons h1 h2 => exact .cons (Rep.imO κ F H G ft d _ _ hn.1 h1) (RepL.imO κ F H G ft ds _ _ hn.2 h2)
end
end
abbrev Env := List (Option D)
structure SE (bb : Bool) {M : PySem.W.Frag} (κ : Kap M) (K F0 F : Hp) (env : Env) (φ : Nat → List Addr) (σ : L2.St) (H : Hp) : Prop where
  len : env.length = σ.length
  kk : Sm K H
  f0 : FF κ F0 F
  fh : Sub F H
  gr : ∀ a o, F a = some o → F0 a = some o ∨ K a = none ∨ IsTup' o
  sl : ∀ (i : Nat) (d : D), env[i]? = some (some d) → ∃ v, σ[i]? = some (some v) ∧ Rep κ F H d v (φ i) ∧ (bb = true → noT d = true)
  nd : ∀ i, (φ i).Nodup
  dj : ∀ i j, i ≠ j → ∀ a ∈ φ i, a ∉ φ j
  ow : ∀ i, ∀ a ∈ φ i, F a = none ∧ K a = none ∧ ∃ o, H a = some o ∧ ¬ IsTup' o
section
variable {bb : Bool} {M : PySem.W.Frag} {κ : Kap M} {K F0 F H F' H' : Hp} {env : Env} {φ : Nat → List Addr} {σ : L2.St}
theorem Ext.notF {a : Addr} {o : HO} (e : Ext F H F' H') (hf : F a = none) (ho : H a = some o) (nt : ¬ IsTup' o) : F' a = none := by
  cases q : F' a with
  | none => rfl
  | some u =>
    rcases e.gr a u q with h | h | h
    · rw [hf] at h; cases h
    · rw [ho] at h; cases h
    · exact (e.fh.notOwn q h (e.hh.at_ _ _ ho (nTb_of nt)) nt).elim
theorem SE.ext (S : SE bb κ K F0 F env φ σ H) (e : Ext F H F' H') : SE bb κ K F0 F' env φ σ H' := by
  refine ⟨S.len, S.kk.trans e.hh, S.f0.trans e.ff, e.fh, fun a o h => ?_, fun i d h => ?_, S.nd, S.dj, fun i a h => ?_⟩
  · rcases e.gr a o h with h | h | h
    · exact S.gr a o h
    · exact .inr (.inl (S.kk.free h))
    · exact .inr (.inr h)
  · obtain ⟨v, h1, h2, h3⟩ := S.sl i d h
    exact ⟨v, h1, h2.ext e, h3⟩
  · obtain ⟨h1, h2, o, h3, h4⟩ := S.ow i a h
    exact ⟨e.notF h1 h3 h4, h2, o, e.hh.at_ _ _ h3 (nTb_of h4), h4⟩
end
structure Exn where
  cls : Str
  ns : List Str
  ds : List D
inductive Res (α : Type) where
  | ok (a : α) | exc (x : Exn) | stuck
def Res.bind {α β : Type} (r : Res α) (f : α → Res β) : Res β := match r with
  | .ok a => f a
  | .exc x => .exc x
  | .stuck => .stuck
abbrev XRep := Hp → Exn → Value → Option Addr → Hp → Prop
structure Cfg (M : PySem.W.Frag) where
  κ : Kap M
  xr : XRep
  mono : ∀ {H H1 : Hp} {x : Exn} {cl : Value} {dd : Option Addr} {H' : Hp}, Sm H H1 → xr H1 x cl dd H' → xr H x cl dd H'
def PostV {M : PySem.W.Frag} (c : Cfg M) (E : XK) (F H : Hp) (r : Res D) (Q : VK) : Prop := match r with
  | .ok d => ∀ v H' F' fp, Ext F H F' H' → Rep c.κ F' H' d v fp → fp.Nodup → (∀ a ∈ fp, H a = none ∧ F' a = none) → Q v H'
  | .exc x => ∀ cl dd H', Sm H H' → c.xr H x cl dd H' → E cl dd H'
  | .stuck => False
def PostL {M : PySem.W.Frag} (c : Cfg M) (E : XK) (F H : Hp) (r : Res (List D)) (Q : List V → Hp → Prop) : Prop := match r with
  | .ok ds => ∀ vs H' F' fp, Ext F H F' H' → RepL c.κ F' H' ds vs fp → fp.Nodup → (∀ a ∈ fp, H a = none ∧ F' a = none) → Q vs H'
  | .exc x => ∀ cl dd H', Sm H H' → c.xr H x cl dd H' → E cl dd H'
  | .stuck => False
def PostB {M : PySem.W.Frag} (c : Cfg M) (E : XK) (F H : Hp) (r : Res Bool) (Q : Bool → Hp → Prop) : Prop := match r with
  | .ok b => ∀ H' F', Ext F H F' H' → Q b H'
  | .exc x => ∀ cl dd H', Sm H H' → c.xr H x cl dd H' → E cl dd H'
  | .stuck => False
def TV {M : PySem.W.Frag} (c : Cfg M) (E : XK) (f : Env → Res D) : TE := fun σ H Q => ∃ bb K F0 F env φ, SE bb c.κ K F0 F env φ σ H ∧ PostV c E F H (f env) Q
def TL {M : PySem.W.Frag} (c : Cfg M) (E : XK) (f : Env → Res (List D)) : TA := fun σ H Q => ∃ bb K F0 F env φ, SE bb c.κ K F0 F env φ σ H ∧ PostL c E F H (f env) Q
def TB {M : PySem.W.Frag} (c : Cfg M) (E : XK) (f : Env → Res Bool) : TT := fun σ H Q => ∃ bb K F0 F env φ, SE bb c.κ K F0 F env φ σ H ∧ PostB c E F H (f env) Q
def EV (X : Cx) (c : Cfg X.K) (E : XK) (e : Expr) (f : Env → Res D) : Prop := PE X e (TV c E f)
def EL (X : Cx) (c : Cfg X.K) (E : XK) (es : List Expr) (f : Env → Res (List D)) : Prop := PA X es (TL c E f)
def ET (X : Cx) (c : Cfg X.K) (E : XK) (e : Expr) (f : Env → Res Bool) : Prop := PT X e (TB c E f)
theorem PE.imp {X : Cx} {e : Expr} {t t' : TE} (h : PE X e t) (i : ∀ σ H Q, t' σ H Q → t σ H Q) : PE X e t' := ⟨fun pins s σ H Q I q => h.run pins s σ H Q I (i σ H Q q)⟩
theorem PA.imp {X : Cx} {e : List Expr} {t t' : TA} (h : PA X e t) (i : ∀ σ H Q, t' σ H Q → t σ H Q) : PA X e t' := ⟨fun pos pins s σ H Q I q => h.run pos pins s σ H Q I (i σ H Q q)⟩
theorem PT.imp {X : Cx} {e : Expr} {t t' : TT} (h : PT X e t) (i : ∀ σ H Q, t' σ H Q → t σ H Q) : PT X e t' := ⟨fun pins s σ H Q I q => h.run pins s σ H Q I (i σ H Q q)⟩
theorem PW.imp {X : Cx} {e : Expr} {t t' : TT} (h : PW X e t) (i : ∀ σ H Q, t' σ H Q → t σ H Q) : PW X e t' := ⟨fun w pins s σ H Q I q => h.run w pins s σ H Q I (i σ H Q q)⟩
theorem PS.imp {X : Cx} {e : Stmt} {t t' : TS} (h : PS X e t) (i : ∀ D σ H, t' D σ H → t D σ H) : PS X e t' := ⟨fun pins s σ H D I q => h.run pins s σ H D I (i D σ H q)⟩
theorem PSs.imp {X : Cx} {e : List Stmt} {t t' : TS} (h : PSs X e t) (i : ∀ D σ H, t' D σ H → t D σ H) : PSs X e t' := ⟨fun pins s σ H D I q => h.run pins s σ H D I (i D σ H q)⟩
section
variable {M : PySem.W.Frag} {c : Cfg M} {E : XK} {F H : Hp} {Q : VK}
theorem PostV.at_ {d : D} {v : V} (p : PostV c E F H (.ok d) Q) (fh : Sub F H) (r : Rep c.κ F H d v []) : Q v H := p v H F [] (.refl fh) r .nil (by simp)
theorem PostV.int {i : Int} (p : PostV c E F H (.ok (.int i)) Q) (fh : Sub F H) : Q (.int i) H := p.at_ fh (.int i)
theorem PostV.bl {i : Bool} (p : PostV c E F H (.ok (.bl i)) Q) (fh : Sub F H) : Q (.bl i) H := p.at_ fh (.bl i)
theorem PostV.str {i : Str} (p : PostV c E F H (.ok (.str i)) Q) (fh : Sub F H) : Q (.str i) H := p.at_ fh (.str i)
theorem PostV.non (p : PostV c E F H (.ok .non) Q) (fh : Sub F H) : Q .non H := p.at_ fh .non
theorem PostV.newO {k : Kind} {ds : List D} {vs : List V} {fp : List Addr} {p : Addr} {o : HO} (q : PostV c E F H (.ok (.nd .own k ds)) Q) (fh : Sub F H) (hp : H p = none) (ho : IsHO c.κ k vs o)
    (r : RepL c.κ F H ds vs fp) (nd : fp = []) : Q (.ref p) (upd H p o) := by
  subst nd
  refine q (.ref p) _ F [p] (.newO fh hp) (.ndO upd_same ho (r.ext (.newO fh hp))) (by simp) fun a ha => ?_
  have e : a = p := by simpa using ha
  subst e
  exact ⟨hp, fh.free hp⟩
end
section
variable {M : PySem.W.Frag} {c : Cfg M} {E : XK} {F H : Hp} {Q : VK}
theorem PostV.newF {ds : List D} {vs : List V} {p : Addr} (q : PostV c E F H (.ok (.tup ds)) Q) (fh : Sub F H) (hp : H p = none)
    (r : RepL c.κ F H ds vs []) : Q (.ref p) (upd H p (.tup vs)) :=
  q (.ref p) _ _ [] (.newF fh hp) (.tup upd_same (r.ext (.newF fh hp))) .nil (by simp)
end
section
variable {X : Cx} {c : Cfg X.K} {E : XK} {a b e : Expr} {es : List Expr} {f g : Env → Res D}
theorem glue1 {σ : L2.St} {H : Hp} {Q : VK} {R : V → Hp → Prop} {k : D → Res D} (h : TV c E (fun env => (f env).bind k) σ H Q)
    (step : ∀ F H1 d v fp, Sub F H1 → Rep c.κ F H1 d v fp → fp.Nodup → (∀ a ∈ fp, F a = none) → PostV c E F H1 (k d) Q → R v H1) : TV c E f σ H R := by
  obtain ⟨bb, K, F0, F, env, φ, S, p⟩ := h
  refine ⟨bb, K, F0, F, env, φ, S, ?_⟩
  cases q : f env with
  | ok d =>
    simp only [q, Res.bind] at p
    intro v H' F' fp x r nd fr
    refine step F' H' d v fp x.fh r nd (fun a m => (fr a m).2) ?_
    cases q2 : k d with
    | ok d' =>
      simp only [Res.bind, q2] at p
      intro v2 H2 F2 fp2 x2 r2 nd2 fr2
      exact p v2 H2 F2 fp2 (x.trans x2) r2 nd2 fun a m => ⟨x.hh.free (fr2 a m).1, (fr2 a m).2⟩
    | exc z =>
      simp only [Res.bind, q2] at p
      intro cl dd H2 s y
      exact p cl dd H2 (x.hh.trans s) (c.mono x.hh y)
    | stuck => simp only [Res.bind, q2] at p; exact p
  | exc z => simp only [q, Res.bind] at p; exact p
  | stuck => simp only [q, Res.bind] at p; exact p
theorem glue2 {σ : L2.St} {H : Hp} {Q : VK} {R : V → V → Hp → Prop} {k : D → D → Res D} (h : TV c E (fun env => (f env).bind fun x => (g env).bind fun y => k x y) σ H Q)
    (step : ∀ F H1 d1 d2 v1 v2 fp1 fp2, Sub F H1 → Rep c.κ F H1 d1 v1 fp1 → Rep c.κ F H1 d2 v2 fp2 → PostV c E F H1 (k d1 d2) Q → R v1 v2 H1) :
    TV c E f σ H fun v1 H1 => TV c E g σ H1 fun v2 H2 => R v1 v2 H2 := by
  obtain ⟨bb, K, F0, F, env, φ, S, p⟩ := h
  refine ⟨bb, K, F0, F, env, φ, S, ?_⟩
  cases q : f env with
  | ok d =>
    simp only [q, Res.bind] at p
    intro v H' F' fp x r nd fr
    refine ⟨bb, K, F0, F', env, φ, S.ext x, ?_⟩
    cases q1 : g env with
    | ok d' =>
      simp only [q1] at p
      intro v' H2 F2 fp' x' r' nd' fr'
      refine step F2 H2 d d' v v' fp fp' x'.fh (r.ext x') r' ?_
      cases q2 : k d d' with
      | ok d2 =>
        simp only [q2] at p
        intro v2 H3 F3 fp2 x2 r2 nd2 fr2
        exact p v2 H3 F3 fp2 ((x.trans x').trans x2) r2 nd2 fun a m => ⟨(x.trans x').hh.free (fr2 a m).1, (fr2 a m).2⟩
      | exc z =>
        simp only [q2] at p
        intro cl dd H3 s y
        exact p cl dd H3 ((x.trans x').hh.trans s) (c.mono (x.trans x').hh y)
      | stuck => simp only [q2] at p; exact p
    | exc z =>
      simp only [q1] at p
      intro cl dd H3 s y
      exact p cl dd H3 (x.hh.trans s) (c.mono x.hh y)
    | stuck => simp only [q1] at p; exact p
  | exc z => simp only [q, Res.bind] at p; exact p
  | stuck => simp only [q, Res.bind] at p; exact p
theorem el_nil : EL X c E [] (fun _ => .ok []) := PA.imp pa_nil fun σ H Q h => by
  obtain ⟨bb, K, F0, F, env, φ, S, p⟩ := h
  exact p [] H F [] (.refl S.fh) .nil .nil (by simp)
theorem el_cons {fs : Env → Res (List D)} (ha : EV X c E e f) (hb : EL X c E es fs) (hs : starEach (e :: es) X.env = (false, eval e X.env) :: starEach es X.env := by rfl) :
    EL X c E (e :: es) (fun env => (f env).bind fun d => (fs env).bind fun ds => .ok (d :: ds)) := PA.imp (pa_cons ha hb hs) fun σ H Q h => by
  obtain ⟨bb, K, F0, F, env, φ, S, p⟩ := h
  refine ⟨bb, K, F0, F, env, φ, S, ?_⟩
  cases q : f env with
  | ok d =>
    simp only [q, Res.bind] at p
    intro v H' F' fp x r nd fr
    refine ⟨bb, K, F0, F', env, φ, S.ext x, ?_⟩
    cases q1 : fs env with
    | ok ds =>
      simp only [q1] at p
      intro vs H2 F2 fp' x' r' nd' fr'
      refine p (v :: vs) H2 F2 (fp ++ fp') (x.trans x') (.cons (r.ext x') r') ?_ ?_
      · refine List.nodup_append.mpr ⟨nd, nd', fun a h1 b h2 z => ?_⟩
        subst z
        obtain ⟨o, h3, _⟩ := Rep.own _ _ _ _ _ _ r a h1
        have := (fr' a h2).1
        rw [h3] at this
        cases this
      · intro a h1
        rcases List.mem_append.mp h1 with h1 | h1
        · obtain ⟨o, h3, h4⟩ := Rep.own _ _ _ _ _ _ r a h1
          exact ⟨(fr a h1).1, x'.notF (fr a h1).2 h3 h4⟩
        · exact ⟨x.hh.free (fr' a h1).1, (fr' a h1).2⟩
    | exc z =>
      simp only [q1] at p
      intro cl dd H3 s y
      exact p cl dd H3 (x.hh.trans s) (c.mono x.hh y)
    | stuck => simp only [q1] at p; exact p
  | exc z => simp only [q, Res.bind] at p; exact p
  | stuck => simp only [q, Res.bind] at p; exact p
theorem glueL {σ : L2.St} {H : Hp} {Q : VK} {R : List V → Hp → Prop} {fs : Env → Res (List D)} {k : List D → Res D} (h : TV c E (fun env => (fs env).bind k) σ H Q)
    (step : ∀ F H1 ds vs fp, Sm H H1 → Sub F H1 → RepL c.κ F H1 ds vs fp → fp.Nodup → (∀ a ∈ fp, H a = none ∧ F a = none) → (∀ d' v' H2 F2 fp2, k ds = .ok d' → Ext F H1 F2 H2 → Rep c.κ F2 H2 d' v' fp2 → fp2.Nodup → (∀ a ∈ fp2, H a = none ∧ F2 a = none) → Q v' H2) →
      (∀ x, k ds = .exc x → ∀ cl dd H', Sm H1 H' → c.xr H1 x cl dd H' → E cl dd H') → k ds ≠ .stuck → R vs H1) : TL c E fs σ H R := by
  obtain ⟨bb, K, F0, F, env, φ, S, p⟩ := h
  refine ⟨bb, K, F0, F, env, φ, S, ?_⟩
  cases q : fs env with
  | ok d =>
    simp only [q, Res.bind] at p
    intro v H' F' fp x r nd fr
    refine step F' H' d v fp x.hh x.fh r nd fr ?_ ?_ ?_
    · intro d' v' H2 F2 fp2 ek x2 r2 nd2 fr2
      rw [ek] at p
      exact p v' H2 F2 fp2 (x.trans x2) r2 nd2 fr2
    · intro z ek cl dd H2 s y
      rw [ek] at p
      exact p cl dd H2 (x.hh.trans s) (c.mono x.hh y)
    · intro ek
      rw [ek] at p
      exact p
  | exc z => simp only [q, Res.bind] at p; exact p
  | stuck => simp only [q, Res.bind] at p; exact p
end
section
variable {M : PySem.W.Frag} {κ : Kap M} {F H : Hp}
theorem Rep.sqL {t : Tag} {ds : List D} {v : V} {fp : List Addr} (r : Rep κ F H (.nd t .lst ds) v fp) (fh : Sub F H) : ∃ a vs fq, v = .ref a ∧ SqL M H a vs ∧ RepL κ F H ds vs fq ∧ (fp = fq ∨ fp = a :: fq) := by
  cases r with
  | ndO ha hs hl => cases hs; exact ⟨_, _, _, rfl, .inl (.inl ha), hl, .inr rfl⟩
  | ndF ha hr hs hl =>
    cases hs
    refine ⟨_, _, _, rfl, ?_, hl, .inl rfl⟩
    rcases hr with rfl | ⟨_, ob, rfl⟩
    · exact .inl (.inl (fh _ _ ha))
    · exact .inl (.inr ⟨ob, fh _ _ ha⟩)
  | ndT ha hr hs hl =>
    cases hs
    refine ⟨_, _, _, rfl, ?_, hl, .inl rfl⟩
    rcases hr with rfl | ⟨_, ob, rfl⟩
    · exact .inl (.inl ha)
    · exact .inl (.inr ⟨ob, ha⟩)
  | ndK ha hl => exact ⟨_, _, _, rfl, .inr ha, hl, .inl rfl⟩
theorem Rep.sqT {ds : List D} {v : V} {fp : List Addr} (r : Rep κ F H (.tup ds) v fp) (fh : Sub F H) : ∃ a vs, v = .ref a ∧ F a = some (.tup vs) ∧ SqT M H a vs ∧ RepL κ F H ds vs fp := by
  cases r with
  | tup ha hl => exact ⟨_, _, rfl, ha, .inl (.inl (fh _ _ ha)), hl⟩
theorem RepL.append : ∀ {ds es : List D} {vs ws : List V} {fp fq : List Addr}, RepL κ F H ds vs fp → RepL κ F H es ws fq → RepL κ F H (ds ++ es) (vs ++ ws) (fp ++ fq)
  | _, _, _, _, _, _, .nil, s => s
  | _, _, _, _, _, _, .cons r t, s => by
    have := RepL.cons r (RepL.append t s)
    rw [← List.append_assoc] at this
    exact this
theorem RepL.get : ∀ {ds : List D} {vs : List V} {fp : List Addr} (i : Nat) (d : D), RepL κ F H ds vs fp → ds[i]? = some d → ∃ v fq, vs[i]? = some v ∧ Rep κ F H d v fq ∧ (∀ a ∈ fq, a ∈ fp) ∧ (fp.Nodup → fq.Nodup)
  | _, _, _, i, d, .nil, e => by simp at e
  | _, _, _, 0, d, .cons (fp := fa) (fq := fb) r t, e => by
    simp at e
    subst e
    exact ⟨_, _, rfl, r, fun a h => List.mem_append_left _ h, fun n => (List.nodup_append.mp n).1⟩
  | _, _, _, i + 1, d, .cons (fp := fa) (fq := fb) r t, e => by
    obtain ⟨v, fq, h1, h2, h3, h4⟩ := RepL.get i d t (by simpa using e)
    exact ⟨v, fq, by simpa using h1, h2, fun a h => List.mem_append_right _ (h3 a h), fun n => h4 (List.nodup_append.mp n).2.1⟩
theorem RepL.take : ∀ {ds : List D} {vs : List V} {fp : List Addr} (n : Nat), RepL κ F H ds vs fp → ∃ fq, RepL κ F H (ds.take n) (vs.take n) fq ∧ fq.Sublist fp
  | _, _, _, 0, r => ⟨[], by simpa using RepL.nil, List.nil_sublist _⟩
  | _, _, _, n + 1, .nil => ⟨[], by simpa using RepL.nil, List.nil_sublist _⟩
  | _, _, _, n + 1, .cons r t => by
    obtain ⟨fq, h1, h2⟩ := RepL.take n t
    exact ⟨_, .cons r h1, List.Sublist.append (List.Sublist.refl _) h2⟩
theorem RepL.drop : ∀ {ds : List D} {vs : List V} {fp : List Addr} (n : Nat), RepL κ F H ds vs fp → ∃ fq, RepL κ F H (ds.drop n) (vs.drop n) fq ∧ fq.Sublist fp
  | _, _, fp, 0, r => ⟨fp, by simpa using r, List.Sublist.refl _⟩
  | _, _, _, n + 1, .nil => ⟨[], by simpa using RepL.nil, List.nil_sublist _⟩
  | _, _, _, n + 1, .cons r t => by
    obtain ⟨fq, h1, h2⟩ := RepL.drop n t
    exact ⟨_, by simpa using h1, h2.trans (List.sublist_append_right _ _)⟩
end
section
variable {X : Cx} {c : Cfg X.K} {E : XK} {e a b : Expr} {f g : Env → Res D} {pos : Pos}
def eVar (i : Nat) : Env → Res D := fun env => match env[i]? with
  | some (some d) => .ok (rd d)
  | _ => .stuck
def eC (d : D) : Env → Res D := fun _ => .ok d
theorem ev_var (i : Nat) {x : Str} (hN : X.N[i]? = some x := by rfl) (hv : Vis X.env.scope x := by first | exact Or.inl rfl | exact Or.inr (Or.inl rfl) | exact Or.inr (Or.inr rfl)) (hd : (x == ("__debug__" : Str)) = false := by decide)
    (hcd : (x == ("__classdict__" : Str)) = false := by decide) : EV X c E (.Name x pos) (eVar i) := PE.imp (pe_var hN hv hd hcd) fun σ H Q h => by
  obtain ⟨bb, K, F0, F, env, φ, S, p⟩ := h
  unfold eVar at p
  split at p
  · rename_i d q
    obtain ⟨v, h1, h2, h3⟩ := S.sl i d q
    exact ⟨v, h1, p v H F [] (.refl S.fh) (h2.rd _ _ _ S.fh) .nil (by simp)⟩
  · exact p.elim
theorem ev_at {t : TE} {d : D} {v : V} (h : PE X e t) (hr : ∀ F H, Rep c.κ F H d v []) (ht : ∀ σ H Q, Q v H → t σ H Q) : EV X c E e (eC d) := PE.imp h fun σ H Q h => by
  obtain ⟨bb, K, F0, F, env, φ, S, p⟩ := h
  exact ht σ H Q (p.at_ S.fh (hr _ _))
theorem ev_int {i j} : EV X c E (.Constant (.int i) j pos) (eC (.int i)) := ev_at pe_int (fun _ _ => .int i) fun _ _ _ q => q
theorem ev_bl {i j} : EV X c E (.Constant (.bool i) j pos) (eC (.bl i)) := ev_at pe_bl (fun _ _ => .bl i) fun _ _ _ q => q
theorem ev_non {j} : EV X c E (.Constant .none j pos) (eC .non) := ev_at pe_non (fun _ _ => .non) fun _ _ _ q => q
theorem ev_str {i j} : EV X c E (.Constant (.str i) j pos) (eC (.str i)) := ev_at pe_str (fun _ _ => .str i) fun _ _ _ q => q
theorem ev_globS {x s : Str} {u : Value} (hg : Gl X x) (hm : X.mg x = some u) (r : RelV (.str s) u) (hd : (x == ("__debug__" : Str)) = false := by decide) : EV X c E (.Name x pos) (eC (.str s)) :=
  ev_at (pe_glob hg hm r hd) (fun _ _ => .str s) fun _ _ _ q => q
def bigL : Nat := 1000000
theorem bigL_line {n : Nat} (h : n ≤ bigL) : n ≤ sizeLine := by
  have : sizeLine = 16777216 := sizeLine_eq
  unfold bigL at h
  omega
def eTup (fs : Env → Res (List D)) : Env → Res D := fun env => (fs env).bind fun ds => if ds.length ≤ bigL then .ok (.tup ds) else .stuck
def eLst (fs : Env → Res (List D)) : Env → Res D := fun env => (fs env).bind fun ds => if ds.length ≤ bigL then .ok (.lst .own ds) else .stuck
theorem ev_tup {es : List Expr} {fs : Env → Res (List D)} {x1} (h : EL X c E es fs) : EV X c E (.Tuple es x1 pos) (eTup fs) := PE.imp (pe_tup h) fun σ H Q q => by
  refine glueL (k := fun ds => if ds.length ≤ bigL then .ok (.tup ds) else .stuck) q fun F H1 ds vs fp hh fh r nd fr ok ex st => ?_
  by_cases hl : ds.length ≤ bigL
  · rw [if_pos hl] at ok
    refine ⟨bigL_line (by rw [← r.length]; exact hl), fun p hp => ?_⟩
    have x : Ext F H1 (upd F p (.tup vs)) (upd H1 p (.tup vs)) := .newF fh hp
    refine ok _ _ _ _ fp rfl x (.tup upd_same (r.ext x)) nd fun a m => ⟨(fr a m).1, ?_⟩
    obtain ⟨o, h1, h2⟩ := RepL.own _ _ _ _ _ _ r a m
    exact x.notF (fr a m).2 h1 h2
  · exact absurd (if_neg hl) st
theorem ev_lst {es : List Expr} {fs : Env → Res (List D)} (h : EL X c E es fs) : EV X c E (.List es pos) (eLst fs) := PE.imp (pe_lst h) fun σ H Q q => by
  refine glueL (k := fun ds => if ds.length ≤ bigL then .ok (.lst .own ds) else .stuck) q fun F H1 ds vs fp hh fh r nd fr ok ex st => ?_
  by_cases hl : ds.length ≤ bigL
  · rw [if_pos hl] at ok
    refine ⟨bigL_line (by rw [← r.length]; exact hl), fun p hp => ?_⟩
    have x : Ext F H1 F (upd H1 p (.lst vs)) := .newO fh hp
    refine ok _ _ _ _ (p :: fp) rfl x (.ndO upd_same rfl (r.ext x)) (List.nodup_cons.mpr ⟨fun m => ?_, nd⟩) fun a m => ?_
    · obtain ⟨o, h1, h2⟩ := RepL.own _ _ _ _ _ _ r p m
      rw [hp] at h1
      cases h1
    · rcases List.mem_cons.mp m with rfl | m
      · exact ⟨hh.free hp, fh.free hp⟩
      · exact fr a m
  · exact absurd (if_neg hl) st
end
def Op2 {M : PySem.W.Frag} (c : Cfg M) (r : R2) (k : D → D → Res D) : Prop := ∀ (E : XK) (F H : Hp) (x y : D) (v u : V) (fx fy : List Addr) (Q : VK), Sub F H → Rep c.κ F H x v fx → Rep c.κ F H y u fy → PostV c E F H (k x y) Q → r v u H Q
def e2 (k : D → D → Res D) (f g : Env → Res D) : Env → Res D := fun env => (f env).bind fun x => (g env).bind fun y => k x y
def e1 (k : D → Res D) (f : Env → Res D) : Env → Res D := fun env => (f env).bind k
section
variable {X : Cx} {c : Cfg X.K} {E : XK} {e a b : Expr} {f g : Env → Res D} {pos : Pos}
theorem ev_op {op : Operator} {r : R2} {k : D → D → Res D} (ho : OpR X (binaryOp op) r) (hk : Op2 c r k) (ha : EV X c E a f) (hb : EV X c E b g) : EV X c E (.BinOp a op b pos) (e2 k f g) :=
  PE.imp (pe_op ho ha hb) fun σ H Q q => glue2 q fun F H1 d1 d2 v1 v2 fp1 fp2 fh r1 r2 p => hk E F H1 d1 d2 v1 v2 fp1 fp2 Q fh r1 r2 p
theorem ev_cmp {op : CmpOp} {r : R2} {k : D → D → Res D} (ho : OpR X (compareOp op) r) (hk : Op2 c r k) (ha : EV X c E a f) (hb : EV X c E b g) (hm : behindInMarks op b = false) : EV X c E (.Compare a [op] [b] pos) (e2 k f g) :=
  PE.imp (pe_cmpR ho ha hb hm) fun σ H Q q => glue2 q fun F H1 d1 d2 v1 v2 fp1 fp2 fh r1 r2 p => hk E F H1 d1 d2 v1 v2 fp1 fp2 Q fh r1 r2 p
theorem ev_ix {r : R2} {k : D → D → Res D} (ho : IxR X r) (hk : Op2 c r k) (ha : EV X c E a f) (hb : EV X c E b g) (hs : PlainIx b) : EV X c E (.Subscript a b pos) (e2 k f g) :=
  PE.imp (pe_ix ho ha hb hs) fun σ H Q q => glue2 q fun F H1 d1 d2 v1 v2 fp1 fp2 fh r1 r2 p => hk E F H1 d1 d2 v1 v2 fp1 fp2 Q fh r1 r2 p
end
def dI (k : Int → Int → Res D) : D → D → Res D := fun x y => match x, y with
  | .int i, .int j => k i j
  | _, _ => .stuck
theorem op2_I {M : PySem.W.Frag} {c : Cfg M} {C : Int → Int → Prop} [∀ i j, Decidable (C i j)] {g : Int → Int → Int} : Op2 c (rI C fun i j => .int (g i j)) (dI fun i j => if C i j then .ok (.int (g i j)) else .stuck) := by
  intro E F H x y v u fx fy Q fh rx ry p
  unfold dI at p
  split at p
  · rename_i i j
    cases rx
    cases ry
    dsimp only at p
    by_cases h : C i j
    · rw [if_pos h] at p
      exact ⟨_, _, rfl, rfl, h, p.int fh⟩
    · rw [if_neg h] at p
      exact p.elim
  · exact p.elim
theorem op2_I0 {M : PySem.W.Frag} {c : Cfg M} {g : Int → Int → Int} : Op2 c (rI0 fun i j => .int (g i j)) (dI fun i j => .ok (.int (g i j))) := by
  intro E F H x y v u fx fy Q fh rx ry p
  unfold dI at p
  split at p
  · cases rx
    cases ry
    exact ⟨_, _, rfl, rfl, p.int fh⟩
  · exact p.elim
theorem op2_B0 {M : PySem.W.Frag} {c : Cfg M} {g : Int → Int → Bool} : Op2 c (rI0 fun i j => .bl (g i j)) (dI fun i j => .ok (.bl (g i j))) := by
  intro E F H x y v u fx fy Q fh rx ry p
  unfold dI at p
  split at p
  · cases rx
    cases ry
    exact ⟨_, _, rfl, rfl, p.bl fh⟩
  · exact p.elim
section
variable {X : Cx} {c : Cfg X.K} {E : XK} {e a b : Expr} {f g : Env → Res D} {pos : Pos}
def OkDiv (_ j : Int) : Prop := 0 < j ∧ j.natAbs < 1073741824
def OkPow (i j : Int) : Prop := 0 ≤ j ∧ j.natAbs ≤ 1000000 ∧ i.natAbs < 18446744073709551616
def OkMul (i j : Int) : Prop := i.natAbs < 18446744073709551616 ∨ j.natAbs < 18446744073709551616
instance (i j : Int) : Decidable (OkDiv i j) := inferInstanceAs (Decidable (_ ∧ _))
instance (i j : Int) : Decidable (OkPow i j) := inferInstanceAs (Decidable (_ ∧ _ ∧ _))
instance (i j : Int) : Decidable (OkMul i j) := inferInstanceAs (Decidable (_ ∨ _))
theorem OkDiv.cOf {i j : Int} (h : OkDiv i j) : CDiv i j := by unfold OkDiv at h; unfold CDiv; omega
theorem OkPow.cOf {i j : Int} (h : OkPow i j) : CPow i j := by unfold OkPow at h; unfold CPow; omega
theorem OkMul.cOf {i j : Int} (h : OkMul i j) : CMul i j := by unfold OkMul at h; unfold CMul; omega
theorem op2_J {M : PySem.W.Frag} {c : Cfg M} {C C' : Int → Int → Prop} [∀ i j, Decidable (C' i j)] {g : Int → Int → Int} (q : ∀ i j, C' i j → C i j) : Op2 c (rI C fun i j => .int (g i j)) (dI fun i j => if C' i j then .ok (.int (g i j)) else .stuck) := by
  intro E F H x y v u fx fy Q fh rx ry p
  unfold dI at p
  split at p
  · rename_i i j
    cases rx
    cases ry
    dsimp only at p
    by_cases h : C' i j
    · rw [if_pos h] at p
      exact ⟨_, _, rfl, rfl, q _ _ h, p.int fh⟩
    · rw [if_neg h] at p
      exact p.elim
  · exact p.elim
abbrev dSub : D → D → Res D := dI fun i j => .ok (.int (i - j))
abbrev dMod : D → D → Res D := dI fun i j => if 0 < j then .ok (.int (i % j)) else .stuck
abbrev dDiv : D → D → Res D := dI fun i j => if OkDiv i j then .ok (.int (i / j)) else .stuck
abbrev dPow : D → D → Res D := dI fun i j => if OkPow i j then .ok (.int (i ^ j.toNat)) else .stuck
theorem ev_sub (ha : EV X c E a f) (hb : EV X c E b g) : EV X c E (.BinOp a .Sub b pos) (e2 dSub f g) := ev_op op_sub op2_I0 ha hb
theorem ev_mod (ha : EV X c E a f) (hb : EV X c E b g) : EV X c E (.BinOp a .Mod b pos) (e2 dMod f g) := ev_op op_mod op2_I ha hb
theorem ev_div (ha : EV X c E a f) (hb : EV X c E b g) : EV X c E (.BinOp a .FloorDiv b pos) (e2 dDiv f g) := ev_op op_fdiv (op2_J fun _ _ h => OkDiv.cOf h) ha hb
theorem ev_pow (ha : EV X c E a f) (hb : EV X c E b g) : EV X c E (.BinOp a .Pow b pos) (e2 dPow f g) := ev_op op_pow (op2_J fun _ _ h => OkPow.cOf h) ha hb
abbrev dLt : D → D → Res D := dI fun i j => .ok (.bl (decide (i < j)))
abbrev dLe : D → D → Res D := dI fun i j => .ok (.bl (decide (i ≤ j)))
abbrev dGt : D → D → Res D := dI fun i j => .ok (.bl (decide (j < i)))
theorem ev_le (ha : EV X c E a f) (hb : EV X c E b g) : EV X c E (.Compare a [.LtE] [b] pos) (e2 dLe f g) := ev_cmp op_le op2_B0 ha hb (nomark _)
def dAdd : D → D → Res D
  | .int i, .int j => .ok (.int (i + j))
  | .str s, .str t => if s.length + t.length ≤ bigL then .ok (.str (s ++ t)) else .stuck
  | .nd _ .lst xs, .nd _ .lst ys => if xs.length + ys.length ≤ bigL then .ok (.lst .own (rdL (xs ++ ys))) else .stuck
  | .tup xs, .tup ys => if xs.length + ys.length ≤ bigL ∧ xs.length ≠ 0 ∧ ys.length ≠ 0 then .ok (.tup (rdL (xs ++ ys))) else .stuck
  | _, _ => .stuck
def rCatS (K : PySem.W.Frag) : R2 := fun x y H Q => ∃ l b xs zs, x = .ref l ∧ y = .ref b ∧ SqL K H l xs ∧ SqL K H b zs ∧ xs.length + zs.length ≤ sizeLine ∧ ∀ p, H p = none → Q (.ref p) (upd H p (.lst (xs ++ zs)))
theorem op_catS : OpR X (binaryOp .Add) (rCatS X.K) := by
  intro pins s σ H x y v u Q I rx ry h
  obtain ⟨l, b, xs, zs, rfl, rfl, hH, hB, hz, q⟩ := h
  cases rx
  cases ry
  obtain ⟨its, r, hl, z⟩ := I.list hH
  obtain ⟨its2, r2, hb, z2⟩ := I.list hB
  obtain ⟨⟨cls, dd, data, sl⟩, ho, hc, n, hd⟩ := id hl.isList
  obtain ⟨⟨cls2, dd2, data2, sl2⟩, ho2, hc2, n2, hd2⟩ := id hb.isList
  simp only at hc hd hc2 hd2
  subst hc hd hc2 hd2
  have e : its.toArray ++ its2.toArray = (its ++ its2).toArray := by simp
  refine concat_meets ⟨_, ho, rfl⟩ ⟨_, ho2, rfl⟩ noFill_list_add seq_list_add PySem.F.slot_list_add PySem.F.entry_list_add (PySem.F.args_list_add_2 _ _) (list_addW l b its.toArray its2.toArray n n2 dd dd2 sl sl2 (by have h1 := r.length; have h2 := r2.length; simp; omega)) ⟨ho, ho2, ?_⟩
  rw [e]
  exact ⟨.ref _, _, I.lnew (t' := s.toks) (r.append r2) (by rw [List.length_append]; omega), rfl, q _ I.fresh⟩
abbrev rAddD (K : PySem.W.Frag) : R2 := fun x y H Q => (rI0 fun i j => .int (i + j)) x y H Q ∨ ((∃ i j, x = .str i ∧ y = .str j ∧ i.length + j.length ≤ sizeLine ∧ Q (.str (i ++ j)) H) ∨ (rCatS K x y H Q ∨ rCatT K x y H Q))
theorem op_addD : OpR X (binaryOp .Add) (rAddD X.K) := OpR.or op_add (OpR.or op_add_str (OpR.or op_catS op_catT))
theorem op2_add : Op2 c (rAddD X.K) dAdd := by
  intro E F H x y v u fx fy Q fh rx ry p
  unfold dAdd at p
  split at p
  · cases rx
    cases ry
    exact .inl ⟨_, _, rfl, rfl, p.int fh⟩
  · rename_i s t
    cases rx
    cases ry
    by_cases h : s.length + t.length ≤ bigL
    · rw [if_pos h] at p
      exact .inr (.inl ⟨_, _, rfl, rfl, bigL_line h, p.str fh⟩)
    · rw [if_neg h] at p
      exact p.elim
  · rename_i xs _ ys
    by_cases h : xs.length + ys.length ≤ bigL
    · rw [if_pos h] at p
      obtain ⟨a1, vs, f1, rfl, l1, r1, e1⟩ := rx.sqL fh
      obtain ⟨a2, ws, f2, rfl, l2, r2, e2⟩ := ry.sqL fh
      refine .inr (.inr (.inl ⟨a1, a2, vs, ws, rfl, rfl, l1, l2, bigL_line (by rw [← r1.length, ← r2.length]; exact h), fun q hq => ?_⟩))
      exact p.newO fh hq rfl (RepL.rd _ _ _ fh _ _ _ (r1.append r2)) rfl
    · rw [if_neg h] at p
      exact p.elim
  · rename_i xs ys
    by_cases h : xs.length + ys.length ≤ bigL ∧ xs.length ≠ 0 ∧ ys.length ≠ 0
    · rw [if_pos h] at p
      obtain ⟨a1, vs, rfl, h1, l1, r1⟩ := rx.sqT fh
      obtain ⟨a2, ws, rfl, h2, l2, r2⟩ := ry.sqT fh
      have e1 := r1.length
      have e2 := r2.length
      refine .inr (.inr (.inr ⟨a1, a2, vs, ws, rfl, rfl, l1, l2, ?_, bigL_line (by omega), ?_, ?_⟩))
      · intro z
        subst z
        simp at e1
        simp [e1] at h
      · intro z
        subst z
        simp at e2
        simp [e2] at h
      · intro _ q hq
        exact p.newF fh hq (RepL.rd _ _ _ fh _ _ _ (r1.append r2))
    · rw [if_neg h] at p
      exact p.elim
  · exact p.elim
end
mutual
def toP : D → PyData
  | .non => .none
  | .bl b => .bool b
  | .int i => .int i
  | .str s => .str s
  | .tup ds => .tuple (toPL ds)
  | .nd _ .lst ds => .list (toPL ds)
  | .nd _ _ _ => .dict []
  | .pin _ _ => .dict []
  | .pack _ _ => .dict []
def toPL : List D → List PyData
  | [] => []
  | d :: ds => toP d :: toPL ds
end
mutual
theorem Rep.dp {M : PySem.W.Frag} (κ : Kap M) (F H : Hp) (fh : Sub F H) : ∀ (d : D) (v : V) (fp : List Addr), (toP d).canLay0 = true → Rep κ F H d v fp → Dp M H v (toP d)
  | .non, _, _, _, h => by cases h; exact .non
  | .bl _, _, _, _, h => by cases h; exact .bl _
  | .int _, _, _, _, h => by cases h; exact .int _
  | .str _, _, _, _, h => by cases h; exact .str _
  | .tup ds, _, _, hc, h => by
    obtain ⟨a, vs, rfl, _, h1, h2⟩ := h.sqT fh
    rw [toP] at hc ⊢
    exact .tup h1 (RepL.dp κ F H fh ds _ _ (by simpa [PyData.canLay0] using hc) h2)
  | .nd t .lst ds, _, _, hc, h => by
    obtain ⟨a, vs, fq, rfl, h1, h2, _⟩ := h.sqL fh
    rw [toP] at hc ⊢
    exact .lst h1 (RepL.dp κ F H fh ds _ _ (by simpa [PyData.canLay0] using hc) h2)
  | .nd t (.dic _) ds, _, _, hc, h => by simp [toP, PyData.canLay0] at hc
  | .nd t (.dit _) ds, _, _, hc, h => by simp [toP, PyData.canLay0] at hc
  | .nd t (.dil _) ds, _, _, hc, h => by simp [toP, PyData.canLay0] at hc
  | .nd t (.ins _ _) ds, _, _, hc, h => by simp [toP, PyData.canLay0] at hc
  | .nd t (.exc _) ds, _, _, hc, h => by simp [toP, PyData.canLay0] at hc
  | .nd t (.xdk _) ds, _, _, hc, h => by simp [toP, PyData.canLay0] at hc
  | .pin _ _, _, _, hc, h => by simp [toP, PyData.canLay0] at hc
  | .pack _ _, _, _, hc, h => by simp [toP, PyData.canLay0] at hc
theorem RepL.dp {M : PySem.W.Frag} (κ : Kap M) (F H : Hp) (fh : Sub F H) : ∀ (ds : List D) (vs : List V) (fp : List Addr), PyData.canLayAll0 (toPL ds) = true → RepL κ F H ds vs fp → DpAll M H vs (toPL ds)
  | [], _, _, _, h => by cases h; exact .nil
  | d :: ds, _, _, hc, h => by
    rw [toPL] at hc ⊢
    rw [PyData.canLayAll0, Bool.and_eq_true] at hc
    cases h with
    | cons h1 h2 => exact .cons (Rep.dp κ F H fh d _ _ hc.1 h1) (RepL.dp κ F H fh ds _ _ hc.2 h2)
end
def scalD : D → D → Bool
  | .non, .non => true | .non, .int _ => true | .int _, .non => true | .non, .bl _ => true | .bl _, .non => true | .non, .str _ => true | .str _, .non => true
  | .int _, .int _ => true | .bl _, .bl _ => true | .str _, .str _ => true
  | .int _, .str _ => true | .str _, .int _ => true | .bl _, .str _ => true | .str _, .bl _ => true
  | _, _ => false
def eqD (x y : D) : Bool := PyData.eqv (toP x) (toP y)
def eqOk (x y : D) : Bool := scalD x y || (SeqAt.shaped (toP x) && SeqAt.shaped (toP y))
def dEq (x y : D) : Res D := if eqOk x y = true then .ok (.bl (eqD x y)) else .stuck
def dNe (x y : D) : Res D := if eqOk x y = true then .ok (.bl (!eqD x y)) else .stuck
theorem scal_of {M : PySem.W.Frag} {κ : Kap M} {F H : Hp} {x y : D} {v u : V} {fx fy : List Addr} (rx : Rep κ F H x v fx) (ry : Rep κ F H y u fy) (h : scalD x y = true) : scal v u = true ∧ decide (v = u) = eqD x y := by
  cases x <;> cases y <;> first
    | (cases rx; cases ry; refine ⟨rfl, ?_⟩; simp [eqD, toP, PyData.eqv]; done)
    | (cases rx; cases ry; refine ⟨rfl, ?_⟩; rw [Bool.eq_iff_iff]; simp [eqD, toP, PyData.eqv]; done)
    | (exfalso; revert h; simp [scalD]; done)
abbrev rEqA (K : PySem.W.Frag) : R2 := fun x y H Q => rEq x y H Q ∨ rEqD K x y H Q
abbrev rNeA (K : PySem.W.Frag) : R2 := fun x y H Q => rNe x y H Q ∨ rNeD K x y H Q
theorem op2_eq {M : PySem.W.Frag} {c : Cfg M} : Op2 c (rEqA M) dEq := by
  intro E F H x y v u fx fy Q fh rx ry p
  unfold dEq at p
  by_cases h : eqOk x y = true
  · rw [if_pos h] at p
    cases hs : scalD x y with
    | true =>
      obtain ⟨h1, h2⟩ := scal_of rx ry hs
      refine .inl ⟨h1, ?_⟩
      rw [h2]
      exact p.bl fh
    | false =>
      unfold eqOk at h
      rw [hs, Bool.false_or, Bool.and_eq_true] at h
      exact .inr ⟨_, _, Rep.dp _ _ _ fh _ _ _ (SeqAt.canLay_of_shaped h.1) rx, Rep.dp _ _ _ fh _ _ _ (SeqAt.canLay_of_shaped h.2) ry, h.1, h.2, p.bl fh⟩
  · rw [if_neg h] at p
    exact p.elim
theorem op2_ne {M : PySem.W.Frag} {c : Cfg M} : Op2 c (rNeA M) dNe := by
  intro E F H x y v u fx fy Q fh rx ry p
  unfold dNe at p
  by_cases h : eqOk x y = true
  · rw [if_pos h] at p
    cases hs : scalD x y with
    | true =>
      obtain ⟨h1, h2⟩ := scal_of rx ry hs
      refine .inl ⟨h1, ?_⟩
      rw [h2]
      exact p.bl fh
    | false =>
      unfold eqOk at h
      rw [hs, Bool.false_or, Bool.and_eq_true] at h
      exact .inr ⟨_, _, Rep.dp _ _ _ fh _ _ _ (SeqAt.canLay_of_shaped h.1) rx, Rep.dp _ _ _ fh _ _ _ (SeqAt.canLay_of_shaped h.2) ry, h.1, h.2, p.bl fh⟩
  · rw [if_neg h] at p
    exact p.elim
section
variable {X : Cx} {c : Cfg X.K} {E : XK} {e a b : Expr} {f g : Env → Res D} {pos : Pos}
theorem ev_eq (hu : X.A.units + 64 < cLine) (ha : EV X c E a f) (hb : EV X c E b g) : EV X c E (.Compare a [.Eq] [b] pos) (e2 dEq f g) := ev_cmp (OpR.or op_eq (op_eqD hu)) op2_eq ha hb (nomark _)
theorem ev_add (ha : EV X c E a f) (hb : EV X c E b g) : EV X c E (.BinOp a .Add b pos) (e2 dAdd f g) := ev_op op_addD op2_add ha hb
def dMul : D → D → Res D
  | .int i, .int j => if OkMul i j then .ok (.int (i * j)) else .stuck
  | .nd .own .lst xs, .int k => if 0 ≤ k ∧ k ≤ 1000000 ∧ xs.length * k.toNat ≤ bigL then .ok (.lst .own (List.replicate k.toNat (rdL xs)).flatten) else .stuck
  | _, _ => .stuck
theorem RepL.rep {M : PySem.W.Frag} {κ : Kap M} {F H : Hp} {ds : List D} {vs : List V} (h : RepL κ F H ds vs []) : ∀ n : Nat, RepL κ F H (List.replicate n ds).flatten (List.replicate n vs).flatten []
  | 0 => by simpa using RepL.nil
  | n + 1 => by
    have := h.append (RepL.rep h n)
    simpa [List.replicate_succ] using this
theorem op2_mul {M : PySem.W.Frag} {c : Cfg M} : Op2 c (fun x y H Q => rI CMul (fun i j => .int (i * j)) x y H Q ∨ rRep x y H Q) dMul := by
  intro E F H x y v u fx fy Q fh rx ry p
  unfold dMul at p
  split at p
  · rename_i i j
    cases rx
    cases ry
    by_cases h : OkMul i j
    · rw [if_pos h] at p
      exact .inl ⟨_, _, rfl, rfl, h.cOf, p.int fh⟩
    · rw [if_neg h] at p
      exact p.elim
  · rename_i xs k
    cases ry
    by_cases h : 0 ≤ k ∧ k ≤ 1000000 ∧ xs.length * k.toNat ≤ bigL
    · rw [if_pos h] at p
      cases rx with
      | @ndO a _ _ vs fp o ha hs hl =>
        cases hs
        have e1 := hl.length
        refine .inr ⟨a, k, vs, rfl, rfl, ha, by omega, by omega, bigL_line (by rw [← e1]; exact h.2.2), fun q hq => ?_⟩
        exact p.newO fh hq rfl (RepL.rep (RepL.rd _ _ _ fh _ _ _ hl) _) rfl
    · rw [if_neg h] at p
      exact p.elim
  · exact p.elim
theorem ev_mul (ha : EV X c E a f) (hb : EV X c E b g) : EV X c E (.BinOp a .Mult b pos) (e2 dMul f g) := ev_op (OpR.or op_mul op_rep) op2_mul ha hb
def dNeg : D → Res D
  | .int i => .ok (.int (-i))
  | _ => .stuck
theorem ev_neg (ha : EV X c E a f) : EV X c E (.UnaryOp .USub a pos) (e1 dNeg f) := PE.imp (pe_un un_neg ha) fun σ H Q q => glue1 q fun F H1 d v fp fh r nd fr p => by
  unfold dNeg at p
  split at p
  · cases r
    exact ⟨_, rfl, p.int fh⟩
  · exact p.elim
def dNotN : D → Res D
  | .non => .ok (.bl false)
  | .pin _ _ => .stuck
  | .pack _ _ => .stuck
  | _ => .ok (.bl true)
theorem glueT {σ : L2.St} {H : Hp} {Q : Bool → Hp → Prop} {R : V → Hp → Prop} {k : D → Res Bool} (h : TB c E (fun env => (f env).bind k) σ H Q)
    (step : ∀ F H1 d v fp, Sub F H1 → Rep c.κ F H1 d v fp → (∀ b, k d = .ok b → Q b H1) → k d ≠ .stuck → (∀ x, k d = .exc x → ∀ cl dd H', Sm H1 H' → c.xr H1 x cl dd H' → E cl dd H') → R v H1) : TV c E f σ H R := by
  obtain ⟨bb, K, F0, F, env, φ, S, p⟩ := h
  refine ⟨bb, K, F0, F, env, φ, S, ?_⟩
  cases q : f env with
  | ok d =>
    simp only [q, Res.bind] at p
    intro v H' F' fp x r nd fr
    refine step F' H' d v fp x.fh r ?_ ?_ ?_
    · intro b e
      rw [e] at p
      exact p H' F' x
    · intro e
      rw [e] at p
      exact p
    · intro z e cl dd H2 s y
      rw [e] at p
      exact p cl dd H2 (x.hh.trans s) (c.mono x.hh y)
  | exc z => simp only [q, Res.bind] at p; exact p
  | stuck => simp only [q, Res.bind] at p; exact p
def tru : D → Res Bool
  | .non => .ok false
  | .bl b => .ok b
  | .int i => .ok (i != 0)
  | .tup ds => .ok (!ds.isEmpty)
  | .nd _ .lst ds => .ok (!ds.isEmpty)
  | _ => .stuck
def eT (f : Env → Res D) : Env → Res Bool := fun env => (f env).bind tru
theorem isEmpty_len {α β : Type} {xs : List α} {ys : List β} (h : xs.length = ys.length) : xs.isEmpty = ys.isEmpty := by
  cases xs <;> cases ys <;> simp at h ⊢
theorem et_tru (ha : EV X c E a f) (he : ∀ whole, isTrue a X.env whole = (do let v ← whole; standAt a.pos; holding [v] (truthy v)) := by intro _; rfl) : ET X c E a (eT f) := PT.imp (pt_truth ha he) fun σ H Q q => by
  refine glueT q fun F H1 d v fp fh r ok st ex => ?_
  cases d with
  | non => cases r; exact ⟨false, rfl, ok _ rfl⟩
  | bl b => cases r; exact ⟨b, rfl, ok _ rfl⟩
  | int i => cases r; exact ⟨_, rfl, ok _ rfl⟩
  | str i => exact absurd rfl st
  | pin j d => exact absurd rfl st
  | pack d cs => exact absurd rfl st
  | tup ds =>
    obtain ⟨a, vs, rfl, _, h1, h2⟩ := r.sqT fh
    refine ⟨!vs.isEmpty, .inr (.inl ⟨vs, h1, rfl⟩), ?_⟩
    rw [← isEmpty_len h2.length]
    exact ok _ rfl
  | nd t k ds =>
    cases k with
    | lst =>
      obtain ⟨a, vs, fq, rfl, h1, h2, _⟩ := r.sqL fh
      refine ⟨!vs.isEmpty, .inl ⟨vs, h1, rfl⟩, ?_⟩
      rw [← isEmpty_len h2.length]
      exact ok _ rfl
    | _ => exact absurd rfl st
def asB : D → Res Bool
  | .bl b => .ok b
  | _ => .stuck
def eB (f : Env → Res D) : Env → Res Bool := fun env => (f env).bind asB
theorem glueB {σ : L2.St} {H : Hp} {Q : Bool → Hp → Prop} (q : TB c E (eB f) σ H Q) : TV c E f σ H (fun x H1 => ∃ k, x = .bl k ∧ Q k H1) := by
  refine glueT q fun F H1 d v fp fh r ok st ex => ?_
  cases d with
  | bl b => cases r; exact ⟨b, rfl, ok _ rfl⟩
  | _ => exact absurd rfl st
theorem et_cmp {op : CmpOp} {r : R2} {k : D → D → Res D} (ho : OpR X (compareOp op) r) (hk : Op2 c r k) (ha : EV X c E a f) (hb : EV X c E b g) (hm : behindInMarks op b = false) : ET X c E (.Compare a [op] [b] pos) (eB (e2 k f g)) :=
  PT.imp (pt_cmpR ho ha hb hm) fun σ H Q q => glue2 (k := k) (glueB q) fun F H1 d1 d2 v1 v2 fp1 fp2 fh r1 r2 p => hk E F H1 d1 d2 v1 v2 fp1 fp2 _ fh r1 r2 p
theorem et_lt (ha : EV X c E a f) (hb : EV X c E b g) : ET X c E (.Compare a [.Lt] [b] pos) (eB (e2 dLt f g)) := et_cmp op_lt op2_B0 ha hb (nomark _)
theorem et_gt (ha : EV X c E a f) (hb : EV X c E b g) : ET X c E (.Compare a [.Gt] [b] pos) (eB (e2 dGt f g)) := et_cmp op_gt op2_B0 ha hb (nomark _)
theorem et_eq (hu : X.A.units + 64 < cLine) (ha : EV X c E a f) (hb : EV X c E b g) : ET X c E (.Compare a [.Eq] [b] pos) (eB (e2 dEq f g)) := et_cmp (OpR.or op_eq (op_eqD hu)) op2_eq ha hb (nomark _)
theorem et_ne (hu : X.A.units + 64 < cLine) (ha : EV X c E a f) (hb : EV X c E b g) : ET X c E (.Compare a [.NotEq] [b] pos) (eB (e2 dNe f g)) := et_cmp (OpR.or op_ne (op_neD hu)) op2_ne ha hb (nomark _)
theorem et_notN {j pos'} (ha : EV X c E a f) : ET X c E (.Compare a [.IsNot] [.Constant .none j pos'] pos) (eB (e1 dNotN f)) := PT.imp (pt_cmp (pc_notN ha)) fun σ H Q q => glue1 (k := dNotN) (glueB q) fun F H1 d v fp fh r nd fr p => by
  cases r <;> first | exact p.bl fh | exact p.elim
def bAnd (f g : Env → Res Bool) : Env → Res Bool := fun env => (f env).bind fun b => if b = true then g env else .ok false
def bOr (f g : Env → Res Bool) : Env → Res Bool := fun env => (f env).bind fun b => if b = true then .ok true else g env
def bNot (f : Env → Res Bool) : Env → Res Bool := fun env => (f env).bind fun b => .ok (!b)
def EW (X : Cx) (c : Cfg X.K) (E : XK) (e : Expr) (f : Env → Res Bool) : Prop := PW X e (TB c E f)
variable {p q : Env → Res Bool} {rest : List Expr}
theorem glueBB {σ : L2.St} {H : Hp} {Q : Bool → Hp → Prop} {k : Bool → Env → Res Bool} {R : Bool → Hp → Prop} (h : TB c E (fun env => (p env).bind fun b => k b env) σ H Q)
    (step : ∀ bb K F0 F env φ b H1, SE bb c.κ K F0 F env φ σ H1 → PostB c E F H1 (k b env) Q → R b H1) : TB c E p σ H R := by
  obtain ⟨bb, K, F0, F, env, φ, S, h⟩ := h
  refine ⟨bb, K, F0, F, env, φ, S, ?_⟩
  cases z : p env with
  | ok b =>
    simp only [z, Res.bind] at h
    intro H' F' x
    refine step bb K F0 F' env φ b H' (S.ext x) ?_
    cases z2 : k b env with
    | ok b2 =>
      rw [z2] at h
      intro H2 F2 x2
      exact h H2 F2 (x.trans x2)
    | exc y =>
      rw [z2] at h
      intro cl dd H2 s w
      exact h cl dd H2 (x.hh.trans s) (c.mono (x.hh) w)
    | stuck => rw [z2] at h; exact h
  | exc y => simp only [z, Res.bind] at h; exact h
  | stuck => simp only [z, Res.bind] at h; exact h
theorem ew_and1 (ha : ET X c E a p) : EW X c E (.BoolOp .And [a] pos) p := pw_and1 ha
theorem ew_or1 (ha : ET X c E a p) : EW X c E (.BoolOp .Or [a] pos) p := pw_or1 ha
theorem ew_and (ha : ET X c E a p) (hb : EW X c E (.BoolOp .And (b :: rest) pos) q) : EW X c E (.BoolOp .And (a :: b :: rest) pos) (bAnd p q) := PW.imp (pw_and ha hb) fun σ H Q h =>
  glueBB (k := fun b env => if b = true then q env else .ok false) h fun bb K F0 F env φ b H1 S h => by
    cases b with
    | true => rw [if_pos rfl] at h ⊢; exact ⟨bb, K, F0, F, env, φ, S, h⟩
    | false => rw [if_neg Bool.false_ne_true] at h ⊢; exact h H1 F (.refl S.fh)
theorem ew_or (ha : ET X c E a p) (hb : EW X c E (.BoolOp .Or (b :: rest) pos) q) : EW X c E (.BoolOp .Or (a :: b :: rest) pos) (bOr p q) := PW.imp (pw_or ha hb) fun σ H Q h =>
  glueBB (k := fun b env => if b = true then .ok true else q env) h fun bb K F0 F env φ b H1 S h => by
    cases b with
    | true => rw [if_pos rfl] at h ⊢; exact h H1 F (.refl S.fh)
    | false => rw [if_neg Bool.false_ne_true] at h ⊢; exact ⟨bb, K, F0, F, env, φ, S, h⟩
theorem et_w (h : EW X c E e p) : ET X c E e p := h.pt
theorem et_not (ha : ET X c E a p) : ET X c E (.UnaryOp .Not a pos) (bNot p) := PT.imp (pt_not ha) fun σ H Q h =>
  glueBB (k := fun b _ => .ok (!b)) h fun bb K F0 F env φ b H1 S h => h H1 F (.refl S.fh)
def eIf (p : Env → Res Bool) (f g : Env → Res D) : Env → Res D := fun env => (p env).bind fun b => if b = true then f env else g env
theorem glueBV {σ : L2.St} {H : Hp} {Q : VK} {k : Bool → Env → Res D} {R : Bool → Hp → Prop} (h : TV c E (fun env => (p env).bind fun b => k b env) σ H Q)
    (step : ∀ bb K F0 F env φ b H1, SE bb c.κ K F0 F env φ σ H1 → PostV c E F H1 (k b env) Q → R b H1) : TB c E p σ H R := by
  obtain ⟨bb, K, F0, F, env, φ, S, h⟩ := h
  refine ⟨bb, K, F0, F, env, φ, S, ?_⟩
  cases z : p env with
  | ok b =>
    simp only [z, Res.bind] at h
    intro H' F' x
    refine step bb K F0 F' env φ b H' (S.ext x) ?_
    cases z2 : k b env with
    | ok b2 =>
      rw [z2] at h
      intro v H2 F2 fp x2 r nd fr
      exact h v H2 F2 fp (x.trans x2) r nd fun a m => ⟨x.hh.free (fr a m).1, (fr a m).2⟩
    | exc y =>
      rw [z2] at h
      intro cl dd H2 s w
      exact h cl dd H2 (x.hh.trans s) (c.mono (x.hh) w)
    | stuck => rw [z2] at h; exact h
  | exc y => simp only [z, Res.bind] at h; exact h
  | stuck => simp only [z, Res.bind] at h; exact h
theorem ev_if {t : Expr} (hc : ET X c E t p) (ha : EV X c E a f) (hb : EV X c E b g) : EV X c E (.IfExp t a b pos) (eIf p f g) := PE.imp (pe_ifExp hc ha hb) fun σ H Q h =>
  glueBV (k := fun b env => if b = true then f env else g env) h fun bb K F0 F env φ b H1 S h => by
    cases b with
    | true => rw [if_pos rfl] at h ⊢; exact ⟨bb, K, F0, F, env, φ, S, h⟩
    | false => rw [if_neg Bool.false_ne_true] at h ⊢; exact ⟨bb, K, F0, F, env, φ, S, h⟩
def eAnd (f g : Env → Res D) : Env → Res D := fun env => (f env).bind fun d => (asB d).bind fun b => if b = true then g env else .ok (.bl false)
theorem glueVV {σ : L2.St} {H : Hp} {Q : VK} {k : D → Env → Res D} {R : V → Hp → Prop} (h : TV c E (fun env => (f env).bind fun b => k b env) σ H Q)
    (step : ∀ bb K F0 F env φ d v fp H1, SE bb c.κ K F0 F env φ σ H1 → Rep c.κ F H1 d v fp → PostV c E F H1 (k d env) Q → R v H1) : TV c E f σ H R := by
  obtain ⟨bb, K, F0, F, env, φ, S, h⟩ := h
  refine ⟨bb, K, F0, F, env, φ, S, ?_⟩
  cases z : f env with
  | ok b =>
    simp only [z, Res.bind] at h
    intro v H' F' fp x r nd fr
    refine step bb K F0 F' env φ b v fp H' (S.ext x) r ?_
    cases z2 : k b env with
    | ok b2 =>
      rw [z2] at h
      intro v H2 F2 fp x2 r nd fr
      exact h v H2 F2 fp (x.trans x2) r nd fun a m => ⟨x.hh.free (fr a m).1, (fr a m).2⟩
    | exc y =>
      rw [z2] at h
      intro cl dd H2 s w
      exact h cl dd H2 (x.hh.trans s) (c.mono (x.hh) w)
    | stuck => rw [z2] at h; exact h
  | exc y => simp only [z, Res.bind] at h; exact h
  | stuck => simp only [z, Res.bind] at h; exact h
theorem ev_one {op} (h : EV X c E a f) : EV X c E (.BoolOp op [a] pos) f := pe_one h
theorem ev_and (ha : EV X c E a f) (hb : EV X c E (.BoolOp .And (b :: rest) pos) g) : EV X c E (.BoolOp .And (a :: b :: rest) pos) (eAnd f g) := PE.imp (pe_and ha hb) fun σ H Q h =>
  glueVV (k := fun d env => (asB d).bind fun b => if b = true then g env else .ok (.bl false)) h fun bb K F0 F env φ d v fp H1 S r h => by
    cases d with
    | bl b =>
      cases r
      refine ⟨b, rfl, ?_⟩
      cases b with
      | true => rw [if_pos rfl]; exact ⟨bb, K, F0, F, env, φ, S, h⟩
      | false => rw [if_neg Bool.false_ne_true]; exact PostV.bl h S.fh
    | _ => exact h.elim
end
section
variable {X : Cx} {c : Cfg X.K} {E : XK} {e a b : Expr} {f g : Env → Res D} {pos : Pos}
def flatD : D → Bool
  | .non => true | .bl _ => true | .int _ => true | .str _ => true
  | _ => false
def inL (x : D) (ys : List D) : Bool := ys.any fun y => eqD y x
def dIn : D → D → Res Bool
  | x, .nd _ .lst ys => if flatD x && ys.all flatD then .ok (inL x ys) else .stuck
  | x, .tup ys => if flatD x && ys.all flatD then .ok (inL x ys) else .stuck
  | .str s, .str z => .ok (!(Builtin.Str.occurrences z s 0 z.length 1).isEmpty)
  | _, _ => .stuck
theorem flat_rep {M : PySem.W.Frag} {κ : Kap M} {F H : Hp} {d : D} {v : V} {fp : List Addr} (r : Rep κ F H d v fp) (h : flatD d = true) : flatV v = true := by
  cases r <;> first | rfl | (simp [flatD] at h)
theorem flat_eq {M : PySem.W.Frag} {κ : Kap M} {F H : Hp} {d e : D} {v u : V} {fp fq : List Addr} (r : Rep κ F H d v fp) (q : Rep κ F H e u fq) (h : flatD d = true) (h' : flatD e = true) : eqV v u = eqD d e := by
  cases r <;> cases q <;> first
    | (simp [flatD] at h; done)
    | (simp [flatD] at h'; done)
    | rfl
theorem flat_all {M : PySem.W.Frag} {κ : Kap M} {F H : Hp} {x : D} {v : V} {fx : List Addr} (rx : Rep κ F H x v fx) (hx : flatD x = true) : ∀ {ds : List D} {vs : List V} {fp : List Addr}, RepL κ F H ds vs fp → ds.all flatD = true → vs.all flatV = true ∧ inV v vs = inL x ds
  | _, _, _, .nil, _ => ⟨rfl, rfl⟩
  | _, _, _, .cons r t, h => by
    rw [List.all_cons, Bool.and_eq_true] at h
    obtain ⟨h1, h2⟩ := flat_all rx hx t h.2
    refine ⟨by rw [List.all_cons, flat_rep r h.1, h1]; rfl, ?_⟩
    unfold inV inL at h2 ⊢
    rw [List.any_cons, List.any_cons, h2, flat_eq r rx h.1 hx]
abbrev rInA (K : PySem.W.Frag) (n : Bool) : R2 := fun x y H Q => rIn K n x y H Q ∨ ∃ i j, x = .str i ∧ y = .str j ∧ Q (.bl (if n then !(!(Builtin.Str.occurrences j i 0 j.length 1).isEmpty) else (!(Builtin.Str.occurrences j i 0 j.length 1).isEmpty))) H
theorem dIn_ok {F H : Hp} {x y : D} {v u : V} {fx fy : List Addr} {b : Bool} (fh : Sub F H) (rx : Rep c.κ F H x v fx) (ry : Rep c.κ F H y u fy) (e : dIn x y = .ok b) (n : Bool) (Q : VK) (q : Q (.bl (if n then !b else b)) H) : rInA X.K n v u H Q := by
  unfold dIn at e
  split at e
  · rename_i t ys
    by_cases h : (flatD x && ys.all flatD) = true
    · rw [if_pos h] at e
      cases e
      rw [Bool.and_eq_true] at h
      obtain ⟨a, vs, fq, rfl, h1, h2, _⟩ := ry.sqL fh
      obtain ⟨h3, h4⟩ := flat_all rx h.1 h2 h.2
      refine .inl ⟨a, vs, rfl, .inl h1, flat_rep rx h.1, h3, ?_⟩
      rw [h4]
      exact q
    · rw [if_neg h] at e
      cases e
  · rename_i ys
    by_cases h : (flatD x && ys.all flatD) = true
    · rw [if_pos h] at e
      cases e
      rw [Bool.and_eq_true] at h
      obtain ⟨a, vs, rfl, _, h1, h2⟩ := ry.sqT fh
      obtain ⟨h3, h4⟩ := flat_all rx h.1 h2 h.2
      refine .inl ⟨a, vs, rfl, .inr h1, flat_rep rx h.1, h3, ?_⟩
      rw [h4]
      exact q
    · rw [if_neg h] at e
      cases e
  · cases rx
    cases ry
    cases e
    exact .inr ⟨_, _, rfl, rfl, q⟩
  · cases e
theorem op2_inA {n : Bool} : Op2 c (rInA X.K n) (fun x y => (dIn x y).bind fun b => .ok (.bl (if n then !b else b))) := by
  intro E F H x y v u fx fy Q fh rx ry p
  dsimp only at p
  cases h : dIn x y with
  | ok b => 
    rw [h] at p
    exact dIn_ok fh rx ry h n Q (PostV.bl p fh)
  | exc z =>
    exfalso
    unfold dIn at h
    split at h <;> (try split at h) <;> cases h
  | stuck => rw [h] at p; exact p.elim
theorem op_notInA : OpR X (compareOp .NotIn) (rInA X.K true) := OpR.or op_notIn_seq op_notIn_str
theorem et_notIn (ha : EV X c E a f) (hb : EV X c E b g) (hm : behindInMarks .NotIn b = false := by rfl) : ET X c E (.Compare a [.NotIn] [b] pos) (eB (e2 (fun x y => (dIn x y).bind fun b => .ok (.bl (if true = true then !b else b))) f g)) := et_cmp op_notInA op2_inA ha hb hm
def ofO {α : Type} : Option α → Res α
  | some a => .ok a
  | none => .stuck
def dIx : D → D → Res D
  | .nd _ .lst xs, .int i => (ofO (atI xs i)).bind fun d => .ok (rd d)
  | .tup xs, .int i => (ofO (atI xs i)).bind fun d => .ok (rd d)
  | .str z, .int i => if z.length ≤ bigL then (ofO (atI z.cps.toList i)).bind fun k => .ok (.str ⟨#[k]⟩) else .stuck
  | _, _ => .stuck
theorem RepL.atI {M : PySem.W.Frag} {κ : Kap M} {F H : Hp} {ds : List D} {vs : List V} {fp : List Addr} {i : Int} {d : D} (r : RepL κ F H ds vs fp) (h : L2.atI ds i = some d) : ∃ v fq, L2.atI vs i = some v ∧ Rep κ F H d v fq := by
  unfold L2.atI at h ⊢
  rw [r.length] at h
  cases q : ixN vs.length i with
  | none => rw [q] at h; cases h
  | some j =>
    rw [q] at h
    obtain ⟨v, fq, h1, h2, _⟩ := r.get j d h
    exact ⟨v, fq, h1, h2⟩
theorem op2_ix : Op2 c (rIx X.K) dIx := by
  intro E F H x y v u fx fy Q fh rx ry p
  unfold dIx at p
  split at p
  · rename_i t xs i
    cases ry
    cases q : atI xs i with
    | none => rw [q] at p; exact p.elim
    | some d =>
      rw [q] at p
      obtain ⟨a, vs, fq, rfl, h1, h2, _⟩ := rx.sqL fh
      obtain ⟨v, fq, h3, h4⟩ := h2.atI q
      exact .inl ⟨a, vs, i, v, rfl, rfl, h1, h3, PostV.at_ p fh (h4.rd _ _ _ fh)⟩
  · rename_i xs i
    cases ry
    cases q : atI xs i with
    | none => rw [q] at p; exact p.elim
    | some d =>
      rw [q] at p
      obtain ⟨a, vs, rfl, _, h1, h2⟩ := rx.sqT fh
      obtain ⟨v, fq, h3, h4⟩ := h2.atI q
      exact .inr (.inl ⟨a, vs, i, v, rfl, rfl, h1, h3, PostV.at_ p fh (h4.rd _ _ _ fh)⟩)
  · rename_i z i
    cases rx
    cases ry
    by_cases h : z.length ≤ bigL
    · rw [if_pos h] at p
      cases q : atI z.cps.toList i with
      | none => rw [q] at p; exact p.elim
      | some d =>
        rw [q] at p
        exact .inr (.inr ⟨z, i, d, rfl, rfl, bigL_line h, q, PostV.str p fh⟩)
    · rw [if_neg h] at p
      exact p.elim
  · exact p.elim
theorem ev_sub_ (ha : EV X c E a f) (hb : EV X c E b g) (hs : PlainIx b := by intro _ _; rfl) : EV X c E (.Subscript a b pos) (e2 dIx f g) := ev_ix ix_seq op2_ix ha hb hs
def EO (X : Cx) (c : Cfg X.K) (E : XK) (e : Option Expr) (f : Env → Res (Option Int)) : Prop := PO X e (fun σ H Q => ∃ bb K F0 F env φ, SE bb c.κ K F0 F env φ σ H ∧ match f env with
  | .ok o => ∀ H' F', Ext F H F' H' → Q o H'
  | .exc x => ∀ cl dd H', Sm H H' → c.xr H x cl dd H' → E cl dd H'
  | .stuck => False)
def oNo : Env → Res (Option Int) := fun _ => .ok none
def oInt : D → Res (Option Int)
  | .int i => .ok (some i)
  | _ => .stuck
def oSome (f : Env → Res D) : Env → Res (Option Int) := fun env => (f env).bind oInt
theorem PO.imp {e : Option Expr} {t t' : TO} (h : PO X e t) (i : ∀ σ H Q, t' σ H Q → t σ H Q) : PO X e t' := by
  exact ⟨fun pins s σ H Q I q => h.run pins s σ H Q I (i σ H Q q)⟩
theorem eo_none : EO X c E none oNo := PO.imp po_none fun σ H Q h => by
  obtain ⟨bb, K, F0, F, env, φ, S, p⟩ := h
  exact p H F (.refl S.fh)
theorem eo_some (h : EV X c E a f) : EO X c E (some a) (oSome f) := PO.imp (po_some h) fun σ H Q h => by
  obtain ⟨bb, K, F0, F, env, φ, S, p⟩ := h
  refine ⟨bb, K, F0, F, env, φ, S, ?_⟩
  unfold oSome at p
  cases q : f env with
  | ok d =>
    simp only [q, Res.bind] at p
    intro v H' F' fp x r nd fr
    cases d with
    | int i => cases r; exact ⟨i, rfl, p H' F' x⟩
    | _ => exact p.elim
  | exc z => simp only [q, Res.bind] at p; exact p
  | stuck => simp only [q, Res.bind] at p
def cutL {α : Type} (xs : List α) (lo hi : Option Int) : List α := (xs.drop (HT.sIx xs.length 0 lo)).take (HT.sIx xs.length xs.length hi - HT.sIx xs.length 0 lo)
def dSl : D → Option Int → Option Int → Res D
  | .nd _ .lst xs, lo, hi => .ok (.lst .own (rdL (cutL xs lo hi)))
  | .str z, lo, hi => if z.length ≤ bigL then .ok (.str (cutS z lo hi)) else .stuck
  | .tup xs, lo, hi => if (cutL xs lo hi).length < xs.length ∧ (cutL xs lo hi).length ≠ 0 then .ok (.tup (rdL (cutL xs lo hi))) else .stuck
  | _, _, _ => .stuck
abbrev rSlA (K : PySem.W.Frag) : V → Option Int → Option Int → Hp → VK → Prop := fun x lo hi H Q => rSlL K x lo hi H Q ∨ (rSlS x lo hi H Q ∨ rSlT K x lo hi H Q)
theorem sl_all : SlR X (rSlA X.K) := SlR.or sl_list (SlR.or sl_str sl_tup)
theorem RepL.cut {M : PySem.W.Frag} {κ : Kap M} {F H : Hp} {ds : List D} {vs : List V} {fp : List Addr} (r : RepL κ F H ds vs fp) (lo hi : Option Int) : ∃ fq, RepL κ F H (cutL ds lo hi) (cutV vs lo hi) fq := by
  unfold cutL cutV
  rw [r.length]
  obtain ⟨fq, h1, _⟩ := r.drop (HT.sIx vs.length 0 lo)
  obtain ⟨fr, h2, _⟩ := h1.take (HT.sIx vs.length vs.length hi - HT.sIx vs.length 0 lo)
  exact ⟨fr, h2⟩
def eSl (f : Env → Res D) (l h : Env → Res (Option Int)) : Env → Res D := fun env => (f env).bind fun d => (l env).bind fun lo => (h env).bind fun hi => dSl d lo hi
theorem dSl_ok {F H : Hp} {x : D} {v : V} {fx : List Addr} {lo hi : Option Int} {Q : VK} (fh : Sub F H) (rx : Rep c.κ F H x v fx) (p : PostV c E F H (dSl x lo hi) Q) : rSlA X.K v lo hi H Q := by
  unfold dSl at p
  split at p
  · rename_i t xs
    obtain ⟨a, vs, fq, rfl, h1, h2, _⟩ := rx.sqL fh
    obtain ⟨fr, h3⟩ := h2.cut lo hi
    exact .inl ⟨a, vs, rfl, h1, fun q hq => p.newO fh hq rfl (RepL.rd _ _ _ fh _ _ _ h3) rfl⟩
  · rename_i z
    cases rx
    by_cases h : z.length ≤ bigL
    · rw [if_pos h] at p
      exact .inr (.inl ⟨z, rfl, bigL_line h, p.str fh⟩)
    · rw [if_neg h] at p
      exact p.elim
  · rename_i xs
    by_cases h : (cutL xs lo hi).length < xs.length ∧ (cutL xs lo hi).length ≠ 0
    · rw [if_pos h] at p
      obtain ⟨a, vs, rfl, _, h1, h2⟩ := rx.sqT fh
      obtain ⟨fr, h3⟩ := h2.cut lo hi
      refine .inr (.inr ⟨a, vs, rfl, h1, fun z => ?_, fun q hq => p.newF fh hq (RepL.rd _ _ _ fh _ _ _ h3)⟩)
      have e := h2.length
      have h4 := h.1
      unfold cutL at h4
      rw [e, z.1, z.2] at h4
      simp [e] at h4
    · rw [if_neg h] at p
      exact p.elim
  · exact p.elim
theorem ev_slice {lo hi : Option Expr} {l h : Env → Res (Option Int)} {p2 : Pos} (ha : EV X c E a f) (hl : EO X c E lo l) (hh : EO X c E hi h) : EV X c E (.Subscript a (.Slice lo hi none p2) pos) (eSl f l h) :=
  PE.imp (pe_slice sl_all ha hl hh) fun σ H Q q => by
    refine glueVV (k := fun d env => (l env).bind fun lo => (h env).bind fun hi => dSl d lo hi) q fun bb K F0 F env φ d v fp H1 S r q => ?_
    refine ⟨bb, K, F0, F, env, φ, S, ?_⟩
    cases z : l env with
    | ok lo =>
      simp only [z, Res.bind] at q
      intro H2 F2 x2
      refine ⟨bb, K, F0, F2, env, φ, S.ext x2, ?_⟩
      cases z2 : h env with
      | ok hi =>
        simp only [z2] at q
        intro H3 F3 x3
        refine dSl_ok (c := c) (E := E) (F := F3) x3.fh ((r.ext x2).ext x3) ?_
        cases z3 : dSl d lo hi with
        | ok d' =>
          rw [z3] at q
          intro v' H4 F4 fp4 x4 r4 nd4 fr4
          exact q v' H4 F4 fp4 ((x2.trans x3).trans x4) r4 nd4 fun a m => ⟨(x2.trans x3).hh.free (fr4 a m).1, (fr4 a m).2⟩
        | exc y => rw [z3] at q; exact fun cl dd H4 s w => q cl dd H4 ((x2.trans x3).hh.trans s) (c.mono ((x2.trans x3).hh) w)
        | stuck => rw [z3] at q; exact q
      | exc y => simp only [z2] at q; exact fun cl dd H4 s w => q cl dd H4 (x2.hh.trans s) (c.mono (x2.hh) w)
      | stuck => simp only [z2] at q; exact q
    | exc y => simp only [z, Res.bind] at q; exact q
    | stuck => simp only [z, Res.bind] at q; exact q
def OpC {M : PySem.W.Frag} (c : Cfg M) (r : List V → Hp → VK → Prop) (k : List D → Res D) : Prop := ∀ (E : XK) (F H : Hp) (ds : List D) (vs : List V) (fp : List Addr) (Q : VK), Sub F H → RepL c.κ F H ds vs fp → PostV c E F H (k ds) Q → r vs H Q
theorem glueC {σ : L2.St} {H : Hp} {Q : VK} {R : List V → Hp → Prop} {fs : Env → Res (List D)} {k : List D → Res D} (h : TV c E (fun env => (fs env).bind k) σ H Q)
    (step : ∀ F H1 ds vs fp, Sub F H1 → RepL c.κ F H1 ds vs fp → PostV c E F H1 (k ds) Q → R vs H1) : TL c E fs σ H R := by
  obtain ⟨bb, K, F0, F, env, φ, S, p⟩ := h
  refine ⟨bb, K, F0, F, env, φ, S, ?_⟩
  cases q : fs env with
  | ok d =>
    simp only [q, Res.bind] at p
    intro v H' F' fp x r nd fr
    refine step F' H' d v fp x.fh r ?_
    cases q2 : k d with
    | ok d' =>
      simp only [q2] at p
      intro v2 H2 F2 fp2 x2 r2 nd2 fr2
      exact p v2 H2 F2 fp2 (x.trans x2) r2 nd2 fun a m => ⟨x.hh.free (fr2 a m).1, (fr2 a m).2⟩
    | exc z =>
      simp only [q2] at p
      intro cl dd H2 s y
      exact p cl dd H2 (x.hh.trans s) (c.mono x.hh y)
    | stuck => simp only [q2] at p; exact p
  | exc z => simp only [q, Res.bind] at p; exact p
  | stuck => simp only [q, Res.bind] at p; exact p
def eC_ (k : List D → Res D) (fs : Env → Res (List D)) : Env → Res D := fun env => (fs env).bind k
variable {es : List Expr} {fs : Env → Res (List D)} {x : Str} {p : Pos}
theorem ev_callB {id : String} {r : List V → Hp → VK → Prop} {k : List D → Res D} (hk : OpC c r k) (hc : CallR X (.builtin id) r) (hg : Gl X x) (hm : X.mg x = none) (hv : bootBuiltins x = some (.builtin id)) (ha : EL X c E (e :: es) fs) (hn : x ≠ "__name__" := by decide) (hdb : (x == ("__debug__" : Str)) = false := by decide)
    (he : starEach (e :: es) X.env = (false, eval e X.env) :: starEach es X.env := by rfl) (hpl : (backTo pos (starEach es X.env)).any (·.1) = false := by rfl) : EV X c E (.Call (.Name x p) (e :: es) [] pos) (eC_ k fs) :=
  PE.imp (pe_callB hc hg hm hv ha hn hdb he hpl) fun σ H Q q => glueC q fun F H1 ds vs fp fh r p => hk E F H1 ds vs fp Q fh r p
theorem ev_callTy {T : String} {r : List V → Hp → VK → Prop} {k : List D → Res D} (hk : OpC c r k) (hc : CallR X (.type T) r) (hg : Gl X x) (hm : X.mg x = none) (hv : bootBuiltins x = some (.type T)) (ha : EL X c E (e :: es) fs) (hn : x ≠ "__name__" := by decide) (hdb : (x == ("__debug__" : Str)) = false := by decide)
    (he : starEach (e :: es) X.env = (false, eval e X.env) :: starEach es X.env := by rfl) (hpl : (backTo pos (starEach es X.env)).any (·.1) = false := by rfl) : EV X c E (.Call (.Name x p) (e :: es) [] pos) (eC_ k fs) :=
  PE.imp (pe_callTy hc hg hm hv ha hn hdb he hpl) fun σ H Q q => glueC q fun F H1 ds vs fp fh r p => hk E F H1 ds vs fp Q fh r p
def dLen : List D → Res D
  | [.str z] => if z.length ≤ bigL then .ok (.int z.length) else .stuck
  | [.tup ds] => .ok (.int ds.length)
  | [.nd _ .lst ds] => .ok (.int ds.length)
  | _ => .stuck
theorem RepL.one {M : PySem.W.Frag} {κ : Kap M} {F H : Hp} {d : D} {vs : List V} {fp : List Addr} (r : RepL κ F H [d] vs fp) : ∃ v fq, vs = [v] ∧ Rep κ F H d v fq := by
  cases r with
  | cons r1 t => cases t; exact ⟨_, _, rfl, r1⟩
theorem RepL.two {M : PySem.W.Frag} {κ : Kap M} {F H : Hp} {d d' : D} {vs : List V} {fp : List Addr} (r : RepL κ F H [d, d'] vs fp) : ∃ v v' fq fr, vs = [v, v'] ∧ Rep κ F H d v fq ∧ Rep κ F H d' v' fr := by
  cases r with
  | cons r1 t => obtain ⟨v, fq, rfl, r2⟩ := t.one; exact ⟨_, _, _, _, rfl, r1, r2⟩
theorem opc_len : OpC c (fun xs H Q => ∃ x n, xs = [x] ∧ LenV X.K x H n ∧ Q (.int n) H) dLen := by
  intro E F H ds vs fp Q fh r p
  unfold dLen at p
  split at p
  · rename_i z
    obtain ⟨v, fq, rfl, r1⟩ := r.one
    cases r1
    by_cases h : z.length ≤ bigL
    · rw [if_pos h] at p
      exact ⟨_, z.length, rfl, ⟨bigL_line h, rfl⟩, p.int fh⟩
    · rw [if_neg h] at p
      exact p.elim
  · obtain ⟨v, fq, rfl, r1⟩ := r.one
    obtain ⟨a, vs, rfl, _, h1, h2⟩ := r1.sqT fh
    refine ⟨_, vs.length, rfl, .inr ⟨vs, h1, rfl⟩, ?_⟩
    rw [← h2.length]
    exact p.int fh
  · obtain ⟨v, fq, rfl, r1⟩ := r.one
    obtain ⟨a, vs, fq, rfl, h1, h2, _⟩ := r1.sqL fh
    refine ⟨_, vs.length, rfl, .inl ⟨vs, h1, rfl⟩, ?_⟩
    rw [← h2.length]
    exact p.int fh
  · exact p.elim
theorem ev_len (hg : Gl X "len") (hm : X.mg "len" = none) (ha : EL X c E [e] fs) (he : starEach [e] X.env = (false, eval e X.env) :: starEach [] X.env := by rfl) : EV X c E (.Call (.Name "len" p) [e] [] pos) (eC_ dLen fs) :=
  ev_callB opc_len call_len hg hm PySem.boot_len ha (by decide) (by decide) he
def dInt : List D → Res D
  | [.int i] => .ok (.int i)
  | [.bl b] => .ok (.int (if b then 1 else 0))
  | [.str s] => if s.length ≤ 640 then (ofO (PySem.intText? s)).bind fun n => .ok (.int n) else .stuck
  | _ => .stuck
abbrev rInt : List V → Hp → VK → Prop := fun xs H Q => ((∃ i, xs = [.int i] ∧ Q (.int i) H) ∨ ∃ k, xs = [.bl k] ∧ Q (.int (if k then 1 else 0)) H) ∨ (∃ a n, xs = [.str a] ∧ PySem.intText? a = some n ∧ a.length ≤ 640 ∧ Q (.int n) H)
theorem opc_int : OpC c rInt dInt := by
  intro E F H ds vs fp Q fh r p
  unfold dInt at p
  split at p
  · obtain ⟨v, fq, rfl, r1⟩ := r.one
    cases r1
    exact .inl (.inl ⟨_, rfl, p.int fh⟩)
  · obtain ⟨v, fq, rfl, r1⟩ := r.one
    cases r1
    exact .inl (.inr ⟨_, rfl, p.int fh⟩)
  · rename_i s
    obtain ⟨v, fq, rfl, r1⟩ := r.one
    cases r1
    by_cases h : s.length ≤ 640
    · rw [if_pos h] at p
      cases q : PySem.intText? s with
      | none => rw [q] at p; exact p.elim
      | some n => rw [q] at p; exact .inr ⟨_, n, rfl, q, h, PostV.int p fh⟩
    · rw [if_neg h] at p
      exact p.elim
  · exact p.elim
end
end PV
end
section
namespace PV
open PySem PySem.Spec PyProof.Rows L2
def put (φ : Nat → List Addr) (i : Nat) (fp : List Addr) : Nat → List Addr := fun j => if j = i then fp else φ j
theorem put_same {φ : Nat → List Addr} {i : Nat} {fp : List Addr} : put φ i fp i = fp := if_pos rfl
theorem put_ne {φ : Nat → List Addr} {i j : Nat} {fp : List Addr} (h : j ≠ i) : put φ i fp j = φ j := if_neg h
section
variable {M : PySem.W.Frag} {κ : Kap M} {K F0 F H F' H' : Hp} {env : Env} {φ : Nat → List Addr} {σ : L2.St}
theorem SE.apart {bb : Bool} (S : SE bb κ K F0 F env φ σ H) {a : Addr} (h : H a = none) : K a = none ∧ ∀ j, a ∉ φ j := by
  refine ⟨S.kk.free h, fun j m => ?_⟩
  obtain ⟨_, _, o, e, _⟩ := S.ow j a m
  rw [h] at e
  cases e
theorem SE.set {bb : Bool} (S : SE bb κ K F0 F env φ σ H) (x : Ext F H F' H') {d : D} {v : V} {fp : List Addr} (r : Rep κ F' H' d v fp) (nd : fp.Nodup) (fr : ∀ a ∈ fp, H a = none ∧ F' a = none) (nt : bb = true → noT d = true) (i : Nat) :
    SE bb κ K F0 F' (env.set i (some d)) (put φ i fp) (σ.set i (some v)) H' := by
  have S' := S.ext x
  refine ⟨by simpa using S.len, S'.kk, S'.f0, S'.fh, S'.gr, fun j e h => ?_, fun j => ?_, fun j k hjk a ha => ?_, fun j a ha => ?_⟩
  · by_cases hj : j = i
    · subst hj
      rw [put_same]
      have hlt : j < env.length := by
        by_cases q : j < env.length
        · exact q
        · rw [List.getElem?_eq_none (by simpa using q)] at h; cases h
      rw [List.getElem?_set_self hlt] at h
      cases h
      exact ⟨v, by rw [List.getElem?_set_self (by rw [← S.len]; exact hlt)], r, nt⟩
    · rw [put_ne hj]
      rw [List.getElem?_set_ne (Ne.symm hj)] at h
      rw [List.getElem?_set_ne (Ne.symm hj)]
      exact S'.sl j e h
  · by_cases hj : j = i
    · subst hj; rw [put_same]; exact nd
    · rw [put_ne hj]; exact S.nd j
  · by_cases hj : j = i
    · subst hj
      rw [put_same] at ha
      rw [put_ne (Ne.symm hjk)]
      exact (S.apart (fr a ha).1).2 k
    · rw [put_ne hj] at ha
      by_cases hk : k = i
      · subst hk
        rw [put_same]
        exact fun m => (S.apart (fr a m).1).2 j ha
      · rw [put_ne hk]; exact S.dj j k hjk a ha
  · by_cases hj : j = i
    · subst hj
      rw [put_same] at ha
      exact ⟨(fr a ha).2, (S.apart (fr a ha).1).1, Rep.own _ _ _ _ _ _ r a ha⟩
    · rw [put_ne hj] at ha; exact S'.ow j a ha
theorem SE.write (S : SE true κ K F0 F env φ σ H) {i : Nat} {a : Addr} (ha : a ∈ φ i) {o : HO} {d : D} {v : V} {fp : List Addr} (hv : σ[i]? = some (some v)) (r : Rep κ F (upd H a o) d v fp) (nd : fp.Nodup)
    (fr : ∀ b ∈ fp, b ∈ φ i ∨ (F b = none ∧ K b = none ∧ ∀ j, b ∉ φ j)) (nt : noT d = true) : SE true κ K F0 F (env.set i (some d)) (put φ i fp) σ (upd H a o) := by
  obtain ⟨haF, haK, _⟩ := S.ow i a ha
  have hne : ∀ b x, F b = some x → b ≠ a := fun b x e z => by rw [z, haF] at e; cases e
  have hnk : ∀ b x, K b = some x → b ≠ a := fun b x e z => by rw [z, haK] at e; cases e
  have haH := (S.ow i a ha).2.2
  refine ⟨by simpa using S.len, S.kk.upd haK, S.f0, S.fh.upd haF haH.choose_spec.1 haH.choose_spec.2, S.gr, fun j e h => ?_, fun j => ?_, fun j k hjk b hb => ?_, fun j b hb => ?_⟩
  · by_cases hj : j = i
    · subst hj
      rw [put_same]
      have hlt : j < env.length := by
        by_cases q : j < env.length
        · exact q
        · rw [List.getElem?_eq_none (by simpa using q)] at h; cases h
      rw [List.getElem?_set_self hlt] at h
      cases h
      exact ⟨v, hv, r, fun _ => nt⟩
    · rw [put_ne hj]
      rw [List.getElem?_set_ne (Ne.symm hj)] at h
      obtain ⟨w, h1, h2, h3⟩ := S.sl j e h
      refine ⟨w, h1, h2.stay _ _ _ _ _ (Same.refl _) _ _ _ (fun b hb => upd_ne fun z => ?_) (h3 rfl), h3⟩
      subst z
      exact S.dj j i hj b hb ha
  · by_cases hj : j = i
    · subst hj; rw [put_same]; exact nd
    · rw [put_ne hj]; exact S.nd j
  · by_cases hj : j = i
    · subst hj
      rw [put_same] at hb
      rw [put_ne (Ne.symm hjk)]
      rcases fr b hb with h | h
      · exact S.dj j k hjk b h
      · exact h.2.2 k
    · rw [put_ne hj] at hb
      by_cases hk : k = i
      · subst hk
        rw [put_same]
        intro m
        rcases fr b m with h | h
        · exact S.dj j k hjk b hb h
        · exact h.2.2 j hb
      · rw [put_ne hk]; exact S.dj j k hjk b hb
  · by_cases hj : j = i
    · subst hj
      rw [put_same] at hb
      obtain ⟨x, h1, h2⟩ := Rep.own _ _ _ _ _ _ r b hb
      rcases fr b hb with h | h
      · exact ⟨(S.ow j b h).1, (S.ow j b h).2.1, x, h1, h2⟩
      · exact ⟨h.1, h.2.1, x, h1, h2⟩
    · rw [put_ne hj] at hb
      obtain ⟨h1, h2, x, h3, h4⟩ := S.ow j b hb
      refine ⟨h1, h2, x, ?_, h4⟩
      rw [upd_ne fun z => ?_]
      · exact h3
      · subst z
        exact S.dj j i hj b hb ha
theorem SE.drop {bb : Bool} (S : SE bb κ K F0 F env φ σ H) (i : Nat) : SE bb κ K F0 F (env.set i none) (put φ i []) σ H := by
  refine ⟨by simpa using S.len, S.kk, S.f0, S.fh, S.gr, fun j e h => ?_, fun j => ?_, fun j k hjk a ha => ?_, fun j a ha => ?_⟩
  · by_cases hj : j = i
    · subst hj
      exfalso
      by_cases q : j < env.length
      · rw [List.getElem?_set_self q] at h; cases h
      · rw [List.getElem?_eq_none (by simpa using q)] at h; cases h
    · rw [put_ne hj]
      rw [List.getElem?_set_ne (Ne.symm hj)] at h
      exact S.sl j e h
  · by_cases hj : j = i
    · subst hj; rw [put_same]; exact .nil
    · rw [put_ne hj]; exact S.nd j
  · by_cases hj : j = i
    · subst hj; rw [put_same] at ha; cases ha
    · rw [put_ne hj] at ha
      by_cases hk : k = i
      · subst hk; rw [put_same]; simp
      · rw [put_ne hk]; exact S.dj j k hjk a ha
  · by_cases hj : j = i
    · subst hj; rw [put_same] at ha; cases ha
    · rw [put_ne hj] at ha; exact S.ow j a ha
mutual
theorem noT_fz : ∀ d : D, noT d = true → noT (fz d) = true
  | .non, _ => rfl
  | .bl _, _ => rfl
  | .int _, _ => rfl
  | .str _, _ => rfl
  | .tup ds, h => by rw [fz, noT]; rw [noT] at h; exact noTL_fz ds h
  | .nd t k ds, h => by
    rw [noT, Bool.and_eq_true] at h
    rw [fz, noT, Bool.and_eq_true]
    refine ⟨?_, noTL_fz ds h.2⟩
    cases t
    · rfl
    · rfl
    · exact absurd (of_decide_eq_true h.1) (by simp)
  | .pin _ d, h => by rw [noT] at h; rw [fz]; exact noT_fz d h
  | .pack d cs, h => by rw [noT, Bool.and_eq_true] at h; rw [fz]; exact noT_fz d h.1
theorem noTL_fz : ∀ ds : List D, noTL ds = true → noTL (fzL ds) = true
  | [], _ => rfl
  | d :: ds, h => by
    rw [noTL, Bool.and_eq_true] at h
    rw [fzL, noTL, Bool.and_eq_true]
    exact ⟨noT_fz d h.1, noTL_fz ds h.2⟩
end
theorem SE.freeze (S : SE true κ K F0 F env φ σ H) (i : Nat) (d : D) (h : env[i]? = some (some d)) : SE true κ K F0 (grab F H (φ i)) (env.set i (some (fz d))) (put φ i []) σ H := by
  have hg : Same F (grab F H (φ i)) := same_grab fun a m => (S.ow i a m).1
  have hgT : SameT F (grab F H (φ i)) := sameT_grab (fun a m => (S.ow i a m).1) fun a m => (S.ow i a m).2.2
  refine ⟨by simpa using S.len, S.kk, S.f0.trans hgT, grab_same S.fh (fun a m => (S.ow i a m).2.2), fun a o e => ?_, fun j e h' => ?_, fun j => ?_, fun j k hjk a ha => ?_, fun j a ha => ?_⟩
  · by_cases m : a ∈ φ i
    · exact .inr (.inl (S.ow i a m).2.1)
    · rw [grab_not m] at e; exact S.gr a o e
  · by_cases hj : j = i
    · subst hj
      rw [put_same]
      have hlt : j < env.length := by
        by_cases q : j < env.length
        · exact q
        · rw [List.getElem?_eq_none (by simpa using q)] at h; cases h
      rw [List.getElem?_set_self hlt] at h'
      cases h'
      obtain ⟨v, h1, h2, h3⟩ := S.sl j d h
      exact ⟨v, h1, h2.fz _ _ _ _ hg _ _ _ (fun a m => grab_mem m), fun _ => noT_fz d (h3 rfl)⟩
    · rw [put_ne hj]
      rw [List.getElem?_set_ne (Ne.symm hj)] at h'
      obtain ⟨v, h1, h2, h3⟩ := S.sl j e h'
      exact ⟨v, h1, h2.stay _ _ _ _ _ hg _ _ _ (fun a m => rfl) (h3 rfl), h3⟩
  · by_cases hj : j = i
    · subst hj; rw [put_same]; exact .nil
    · rw [put_ne hj]; exact S.nd j
  · by_cases hj : j = i
    · subst hj; rw [put_same] at ha; cases ha
    · rw [put_ne hj] at ha
      by_cases hk : k = i
      · subst hk; rw [put_same]; simp
      · rw [put_ne hk]; exact S.dj j k hjk a ha
  · by_cases hj : j = i
    · subst hj; rw [put_same] at ha; cases ha
    · rw [put_ne hj] at ha
      obtain ⟨h1, h2, h3⟩ := S.ow j a ha
      exact ⟨by rw [grab_not (S.dj j i hj a ha)]; exact h1, h2, h3⟩
end
inductive Fl where
  | nx | bk | ct | rt (d : D)
abbrev SR := Res (Fl × Env)
structure RetOk {M : PySem.W.Frag} (κ : Kap M) (K F0 F H : Hp) (d : D) (v : V) (fp : List Addr) : Prop where
  kk : Sm K H
  f0 : FF κ F0 F
  fh : Sub F H
  gr : ∀ a o, F a = some o → F0 a = some o ∨ K a = none ∨ IsTup' o
  rep : Rep κ F H d v fp
  nd : fp.Nodup
  ow : ∀ a ∈ fp, F a = none ∧ K a = none
  nt : noT d = true
def PostS {M : PySem.W.Frag} (c : Cfg M) (E : XK) (K F0 : Hp) (r : SR) (Dn : Ends) : Prop := match r with
  | .ok (.nx, env) => ∀ σ H F φ, SE true c.κ K F0 F env φ σ H → Dn.nx σ H
  | .ok (.bk, env) => ∀ σ H F φ, SE true c.κ K F0 F env φ σ H → Dn.bk σ H
  | .ok (.ct, env) => ∀ σ H F φ, SE true c.κ K F0 F env φ σ H → Dn.ct σ H
  | .ok (.rt d, _) => ∀ v H F fp, RetOk c.κ K F0 F H d v fp → Dn.rt v H
  | .exc x => ∀ cl dd H, Sm K H → c.xr K x cl dd H → E cl dd H
  | .stuck => False
def TSt {M : PySem.W.Frag} (c : Cfg M) (E : XK) (g : Env → SR) : TS := fun Dn σ H => ∃ K F0 F env φ, SE true c.κ K F0 F env φ σ H ∧ PostS c E K F0 (g env) Dn
def ES (X : Cx) (c : Cfg X.K) (E : XK) (st : Stmt) (g : Env → SR) : Prop := PS X st (TSt c E g)
def EB (X : Cx) (c : Cfg X.K) (E : XK) (st : List Stmt) (g : Env → SR) : Prop := PSs X st (TSt c E g)
section
variable {X : Cx} {c : Cfg X.K} {E : XK} {e a b : Expr} {f : Env → Res D} {pos : Pos} {st : Stmt} {sts : List Stmt} {g h : Env → SR}
def sNil : Env → SR := fun env => .ok (.nx, env)
def sSeq (g h : Env → SR) : Env → SR := fun env => (g env).bind fun r => match r.1 with
  | .nx => h r.2
  | _ => .ok r
theorem eb_nil : EB X c E [] sNil := PSs.imp pss_nil fun Dn σ H q => by
  obtain ⟨K, F0, F, env, φ, S, p⟩ := q
  exact p σ H F φ S
theorem PostS.seq {K F0 : Hp} {r : SR} {Dn : Ends} (p : PostS c E K F0 (r.bind fun r => match r.1 with
  | .nx => h r.2
  | _ => .ok r) Dn) : PostS c E K F0 r { Dn with nx := TSt c E h Dn } := by
  cases r with
  | ok r =>
    obtain ⟨fl, env⟩ := r
    cases fl with
    | nx => exact fun σ H F φ S => ⟨K, F0, F, env, φ, S, p⟩
    | bk => exact p
    | ct => exact p
    | rt d => exact p
  | exc x => exact p
  | stuck => exact p
theorem eb_cons (h1 : ES X c E st g) (h2 : EB X c E sts h) : EB X c E (st :: sts) (sSeq g h) := PSs.imp (pss_cons h1 h2) fun Dn σ H q => by
  obtain ⟨K, F0, F, env, φ, S, p⟩ := q
  exact ⟨K, F0, F, env, φ, S, PostS.seq p⟩
theorem eb_one (h1 : ES X c E st g) : EB X c E [st] g := pss_one h1
theorem glueS {σ : L2.St} {H : Hp} {Dn : Ends} {k : D → Env → SR} {R : V → Hp → Prop} (q : TSt c E (fun env => (f env).bind fun d => k d env) Dn σ H)
    (step : ∀ K F0 F F' env φ d v fp H', SE true c.κ K F0 F env φ σ H → Ext F H F' H' → Rep c.κ F' H' d v fp → fp.Nodup → (∀ a ∈ fp, H a = none ∧ F' a = none) → PostS c E K F0 (k d env) Dn → R v H') : TV c E f σ H R := by
  obtain ⟨K, F0, F, env, φ, S, p⟩ := q
  refine ⟨true, K, F0, F, env, φ, S, ?_⟩
  cases z : f env with
  | ok d =>
    simp only [z, Res.bind] at p
    intro v H' F' fp x r nd fr
    exact step K F0 F F' env φ d v fp H' S x r nd fr p
  | exc y => simp only [z, Res.bind] at p; exact fun cl dd H' s w => p cl dd H' (S.kk.trans s) (c.mono (S.kk) w)
  | stuck => simp only [z, Res.bind] at p; exact p
theorem glueSB {pf : Env → Res Bool} {σ : L2.St} {H : Hp} {Dn : Ends} {k : Bool → Env → SR} {R : Bool → Hp → Prop} (q : TSt c E (fun env => (pf env).bind fun d => k d env) Dn σ H)
    (step : ∀ K F0 F env φ b H', SE true c.κ K F0 F env φ σ H' → PostS c E K F0 (k b env) Dn → R b H') : TB c E pf σ H R := by
  obtain ⟨K, F0, F, env, φ, S, p⟩ := q
  refine ⟨true, K, F0, F, env, φ, S, ?_⟩
  cases z : pf env with
  | ok d =>
    simp only [z, Res.bind] at p
    intro H' F' x
    exact step K F0 F' env φ d H' (S.ext x) p
  | exc y => simp only [z, Res.bind] at p; exact fun cl dd H' s w => p cl dd H' (S.kk.trans s) (c.mono (S.kk) w)
  | stuck => simp only [z, Res.bind] at p; exact p
def sRet (f : Env → Res D) : Env → SR := fun env => (f env).bind fun d => if noT d = true then .ok (.rt d, env) else .stuck
theorem es_ret (ha : EV X c E e f) : ES X c E (.Return (some e) pos) (sRet f) := PS.imp (ps_ret ha) fun Dn σ H q => glueS (k := fun d env => if noT d = true then .ok (.rt d, env) else .stuck) q fun K F0 F F' env φ d v fp H' S x r nd fr p => by
  by_cases h : noT d = true
  · rw [if_pos h] at p
    have S' := S.ext x
    exact p v H' F' fp ⟨S'.kk, S'.f0, S'.fh, S'.gr, r, nd, fun a m => ⟨(fr a m).2, (S.apart (fr a m).1).1⟩, h⟩
  · rw [if_neg h] at p
    exact p.elim
def sRetV (i : Nat) : Env → SR := fun env => match env[i]? with
  | some (some d) => .ok (.rt d, env)
  | _ => .stuck
theorem es_retV (i : Nat) {x : Str} {p : Pos} (hN : X.N[i]? = some x := by rfl) (hv : Vis X.env.scope x := by first | exact Or.inl rfl | exact Or.inr (Or.inl rfl) | exact Or.inr (Or.inr rfl)) (hd : (x == ("__debug__" : Str)) = false := by decide)
    (hcd : (x == ("__classdict__" : Str)) = false := by decide) : ES X c E (.Return (some (.Name x p)) pos) (sRetV i) := PS.imp (ps_ret (pe_var hN hv hd hcd)) fun Dn σ H q => by
  obtain ⟨K, F0, F, env, φ, S, p⟩ := q
  unfold sRetV at p
  split at p
  · rename_i d q
    obtain ⟨v, h1, h2, h3⟩ := S.sl i d q
    exact ⟨v, h1, p v H F (φ i) ⟨S.kk, S.f0, S.fh, S.gr, h2, S.nd i, fun a m => ⟨(S.ow i a m).1, (S.ow i a m).2.1⟩, h3 rfl⟩⟩
  · exact p.elim
def sIf (p : Env → Res Bool) (g h : Env → SR) : Env → SR := fun env => (p env).bind fun b => if b = true then g env else h env
theorem es_if {pf : Env → Res Bool} {t u : List Stmt} (hc : ET X c E e pf) (ha : EB X c E t g) (hb : EB X c E u h) : ES X c E (.If e t u pos) (sIf pf g h) := PS.imp (ps_if hc ha hb) fun Dn σ H q =>
  glueSB (k := fun b env => if b = true then g env else h env) q fun K F0 F env φ b H' S p => by
    cases b with
    | true => rw [if_pos rfl] at p ⊢; exact ⟨K, F0, F, env, φ, S, p⟩
    | false => rw [if_neg Bool.false_ne_true] at p ⊢; exact ⟨K, F0, F, env, φ, S, p⟩
def sDrop (f : Env → Res D) : Env → SR := fun env => (f env).bind fun _ => .ok (.nx, env)
theorem es_expr (ha : EV X c E e f) (hs : swapsWith e none pos.line X.env = pure false := by rfl) : ES X c E (.Expr e pos) (sDrop f) := PS.imp (ps_expr ha hs) fun Dn σ H q => glueS (k := fun _ env => .ok (.nx, env)) q fun K F0 F F' env φ d v fp H' S x r nd fr p => p σ H' F' φ (S.ext x)
def store (i : Nat) (d : D) (env : Env) : SR := if noT d = true then .ok (.nx, env.set i (some d)) else .stuck
def sSet (i : Nat) (f : Env → Res D) : Env → SR := fun env => (f env).bind fun d => store i d env
theorem es_set (i : Nat) {x : Str} {pos' : Pos} (ha : EV X c E e f) (hN : X.N.Nodup) (hi : X.N[i]? = some x := by rfl) (hx : Loc X.env.scope x := by first | exact .inl rfl | exact .inr rfl) (hs : swapsWith e (some (.Name x pos')) pos.line X.env = pure false := by rfl)
    (hf : X.fn x = true ∨ X.env.scope.names.lookup x = some .local := by first | exact .inl rfl | exact .inr rfl | assumption) : ES X c E (.Assign [.Name x pos'] e pos) (sSet i f) :=
  PS.imp (ps_set hN hi hx ha hs hf) fun Dn σ H q => glueS (k := fun d env => store i d env) q fun K F0 F F' env φ d v fp H' S x r nd fr p => by
    unfold store at p
    by_cases h : noT d = true
    · rw [if_pos h] at p
      exact p _ H' F' _ (S.set x r nd fr (fun _ => h) i)
    · rw [if_neg h] at p
      exact p.elim
end
end PV
end
section
namespace PV
open PySem PySem.Spec PyProof.Rows L2
section
variable {bb : Bool} {M : PySem.W.Frag} {κ : Kap M} {K F0 F F1 F2 H H1 H2 : Hp} {env env2 : Env} {φ φ2 : Nat → List Addr} {σ σ2 : L2.St}
theorem SE.weak (S : SE true κ K F0 F env φ σ H) : SE false κ K F0 F env φ σ H := ⟨S.len, S.kk, S.f0, S.fh, S.gr, fun i d h => let ⟨v, a, b, _⟩ := S.sl i d h; ⟨v, a, b, fun z => nomatch z⟩, S.nd, S.dj, S.ow⟩
theorem SE.base (S : SE bb κ K F0 F1 env φ σ H1) (T : SE bb κ K F1 F2 env2 φ2 σ2 H2) : SE bb κ K F0 F2 env2 φ2 σ2 H2 :=
  ⟨T.len, T.kk, S.f0.then T.f0, T.fh, fun a o e => by
    rcases T.gr a o e with h | h | h
    · exact S.gr a o h
    · exact .inr (.inl h)
    · exact .inr (.inr h), T.sl, T.nd, T.dj, T.ow⟩
theorem SE.self (S : SE bb κ K F0 F1 env φ σ H1) : SE bb κ K F1 F1 env φ σ H1 := ⟨S.len, S.kk, S.f0.refl, S.fh, fun _ _ e => .inl e, S.sl, S.nd, S.dj, S.ow⟩
theorem RetOk.base {d : D} {v : V} {fp : List Addr} (S : SE bb κ K F0 F1 env φ σ H1) (T : RetOk κ K F1 F2 H2 d v fp) : RetOk κ K F0 F2 H2 d v fp :=
  ⟨T.kk, S.f0.then T.f0, T.fh, fun a o e => by
    rcases T.gr a o e with h | h | h
    · exact S.gr a o h
    · exact .inr (.inl h)
    · exact .inr (.inr h), T.rep, T.nd, T.ow, T.nt⟩
theorem PostS.base {M : PySem.W.Frag} {c : Cfg M} {E : XK} {r : SR} {Dn : Ends} (S : SE true c.κ K F0 F1 env φ σ H1) (p : PostS c E K F0 r Dn) : PostS c E K F1 r Dn := by
  cases r with
  | ok r =>
    obtain ⟨fl, env'⟩ := r
    cases fl with
    | nx => exact fun σ H F φ T => p σ H F φ (S.base T)
    | bk => exact fun σ H F φ T => p σ H F φ (S.base T)
    | ct => exact fun σ H F φ T => p σ H F φ (S.base T)
    | rt d => exact fun v H F fp T => p v H F fp (T.base S)
  | exc x => exact p
  | stuck => exact p
structure Float {M : PySem.W.Frag} (κ : Kap M) (K F : Hp) (φ : Nat → List Addr) (H : Hp) (d : D) (v : V) (fp : List Addr) : Prop where
  rep : Rep κ F H d v fp
  nd : fp.Nodup
  ap : ∀ a ∈ fp, F a = none ∧ K a = none ∧ ∀ j, a ∉ φ j
structure FloatL {M : PySem.W.Frag} (κ : Kap M) (K F : Hp) (φ : Nat → List Addr) (H : Hp) (d : List D) (v : List V) (fp : List Addr) : Prop where
  rep : RepL κ F H d v fp
  nd : fp.Nodup
  ap : ∀ a ∈ fp, F a = none ∧ K a = none ∧ ∀ j, a ∉ φ j
theorem SE.float (S : SE bb κ K F0 F env φ σ H) (x : Ext F H F1 H1) {d : D} {v : V} {fp : List Addr} (r : Rep κ F1 H1 d v fp) (nd : fp.Nodup) (fr : ∀ a ∈ fp, H a = none ∧ F1 a = none) : Float κ K F1 φ H1 d v fp :=
  ⟨r, nd, fun a m => ⟨(fr a m).2, S.apart (fr a m).1⟩⟩
theorem SE.setF (S : SE bb κ K F0 F env φ σ H) {d : D} {v : V} {fp : List Addr} (f : Float κ K F φ H d v fp) (nt : bb = true → noT d = true) (i : Nat) :
    SE bb κ K F0 F (env.set i (some d)) (put φ i fp) (σ.set i (some v)) H := by
  refine ⟨by simpa using S.len, S.kk, S.f0, S.fh, S.gr, fun j e h => ?_, fun j => ?_, fun j k hjk a ha => ?_, fun j a ha => ?_⟩
  · by_cases hj : j = i
    · subst hj
      rw [put_same]
      have hlt : j < env.length := by
        by_cases q : j < env.length
        · exact q
        · rw [List.getElem?_eq_none (by simpa using q)] at h; cases h
      rw [List.getElem?_set_self hlt] at h
      cases h
      exact ⟨v, by rw [List.getElem?_set_self (by rw [← S.len]; exact hlt)], f.rep, nt⟩
    · rw [put_ne hj]
      rw [List.getElem?_set_ne (Ne.symm hj)] at h
      rw [List.getElem?_set_ne (Ne.symm hj)]
      exact S.sl j e h
  · by_cases hj : j = i
    · subst hj; rw [put_same]; exact f.nd
    · rw [put_ne hj]; exact S.nd j
  · by_cases hj : j = i
    · subst hj
      rw [put_same] at ha
      rw [put_ne (Ne.symm hjk)]
      exact (f.ap a ha).2.2 k
    · rw [put_ne hj] at ha
      by_cases hk : k = i
      · subst hk
        rw [put_same]
        exact fun m => (f.ap a m).2.2 j ha
      · rw [put_ne hk]; exact S.dj j k hjk a ha
  · by_cases hj : j = i
    · subst hj
      rw [put_same] at ha
      exact ⟨(f.ap a ha).1, (f.ap a ha).2.1, Rep.own _ _ _ _ _ _ f.rep a ha⟩
    · rw [put_ne hj] at ha; exact S.ow j a ha
end
section
variable {bb : Bool} {M : PySem.W.Frag} {κ : Kap M} {K F0 F F1 F2 H H1 H2 : Hp} {env env2 : Env} {φ φ2 : Nat → List Addr} {σ σ2 : L2.St}
theorem SE.lock (S : SE bb κ K F0 F env φ σ H) (fp : List Addr) (ap : ∀ a ∈ fp, F a = none ∧ (∀ j, a ∉ φ j) ∧ ∃ o, H a = some o ∧ ¬ IsTup' o) : SE bb κ (grab K H fp) F0 F env φ σ H := by
  refine ⟨S.len, grab_sm S.kk, S.f0, S.fh, fun a o e => ?_, S.sl, S.nd, S.dj, fun i a m => ?_⟩
  · rcases S.gr a o e with h | h | h
    · exact .inl h
    · by_cases m : a ∈ fp
      · have := (ap a m).1
        rw [e] at this; cases this
      · exact .inr (.inl (by rw [grab_not m]; exact h))
    · exact .inr (.inr h)
  · obtain ⟨h1, h2, h3⟩ := S.ow i a m
    exact ⟨h1, by rw [grab_not fun m2 => (ap a m2).2.1 i m]; exact h2, h3⟩
theorem SE.unlock {fp : List Addr} (T : SE bb κ (grab K H fp) F0 F2 env2 φ2 σ2 H2) (ap : ∀ a ∈ fp, ∃ o, H a = some o ∧ ¬ IsTup' o) (hK : ∀ a ∈ fp, K a = none := by assumption) :
    SE bb κ K F0 F2 env2 φ2 σ2 H2 ∧ ∀ a ∈ fp, H2 a = H a ∧ (F0 a = none → F2 a = none) ∧ ∀ j, a ∉ φ2 j := by
  have hk : ∀ a ∈ fp, H2 a = H a := fun a m => by
    obtain ⟨o, h1, nt⟩ := ap a m
    rw [h1]
    exact T.kk.at_ a o (by rw [grab_mem m]; exact h1) (nTb_of nt)
  have kk : Same K (grab K H fp) := fun a o e => by
    by_cases m : a ∈ fp
    · rw [hK a m] at e; cases e
    · rw [grab_not m]; exact e
  refine ⟨⟨T.len, (Sm.of kk).trans T.kk, T.f0, T.fh, fun a o e => ?_, T.sl, T.nd, T.dj, fun i a m => ?_⟩, fun a m => ⟨hk a m, fun h0 => ?_, fun j m2 => ?_⟩⟩
  · rcases T.gr a o e with h | h | h
    · exact .inl h
    · exact .inr (.inl (kk.free h))
    · exact .inr (.inr h)
  · obtain ⟨h1, h2, h3⟩ := T.ow i a m
    exact ⟨h1, kk.free h2, h3⟩
  · obtain ⟨o, h1, nt⟩ := ap a m
    cases q : F2 a with
    | none => rfl
    | some u =>
      rcases T.gr a u q with h | h | h
      · rw [h0] at h; cases h
      · rw [grab_mem m, h1] at h; cases h
      · exact (T.fh.notOwn q h ((hk a m).trans h1) nt).elim
  · obtain ⟨o, h1, _⟩ := ap a m
    have := (T.ow j a m2).2.1
    rw [grab_mem m, h1] at this
    cases this
end
abbrev TgF := D → Env → Res Env
abbrev TgFs := List D → Env → Res Env
def Agree (vs : List Nat) (σ σ' : L2.St) : Prop := σ'.length = σ.length ∧ ∀ i, i ∉ vs → σ'[i]? = σ[i]?
theorem Agree.refl {vs : List Nat} {σ : L2.St} : Agree vs σ σ := ⟨rfl, fun _ _ => rfl⟩
theorem Agree.trans {vs ws : List Nat} {σ σ1 σ2 : L2.St} (a : Agree vs σ σ1) (b : Agree ws σ1 σ2) : Agree (vs ++ ws) σ σ2 := ⟨b.1.trans a.1, fun i h => by
  rw [List.mem_append, not_or] at h
  exact (b.2 i h.2).trans (a.2 i h.1)⟩
def TGt {M : PySem.W.Frag} (c : Cfg M) (bb : Bool) (ws : List Nat) (s : TgF) : TG := fun v σ H Q => ∃ K F0 F env φ d fp, SE bb c.κ K F0 F env φ σ H ∧ Float c.κ K F φ H d v fp ∧ match s d env with
  | .ok env' => ∀ σ' H' F' φ', SE bb c.κ K F F' env' φ' σ' H' → Agree ws σ σ' → Ext F H F' H' → Q σ' H'
  | _ => False
def TGts {M : PySem.W.Frag} (c : Cfg M) (bb : Bool) (ws : List Nat) (s : TgFs) : TGs := fun vs σ H Q => ∃ K F0 F env φ ds fp, SE bb c.κ K F0 F env φ σ H ∧ FloatL c.κ K F φ H ds vs fp ∧ match s ds env with
  | .ok env' => ∀ σ' H' F' φ', SE bb c.κ K F F' env' φ' σ' H' → Agree ws σ σ' → Ext F H F' H' → Q σ' H'
  | _ => False
def EG (X : Cx) (c : Cfg X.K) (bb : Bool) (tg : Expr) (ws : List Nat) (s : TgF) : Prop := PG X tg (TGt c bb ws s)
def EGs (X : Cx) (c : Cfg X.K) (bb : Bool) (tg : List Expr) (ws : List Nat) (s : TgFs) : Prop := PGs X tg (TGts c bb ws s)
theorem PG.imp {X : Cx} {e : Expr} {t t' : TG} (h : PG X e t) (i : ∀ v σ H Q, t' v σ H Q → t v σ H Q) : PG X e t' := ⟨fun pins s σ H v u Q I r q => h.run pins s σ H v u Q I r (i v σ H Q q)⟩
theorem PGs.imp {X : Cx} {e : List Expr} {t t' : TGs} (h : PGs X e t) (i : ∀ v σ H Q, t' v σ H Q → t v σ H Q) : PGs X e t' := ⟨fun pins s σ H v u Q I r q => h.run pins s σ H v u Q I r (i v σ H Q q)⟩
def put1 (i : Nat) : TgF := fun d env => if noT d = true then .ok (env.set i (some d)) else .stuck
section
variable {X : Cx} {c : Cfg X.K} {E : XK} {pos : Pos} {bb : Bool} {ws ws2 : List Nat}
theorem agree_set {σ : L2.St} {i : Nat} {o : Option V} : Agree [i] σ (σ.set i o) := ⟨by simp, fun j h => by
  rw [List.getElem?_set_ne]
  intro z
  exact h (by simp [z])⟩
theorem eg_name (i : Nat) {x : Str} (hN : X.N.Nodup) (hi : X.N[i]? = some x := by rfl) (hx : Loc X.env.scope x := by first | exact .inl rfl | exact .inr rfl) (hf : X.fn x = true ∨ X.env.scope.names.lookup x = some .local := by first | exact .inl rfl | exact .inr rfl | assumption) :
    EG X c bb (.Name x pos) [i] (put1 i) := PG.imp (pg_name hN hi hx hf) fun v σ H Q q => by
  obtain ⟨K, F0, F, env, φ, d, fp, S, f, p⟩ := q
  unfold put1 at p
  by_cases h : noT d = true
  · rw [if_pos h] at p
    exact p _ _ _ _ (S.setF f (fun _ => h) i).self agree_set (.refl S.fh)
  · rw [if_neg h] at p
    exact p.elim
def putN : TgFs := fun ds env => match ds with
  | [] => .ok env
  | _ => .stuck
theorem egs_nil : EGs X c bb [] [] putN := PGs.imp pgs_nil fun v σ H Q q => by
  obtain ⟨K, F0, F, env, φ, ds, fp, S, f, p⟩ := q
  unfold putN at p
  split at p
  · rename_i e
    split at e
    · cases e
      have r := f.rep
      cases r
      exact ⟨rfl, p _ _ _ _ S.self .refl (.refl S.fh)⟩
    · cases e
  · exact p.elim
def seqO (d : D) : Option (List D) := match d with
  | .tup ds => some ds
  | .nd _ .lst ds => some ds
  | _ => none
def putT (n : Nat) (t : TgFs) : TgF := fun d env => match seqO d with
  | some ds => if ds.length = n then t ds env else .stuck
  | none => .stuck
theorem PG.or {X : Cx} {e : Expr} {t t' : TG} (h : PG X e t) (h' : PG X e t') : PG X e (fun v σ H Q => t v σ H Q ∨ t' v σ H Q) := ⟨fun pins s σ H v u Q I r q => by
  rcases q with q | q
  · exact h.run pins s σ H v u Q I r q
  · exact h'.run pins s σ H v u Q I r q⟩
theorem eg_tup {es : List Expr} {k : Nat} {t : TgFs} {n : Nat} (hc : X.calm = true) (h : EGs X c bb es ws t)
    (hn : (assignEach es X.env).length = n := by rfl) (hst : (assignEach es X.env).findIdx? (·.1) = none := by rfl) : EG X c bb (.Tuple es k pos) ws (putT n t) := PG.imp (PG.or (pg_tup hc h hn hst) (pg_unl hc h hn hst)) fun v σ H Q q => by
  obtain ⟨K, F0, F, env, φ, d, fp, S, f, p⟩ := q
  unfold putT at p
  split at p
  · rename_i env' e
    split at e
    · rename_i ds hds
      by_cases hl : ds.length = n
      · rw [if_pos hl] at e
        cases d with
        | tup ds' =>
          cases hds
          obtain ⟨a, vs, rfl, _, h1, h2⟩ := f.rep.sqT S.fh
          refine .inl ⟨a, vs, rfl, h1, by rw [← h2.length]; exact hl, K, F0, F, env, φ, ds, fp, S, ⟨h2, f.nd, f.ap⟩, ?_⟩
          rw [e]
          exact p
        | nd tg kd ds' =>
          cases kd with
          | lst =>
            cases hds
            obtain ⟨a, vs, fq, rfl, h1, h2, hfp⟩ := f.rep.sqL S.fh
            have sub : ∀ b ∈ fq, b ∈ fp := fun b m => by
              rcases hfp with rfl | rfl
              · exact m
              · exact List.mem_cons_of_mem _ m
            have nq : fq.Nodup := by
              rcases hfp with rfl | rfl
              · exact f.nd
              · exact (List.nodup_cons.mp f.nd).2
            refine .inr ⟨a, vs, rfl, h1, by rw [← h2.length]; exact hl, K, F0, F, env, φ, ds, fq, S, ⟨h2, nq, fun b m => f.ap b (sub b m)⟩, ?_⟩
            rw [e]
            exact p
          | _ => cases hds
        | _ => cases hds
      · rw [if_neg hl] at e
        cases e
    · cases e
  · exact p.elim
def putb (i : Nat) : TgF := fun d env => .ok (env.set i (some d))
theorem eg_nameC (i : Nat) {x : Str} (hN : X.N.Nodup) (hi : X.N[i]? = some x := by rfl) (hx : Loc X.env.scope x := by first | exact .inl rfl | exact .inr rfl) (hf : X.fn x = true ∨ X.env.scope.names.lookup x = some .local := by first | exact .inl rfl | exact .inr rfl | assumption) :
    EG X c false (.Name x pos) [i] (putb i) := PG.imp (pg_name hN hi hx hf) fun v σ H Q q => by
  obtain ⟨K, F0, F, env, φ, d, fp, S, f, p⟩ := q
  exact p _ _ _ _ (S.setF f (fun z => nomatch z) i).self agree_set (.refl S.fh)
def putD (s : TgF) (t : TgFs) : TgFs := fun ds env => match ds with
  | d :: ds => (s d env).bind fun env' => t ds env'
  | [] => .stuck
theorem egs_consC {e : Expr} {es : List Expr} {s : TgF} {t : TgFs} (h1 : EG X c false e ws s) (h2 : EGs X c false es ws2 t)
    (hs : (assignEach (e :: es) X.env).map (·.2) = assign e X.env :: (assignEach es X.env).map (·.2) := by rfl) : EGs X c false (e :: es) (ws ++ ws2) (putD s t) := PGs.imp (pgs_cons h1 h2 hs) fun vs σ H Q q => by
  obtain ⟨K, F0, F, env, φ, ds, fp, S, f, p⟩ := q
  unfold putD at p
  split at p
  · rename_i env' e
    split at e
    · rename_i d ds
      obtain ⟨rp, nd, ap⟩ := f
      cases rp with
      | cons r1 r2 =>
        rename_i v vs fa fb
        have n2 := List.nodup_append.mp nd
        have own := RepL.own _ _ _ _ _ _ r2
        have S1 := S.lock fb (fun a m => ⟨(ap a (List.mem_append_right _ m)).1, (ap a (List.mem_append_right _ m)).2.2, own a m⟩)
        refine ⟨v, vs, rfl, grab K H fb, F0, F, env, φ, d, fa, S1, ⟨r1, n2.1, fun a m => ?_⟩, ?_⟩
        · obtain ⟨h1, h2, h3⟩ := ap a (List.mem_append_left _ m)
          exact ⟨h1, by rw [grab_not fun m2 => n2.2.2 a m a m2 rfl]; exact h2, h3⟩
        · cases z : s d env with
          | ok env1 =>
            rw [z] at e
            simp only [Res.bind] at e
            intro σ2 H2 F2 φ2 T ag hh
            obtain ⟨T2, k⟩ := T.unlock (fun a m => own a m) (fun a m => (ap a (List.mem_append_right _ m)).2.1)
            refine ⟨K, F, F2, env1, φ2, ds, fb, T2, ⟨?_, n2.2.1, fun a m => ⟨(k a m).2.1 (ap a (List.mem_append_right _ m)).1, (ap a (List.mem_append_right _ m)).2.1, (k a m).2.2⟩⟩, ?_⟩
            · exact (rep_mono T.f0 hh.hh).2 _ _ _ r2
            · rw [e]
              exact fun σ3 H3 F3 φ3 T3 ag3 hh3 => p σ3 H3 F3 φ3 (T2.base T3) (ag.trans ag3) (hh.trans hh3)
          | exc y => rw [z] at e; cases e
          | stuck => rw [z] at e; cases e
    · cases e
  · exact p.elim
end
structure Yields {M : PySem.W.Frag} (κ : Kap M) (J : It) (items : List D) (P : Hp → Hp → Prop) : Prop where
  go : ∀ i F1 H1, P F1 H1 → i < items.length → J.go i H1
  yld : ∀ i F1 H1 x H2 d, P F1 H1 → items[i]? = some d → J.yld i H1 x H2 → ∃ F2, Ext F1 H1 F2 H2 ∧ Rep κ F2 H2 d x []
  stop : ∀ F1 H1, P F1 H1 → J.stop items.length H1
def Pst (st : Bool) (F H : Hp) : Hp → Hp → Prop := fun F1 H1 => Same F F1 ∧ Sub F1 H1 ∧ (st = false → Sm H H1)
def TY {M : PySem.W.Frag} (c : Cfg M) (E : XK) (st : Bool) (f : Env → Res (List D)) : TI := fun σ H R => ∃ bb K F0 F env φ, SE bb c.κ K F0 F env φ σ H ∧ match f env with
  | .ok items => ∀ J H' F', Ext F H F' H' → Yields c.κ J items (Pst st F' H') → R J H'
  | .exc x => ∀ cl dd H', Sm H H' → c.xr H x cl dd H' → E cl dd H'
  | .stuck => False
def EY (X : Cx) (c : Cfg X.K) (E : XK) (st : Bool) (tg iter : Expr) (f : Env → Res (List D)) : Prop := PI X tg iter (TY c E st f)
theorem PI.imp {X : Cx} {tg e : Expr} {t t' : TI} (h : PI X tg e t) (i : ∀ σ H R, t' σ H R → t σ H R) : PI X tg e t' := ⟨fun pins s σ H R I q => h.run pins s σ H R I (i σ H R q)⟩
theorem PI.or {X : Cx} {tg e : Expr} {t t' : TI} (h : PI X tg e t) (h' : PI X tg e t') : PI X tg e (fun σ H R => t σ H R ∨ t' σ H R) := ⟨fun pins s σ H R I q => by
  rcases q with q | q
  · exact h.run pins s σ H R I q
  · exact h'.run pins s σ H R I q⟩
section
variable {X : Cx} {c : Cfg X.K} {E : XK} {st : Bool} {tg e a b : Expr} {f g : Env → Res D} {pos : Pos}
def itemsOf (st : Bool) : D → Res (List D)
  | .nd t .lst ds => if st = true then (if noT (.nd t .lst ds) = true then .ok (fzL ds) else .stuck) else .ok (rdL ds)
  | .tup ds => if st = true then (if noT (.tup ds) = true then .ok (fzL ds) else .stuck) else .ok (rdL ds)
  | .str z => .ok (z.cps.toList.map fun k => .str ⟨#[k]⟩)
  | _ => .stuck
def yVal (st : Bool) (f : Env → Res D) : Env → Res (List D) := fun env => (f env).bind (itemsOf st)
theorem Ext.grab {F H F' H' : Hp} {fp : List Addr} (x : Ext F H F' H') (fr : ∀ a ∈ fp, H a = none ∧ F' a = none) (ow : ∀ a ∈ fp, ∃ o, H' a = some o ∧ ¬ IsTup' o) : Ext F H (grab F' H' fp) H' :=
  ⟨x.hh, x.ff.trans (sameT_grab (fun a m => (fr a m).2) ow), grab_same x.fh ow, fun a o e => by
    by_cases m : a ∈ fp
    · exact .inr (.inl (fr a m).1)
    · rw [grab_not m] at e; exact x.gr a o e⟩
theorem fzL_length : ∀ ds : List D, (fzL ds).length = ds.length
  | [] => rfl
  | d :: ds => by rw [fzL]; simp [fzL_length ds]
theorem yields_list {M : PySem.W.Frag} {κ : Kap M} {F H : Hp} {a : Addr} {ds : List D} {vs : List V} {P : Hp → Hp → Prop} (hs : ∀ F1 H1, P F1 H1 → SqL M H1 a vs ∧ Sub F1 H1 ∧ RepL κ F1 H1 ds vs []) : Yields κ (Itl M a) ds P := by
  refine ⟨fun i F1 H1 p hi => ?_, fun i F1 H1 x H2 d p hd y => ?_, fun F1 H1 p => ?_⟩
  · obtain ⟨h1, h2, h3⟩ := hs F1 H1 p
    have : i < vs.length := by rw [← h3.length]; exact hi
    exact ⟨vs, vs[i], h1, by simp [this]⟩
  · obtain ⟨h1, h2, h3⟩ := hs F1 H1 p
    obtain ⟨rfl, y⟩ := y
    obtain ⟨v, fq, h4, h5, h6, _⟩ := h3.get i d hd
    have e := y vs h1
    rw [h4] at e
    cases e
    have : fq = [] := List.eq_nil_iff_forall_not_mem.mpr fun a m => absurd (h6 a m) (by simp)
    subst this
    exact ⟨F1, .refl h2, h5⟩
  · obtain ⟨h1, h2, h3⟩ := hs F1 H1 p
    exact ⟨vs, h1, by rw [h3.length]; exact Nat.le_refl _⟩
theorem yields_tup {M : PySem.W.Frag} {κ : Kap M} {F H : Hp} {a : Addr} {ds : List D} {vs : List V} {P : Hp → Hp → Prop} (hs : ∀ F1 H1, P F1 H1 → SqT M H1 a vs ∧ Sub F1 H1 ∧ RepL κ F1 H1 ds vs []) : Yields κ (Itt M a) ds P := by
  refine ⟨fun i F1 H1 p hi => ?_, fun i F1 H1 x H2 d p hd y => ?_, fun F1 H1 p => ?_⟩
  · obtain ⟨h1, h2, h3⟩ := hs F1 H1 p
    have : i < vs.length := by rw [← h3.length]; exact hi
    exact ⟨vs, vs[i], h1, by simp [this]⟩
  · obtain ⟨h1, h2, h3⟩ := hs F1 H1 p
    obtain ⟨rfl, y⟩ := y
    obtain ⟨v, fq, h4, h5, h6, _⟩ := h3.get i d hd
    have e := y vs h1
    rw [h4] at e
    cases e
    have : fq = [] := List.eq_nil_iff_forall_not_mem.mpr fun a m => absurd (h6 a m) (by simp)
    subst this
    exact ⟨F1, .refl h2, h5⟩
  · obtain ⟨h1, h2, h3⟩ := hs F1 H1 p
    exact ⟨vs, h1, by rw [h3.length]; exact Nat.le_refl _⟩
theorem list_src {M : PySem.W.Frag} {κ : Kap M} {F H F' H' : Hp} {t : Tag} {ds items : List D} {v : V} {fp : List Addr} (x : Ext F H F' H') (r : Rep κ F' H' (.nd t .lst ds) v fp) (fr : ∀ a ∈ fp, H a = none ∧ F' a = none)
    (e : itemsOf st (.nd t .lst ds) = .ok items) : ∃ a vs G, v = .ref a ∧ SqL M H' a vs ∧ Ext F H G H' ∧ Same F' G ∧ (∀ a, a ∉ fp → G a = F' a) ∧ ∀ F1 H1, Pst st G H' F1 H1 → SqL M H1 a vs ∧ Sub F1 H1 ∧ RepL κ F1 H1 items vs [] := by
  cases st with
  | true =>
    simp only [itemsOf, if_true] at e
    by_cases h : noT (.nd t .lst ds) = true
    · rw [if_pos h] at e
      cases e
      have x2 := x.grab fr (Rep.own _ _ _ _ _ _ r)
      have r2 := r.fz _ _ _ _ (same_grab fun a m => (fr a m).2) _ _ _ (fun a m => grab_mem m)
      have n2 := noT_fz _ h
      rw [fz] at r2 n2
      rw [noT, Bool.and_eq_true] at n2
      have sg : Same F' (grab F' H' fp) := same_grab fun a m => (fr a m).2
      have ng : ∀ a, a ∉ fp → grab F' H' fp a = F' a := fun a m => grab_not m
      generalize grab F' H' fp = G at x2 r2 sg ng
      have key : ∀ {t' : Tag}, t' ≠ .tmp → Rep κ G H' (.nd t' .lst (fzL ds)) v [] → ∃ a vs, v = .ref a ∧ (∀ F1 H1, Same G F1 → Sub F1 H1 → SqL M H1 a vs) ∧ RepL κ G H' (fzL ds) vs [] := by
        intro t' ht' r'
        cases r' with
        | ndF ha hr hs hl =>
          cases hs
          refine ⟨_, _, rfl, fun F1 H1 f1 f2 => ?_, hl⟩
          have h1 := f2 _ _ (f1 _ _ ha)
          rcases hr with rfl | ⟨_, ob, rfl⟩
          · exact .inl (.inl h1)
          · exact .inl (.inr ⟨ob, h1⟩)
        | ndT => exact absurd rfl ht'
        | ndK ha hl => exact ⟨_, _, rfl, fun _ _ _ _ => .inr ha, hl⟩
      obtain ⟨a, vs, rfl, sq, hl⟩ := key (of_decide_eq_true n2.1) r2
      exact ⟨a, vs, G, rfl, sq G _ (Same.refl _) x2.fh, x2, sg, ng, fun F1 H1 p => ⟨sq F1 H1 p.1 p.2.1, p.2.1, hl.stay _ _ _ _ _ p.1 _ _ _ (fun a m => absurd m (by simp)) n2.2⟩⟩
    · rw [if_neg h] at e
      cases e
  | false =>
    simp only [itemsOf, Bool.false_eq_true, if_false] at e
    cases e
    have r2 := r.rd _ _ _ x.fh
    rw [rd] at r2
    have key : ∀ {t' : Tag}, t' ≠ .own → Rep κ F' H' (.nd t' .lst (rdL ds)) v [] → ∃ a vs, v = .ref a ∧ (∀ H1, Sm H' H1 → SqL M H1 a vs) ∧ RepL κ F' H' (rdL ds) vs [] := by
      intro t' ht' r'
      cases r' with
      | ndF ha hr hs hl =>
        cases hs
        refine ⟨_, _, rfl, fun H1 f2 => ?_, hl⟩
        have h1 := f2 _ _ (x.fh _ _ ha)
        rcases hr with rfl | ⟨_, ob, rfl⟩
        · exact .inl (.inl h1)
        · exact .inl (.inr ⟨ob, h1⟩)
      | ndT ha hr hs hl =>
        cases hs
        refine ⟨_, _, rfl, fun H1 f2 => ?_, hl⟩
        have h1 := f2 _ _ ha
        rcases hr with rfl | ⟨_, ob, rfl⟩
        · exact .inl (.inl h1)
        · exact .inl (.inr ⟨ob, h1⟩)
      | ndK ha hl => exact ⟨_, _, rfl, fun _ _ => .inr ha, hl⟩
    obtain ⟨a, vs, rfl, sq, hl⟩ := key (by cases t <;> simp [Tag.rd]) r2
    exact ⟨a, vs, F', rfl, sq _ (Sm.refl _), x, Same.refl _, fun _ _ => rfl, fun F1 H1 p => ⟨sq H1 (p.2.2 rfl), p.2.1, (rep_mono p.1 (p.2.2 rfl)).2 _ _ _ hl⟩⟩
theorem tup_src {M : PySem.W.Frag} {κ : Kap M} {F H F' H' : Hp} {ds items : List D} {v : V} {fp : List Addr} (x : Ext F H F' H') (r : Rep κ F' H' (.tup ds) v fp) (fr : ∀ a ∈ fp, H a = none ∧ F' a = none)
    (e : itemsOf st (.tup ds) = .ok items) : ∃ a vs G, v = .ref a ∧ SqT M H' a vs ∧ Ext F H G H' ∧ ∀ F1 H1, Pst st G H' F1 H1 → SqT M H1 a vs ∧ Sub F1 H1 ∧ RepL κ F1 H1 items vs [] := by
  cases st with
  | true =>
    simp only [itemsOf, if_true] at e
    by_cases h : noT (.tup ds) = true
    · rw [if_pos h] at e
      cases e
      have x2 := x.grab fr (Rep.own _ _ _ _ _ _ r)
      have r2 := r.fz _ _ _ _ (same_grab fun a m => (fr a m).2) _ _ _ (fun a m => grab_mem m)
      have n2 := noT_fz _ h
      rw [fz] at r2 n2
      rw [noT] at n2
      generalize grab F' H' fp = G at x2 r2
      cases r2 with
      | tup ha hl => exact ⟨_, _, G, rfl, .inl (.inl (x2.fh _ _ ha)), x2, fun F1 H1 p => ⟨.inl (.inl (p.2.1 _ _ (p.1 _ _ ha))), p.2.1, hl.stay _ _ _ _ _ p.1 _ _ _ (fun a m => absurd m (by simp)) n2⟩⟩
    · rw [if_neg h] at e
      cases e
  | false =>
    simp only [itemsOf, Bool.false_eq_true, if_false] at e
    cases e
    have r2 := r.rd _ _ _ x.fh
    rw [rd] at r2
    cases r2 with
    | tup ha hl => exact ⟨_, _, F', rfl, .inl (.inl (x.fh _ _ ha)), x, fun F1 H1 p => ⟨.inl (.inl (p.2.1 _ _ (p.1 _ _ ha))), p.2.1, (rep_mono p.1 (p.2.2 rfl)).2 _ _ _ hl⟩⟩
theorem itemsOf_nox (st : Bool) (d : D) (x : Exn) : itemsOf st d ≠ .exc x := by
  unfold itemsOf
  split <;> (try split) <;> (try split) <;> simp
theorem yields_str {M : PySem.W.Frag} {κ : Kap M} {z : Str} {P : Hp → Hp → Prop} (hs : ∀ F1 H1, P F1 H1 → Sub F1 H1) : Yields κ (Its z) (z.cps.toList.map fun k => .str ⟨#[k]⟩) P := by
  refine ⟨fun i F1 H1 p hi => ?_, fun i F1 H1 x H2 d p hd y => ?_, fun F1 H1 p => ?_⟩
  · show i < z.cps.size
    simpa using hi
  · obtain ⟨rfl, k, h1, rfl⟩ := y
    have e : d = .str ⟨#[k]⟩ := by
      rw [List.getElem?_map] at hd
      have : z.cps.toList[i]? = some k := by simpa using h1
      rw [this] at hd
      exact (Option.some.inj hd).symm
    subst e
    exact ⟨F1, .refl (hs F1 _ p), .str _⟩
  · show z.cps.size ≤ _
    simp
theorem ey_val (ha : EV X c E a f) : EY X c E st tg a (yVal st f) := PI.imp (PI.or (pi_list ha) (PI.or (pi_tup ha) (pi_str ha))) fun σ H R q => by
  obtain ⟨bb, K, F0, F, env, φ, S, p⟩ := q
  unfold yVal at p
  cases z : f env with
  | ok d =>
    simp only [z, Res.bind] at p
    cases w : itemsOf st d with
    | ok items =>
      rw [w] at p
      cases d with
      | nd t k ds =>
        cases k with
        | lst =>
          refine .inl ⟨bb, K, F0, F, env, φ, S, ?_⟩
          rw [z]
          intro v H' F' fp x r nd fr
          obtain ⟨a, vs, G, rfl, h1, x2, sg, ng, h3⟩ := list_src x r fr w
          exact ⟨a, rfl, ⟨vs, h1⟩, p _ _ G x2 (yields_list (F := G) (H := H') h3)⟩
        | _ => simp [itemsOf] at w
      | tup ds =>
        refine .inr (.inl ⟨bb, K, F0, F, env, φ, S, ?_⟩)
        rw [z]
        intro v H' F' fp x r nd fr
        obtain ⟨a, vs, G, rfl, h1, x2, h3⟩ := tup_src x r fr w
        exact ⟨a, rfl, ⟨vs, h1⟩, p _ _ G x2 (yields_tup (F := G) (H := H') h3)⟩
      | str y =>
        refine .inr (.inr ⟨bb, K, F0, F, env, φ, S, ?_⟩)
        rw [z]
        intro v H' F' fp x r nd fr
        cases r
        cases w
        exact ⟨y, rfl, p _ _ F' x (yields_str fun F1 H1 p => p.2.1)⟩
      | _ => simp [itemsOf] at w
    | exc y => exact absurd w (itemsOf_nox _ _ _)
    | stuck => rw [w] at p; exact p.elim
  | exc y =>
    simp only [z, Res.bind] at p
    refine .inl ⟨bb, K, F0, F, env, φ, S, ?_⟩
    rw [z]
    exact p
  | stuck => simp only [z, Res.bind] at p
def rngD (lo : Int) (n : Nat) : List D := (List.range n).map fun i => .int (lo + (i : Nat))
theorem yields_range {M : PySem.W.Frag} {κ : Kap M} {lo : Int} {n : Nat} {P : Hp → Hp → Prop} (hs : ∀ F1 H1, P F1 H1 → Sub F1 H1) : Yields κ (Itr lo n) (rngD lo n) P := by
  refine ⟨fun i F1 H1 p hi => ?_, fun i F1 H1 x H2 d p hd y => ?_, fun F1 H1 p => ?_⟩
  · show i < n
    simpa [rngD] using hi
  · obtain ⟨rfl, rfl⟩ := y
    have e : d = .int (lo + (i : Nat)) := by
      unfold rngD at hd
      rw [List.getElem?_map] at hd
      cases q : (List.range n)[i]? with
      | none => rw [q] at hd; cases hd
      | some j =>
        rw [q] at hd
        rw [List.getElem?_eq_some_iff] at q
        obtain ⟨h, q⟩ := q
        rw [List.getElem_range] at q
        subst q
        exact (Option.some.inj hd).symm
    subst e
    exact ⟨F1, .refl (hs F1 _ p), .int _⟩
  · show n ≤ _
    simp [rngD]
def R62 (a : Int) : Prop := a.natAbs < 4611686018427387904
instance (a : Int) : Decidable (R62 a) := inferInstanceAs (Decidable (_ < _))
def rng1 : List D → Res (List D)
  | [.int j] => if R62 j then .ok (rngD 0 j.toNat) else .stuck
  | _ => .stuck
def rng2 : List D → Res (List D)
  | [.int i, .int j] => if R62 i ∧ R62 j then .ok (rngD i (j - i).toNat) else .stuck
  | _ => .stuck
def yL (k : List D → Res (List D)) (fs : Env → Res (List D)) : Env → Res (List D) := fun env => (fs env).bind k
theorem glueYL {fs : Env → Res (List D)} {k : List D → Res (List D)} {σ : L2.St} {H : Hp} {R : It → Hp → Prop} {Rv : List V → Hp → Prop} (q : TY c E st (yL k fs) σ H R)
    (step : ∀ F F' ds vs fp H' items, Ext F H F' H' → RepL c.κ F' H' ds vs fp → fp.Nodup → (∀ a ∈ fp, H a = none ∧ F' a = none) → k ds = .ok items → (∀ J G, Ext F H G H' → Yields c.κ J items (Pst st G H') → R J H') → Rv vs H')
    (nox : ∀ d x, k d ≠ .exc x) : TL c E fs σ H Rv := by
  obtain ⟨bb, K, F0, F, env, φ, S, p⟩ := q
  refine ⟨bb, K, F0, F, env, φ, S, ?_⟩
  unfold yL at p
  cases z : fs env with
  | ok d =>
    simp only [z, Res.bind] at p
    intro v H' F' fp x r nd fr
    cases w : k d with
    | ok items =>
      rw [w] at p
      exact step F F' d v fp H' items x r nd fr w fun J G x2 y => p J H' G x2 y
    | exc y => exact absurd w (nox d y)
    | stuck => rw [w] at p; exact p.elim
  | exc y => simp only [z, Res.bind] at p; exact p
  | stuck => simp only [z, Res.bind] at p
theorem ey_range1 {fs : Env → Res (List D)} {p : Pos} (hg : Gl X "range") (hm : X.mg "range" = none) (ha : EL X c E [a] fs) (hs : starEach [a] X.env = [(false, eval a X.env)] := by rfl) : EY X c E st tg (.Call (.Name "range" p) [a] [] pos) (yL rng1 fs) :=
  PI.imp (pi_range1 hg hm ha hs) fun σ H R q => glueYL q (fun F F' ds vs fp H' items x r nd fr w go => by
    unfold rng1 at w
    split at w
    · rename_i j
      by_cases h : R62 j
      · rw [if_pos h] at w
        cases w
        obtain ⟨v, fq, rfl, r1⟩ := r.one
        cases r1
        exact ⟨j, rfl, by unfold R62 at h; omega, by unfold R62 at h; omega, go _ F' x (yields_range fun F1 H1 p => p.2.1)⟩
      · rw [if_neg h] at w; cases w
    · cases w) fun d x => by unfold rng1; split <;> (try split) <;> simp
theorem ey_range2 {fs : Env → Res (List D)} {p : Pos} (hg : Gl X "range") (hm : X.mg "range" = none) (ha : EL X c E [a, b] fs) (hs : starEach [a, b] X.env = [(false, eval a X.env), (false, eval b X.env)] := by rfl) (hs2 : starEach [b] X.env = [(false, eval b X.env)] := by rfl) :
    EY X c E st tg (.Call (.Name "range" p) [a, b] [] pos) (yL rng2 fs) :=
  PI.imp (pi_range2 hg hm ha hs hs2) fun σ H R q => glueYL q (fun F F' ds vs fp H' items x r nd fr w go => by
    unfold rng2 at w
    split at w
    · rename_i i j
      by_cases h : R62 i ∧ R62 j
      · rw [if_pos h] at w
        cases w
        obtain ⟨v, v', fq, fr', rfl, r1, r2⟩ := r.two
        cases r1
        cases r2
        exact ⟨i, j, rfl, by unfold R62 at h; omega, go _ F' x (yields_range fun F1 H1 p => p.2.1)⟩
      · rw [if_neg h] at w; cases w
    · cases w) fun d x => by unfold rng2; split <;> (try split) <;> simp
def enumD : Nat → List D → List D
  | _, [] => []
  | i, d :: ds => .tup [.int (i : Nat), d] :: enumD (i + 1) ds
theorem enumD_get : ∀ (ds : List D) (k i : Nat), (enumD k ds)[i]? = (ds[i]?).map fun d => .tup [.int ((k + i : Nat) : Int), d]
  | [], k, i => by simp [enumD]
  | d :: ds, k, 0 => by simp [enumD]
  | d :: ds, k, i + 1 => by
    rw [enumD, List.getElem?_cons_succ, List.getElem?_cons_succ, enumD_get ds (k + 1) i]
    congr 2
    have : k + 1 + i = k + (i + 1) := by omega
    rw [this]
theorem enumD_length : ∀ (ds : List D) (k : Nat), (enumD k ds).length = ds.length
  | [], _ => rfl
  | d :: ds, k => by simp [enumD, enumD_length ds (k + 1)]
theorem yields_enum {M : PySem.W.Frag} {κ : Kap M} {a : Addr} {ds : List D} {vs : List V} {P : Hp → Hp → Prop} (hs : ∀ F1 H1, P F1 H1 → SqL M H1 a vs ∧ Sub F1 H1 ∧ RepL κ F1 H1 ds vs []) : Yields κ (Ite M a) (enumD 0 ds) P := by
  refine ⟨fun i F1 H1 p hi => ?_, fun i F1 H1 x H2 d p hd y => ?_, fun F1 H1 p => ?_⟩
  · obtain ⟨h1, h2, h3⟩ := hs F1 H1 p
    rw [enumD_length] at hi
    have : i < vs.length := by rw [← h3.length]; exact hi
    exact ⟨vs, vs[i], h1, by simp [this]⟩
  · obtain ⟨h1, h2, h3⟩ := hs F1 H1 p
    obtain ⟨T, x', rfl, hT, rfl, y⟩ := y
    rw [enumD_get] at hd
    cases q : ds[i]? with
    | none => rw [q] at hd; cases hd
    | some d' =>
      rw [q] at hd
      cases hd
      obtain ⟨v, fq, h4, h5, h6, _⟩ := h3.get i d' q
      have e := y vs h1
      rw [h4] at e
      cases e
      have : fq = [] := List.eq_nil_iff_forall_not_mem.mpr fun a m => absurd (h6 a m) (by simp)
      subst this
      have x2 : Ext F1 H1 (upd F1 T (.tup [.int (i : Nat), x'])) (upd H1 T (.tup [.int (i : Nat), x'])) := .newF h2 hT
      refine ⟨_, x2, .tup upd_same ?_⟩
      rw [Nat.zero_add]
      exact .cons (fp := []) (fq := []) (.int _) (.cons (fp := []) (fq := []) (h5.ext x2) .nil)
  · obtain ⟨h1, h2, h3⟩ := hs F1 H1 p
    exact ⟨vs, h1, by rw [enumD_length, h3.length]; exact Nat.le_refl _⟩
def enum1 (st : Bool) : List D → Res (List D)
  | [.nd t .lst ds] => (itemsOf st (.nd t .lst ds)).bind fun xs => .ok (enumD 0 xs)
  | _ => .stuck
theorem ey_enum {fs : Env → Res (List D)} {p tpos : Pos} {elts : List Expr} {kk : Nat} (hg : Gl X "enumerate") (hm : X.mg "enumerate" = none) (ha : EL X c E [a] fs) (hs : starEach [a] X.env = [(false, eval a X.env)] := by rfl) :
    EY X c E st (.Tuple elts kk tpos) (.Call (.Name "enumerate" p) [a] [] pos) (yL (enum1 st) fs) :=
  PI.imp (pi_enum hg hm ha hs) fun σ H R q => glueYL q (fun F F' ds vs fp H' items x r nd fr w go => by
    unfold enum1 at w
    split at w
    · rename_i t ds
      cases z : itemsOf st (.nd t .lst ds) with
      | ok xs =>
        rw [z] at w
        cases w
        cases r with
        | cons r1 r2 =>
          cases r2
          obtain ⟨a, vs, G, rfl, h1, x2, sg, ng, h3⟩ := list_src x r1 (fun a m => fr a (List.mem_append_left _ m)) z
          exact ⟨a, vs, rfl, h1, go _ G x2 (yields_enum h3)⟩
      | exc y => exact absurd z (itemsOf_nox _ _ _)
      | stuck => rw [z] at w; cases w
    · cases w) fun d x => by
      unfold enum1
      split
      · rename_i t ds
        cases z : itemsOf st (.nd t .lst ds) with
        | ok xs => simp [Res.bind]
        | exc y => exact absurd z (itemsOf_nox _ _ _)
        | stuck => simp [Res.bind]
      · simp
theorem nil_of_sub {fq : List Addr} (h : ∀ a ∈ fq, a ∈ ([] : List Addr)) : fq = [] := List.eq_nil_iff_forall_not_mem.mpr fun a m => absurd (h a m) (by simp)
theorem Pst.mono {st : Bool} {G G2 H F1 H1 : Hp} (h : Same G G2) (p : Pst st G2 H F1 H1) : Pst st G H F1 H1 := ⟨h.trans p.1, p.2.1, p.2.2⟩
end
section
variable {X : Cx} {c : Cfg X.K} {E : XK} {st : Bool} {tg e a b : Expr} {pos : Pos} {ws : List Nat}
def TYS {M : PySem.W.Frag} (c : Cfg M) (E : XK) (f : Env → Res (List D × Env)) : TI := fun σ H R => ∃ K F0 F env φ, SE true c.κ K F0 F env φ σ H ∧ match f env with
  | .ok (items, env') => ∀ J H' F' φ', SE true c.κ K F F' env' φ' σ H' → Yields c.κ J items (Pst true F' H') → R J H'
  | .exc x => ∀ cl dd H', Sm K H' → c.xr K x cl dd H' → E cl dd H'
  | .stuck => False
def EYS (X : Cx) (c : Cfg X.K) (E : XK) (tg iter : Expr) (f : Env → Res (List D × Env)) : Prop := PI X tg iter (TYS c E f)
def yLift (f : Env → Res (List D)) : Env → Res (List D × Env) := fun env => (f env).bind fun xs => .ok (xs, env)
theorem eys_of {f : Env → Res (List D)} (h : EY X c E true tg e f) : EYS X c E tg e (yLift f) := PI.imp h fun σ H R q => by
  obtain ⟨K, F0, F, env, φ, S, p⟩ := q
  refine ⟨true, K, F0, F, env, φ, S, ?_⟩
  unfold yLift at p
  cases z : f env with
  | ok xs =>
    simp only [z, Res.bind] at p
    exact fun J H' F' x y => p J H' F' φ (S.self.ext x) y
  | exc y => simp only [z, Res.bind] at p; exact fun cl dd H' s w => p cl dd H' (S.kk.trans s) (c.mono (S.kk) w)
  | stuck => simp only [z, Res.bind] at p
def forget : List Nat → Env → Env
  | [], env => env
  | i :: is, env => forget is (env.set i none)
theorem SE.forget {bb : Bool} {M : PySem.W.Frag} {κ : Kap M} {K F0 F : Hp} {σ : L2.St} {H : Hp} : ∀ (is : List Nat) {env : Env} {φ : Nat → List Addr}, SE bb κ K F0 F env φ σ H → ∃ φ', SE bb κ K F0 F (forget is env) φ' σ H
  | [], env, φ, S => ⟨φ, S⟩
  | i :: is, env, φ, S => SE.forget is (S.drop i)
def forL (s : TgF) (gb : Env → SR) (fg : List Nat) : List D → Env → SR
  | [], env => .ok (.nx, env)
  | d :: ds, env => match s d env with
    | .ok env1 => (gb env1).bind fun r => match r.1 with
      | .nx => forL s gb fg ds (forget fg r.2)
      | .ct => forL s gb fg ds (forget fg r.2)
      | .bk => .ok (.nx, forget fg r.2)
      | .rt d => .ok (.rt d, r.2)
    | _ => .stuck
def sFor (it : Env → Res (List D × Env)) (s : TgF) (gb : Env → SR) (fg : List Nat) : Env → SR := fun env => (it env).bind fun p => forL s gb fg p.1 (forget fg p.2)
theorem es_for {iter : Expr} {body : List Stmt} {it : Env → Res (List D × Env)} {s : TgF} {gb : Env → SR} (fg : List Nat) (hp : PassesOwn (model X.prog X.w) X.A X.env X.xe) (hc : X.calm = true) (hi : EYS X c E tg iter it) (hg : EG X c true tg ws s) (hb : EB X c E body gb)
    (hs : ∀ x, foldedSetIterable iter X.env x = pure x := by intro _; rfl) : ES X c E (.For tg iter body [] pos) (sFor it s gb fg) := PS.imp (ps_for hp hc hi hg hb hs) fun Dn σ H q => by
  obtain ⟨K, F0, F, env, φ, S, p⟩ := q
  refine ⟨K, F0, F, env, φ, S, ?_⟩
  unfold sFor at p
  cases z : it env with
  | ok r =>
    obtain ⟨items, env'⟩ := r
    simp only [z, Res.bind] at p
    intro J H' F' φ' S' Y
    have S0 : SE true c.κ K F0 F' env' φ' σ H' := S.base S'
    refine ⟨fun i m σ H => m = items.length - i ∧ i ≤ items.length ∧ ∃ F1 env φ, SE true c.κ K F0 F1 env φ σ H ∧ Same F' F1 ∧ PostS c E K F0 (forL s gb fg (items.drop i) env) Dn, ⟨items.length, by simp, Nat.zero_le _, ?_⟩, ?_⟩
    · obtain ⟨φ2, S2⟩ := S0.forget fg
      exact ⟨F', _, φ2, S2, Same.refl _, p⟩
    · rintro i m σ1 H1 ⟨rfl, hi, F1, env1, φ1, S1, ff, p1⟩
      by_cases hlt : i < items.length
      · have pst : Pst true F' H' F1 H1 := ⟨ff, S1.fh, fun z => nomatch z⟩
        have hd : items[i]? = some items[i] := List.getElem?_eq_getElem hlt
        rw [List.drop_eq_getElem_cons hlt, forL] at p1
        refine .inr ⟨Y.go i F1 H1 pst hlt, fun σ2 H2 => ∃ m', m' < items.length - i ∧ m' = items.length - (i + 1) ∧ i + 1 ≤ items.length ∧ ∃ F2 env φ, SE true c.κ K F0 F2 env φ σ2 H2 ∧ Same F' F2 ∧ PostS c E K F0 (forL s gb fg (items.drop (i + 1)) env) Dn, fun σ' H' ⟨m', h1, h2⟩ => ⟨m', h1, h2⟩, fun x H2 y => ?_⟩
        obtain ⟨F2, x2, r2⟩ := Y.yld i F1 H1 x H2 _ pst hd y
        have S2 := S1.ext x2
        refine ⟨K, F0, F2, env1, φ1, items[i], [], S2, ⟨r2, .nil, by simp⟩, ?_⟩
        cases w : s items[i] env1 with
        | ok env2 =>
          rw [w] at p1
          dsimp only at p1 ⊢
          intro σ3 H3 F3 φ3 T _ _
          have T0 := S2.base T
          refine ⟨K, F3, F3, env2, φ3, T0.self, ?_⟩
          have again : ∀ {env3 : Env} {σ4 : L2.St} {H4 F4 : Hp} {φ4 : Nat → List Addr}, SE true c.κ K F3 F4 env3 φ4 σ4 H4 → PostS c E K F0 (forL s gb fg (items.drop (i + 1)) (forget fg env3)) Dn → ∃ m', m' < items.length - i ∧ m' = items.length - (i + 1) ∧ i + 1 ≤ items.length ∧ ∃ F2 env φ, SE true c.κ K F0 F2 env φ σ4 H4 ∧ Same F' F2 ∧ PostS c E K F0 (forL s gb fg (items.drop (i + 1)) env) Dn := by
            intro env3 σ4 H4 F4 φ4 T4 q4
            obtain ⟨φ5, T5⟩ := (T0.base T4).forget fg
            exact ⟨_, by omega, rfl, hlt, F4, _, φ5, T5, (((ff.trans x2.ff).trans T.f0.same).trans T4.f0.same), q4⟩
          cases w2 : gb env2 with
          | ok r =>
            obtain ⟨fl, env3⟩ := r
            simp only [w2, Res.bind] at p1
            cases fl with
            | nx => exact fun σ4 H4 F4 φ4 T4 => again T4 p1
            | ct => exact fun σ4 H4 F4 φ4 T4 => again T4 p1
            | bk =>
              intro σ4 H4 F4 φ4 T4
              obtain ⟨φ5, T5⟩ := (T0.base T4).forget fg
              exact p1 σ4 H4 F4 φ5 T5
            | rt d => exact fun v H4 F4 fp T4 => p1 v H4 F4 fp (T4.base T0)
          | exc y => simp only [w2, Res.bind] at p1; exact p1
          | stuck => simp only [w2, Res.bind] at p1; exact p1
        | exc y => rw [w] at p1; exact p1.elim
        | stuck => rw [w] at p1; exact p1.elim
      · have e : i = items.length := by omega
        subst e
        rw [List.drop_length, forL] at p1
        exact .inl ⟨Y.stop F1 H1 ⟨ff, S1.fh, fun z => nomatch z⟩, p1 σ1 H1 F1 φ1 S1⟩
  | exc y => simp only [z, Res.bind] at p; exact p
  | stuck => simp only [z, Res.bind] at p; exact p
def whileL (t : Env → Res Bool) (gb : Env → SR) (fg : List Nat) : Nat → Env → SR
  | 0, _ => .stuck
  | n + 1, env => (t env).bind fun b => if b = true then (gb env).bind fun r => match r.1 with
      | .nx => whileL t gb fg n (forget fg r.2)
      | .ct => whileL t gb fg n (forget fg r.2)
      | .bk => .ok (.nx, forget fg r.2)
      | .rt d => .ok (.rt d, r.2) else .ok (.nx, env)
def sWhile (n : Env → Nat) (t : Env → Res Bool) (gb : Env → SR) (fg : List Nat) : Env → SR := fun env => whileL t gb fg (n env) (forget fg env)
theorem es_while {body : List Stmt} {t : Env → Res Bool} {gb : Env → SR} (n : Env → Nat) (fg : List Nat) (hp : PassesOwn (model X.prog X.w) X.A X.env X.xe) (ht : ET X c E e t) (hb : EB X c E body gb) : ES X c E (.While e body [] pos) (sWhile n t gb fg) := PS.imp (ps_while hp ht hb) fun Dn σ H q => by
  obtain ⟨K, F0, F, env, φ, S, p⟩ := q
  unfold sWhile at p
  generalize n env = n0 at p
  obtain ⟨φ1, S1⟩ := S.forget fg
  refine ⟨fun m σ H => ∃ F1 env φ, SE true c.κ K F0 F1 env φ σ H ∧ PostS c E K F0 (whileL t gb fg m env) Dn, ⟨n0, F, _, φ1, S1, p⟩, ?_⟩
  rintro m σ1 H1 ⟨F1, env1, φ1, S1, p1⟩
  cases m with
  | zero => exact p1.elim
  | succ m =>
    rw [whileL] at p1
    refine ⟨true, K, F0, F1, env1, φ1, S1, ?_⟩
    cases w : t env1 with
    | ok b =>
      simp only [w, Res.bind] at p1
      intro H2 F2 x2
      have S2 := S1.ext x2
      cases b with
      | true =>
        rw [if_pos rfl] at p1 ⊢
        refine ⟨fun σ3 H3 => ∃ F3 env φ, SE true c.κ K F0 F3 env φ σ3 H3 ∧ PostS c E K F0 (whileL t gb fg m env) Dn, fun σ3 H3 q3 => ⟨m, Nat.lt_succ_self _, q3⟩, K, F0, F2, env1, φ1, S2, ?_⟩
        cases w2 : gb env1 with
        | ok r =>
          obtain ⟨fl, env3⟩ := r
          simp only [w2] at p1
          cases fl with
          | nx =>
            intro σ4 H4 F4 φ4 T4
            obtain ⟨φ5, T5⟩ := T4.forget fg
            exact ⟨F4, _, φ5, T5, p1⟩
          | ct =>
            intro σ4 H4 F4 φ4 T4
            obtain ⟨φ5, T5⟩ := T4.forget fg
            exact ⟨F4, _, φ5, T5, p1⟩
          | bk =>
            intro σ4 H4 F4 φ4 T4
            obtain ⟨φ5, T5⟩ := T4.forget fg
            exact p1 σ4 H4 F4 φ5 T5
          | rt d => exact p1
        | exc y => simp only [w2] at p1; exact p1
        | stuck => simp only [w2] at p1; exact p1
      | false =>
        rw [if_neg Bool.false_ne_true] at p1 ⊢
        exact p1 σ1 H2 F2 φ1 S2
    | exc y => simp only [w, Res.bind] at p1; exact fun cl dd H' s q => p1 cl dd H' (S1.kk.trans s) (c.mono (S1.kk) q)
    | stuck => simp only [w, Res.bind] at p1; exact p1
end
def wipeE : List Nat → Env → Env
  | [], env => env
  | v :: vs, env => (wipeE vs env).set v none
theorem SE.wiped {bb : Bool} {M : PySem.W.Frag} {κ : Kap M} {K F0 F : Hp} {H : Hp} {env : Env} : ∀ (vs : List Nat) {σ : L2.St} {φ : Nat → List Addr}, SE bb κ K F0 F env φ σ H → ∃ φ', SE bb κ K F0 F (wipeE vs env) φ' (wipe σ vs) H
  | [], σ, φ, S => ⟨φ, S⟩
  | v :: vs, σ, φ, S => by
    obtain ⟨φ1, S1⟩ := SE.wiped vs S
    have S2 := S1.drop v
    refine ⟨_, ?_, S2.kk, S2.f0, S2.fh, S2.gr, fun i d h => ?_, S2.nd, S2.dj, S2.ow⟩
    · have := S2.len
      unfold wipeE L2.wipe
      simpa using this
    · obtain ⟨w, h1, h2⟩ := S2.sl i d h
      refine ⟨w, ?_, h2⟩
      unfold L2.wipe
      have hi : i ≠ v := fun z => by
        subst z
        unfold wipeE at h
        by_cases q : i < (wipeE vs env).length
        · rw [List.getElem?_set_self q] at h; cases h
        · rw [List.getElem?_eq_none (by simpa using q)] at h; cases h
      rw [List.getElem?_set_ne (Ne.symm hi)]
      exact h1
theorem wipe_get {σ : L2.St} {i : Nat} : ∀ {vs : List Nat}, i ∉ vs → (wipe σ vs)[i]? = σ[i]? := fun {vs} h => wipe_out h
theorem wipe_in {σ : L2.St} {i : Nat} (hi : i < σ.length) : ∀ {vs : List Nat}, i ∈ vs → (wipe σ vs)[i]? = some none
  | v :: vs, h => by
    unfold wipe
    by_cases e : v = i
    · subst e
      rw [List.getElem?_set_self (by rw [wipe_length]; exact hi)]
    · rw [List.getElem?_set_ne e]
      rcases List.mem_cons.mp h with z | z
      · exact absurd z.symm e
      · exact wipe_in hi z
theorem wipe_agree {ws vs : List Nat} {σ σ' : L2.St} (a : Agree ws (wipe σ vs) σ') (h : ∀ w ∈ ws, w ∈ vs) : wipe σ' vs = wipe σ vs := by
  have l1 : σ'.length = σ.length := by rw [a.1, wipe_length]
  apply List.ext_getElem?
  intro i
  by_cases hv : i ∈ vs
  · by_cases hi : i < σ.length
    · rw [wipe_in (by rw [l1]; exact hi) hv, wipe_in hi hv]
    · rw [List.getElem?_eq_none (by rw [wipe_length, l1]; omega), List.getElem?_eq_none (by rw [wipe_length]; omega)]
  · rw [wipe_get hv, a.2 i (fun z => hv (h i z)), wipe_get hv]
theorem noTL_append : ∀ xs ys : List D, noTL (xs ++ ys) = (noTL xs && noTL ys)
  | [], ys => by simp [noTL]
  | x :: xs, ys => by simp [noTL, noTL_append xs ys, Bool.and_assoc]
def lcL (s : TgF) (t : Env → Res Bool) (f : Env → Res D) (env : Env) : List D → Res (List D)
  | [] => .ok []
  | d :: ds => match s d env with
    | .ok env1 => match t env1 with
      | .ok true => match f env1 with
        | .ok y => if noT y = true then (lcL s t f env ds).bind fun ys => .ok (y :: ys) else .stuck
        | _ => .stuck
      | .ok false => lcL s t f env ds
      | _ => .stuck
    | _ => .stuck
def eLc (it : Env → Res (List D)) (s : TgF) (t : Env → Res Bool) (f : Env → Res D) (vs : List Nat) : Env → Res D := fun env => (it env).bind fun items => (lcL s t f (wipeE vs env) items).bind fun ys => if ys.length ≤ bigL then .ok (.lst .own ys) else .stuck
def ETs (X : Cx) (c : Cfg X.K) (E : XK) (ifs : List Expr) (t : Env → Res Bool) : Prop := PTs X ifs (TB c E t)
theorem PTs.imp {X : Cx} {e : List Expr} {t t' : TT} (h : PTs X e t) (i : ∀ σ H Q, t' σ H Q → t σ H Q) : PTs X e t' := ⟨fun pins s σ H Q I q => h.run pins s σ H Q I (i σ H Q q)⟩
def bYes : Env → Res Bool := fun _ => .ok true
section
variable {X : Cx} {c : Cfg X.K} {E : XK} {tg e a b : Expr} {pos : Pos} {ws : List Nat}
theorem ets_nil : ETs X c E [] bYes := PTs.imp pts_nil fun σ H Q q => by
  obtain ⟨bb, K, F0, F, env, φ, S, p⟩ := q
  exact p H F (.refl S.fh)
theorem ets_one {t : Env → Res Bool} (h : ET X c E e t) : ETs X c E [e] t := pts_one h
theorem lcL_nox {s : TgF} {t : Env → Res Bool} {f : Env → Res D} {env : Env} : ∀ (ds : List D) (x : Exn), lcL s t f env ds ≠ .exc x
  | [], x => by simp [lcL]
  | d :: ds, x => by
    have ih := lcL_nox (s := s) (t := t) (f := f) (env := env) ds
    rw [lcL]
    repeat' split
    all_goals first
      | (cases z : lcL s t f env ds with
         | ok ys => simp [Res.bind]
         | exc y => exact absurd z (ih y)
         | stuck => simp [Res.bind])
      | exact ih x
      | simp
theorem lc_read {it : Env → Res (List D)} {s : TgF} {t : Env → Res Bool} {f : Env → Res D} {own : List (Str × Nat)} {σ : L2.St} {H : Hp} {Q : VK} (hw : ∀ w ∈ ws, w ∈ own.map (·.2))
    (q : TV c E (eLc it s t f (own.map (·.2))) σ H Q) : tLc (TY c E false it) (TGt c false ws s) (TB c (fun _ _ _ => False) t) (TV c (fun _ _ _ => False) f) (own.map (·.2)) σ H Q := by
  obtain ⟨bb, K, F0, F, env, φ, S, p⟩ := q
  refine ⟨bb, K, F0, F, env, φ, S, ?_⟩
  generalize hvs : own.map (·.2) = vs at *
  unfold eLc at p
  cases z : it env with
  | ok items =>
    simp only [z, Res.bind] at p
    intro J H1 F1 x1 Y D hD
    cases z2 : lcL s t f (wipeE vs env) items with
    | ok ys =>
      simp only [z2] at p
      by_cases hl : ys.length ≤ bigL
      case neg => rw [if_neg hl] at p; exact p.elim
      rw [if_pos hl] at p
      have S1 : SE false c.κ K F0 F1 env φ σ H1 := by
        cases bb with
        | true => exact (S.ext x1).weak
        | false => exact S.ext x1
      obtain ⟨φw, Sw⟩ := S1.wiped vs
      refine ⟨fun i m H2 => m = items.length - i ∧ i ≤ items.length ∧ ∃ F2 ds as fp rest, Ext F1 H1 F2 H2 ∧ F2 D = none ∧ H2 D = some (.lst as) ∧ RepL c.κ F2 H2 ds as fp ∧ fp.Nodup ∧ (∀ a ∈ fp, H1 a = none ∧ F2 a = none ∧ a ≠ D) ∧ noTL ds = true ∧ lcL s t f (wipeE vs env) (items.drop i) = .ok rest ∧ ds ++ rest = ys,
        ⟨items.length, by simp, Nat.zero_le _, F1, [], [], [], ys, .newO x1.fh hD, ?_, upd_same, .nil, .nil, by simp, rfl, z2, rfl⟩, ?_⟩
      · exact x1.fh.free hD
      rintro i m H2 ⟨rfl, hi, F2, ds, as, fp, rest, x2, fD, hDl, r, nd, fr, nt, er, ey⟩
      have pst : Pst false F1 H1 F2 H2 := ⟨x2.ff, x2.fh, fun _ => x2.hh⟩
      by_cases hlt : i < items.length
      · rw [List.drop_eq_getElem_cons hlt, lcL] at er
        have hd : items[i]? = some items[i] := List.getElem?_eq_getElem hlt
        refine .inr ⟨Y.go i F2 H2 pst hlt, fun H' => ∃ F2 ds as fp rest, Ext F1 H1 F2 H' ∧ F2 D = none ∧ H' D = some (.lst as) ∧ RepL c.κ F2 H' ds as fp ∧ fp.Nodup ∧ (∀ a ∈ fp, H1 a = none ∧ F2 a = none ∧ a ≠ D) ∧ noTL ds = true ∧ lcL s t f (wipeE vs env) (items.drop (i + 1)) = .ok rest ∧ ds ++ rest = ys,
          fun H' h => ⟨items.length - (i + 1), by omega, rfl, hlt, h⟩, fun x H3 y => ?_⟩
        obtain ⟨F3, x3, r3⟩ := Y.yld i F2 H2 x H3 _ pst hd y
        have S3 := Sw.ext (x2.trans x3)
        refine ⟨K, F0, F3, wipeE vs env, φw, items[i], [], S3, ⟨r3, .nil, by simp⟩, ?_⟩
        have ntl : ∀ as, ¬ IsTup' (.lst as) := fun _ z => z
        cases w : s items[i] (wipeE vs env) with
        | ok env1 =>
          rw [w] at er
          dsimp only at er ⊢
          intro σ4 H4 F4 φ4 T ag x4
          refine ⟨wipe_agree ag hw, false, K, F3, F4, env1, φ4, T, ?_⟩
          cases w2 : t env1 with
          | ok b =>
            rw [w2] at er
            intro H5 F5 x5
            have x25 := (x3.trans x4).trans x5
            cases b with
            | false =>
              rw [if_neg Bool.false_ne_true]
              exact ⟨F5, ds, as, fp, rest, x2.trans x25, x25.notF fD hDl (ntl _), x25.hh _ _ hDl, r.ext x25, nd, fun a m => by
                obtain ⟨o, h1, h2⟩ := RepL.own _ _ _ _ _ _ r a m
                exact ⟨(fr a m).1, x25.notF (fr a m).2.1 h1 h2, (fr a m).2.2⟩, nt, er, ey⟩
            | true =>
              rw [if_pos rfl]
              refine ⟨false, K, F3, F5, env1, φ4, T.ext x5, ?_⟩
              cases w3 : f env1 with
              | ok yd =>
                rw [w3] at er
                dsimp only at er
                by_cases hn : noT yd = true
                case neg => rw [if_neg hn] at er; cases er
                rw [if_pos hn] at er
                cases z3 : lcL s t f (wipeE vs env) (List.drop (i + 1) items) with
                | ok ys' =>
                  rw [z3] at er
                  cases er
                  intro v H6 F6 fq x6 r6 nd6 fr6
                  have x26 := x25.trans x6
                  have hD5 : H5 D = some (.lst as) := x25.hh _ _ hDl
                  have hD6 : H6 D = some (.lst as) := x26.hh _ _ hDl
                  have lenas : as.length = ds.length := r.length.symm
                  refine ⟨as, hD6, ?_, ?_⟩
                  · have : ds.length + (ys'.length + 1) ≤ bigL := by
                      rw [← ey] at hl
                      simpa using hl
                    have h2 := bigL_line (n := ds.length + (ys'.length + 1)) this
                    omega
                  · have fD6 : F6 D = none := x26.notF fD hDl (ntl _)
                    have nD : ∀ a ∈ fq, a ≠ D := fun a m z => by
                      have q := (fr6 a m).1
                      rw [z, hD5] at q
                      cases q
                    refine ⟨F6, ds ++ [yd], as ++ [v], fp ++ fq, ys', ⟨(x2.trans x26).hh.upd hD, (x2.trans x26).ff, x26.fh.upd fD6 hD6 (fun z => z), (x2.trans x26).gr⟩, fD6, upd_same, ?_, ?_, ?_, ?_, rfl, by rw [← ey]; simp⟩
                    · have ra := r.ext x26
                      have q1 := ra.stay _ _ _ F6 (upd H6 D (.lst (as ++ [v]))) (Same.refl _) _ _ _ (fun a m => upd_ne (fr a m).2.2) nt
                      have q2 := r6.stay _ _ _ F6 (upd H6 D (.lst (as ++ [v]))) (Same.refl _) _ _ _ (fun a m => upd_ne (nD a m)) hn
                      have q3 := q1.append (RepL.cons q2 .nil)
                      simpa using q3
                    · refine List.nodup_append.mpr ⟨nd, nd6, fun a m b m2 z => ?_⟩
                      subst z
                      obtain ⟨o, h1, h2⟩ := RepL.own _ _ _ _ _ _ r a m
                      have := (fr6 a m2).1
                      rw [x25.hh.at_ _ _ h1 (nTb_of h2)] at this
                      cases this
                    · intro a m
                      rcases List.mem_append.mp m with m | m
                      · obtain ⟨o, h1, h2⟩ := RepL.own _ _ _ _ _ _ r a m
                        exact ⟨(fr a m).1, x26.notF (fr a m).2.1 h1 h2, (fr a m).2.2⟩
                      · exact ⟨(x2.trans x25).hh.free (fr6 a m).1, (fr6 a m).2, nD a m⟩
                    · rw [noTL_append]
                      simp [nt, hn, noTL]
                | exc y => exact absurd z3 (lcL_nox _ _)
                | stuck => rw [z3] at er; cases er
              | exc y => rw [w3] at er; cases er
              | stuck => rw [w3] at er; cases er
          | exc y => rw [w2] at er; cases er
          | stuck => rw [w2] at er; cases er
        | exc y => rw [w] at er; cases er
        | stuck => rw [w] at er; cases er
      · have e : i = items.length := by omega
        subst e
        rw [List.drop_length, lcL] at er
        cases er
        rw [List.append_nil] at ey
        subst ey
        refine .inl ⟨Y.stop F2 H2 pst, p (.ref D) H2 F2 (D :: fp) (x1.trans x2) (.ndO hDl rfl r) (List.nodup_cons.mpr ⟨fun m => (fr D m).2.2 rfl, nd⟩) fun a m => ?_⟩
        rcases List.mem_cons.mp m with rfl | m
        · exact ⟨x1.hh.free hD, fD⟩
        · exact ⟨x1.hh.free (fr a m).1, (fr a m).2.1⟩
    | exc y => exact absurd z2 (lcL_nox _ _)
    | stuck => simp only [z2] at p; exact p.elim
  | exc y => simp only [z, Res.bind] at p; exact p
  | stuck => simp only [z, Res.bind] at p; exact p
theorem ev_lc {elt tg iter : Expr} {ifs : List Expr} {scope : Scope} (own : List (Str × Nat)) {it : Env → Res (List D)} {s : TgF} {t : Env → Res Bool} {f : Env → Res D} (hc : X.calm = true) (hN : X.N.Nodup) (hi : EY X c E false tg iter it) (ok : BlkOk X.N X.env.scope scope own)
    (hg : ∀ (s' : Shared) (H : Hp) (C : Addr) (cl : List (Str × Addr)) (fp : List Addr), EG (X.blk s' H scope (compEnvC scope cl C X.env) fp) c false tg ws s) (ht : ∀ (s : Shared) (H : Hp) (C : Addr) (cl : List (Str × Addr)) (fp : List Addr), ETs (X.blk s H scope (compEnvC scope cl C X.env) fp) c (fun _ _ _ => False) ifs t)
    (he : ∀ (s : Shared) (H : Hp) (C : Addr) (cl : List (Str × Addr)) (fp : List Addr), EV (X.blk s H scope (compEnvC scope cl C X.env) fp) c (fun _ _ _ => False) elt f) (hw : ∀ w ∈ ws, w ∈ own.map (·.2) := by decide) (hs : ∀ x, foldedSetIterable iter X.env x = pure x := by intro _; rfl) :
    EV X c E (.ListComp elt [⟨tg, iter, ifs, 0⟩] scope pos) (eLc it s t f (own.map (·.2))) :=
  PE.imp (pe_lc (g := TGt c false ws s) (tt := TB c (fun _ _ _ => False) t) (te := TV c (fun _ _ _ => False) f) hc hN hi ok hg ht he hs) fun σ H Q q => lc_read hw q
theorem es_lc (i : Nat) {y : Str} {py spos : Pos} {elt tg iter : Expr} {ifs : List Expr} {scope : Scope} (own : List (Str × Nat)) {it : Env → Res (List D)} {s : TgF} {t : Env → Res Bool} {f : Env → Res D} (hc : X.calm = true) (hN : X.N.Nodup) (hyl : X.env.scope.names.lookup y = some .local)
    (hsw : swapsWith (.ListComp elt [⟨tg, iter, ifs, 0⟩] scope pos) (some (.Name y py)) spos.line X.env = pure true) (hi : EY X c E false tg iter it) (ok : BlkOk X.N X.env.scope scope own)
    (hg : ∀ (s' : Shared) (H : Hp) (C : Addr) (cl : List (Str × Addr)) (fp : List Addr), EG (X.blk s' H scope (compEnvC scope cl C X.env) fp) c false tg ws s) (ht : ∀ (s : Shared) (H : Hp) (C : Addr) (cl : List (Str × Addr)) (fp : List Addr), ETs (X.blk s H scope (compEnvC scope cl C X.env) fp) c (fun _ _ _ => False) ifs t)
    (he : ∀ (s : Shared) (H : Hp) (C : Addr) (cl : List (Str × Addr)) (fp : List Addr), EV (X.blk s H scope (compEnvC scope cl C X.env) fp) c (fun _ _ _ => False) elt f) (hy : X.N[i]? = some y := by rfl) (hw : ∀ w ∈ ws, w ∈ own.map (·.2) := by decide) (hs : ∀ x, foldedSetIterable iter X.env x = pure x := by intro _; rfl) :
    ES X c E (.Assign [.Name y py] (.ListComp elt [⟨tg, iter, ifs, 0⟩] scope pos) spos) (sSet i (eLc it s t f (own.map (·.2)))) :=
  PS.imp (ps_setLc (g := TGt c false ws s) (tt := TB c (fun _ _ _ => False) t) (te := TV c (fun _ _ _ => False) f) hc hN hy hyl hsw hi ok hg ht he hs) fun Dn σ H q => lc_read hw (glueS (k := fun d env => store i d env) q fun K F0 F F' env φ d v fp H' S x r nd fr p => by
    unfold store at p
    by_cases h : noT d = true
    · rw [if_pos h] at p
      exact p _ H' F' _ (S.set x r nd fr (fun _ => h) i)
    · rw [if_neg h] at p
      exact p.elim)
end
def PostF {M : PySem.W.Frag} (c : Cfg M) (E : XK) (K F0 : Hp) (r : Res D) (Q : VK) : Prop := match r with
  | .ok d => ∀ v H F fp, RetOk c.κ K F0 F H d v fp → Q v H
  | .exc x => ∀ cl dd H, Sm K H → c.xr K x cl dd H → E cl dd H
  | .stuck => False
mutual
def noP : D → Bool
  | .tup ds => noPL ds
  | .nd _ _ ds => noPL ds
  | .pin _ _ => false
  | .pack _ _ => false
  | _ => true
def noPL : List D → Bool
  | [] => true
  | d :: ds => noP d && noPL ds
end
mutual
theorem noP_fz : ∀ d : D, noP (fz d) = true
  | .non => rfl
  | .bl _ => rfl
  | .int _ => rfl
  | .str _ => rfl
  | .tup ds => by rw [fz, noP]; exact noPL_fz ds
  | .nd t k ds => by rw [fz, noP]; exact noPL_fz ds
  | .pin _ d => by rw [fz]; exact noP_fz d
  | .pack d _ => by rw [fz]; exact noP_fz d
theorem noPL_fz : ∀ ds : List D, noPL (fzL ds) = true
  | [] => rfl
  | d :: ds => by rw [fzL, noPL, noP_fz d, noPL_fz ds]; rfl
end
mutual
theorem noP_fa : ∀ d : D, noP (fa d) = true
  | .non => rfl
  | .bl _ => rfl
  | .int _ => rfl
  | .str _ => rfl
  | .tup ds => by rw [fa, noP]; exact noPL_fa ds
  | .nd t k ds => by rw [fa, noP]; exact noPL_fa ds
  | .pin _ d => by rw [fa]; exact noP_fa d
  | .pack d _ => by rw [fa]; exact noP_fa d
theorem noPL_fa : ∀ ds : List D, noPL (faL ds) = true
  | [] => rfl
  | d :: ds => by rw [faL, noPL, noP_fa d, noPL_fa ds]; rfl
end
def SpD {M : PySem.W.Frag} (c : Cfg M) (n : Nat) (Φ : List D → Res D) : Sp := fun vs H Q E => ∃ K F0 ds, Sm K H ∧ (Sub F0 H ∧ Mks c.κ F0 ∧ noPL ds = true) ∧ RepL c.κ F0 H ds vs [] ∧ noTL ds = true ∧ ds.length = n ∧ PostF c E K F0 (Φ ds) Q
def runF (N : Nat) (g : Env → SR) (ds : List D) : Res D := match g (ds.map some ++ List.replicate (N - ds.length) none) with
  | .ok (.rt d, _) => .ok d
  | .ok (.nx, _) => .ok .non
  | .exc x => .exc x
  | _ => .stuck
section
variable {P : Program} {w : World} {K : PySem.W.Frag} {mg : Str → Option Value} {base : Heap}
theorem se_start {M : PySem.W.Frag} {c : Cfg M} {Kh F0 H : Hp} {ds : List D} {vs : List V} {N : List Str} (kk : Sm Kh H) (fh : Sub F0 H) (mk : Mks c.κ F0) (r : RepL c.κ F0 H ds vs []) (nt : noTL ds = true) :
    SE true c.κ Kh F0 F0 (ds.map some ++ List.replicate (N.length - ds.length) none) (fun _ => []) (L2.start N vs) H := by
  have el := r.length
  refine ⟨by unfold L2.start; simp [el], kk, ⟨Same.refl _, mk⟩, fh, fun _ _ e => .inl e, fun i d h => ?_, fun _ => .nil, fun _ _ _ a m => absurd m (by simp), fun _ a m => absurd m (by simp)⟩
  have hi : i < ds.length := by
    by_cases q : i < ds.length
    · exact q
    · rw [List.getElem?_append_right (by simpa using q), List.getElem?_replicate] at h
      split at h <;> cases h
  have hd : ds[i]? = some d := by
    rw [List.getElem?_append_left (by simpa using hi), List.getElem?_map] at h
    cases e : ds[i]? with
    | none => rw [e] at h; cases h
    | some a => rw [e] at h; cases h; rfl
  obtain ⟨v, fq, h1, h2, h3, _⟩ := r.get i d hd
  cases nil_of_sub h3
  refine ⟨v, ?_, h2, fun _ => ?_⟩
  · unfold L2.start
    rw [List.getElem?_append_left (by simp; omega), List.getElem?_map, h1]
    rfl
  · have : ∀ (ds : List D) (i : Nat) (d : D), noTL ds = true → ds[i]? = some d → noT d = true := by
      intro ds
      induction ds with
      | nil => intro i d _ h; simp at h
      | cons e es ih =>
        intro i d h1 h2
        rw [noTL, Bool.and_eq_true] at h1
        cases i with
        | zero => simp at h2; subst h2; exact h1.1
        | succ i => exact ih i d h1.2 (by simpa using h2)
    exact this ds i d nt hd
end
def callD (Φ : List D → Res D) (ds : List D) : Res D := if noTL ds = true then Φ (fzL ds) else (Φ (faL ds)).bind fun d => if imO d = true then .ok d else .stuck
def eCall (Φ : List D → Res D) (dd : List D) (fs : Env → Res (List D)) : Env → Res D := fun env => (fs env).bind fun ds => callD Φ (ds ++ dd)
theorem faL_length : ∀ ds : List D, (faL ds).length = ds.length
  | [] => rfl
  | d :: ds => by rw [faL]; simp [faL_length ds]
mutual
theorem noT_fa : ∀ d : D, noT (fa d) = true
  | .non => rfl
  | .bl _ => rfl
  | .int _ => rfl
  | .str _ => rfl
  | .tup ds => by rw [fa, noT]; exact noTL_fa ds
  | .nd t k ds => by rw [fa, noT, noTL_fa ds]; rfl
  | .pin _ d => by rw [fa]; exact noT_fa d
  | .pack d _ => by rw [fa]; exact noT_fa d
theorem noTL_fa : ∀ ds : List D, noTL (faL ds) = true
  | [] => rfl
  | d :: ds => by rw [faL, noTL, noT_fa d, noTL_fa ds]; rfl
end
def tupsOf (F F' : Hp) : Hp := fun a => match F a with
  | some o => some o
  | none => match F' a with
    | some (.tup vs) => some (.tup vs)
    | _ => none
theorem tups_sub {F F' H : Hp} (sub : Same F F') (fh : Sub F' H) : Sub (tupsOf F F') H := ⟨fun a o e n => by
  unfold tupsOf at e
  cases q : F a with
  | some o' => rw [q] at e; cases e; exact fh.at_ _ _ (sub _ _ q) n
  | none =>
    rw [q] at e
    dsimp only at e
    split at e
    · rename_i q2
      cases e
      exact fh.at_ _ _ q2 n
    · (cases e), fun a ps e => by
  unfold tupsOf at e
  cases q : F a with
  | some o' => rw [q] at e; cases e; exact fh.tb _ _ (sub _ _ q)
  | none =>
    rw [q] at e
    dsimp only at e
    split at e
    · cases e
    · cases e⟩
theorem call_post {M : PySem.W.Frag} {c : Cfg M} {E : XK} {n : Nat} {Φ : List D → Res D} {F H F' H' : Hp} {ds : List D} {vs : List V} {fp : List Addr} {Q : VK} (x : Ext F H F' H') (r : RepL c.κ F' H' ds vs fp) (nd : fp.Nodup) (fr : ∀ a ∈ fp, H a = none ∧ F' a = none) (hn : ds.length = n)
    (mk : Mks c.κ F) (p : PostV c E F H (callD Φ ds) Q) : SpD c n Φ vs H' Q E := by
  unfold callD at p
  by_cases h : noTL ds = true
  · rw [if_pos h] at p
    have x2 := x.grab fr (RepL.own _ _ _ _ _ _ r)
    refine ⟨H', grab F' H' fp, fzL ds, Sm.refl _, ⟨x2.fh, mk.up x2.ff, noPL_fz ds⟩, r.fz _ _ _ _ (same_grab fun a m => (fr a m).2) _ _ _ (fun a m => grab_mem m), noTL_fz ds h, by rw [fzL_length]; exact hn, ?_⟩
    cases z : Φ (fzL ds) with
    | ok d =>
      rw [z] at p
      intro v H2 F2 fq R
      exact p v H2 F2 fq ⟨x.hh.trans R.kk, x2.ff.trans (R.f0.sameT (mk.up x2.ff)), R.fh, fun a o e => by
        rcases R.gr a o e with q | q | q
        · exact x2.gr a o q
        · exact .inr (.inl (x.hh.free q))
        · exact .inr (.inr q)⟩ R.rep R.nd fun a m => ⟨x.hh.free (R.ow a m).2, (R.ow a m).1⟩
    | exc y => rw [z] at p; exact fun cl dd H2 s q => p cl dd H2 (x.hh.trans s) (c.mono (x.hh) q)
    | stuck => rw [z] at p; exact p
  · rw [if_neg h] at p
    refine ⟨H', seen F' H', faL ds, Sm.refl _, ⟨seen_sub x.fh, mk.up (x.ff.trans sameT_seen), noPL_fa ds⟩, r.fa _ _ _ x.fh _ _ _, noTL_fa ds, by rw [faL_length]; exact hn, ?_⟩
    cases z : Φ (faL ds) with
    | ok d =>
      rw [z] at p
      simp only [Res.bind] at p
      by_cases hi : imO d = true
      · rw [if_pos hi] at p
        intro v H2 F2 fq R
        have sub : Same F' F2 := same_seen.trans R.f0.same
        have tp : ∀ a vs, F2 a = some (.tup vs) → tupsOf F' F2 a = some (.tup vs) := fun a vs e => by
          unfold tupsOf
          cases q : F' a with
          | some o => have := sub a o q; rw [e] at this; exact this.symm
          | none => rw [e]
        have r2 := R.rep.imO _ _ _ _ tp _ _ _ hi
        refine p v H2 (tupsOf F' F2) fq ⟨x.hh.trans R.kk, ⟨fun a o e => ?_, fun a ps e => ?_⟩, tups_sub sub R.fh, fun a o e => ?_⟩ r2 R.nd (fun a m => ⟨x.hh.free (R.ow a m).2, ?_⟩)
        · unfold tupsOf
          rw [x.ff a o e]
        · unfold tupsOf at e
          cases q : F' a with
          | some o' => rw [q] at e; cases e; exact x.ff.nt a _ q
          | none =>
            rw [q] at e
            dsimp only at e
            split at e
            · cases e
            · cases e
        · unfold tupsOf at e
          cases q : F' a with
          | some o' => rw [q] at e; cases e; exact x.gr a _ q
          | none =>
            rw [q] at e
            dsimp only at e
            split at e
            · cases e
              exact .inr (.inr trivial)
            · cases e
        · have e2 := (R.ow a m).1
          unfold tupsOf
          cases q : F' a with
          | some o => rw [sub a o q] at e2; cases e2
          | none => rw [e2]
      · rw [if_neg hi] at p
        exact p.elim
    | exc y => rw [z] at p; exact fun cl dd H2 s q => p cl dd H2 (x.hh.trans s) (c.mono (x.hh) q)
    | stuck => rw [z] at p; exact p
section
variable {X : Cx} {c : Cfg X.K} {E : XK} {e a b : Expr} {es : List Expr} {pos p : Pos} {fs : Env → Res (List D)} {k n : Nat} {f : Addr} {fd : FuncData} {ps : List Str} {Φ : List D → Res D} {x : Str} {dd : List D} {dvs : List V} {dus : List Value}
theorem glueCall {σ : L2.St} {H : Hp} {Q : VK} (hd : ∀ F H, RepL c.κ F H dd dvs []) (hn : ∀ (ds : List D) (vs : List V), ds.length = vs.length → vs.length + dvs.length = n ∨ callD Φ (ds ++ dd) = .stuck) (q : TV c E (eCall Φ dd fs) σ H Q) : TL c E fs σ H fun vs H1 => SpD c n Φ (vs ++ dvs) H1 Q E := by
  obtain ⟨bb, K, F0, F, env, φ, S, p⟩ := q
  refine ⟨bb, K, F0, F, env, φ, S, ?_⟩
  unfold eCall at p
  cases z : fs env with
  | ok ds =>
    simp only [z, Res.bind] at p
    intro vs H' F' fp x r nd fr
    rcases hn ds vs r.length with h | h
    · have r2 := r.append (hd F' H')
      rw [List.append_nil] at r2
      exact call_post x r2 nd fr (by rw [r2.length, List.length_append]; exact h) S.f0.mks p
    · rw [h] at p
      exact p.elim
  | exc y => simp only [z, Res.bind] at p; exact p
  | stuck => simp only [z, Res.bind] at p; exact p
def lenIs (n : Nat) (Φ : List D → Res D) : List D → Res D := fun ds => if ds.length = n then Φ ds else .stuck
theorem len_or (ds : List D) (vs : List V) (hd : dd.length = dvs.length) (h : ds.length = vs.length) : vs.length + dvs.length = n ∨ callD (lenIs n Φ) (ds ++ dd) = .stuck := by
  by_cases q : vs.length + dvs.length = n
  · exact .inl q
  · right
    unfold callD lenIs
    have e : (ds ++ dd).length = vs.length + dvs.length := by rw [List.length_append, h, hd]
    rw [fzL_length, faL_length, e, if_neg q]
    split <;> rfl
theorem FnOk.len {P : Program} {w : World} {K : PySem.W.Frag} {c : Cfg K} {mg : Str → Option Value} {base : Heap} {CX : CXT} (F : FnOk P w K mg base CX k f fd ps (SpD c n Φ)) : FnOk P w K mg base CX k f fd ps (SpD c n (lenIs n Φ)) := F.imp fun vs H Q E h => by
  obtain ⟨Kh, F0, ds, kk, fh, r, nt, hl, p⟩ := h
  refine ⟨Kh, F0, ds, kk, fh, r, nt, hl, ?_⟩
  unfold lenIs at p
  rw [if_pos hl] at p
  exact p
theorem FnOk.eqv {P : Program} {w : World} {K : PySem.W.Frag} {c : Cfg K} {mg : Str → Option Value} {base : Heap} {CX : CXT} {Ψ : List D → Res D} (F : FnOk P w K mg base CX k f fd ps (SpD c n Φ)) (h : ∀ ds, Ψ ds = .stuck ∨ Φ ds = Ψ ds) : FnOk P w K mg base CX k f fd ps (SpD c n Ψ) := F.imp fun vs H Q E q => by
  obtain ⟨Kh, F0, ds, kk, fh, r, nt, hl, p⟩ := q
  refine ⟨Kh, F0, ds, kk, fh, r, nt, hl, ?_⟩
  rcases h ds with e | e
  · rw [e] at p; exact p.elim
  · rw [e]; exact p
end
section
variable {X : Cx} {c : Cfg X.K} {E : XK} {e a b d : Expr} {f g h : Env → Res D} {pos apos p : Pos} {es : List Expr}
def eChain (k k' : D → D → Res D) (f g h : Env → Res D) : Env → Res D := fun env => (f env).bind fun x => (g env).bind fun y => (k x y).bind fun z => (asB z).bind fun b => if b = true then (h env).bind fun w => k' y w else .ok (.bl false)
theorem later {M : PySem.W.Frag} {c : Cfg M} {E : XK} {F H F' H' : Hp} {r : Res D} {Q : VK} (x : Ext F H F' H') (p : PostV c E F H r Q) : PostV c E F' H' r Q := by
  cases r with
  | ok d => exact fun v H2 F2 fp x2 r2 nd fr => p v H2 F2 fp (x.trans x2) r2 nd fun a m => ⟨x.hh.free (fr a m).1, (fr a m).2⟩
  | exc y => exact fun cl dd H2 s q => p cl dd H2 (x.hh.trans s) (c.mono (x.hh) q)
  | stuck => exact p
theorem chain_read {k k' : D → D → Res D} {r r' : R2} (hk : Op2 c r k) (hk' : Op2 c r' k') {σ : L2.St} {H : Hp} {Q : VK} (q : TV c E (eChain k k' f g h) σ H Q) : tChain r r' (TV c E f) (TV c E g) (TV c E h) σ H Q := by
  obtain ⟨bb, K, F0, F, env, φ, S, p⟩ := q
  refine ⟨bb, K, F0, F, env, φ, S, ?_⟩
  unfold eChain at p
  cases z1 : f env with
  | ok d1 =>
    simp only [z1, Res.bind] at p
    intro v1 H1 F1 fp1 x1 r1 nd1 fr1
    refine ⟨bb, K, F0, F1, env, φ, S.ext x1, ?_⟩
    cases z2 : g env with
    | ok d2 =>
      simp only [z2] at p
      intro v2 H2 F2 fp2 x2 r2 nd2 fr2
      refine hk E F2 H2 d1 d2 v1 v2 fp1 fp2 _ x2.fh (r1.ext x2) r2 ?_
      cases z3 : k d1 d2 with
      | ok d3 =>
        simp only [z3] at p
        intro v3 H3 F3 fp3 x3 r3 nd3 fr3
        cases d3 with
        | bl b =>
          cases r3
          refine ⟨b, rfl, ?_⟩
          simp only [asB] at p
          have x13 := (x1.trans x2).trans x3
          cases b with
          | true =>
            rw [if_pos rfl] at p ⊢
            refine ⟨bb, K, F0, F3, env, φ, S.ext x13, ?_⟩
            cases z4 : h env with
            | ok d4 =>
              simp only [z4] at p
              intro v4 H4 F4 fp4 x4 r4 nd4 fr4
              exact hk' E F4 H4 d2 d4 v2 v4 fp2 fp4 Q x4.fh ((r2.ext x3).ext x4) r4 (later (x13.trans x4) p)
            | exc y => simp only [z4] at p; exact fun cl dd H2 s q => p cl dd H2 (x13.hh.trans s) (c.mono (x13.hh) q)
            | stuck => simp only [z4] at p; exact p
          | false =>
            rw [if_neg Bool.false_ne_true] at p ⊢
            exact (later x13 p).bl x3.fh
        | _ => exact p.elim
      | exc y => simp only [z3] at p; exact fun cl dd H3 s q => p cl dd H3 ((x1.trans x2).hh.trans s) (c.mono ((x1.trans x2).hh) q)
      | stuck => simp only [z3] at p; exact p
    | exc y => simp only [z2] at p; exact fun cl dd H2 s q => p cl dd H2 (x1.hh.trans s) (c.mono (x1.hh) q)
    | stuck => simp only [z2] at p; exact p
  | exc y => simp only [z1, Res.bind] at p; exact p
  | stuck => simp only [z1, Res.bind] at p; exact p
theorem ev_chain {op op' : CmpOp} {r r' : R2} {k k' : D → D → Res D} (hk : Op2 c r k) (hk' : Op2 c r' k') (ho : OpR X (compareOp op) r) (ho' : OpR X (compareOp op') r') (ha : EV X c E a f) (hb : EV X c E b g) (hd : EV X c E d h)
    (hm : lastMarks [op, op'] [b, d] = false := by with_unfolding_all rfl) : EV X c E (.Compare a [op, op'] [b, d] pos) (eChain k k' f g h) := PE.imp (pe_chain ho ho' ha hb hd hm) fun σ H Q q => chain_read hk hk' q
theorem et_chain {op op' : CmpOp} {r r' : R2} {k k' : D → D → Res D} (hk : Op2 c r k) (hk' : Op2 c r' k') (ho : OpR X (compareOp op) r) (ho' : OpR X (compareOp op') r') (ha : EV X c E a f) (hb : EV X c E b g) (hd : EV X c E d h)
    (hm : lastMarks [op, op'] [b, d] = false := by with_unfolding_all rfl) : ET X c E (.Compare a [op, op'] [b, d] pos) (eB (eChain k k' f g h)) := PT.imp (pt_chain ho ho' ha hb hd hm) fun σ H Q q => chain_read hk hk' (glueB q)
theorem call_intA : CallR X (.type "int") rInt := CallR.or call_int1 call_int_str
theorem ev_int_ {fs : Env → Res (List D)} (hg : Gl X "int") (hm : X.mg "int" = none) (ha : EL X c E [e] fs) (he : starEach [e] X.env = (false, eval e X.env) :: starEach [] X.env := by rfl) : EV X c E (.Call (.Name "int" p) [e] [] pos) (eC_ dInt fs) :=
  ev_callTy opc_int call_intA hg hm (by decide +kernel) ha (by decide) (by decide) he
def ints? : List D → Option (List Int)
  | [] => some []
  | .int i :: r => (ints? r).map fun is => i :: is
  | _ :: _ => none
theorem ints_rep {M : PySem.W.Frag} {κ : Kap M} {F H : Hp} : ∀ {ds : List D} {vs : List V} {fp : List Addr} {is : List Int}, RepL κ F H ds vs fp → ints? ds = some is → vs = is.map V.int ∧ ds = is.map D.int
  | _, _, _, is, .nil, h => by cases h; exact ⟨rfl, rfl⟩
  | _, _, _, is, .cons (d := d) r t, h => by
    cases d with
    | int i =>
      rw [ints?] at h
      cases q : ints? _ with
      | none => rw [q] at h; cases h
      | some js =>
        rw [q] at h
        cases h
        obtain ⟨h1, h2⟩ := ints_rep t q
        cases r
        rw [h1, h2]
        exact ⟨rfl, rfl⟩
    | _ => simp [ints?] at h
def dSum : List D → Res D
  | [.nd _ .lst ds] => (ofO (ints? ds)).bind fun is => .ok (.int is.sum)
  | _ => .stuck
theorem opc_sum : OpC c (rSum X.K) dSum := by
  intro E F H ds vs fp Q fh r p
  unfold dSum at p
  split at p
  · rename_i t ds
    obtain ⟨v, fq, rfl, r1⟩ := r.one
    obtain ⟨a, vs, fq, rfl, h1, h2, _⟩ := r1.sqL fh
    cases q : ints? ds with
    | none => rw [q] at p; exact p.elim
    | some is =>
      rw [q] at p
      obtain ⟨rfl, _⟩ := ints_rep h2 q
      exact ⟨a, is, rfl, h1, PostV.int p fh⟩
  · exact p.elim
theorem ev_sum {fs : Env → Res (List D)} (hc : X.calm = true) (hg : Gl X "sum") (hm : X.mg "sum" = none) (ha : EL X c E [e] fs) (he : starEach [e] X.env = (false, eval e X.env) :: starEach [] X.env := by rfl) : EV X c E (.Call (.Name "sum" p) [e] [] pos) (eC_ dSum fs) :=
  ev_callB opc_sum (cr_sum hc) hg hm (by decide +kernel) ha (by decide) (by decide) he
def maxI : List Int → Option Int
  | [] => none
  | x :: xs => some (xs.foldl max x)
theorem foldl_max_le : ∀ (xs : List Int) (a : Int), a ≤ xs.foldl max a ∧ (∀ y ∈ xs, y ≤ xs.foldl max a) ∧ (xs.foldl max a = a ∨ xs.foldl max a ∈ xs)
  | [], a => ⟨Int.le_refl _, by simp, .inl rfl⟩
  | x :: xs, a => by
    obtain ⟨h1, h2, h3⟩ := foldl_max_le xs (max a x)
    rw [List.foldl_cons]
    refine ⟨by omega, fun y hy => ?_, ?_⟩
    · rcases List.mem_cons.mp hy with rfl | hy
      · omega
      · exact h2 y hy
    · rcases h3 with h | h
      · rw [h]
        by_cases q : a ≤ x
        · right; rw [Int.max_eq_right q]; exact List.mem_cons_self
        · left; rw [Int.max_eq_left (by omega)]
      · right; exact List.mem_cons_of_mem _ h
def dMax : List D → Res D
  | [.nd _ .lst ds] => (ofO (ints? ds)).bind fun is => (ofO (maxI is)).bind fun m => .ok (.int m)
  | [.int i, .int j] => .ok (.int (max i j))
  | _ => .stuck
theorem opc_max : OpC c (fun xs H Q => rMax X.K xs H Q ∨ ∃ i j, xs = [.int i, .int j] ∧ Q (.int (if j > i then j else i)) H) dMax := by
  intro E F H ds vs fp Q fh r p
  unfold dMax at p
  split at p
  · rename_i t ds
    obtain ⟨v, fq, rfl, r1⟩ := r.one
    obtain ⟨a, vs, fq, rfl, h1, h2, _⟩ := r1.sqL fh
    cases q : ints? ds with
    | none => rw [q] at p; exact p.elim
    | some is =>
      rw [q] at p
      obtain ⟨rfl, _⟩ := ints_rep h2 q
      cases is with
      | nil => exact p.elim
      | cons x xs =>
        refine .inl ⟨a, x :: xs, rfl, h1, by simp, fun m hm hle => ?_⟩
        obtain ⟨k1, k2, k3⟩ := foldl_max_le xs x
        have e : m = xs.foldl max x := by
          have h3 : m ≤ xs.foldl max x := by
            rcases List.mem_cons.mp hm with rfl | hm
            · exact k1
            · exact k2 m hm
          have h4 : xs.foldl max x ≤ m := by
            rcases k3 with k | k
            · rw [k]; exact hle x List.mem_cons_self
            · exact hle _ (List.mem_cons_of_mem _ k)
          omega
        rw [e]
        exact PostV.int p fh
  · obtain ⟨v, v', fq, fr, rfl, r1, r2⟩ := r.two
    cases r1
    cases r2
    refine .inr ⟨_, _, rfl, ?_⟩
    have : ∀ i j : Int, (if j > i then j else i) = max i j := fun i j => by split <;> omega
    rw [this]
    exact p.int fh
  · exact p.elim
theorem ev_max {fs : Env → Res (List D)} (hc : X.calm = true) (hg : Gl X "max") (hm : X.mg "max" = none) (ha : EL X c E (e :: es) fs) (he : starEach (e :: es) X.env = (false, eval e X.env) :: starEach es X.env := by rfl) (hpl : (backTo pos (starEach es X.env)).any (·.1) = false := by rfl) : EV X c E (.Call (.Name "max" p) (e :: es) [] pos) (eC_ dMax fs) :=
  ev_callB opc_max (CallR.or (cr_max hc) (call_max2 hc)) hg hm (by decide +kernel) ha (by decide) (by decide) he hpl
end
section
variable {X : Cx} {c : Cfg X.K} {E : XK} {e a b d : Expr} {f g h : Env → Res D} {pos apos p : Pos} {es : List Expr}
theorem RepL.of_own {M : PySem.W.Frag} {κ : Kap M} {F H : Hp} {ds : List D} {v : V} {fp : List Addr} (r : Rep κ F H (.nd .own .lst ds) v fp) : ∃ a vs fq, v = .ref a ∧ fp = a :: fq ∧ H a = some (.lst vs) ∧ RepL κ F H ds vs fq := by
  cases r with
  | ndO ha hs hl => cases hs; exact ⟨_, _, _, rfl, rfl, ha, hl⟩
theorem SE.relist {M : PySem.W.Frag} {κ : Kap M} {K F0 F : Hp} {env : Env} {φ : Nat → List Addr} {σ : L2.St} {H : Hp} (S : SE true κ K F0 F env φ σ H) {i : Nat} {a : Addr} {fq fr : List Addr} {ds : List D} {vs : List V} (hv : σ[i]? = some (some (.ref a))) (hφ : φ i = a :: fq)
    (r : RepL κ F H ds vs fr) (nd : fr.Nodup) (hf : ∀ b ∈ fr, b ∈ fq ∨ (F b = none ∧ K b = none ∧ ∀ j, b ∉ φ j)) (nt : noTL ds = true) : SE true κ K F0 F (env.set i (some (.lst .own ds))) (put φ i (a :: fr)) σ (upd H a (.lst vs)) := by
  have hnd := S.nd i
  rw [hφ, List.nodup_cons] at hnd
  have na : ∀ b ∈ fr, b ≠ a := fun b m z => by
    subst z
    rcases hf b m with h | h
    · exact hnd.1 h
    · exact h.2.2 i (by rw [hφ]; exact List.mem_cons_self)
  refine S.write (a := a) (by rw [hφ]; exact List.mem_cons_self) hv (.ndO upd_same rfl (r.stay _ _ _ F (upd H a (.lst vs)) (Same.refl _) _ _ _ (fun b m => upd_ne (na b m)) nt)) (List.nodup_cons.mpr ⟨fun m => na a m rfl, nd⟩) (fun b m => ?_) (by rw [noT, nt]; rfl)
  rcases List.mem_cons.mp m with rfl | m
  · exact .inl (by rw [hφ]; exact List.mem_cons_self)
  · rcases hf b m with h | h
    · exact .inl (by rw [hφ]; exact List.mem_cons_of_mem _ h)
    · exact .inr h
def ownL (env : Env) (i : Nat) : Option (List D) := match env[i]? with
  | some (some (.nd .own .lst ds)) => some ds
  | _ => none
theorem ownL_get {env : Env} {i : Nat} {ds : List D} (h : ownL env i = some ds) : env[i]? = some (some (.nd .own .lst ds)) := by
  unfold ownL at h
  split at h
  · rename_i q; cases h; exact q
  · cases h
def sApp (i : Nat) (f : Env → Res D) : Env → SR := fun env => match ownL env i with
  | some ds => (f env).bind fun d => if noT d = true ∧ ds.length < bigL then .ok (.nx, env.set i (some (.lst .own (ds ++ [d])))) else .stuck
  | none => .stuck
theorem es_app (i : Nat) {x : Str} {q : Pos} (ha : EV X c E e f) (hN : X.N[i]? = some x := by rfl) (hv : Vis X.env.scope x := by first | exact Or.inl rfl | exact Or.inr (Or.inl rfl) | exact Or.inr (Or.inr rfl)) (hd : (x == ("__debug__" : Str)) = false := by decide)
    (hcd : (x == ("__classdict__" : Str)) = false := by decide) 
    (hbase : attributeBase (.Name x q) "append" X.env (eval (.Name x q) X.env) = eval (.Name x q) X.env := by rfl)
    (hfew : ((backTo p (starEach [e] X.env)).all (fun x => !x.1) && (backToKw p (keywordEach [] X.env)).all (fun x => x.1.isSome)
      && decide ([e].length + ([] : List Keyword).length + (if ([] : List Keyword).isEmpty then 0 else 1) < 30)) = true := by rfl)
    (hline : (apos.endLine == p.line) = true := by rfl) (hs1 : starEach [e] X.env = (false, eval e X.env) :: starEach [] X.env := by rfl) (hplain : (backTo p (starEach [] X.env)).any (·.1) = false := by rfl)
    (hs : swapsWith (.Call (.Attribute (.Name x q) "append" apos) [e] [] p) none pos.line X.env = pure false := by rfl) :
    ES X c E (.Expr (.Call (.Attribute (.Name x q) "append" apos) [e] [] p) pos) (sApp i f) :=
  PS.imp (ps_expr (pe_bm PySem.F.plainAttrs_list PySem.F.slot_list_append PySem.F.type_list_append mt_append (pe_var (i := i) hN hv hd hcd) (pa_cons ha pa_nil hs1) hbase hfew hline hs1 hplain) hs) fun Dn σ H q => by
    obtain ⟨K, F0, F, env, φ, S, p⟩ := q
    unfold sApp at p
    cases hs0 : ownL env i with
    | none => rw [hs0] at p; exact p.elim
    | some ds =>
      have hslot := ownL_get hs0
      obtain ⟨v, h1, h2, h3⟩ := S.sl i _ hslot
      obtain ⟨a, vs, fq, rfl, hφ, ha', hl⟩ := RepL.of_own h2
      refine ⟨.ref a, h1, .inl ⟨rfl, vs, .inl (.inl ha')⟩, true, K, F0, F, env, φ, S, ?_⟩
      cases z : f env with
      | ok d =>
        simp only [z, Res.bind, hs0] at p
        by_cases hc : noT d = true ∧ ds.length < bigL
        · rw [if_pos hc] at p
          intro v H' F' fp x r nd fr
          have S2 := S.ext x
          have ha2 := x.hh _ _ ha'
          refine ⟨a, vs, v, rfl, rfl, ha2, ?_, ?_⟩
          · have := bigL_line (Nat.le_of_lt hc.2)
            have e := hl.length
            have : sizeLine = 16777216 := sizeLine_eq
            unfold bigL at hc
            omega
          · have h3' := h3 rfl
            rw [noT, Bool.and_eq_true] at h3'
            have hl2 := hl.ext x
            have n1 := S.nd i
            rw [hφ, List.nodup_cons] at n1
            refine p σ _ F' _ (S2.relist (a := a) (fq := fq) (fr := fq ++ fp) (vs := vs ++ [v]) h1 hφ ?_ ?_ ?_ ?_)
            · have := hl2.append (RepL.cons r .nil)
              simpa using this
            · refine List.nodup_append.mpr ⟨n1.2, nd, fun b m b2 m2 z => ?_⟩
              subst z
              exact (S.apart (fr b m2).1).2 i (by rw [hφ]; exact List.mem_cons_of_mem _ m)
            · intro b m
              rcases List.mem_append.mp m with m | m
              · exact .inl m
              · exact .inr ⟨(fr b m).2, (S.apart (fr b m).1).1, (S.apart (fr b m).1).2⟩
            · rw [noTL_append, h3'.2, noTL, hc.1]
              rfl
        · rw [if_neg hc] at p
          exact p.elim
      | exc y => simp only [z, Res.bind, hs0] at p; exact fun cl dd H' s w => p cl dd H' (S.kk.trans s) (c.mono (S.kk) w)
      | stuck => simp only [z, Res.bind, hs0] at p; exact p
theorem noTL_set : ∀ (ds : List D) (j : Nat) (d : D), noTL ds = true → noT d = true → noTL (ds.set j d) = true
  | [], _, _, _, _ => rfl
  | e :: ds, 0, d, h, hd => by
    rw [noTL, Bool.and_eq_true] at h
    rw [List.set_cons_zero, noTL, hd, h.2]
    rfl
  | e :: ds, j + 1, d, h, hd => by
    rw [noTL, Bool.and_eq_true] at h
    rw [List.set_cons_succ, noTL, h.1, noTL_set ds j d h.2 hd]
    rfl
theorem RepL.set {M : PySem.W.Frag} {κ : Kap M} {F H : Hp} : ∀ {ds : List D} {vs : List V} {fp : List Addr} {d : D} {v : V} {fd : List Addr} (j : Nat), j < ds.length → RepL κ F H ds vs fp → Rep κ F H d v fd → fp.Nodup → fd.Nodup → (∀ a ∈ fd, a ∉ fp) →
    ∃ fr, RepL κ F H (ds.set j d) (vs.set j v) fr ∧ fr.Nodup ∧ ∀ a ∈ fr, a ∈ fp ∨ a ∈ fd
  | _, _, _, d, v, fd, 0, _, .cons (fp := fa) (fq := fb) r t, rd, n1, n2, dj => by
    have n := List.nodup_append.mp n1
    refine ⟨fd ++ fb, .cons rd t, List.nodup_append.mpr ⟨n2, n.2.1, fun a m b m2 z => ?_⟩, fun a m => ?_⟩
    · subst z
      exact dj a m (List.mem_append_right _ m2)
    · rcases List.mem_append.mp m with m | m
      · exact .inr m
      · exact .inl (List.mem_append_right _ m)
  | _, _, _, d, v, fd, j + 1, hj, .cons (fp := fa) (fq := fb) r t, rd, n1, n2, dj => by
    have n := List.nodup_append.mp n1
    obtain ⟨fr, h1, h2, h3⟩ := RepL.set j (by simpa using hj) t rd n.2.1 n2 (fun a m m2 => dj a m (List.mem_append_right _ m2))
    refine ⟨fa ++ fr, .cons r h1, List.nodup_append.mpr ⟨n.1, h2, fun a m b m2 z => ?_⟩, fun a m => ?_⟩
    · subst z
      rcases h3 a m2 with h | h
      · exact n.2.2 a m a h rfl
      · exact dj a h (List.mem_append_left _ m)
    · rcases List.mem_append.mp m with m | m
      · exact .inl (List.mem_append_left _ m)
      · rcases h3 a m with h | h
        · exact .inl (List.mem_append_right _ h)
        · exact .inr h
def PostK {M : PySem.W.Frag} (c : Cfg M) (E : XK) (σ : L2.St) (K F0 : Hp) (r : SR) (Dn : Ends) : Prop := match r with
  | .ok (.nx, env) => ∀ H F φ, SE true c.κ K F0 F env φ σ H → Dn.nx σ H
  | .ok (.bk, env) => ∀ H F φ, SE true c.κ K F0 F env φ σ H → Dn.bk σ H
  | .ok (.ct, env) => ∀ H F φ, SE true c.κ K F0 F env φ σ H → Dn.ct σ H
  | .ok (.rt d, _) => ∀ v H F fp, RetOk c.κ K F0 F H d v fp → Dn.rt v H
  | .exc x => ∀ cl dd H, Sm K H → c.xr K x cl dd H → E cl dd H
  | .stuck => False
def TSk {M : PySem.W.Frag} (c : Cfg M) (E : XK) (g : Env → SR) : TS := fun Dn σ H => ∃ K F0 F env φ, SE true c.κ K F0 F env φ σ H ∧ PostK c E σ K F0 (g env) Dn
def ESk (X : Cx) (c : Cfg X.K) (E : XK) (st : Stmt) (g : Env → SR) : Prop := PS X st (TSk c E g)
theorem PostS.toK {M : PySem.W.Frag} {c : Cfg M} {E : XK} {K F0 : Hp} {r : SR} {Dn : Ends} (σ : L2.St) (p : PostS c E K F0 r Dn) : PostK c E σ K F0 r Dn := by
  cases r with
  | ok r =>
    obtain ⟨fl, env⟩ := r
    cases fl with
    | nx => exact fun H F φ S => p σ H F φ S
    | bk => exact fun H F φ S => p σ H F φ S
    | ct => exact fun H F φ S => p σ H F φ S
    | rt d => exact p
  | exc x => exact p
  | stuck => exact p
theorem ESk.toES {X : Cx} {c : Cfg X.K} {E : XK} {st : Stmt} {g : Env → SR} (h : ESk X c E st g) : ES X c E st g := PS.imp h fun Dn σ H q => by
  obtain ⟨K, F0, F, env, φ, S, p⟩ := q
  exact ⟨K, F0, F, env, φ, S, p.toK σ⟩
end
structure Cal (P : Program) (w : World) (K : PySem.W.Frag) (mg : Str → Option Value) (base : Heap) (c : Cfg K) (x : Str) (k n : Nat) (Φ : List D → Res D) (dd : List D) : Prop where
  ex : ∃ (f : Addr) (fd : FuncData) (ps : List Str) (dvs : List V) (ds : List Value), FnOk P w K mg base (L2.CX P w) k f fd ps (SpD c n (lenIs n Φ)) ∧ mg x = some (.ref f) ∧ PySem.W.keepIn K (.ref f) = true ∧ Binds K fd ps ds ∧ Vals dvs ds ∧ ∀ F H, RepL c.κ F H dd dvs []
section
variable {X : Cx} {c : Cfg X.K} {E : XK} {e a b : Expr} {es : List Expr} {pos p : Pos} {fs : Env → Res (List D)} {k n : Nat} {Φ : List D → Res D} {x : Str} {dd : List D}
theorem ev_callC (C : Cal X.prog X.w X.K X.mg X.base c x k n Φ dd) (hr : Room k X.A) (hg : Gl X x) (hx : Passes (L2.CX X.prog X.w) X E)
    (ha : EL X c E (e :: es) fs) (hdb : (x == ("__debug__" : Str)) = false := by decide) (he : starEach (e :: es) X.env = (false, eval e X.env) :: starEach es X.env := by rfl) (hpl : (backTo pos (starEach es X.env)).any (·.1) = false := by rfl) :
    EV X c E (.Call (.Name x p) (e :: es) [] pos) (eCall (lenIs n Φ) dd fs) := by
  obtain ⟨f, fd, ps, dvs, ds, F, hm, hk, hb, hd, hr'⟩ := C.ex
  exact PE.imp (pe_call F hr hg hm hk hb hd hx ha hdb he hpl) fun σ H Q q => glueCall (dd := dd) (dvs := dvs) hr' (fun ds vs h => len_or ds vs (hr' (fun _ => none) (fun _ => none)).length h) q
end
section
variable {P : Program} {w : World} {K : PySem.W.Frag} {mg : Str → Option Value} {base : Heap}
theorem fnd_ok {x qual : Str} {st : Stmt} {f : Addr} {fd : FuncData} {N ps : List Str} {k : Nat} {c : Cfg K} {g : Env → SR} {dvs : List V} {kws : List (Str × V)} (F : FunD K x qual (defArgs st) (defBody st) (defScope st) dvs kws f fd) (S : FnScope N ps (defScope st))
    (hb : ∀ (cdv : Value) (A : Around) (outer : List PySem.Env) (s : Shared) (H : Hp) (E : XK), Room k (A.deeper (envOfC qual (defScope st) s.heap.objs.size f cdv)) → EB (cxOf (L2.CX P w) P w K mg base N qual (defScope st) f cdv A outer s H E) c E (defBody st) g) :
    FnOk P w K mg base (L2.CX P w) (k + 1) f fd ps (SpD c ps.length (runF N.length g)) := by
  refine F.ok S (fun vs H Q E h => ?_) (fun cdv A outer s H vs Q E hr h => ?_)
  · obtain ⟨_, _, ds, _, _, r, _, hl, _⟩ := h
    rw [← r.length, hl]
  · obtain ⟨Kh, F0, ds, kk, fh, r, nt, hl, p⟩ := h
    refine ⟨_, hb cdv A outer s H E hr, Kh, F0, F0, _, _, se_start kk fh.1 fh.2.1 r nt, ?_⟩
    unfold runF at p
    cases z : g (ds.map some ++ List.replicate (N.length - ds.length) none) with
    | ok r =>
      obtain ⟨fl, env'⟩ := r
      rw [z] at p
      cases fl with
      | nx => exact fun σ' H' F' φ' T => p .non H' F' [] ⟨T.kk, T.f0, T.fh, T.gr, .non, .nil, by simp, rfl⟩
      | bk => exact p.elim
      | ct => exact p.elim
      | rt d => exact p
    | exc y => rw [z] at p; exact p
    | stuck => rw [z] at p; exact p
theorem cal_mk {x qual : Str} {st : Stmt} {f : Addr} {fd : FuncData} {ps : List Str} {k : Nat} {c : Cfg K} {Φ : List D → Res D} (F : FunD K x qual (defArgs st) (defBody st) (defScope st) [] [] f fd) (hm : mg x = some (.ref f))
    (ok : FnOk P w K mg base (L2.CX P w) k f fd ps (SpD c ps.length Φ)) (hb : ∀ (kV doc pm : Value) (an : Option Addr) (cdv ct : Value) (us : List Value), us.length = ps.length → bindArgs (PySem.W.fnOf x qual (defArgs st) (defBody st) (defScope st) .none kV doc pm an cdv ct) ⟨us, []⟩ = pure (ps.zip us)) :
    Cal P w K mg base c x k ps.length Φ [] := ⟨f, fd, ps, [], [], FnOk.len ok, hm, F.kp, F.bindsN hb, .nil, fun _ _ => .nil⟩
def scriptD (ns : List Int) : D := .lst .frz (ns.map D.int)
theorem repL_ints {M : PySem.W.Frag} {κ : Kap M} {F H : Hp} : ∀ ns : List Int, RepL κ F H (ns.map D.int) (ns.map V.int) []
  | [] => .nil
  | n :: ns => .cons (fp := []) (fq := []) (.int n) (repL_ints ns)
theorem noTL_ints : ∀ ns : List Int, noTL (ns.map D.int) = true
  | [] => rfl
  | n :: ns => by rw [List.map_cons, noTL, noTL_ints ns]; rfl
def marks (tb : List (Addr × Str)) : Hp := fun a => (tb.lookup a).map markT
theorem marks_mem {tb : List (Addr × Str)} (n : (tb.map (·.1)).Nodup) : ∀ p ∈ tb, marks tb p.1 = some (markT p.2) := by
  induction tb with
  | nil => intro p hp; cases hp
  | cons q r ih =>
    intro p hp
    rw [List.map_cons, List.nodup_cons] at n
    rcases List.mem_cons.mp hp with rfl | hp
    · unfold marks; simp [List.lookup]
    · have : (p.1 == q.1) = false := by
        rw [beq_eq_false_iff_ne]
        intro e
        exact n.1 (List.mem_map.mpr ⟨p, hp, e⟩)
      have e := ih n.2 p hp
      unfold marks at e ⊢
      rw [List.lookup, this]
      exact e
theorem mem_look {a : Addr} {q : Str} : ∀ {l : List (Addr × Str)}, l.lookup a = some q → (a, q) ∈ l
  | [], h => by cases h
  | (b, u) :: r, h => by
    rw [List.lookup] at h
    split at h
    · rename_i e
      cases h
      rw [eq_of_beq e]
      exact List.mem_cons_self
    · exact List.mem_cons_of_mem _ (mem_look h)
theorem marks_of {tb : List (Addr × Str)} {a : Addr} {o : HO} (h : marks tb a = some o) : ∃ q, (a, q) ∈ tb ∧ o = markT q := by
  unfold marks at h
  cases e : tb.lookup a with
  | none => rw [e] at h; cases h
  | some q => rw [e] at h; cases h; exact ⟨q, mem_look e, rfl⟩
theorem noPL_intsD (ns : List Int) : noPL (ns.map D.int) = true := by
  induction ns with
  | nil => rfl
  | cons n ns ih => rw [List.map_cons, noPL, ih]; rfl
theorem law_sp {c : Cfg K} {Φ : List D → Res D} (h : ∀ ns : List Int, ns.length ≤ 63 → Φ [scriptD ns] = .ok (.bl true)) (H : Hp) (a : Addr) (ns : List Int) (hl : ns.length ≤ 63) (hT : ∀ p ∈ c.κ.tb, LamX.TabS H p.1 p.2) (hN : (c.κ.tb.map (·.1)).Nodup) (hS : SqL K H a (ns.map V.int)) :
    SpD c 1 Φ [.ref a] H (fun v _ => v = .bl true) (fun _ _ _ => False) := by
  have fm : Sub (marks c.κ.tb) H := ⟨fun b o e n => by
    obtain ⟨q, _, rfl⟩ := marks_of e
    exact n.elim, fun b ps e => by
    obtain ⟨q, hq, e2⟩ := marks_of e
    cases e2
    exact ⟨q, 0, rfl, hT _ hq⟩⟩
  have r : Rep c.κ (seen (marks c.κ.tb) H) H (scriptD ns) (.ref a) [] := by
    rcases hS with (h | ⟨o, h⟩) | h
    · exact .ndF (seen_of fm h True.intro) (.inl rfl) rfl (repL_ints ns)
    · exact .ndF (seen_of fm h True.intro) (.inr ⟨rfl, o, rfl⟩) rfl (repL_ints ns)
    · exact .ndK h (repL_ints ns)
  refine ⟨H, seen (marks c.κ.tb) H, [scriptD ns], Sm.refl _, ⟨seen_sub fm, Mks.up ⟨marks_mem hN, fun a ps e => let ⟨q, hq, _⟩ := marks_of e; ⟨_, hq, rfl⟩⟩ sameT_seen, by unfold scriptD; rw [noPL, noP, noPL_intsD]; rfl⟩, .cons (fp := []) (fq := []) r .nil, by unfold scriptD; simp [noTL, noT, noTL_ints], rfl, ?_⟩
  rw [h ns hl]
  intro v H' F' fp R
  have := R.rep
  cases this
  rfl
theorem cx_false {P : Program} {w : World} (H : Hp) (s : Shared) (e : Value) (s' : Shared) (h : L2.CX P w [] H s (fun _ _ _ => False) e s') : False := by
  obtain ⟨_, _, _, _, _, _, _, _, _, _, _, _, z⟩ := h
  exact z.elim
end
theorem walkW {l : PySem.W.OpenLaw} {n k : Nat} {q : Program} {loose : List Str} {XP : (Str → Option Value) → Heap → Prop} {YP : World → Heap → Prop} {d : DefRec} {x : Str}
    (e1 : l.most = some n) (e2 : n ≤ sizeLine) (e3 : d.params.defaults = []) (e4 : Room k callerA)
    (G : ∀ (w : World) (mg : Str → Option Value) (fa : Addr) (h : Heap), YP w h → h.Ns mainGlobals mg → mg d.name = some (.ref fa) → ∃ (K : PySem.W.Frag) (fd : FuncData) (cs : List (Addr × Addr)) (sp : Sp),
      (K.In h ∧ ∀ (s : Shared) (u : Value), BindsTo s fd ⟨[u], []⟩ [(x, u)]) ∧ ((∀ p ∈ cs, h.get? p.2 = some { cls := .none, data := .fields #[] }) ∧ (∀ p ∈ cs, K.lookup p.2 = none) ∧ (∀ p ∈ cs, PySem.W.CodeHd h p.1 p.2)) ∧
      (∀ (H : Hp) (a : Addr) (ns : List Int), ns.length ≤ n → (∀ p ∈ cs, H p.2 = some (.tbl #[])) → SqL K H a (ns.map V.int) → sp [.ref a] H (fun v _ => v = .bl true) fun _ _ _ => False) ∧
      ∀ base : Heap, K.In base → base.Ns mainGlobals mg → (∀ p ∈ cs, LamX.TabB base mg p.1 p.2) → FnOk l.prog w K mg base (L2.CX l.prog w) k fa fd [x] sp) :
    PySem.W.WalkO q loose XP YP l.row.toRowW d [] (fun f vs => PySem.call f vs) :=
  Att.attach_call e1 e3 fun w s t mg mb fa o pm cd doc a vs ns Z Y z1 z2 z3 z4 z5 z6 z7 z8 => by
    obtain ⟨K, fd, cs, sp, ⟨p1, p2⟩, ⟨t1, t2, t3⟩, p3, p4⟩ := G w mg fa _ Y Z.T.g z4
    exact LamX.law_callTs p1 Z.T.g Z.T.b Z.T.builtins Z.T.nolimit z8 t1 t2 t3 Z.T.bmain z5 z6 (Nat.le_trans z7 e2) e4 p4 p2 (fun H q1 q2 => p3 H a ns z7 q1 q2) fun H e s' q => cx_false H t e s' q
theorem hu64 {k : Nat} {A : Around} (hr : Room k A) : A.units + 64 < cLine := hr.units
def lNil : Env → Res (List D) := fun _ => .ok []
def lCons (f : Env → Res D) (fs : Env → Res (List D)) : Env → Res (List D) := fun env => (f env).bind fun d => (fs env).bind fun ds => .ok (d :: ds)
def dIn0 (x y : D) : Res D := (dIn x y).bind fun b => .ok (.bl (if true = true then !b else b))
def dNot : D → Res D
  | .bl b => .ok (.bl (!b))
  | _ => .stuck
def freezeE (i : Nat) (env : Env) : Env := match env[i]? with
  | some (some d) => env.set i (some (fz d))
  | _ => env
def sFrz (i : Nat) (g : Env → SR) : Env → SR := fun env => g (freezeE i env)
section
variable {X : Cx} {c : Cfg X.K} {E : XK} {e a b : Expr} {f g : Env → Res D} {pos p : Pos} {es : List Expr} {fs : Env → Res (List D)}
theorem l_nil : EL X c E [] lNil := el_nil
theorem l_cons (ha : EV X c E e f) (hb : EL X c E es fs) (hs : starEach (e :: es) X.env = (false, eval e X.env) :: starEach es X.env := by rfl) : EL X c E (e :: es) (lCons f fs) := el_cons ha hb hs
theorem et_in0 (ha : EV X c E a f) (hb : EV X c E b g) (hm : behindInMarks .NotIn b = false := by rfl) : ET X c E (.Compare a [.NotIn] [b] pos) (PV.eB (e2 dIn0 f g)) := et_notIn ha hb hm
theorem ev_gS {x s : Str} (hg : Gl X x) (hm : ∃ t, X.mg x = some (.str s t)) (hd : (x == ("__debug__" : Str)) = false := by decide) : EV X c E (.Name x pos) (eC (.str s)) := by
  obtain ⟨t, h⟩ := hm
  exact ev_globS hg h ⟨t, rfl⟩ hd
theorem ev_not (ha : EV X c E a f) : EV X c E (.UnaryOp .Not a pos) (e1 dNot f) := PE.imp (pe_not ha) fun σ H Q q => glue1 q fun F H1 d v fp fh r nd fr p => by
  cases d with
  | bl b => cases r; exact ⟨b, rfl, PostV.bl p fh⟩
  | _ => exact p.elim
theorem es_frz {st : Stmt} {g : Env → SR} (i : Nat) (h : ES X c E st g) : ES X c E st (sFrz i g) := PS.imp h fun Dn σ H q => by
  obtain ⟨K, F0, F, env, φ, S, p⟩ := q
  unfold sFrz freezeE at p
  split at p
  · rename_i d hd
    have S2 := S.freeze i d hd
    refine ⟨K, _, _, _, _, S2.self, ?_⟩
    exact PostS.base S2 p
  · exact ⟨K, F0, F, env, φ, S, p⟩
end
section
variable {α β : Type}
@[simp] theorem rb_ok {a : α} {f : α → Res β} : (Res.ok a).bind f = f a := rfl
@[simp] theorem rb_exc {x : Exn} {f : α → Res β} : (Res.exc x).bind f = .exc x := rfl
@[simp] theorem rb_stuck {f : α → Res β} : (Res.stuck).bind f = .stuck := rfl
@[simp] theorem ofO_some {a : α} : ofO (some a) = .ok a := rfl
end
section
variable {f g h : Env → Res D} {fs : Env → Res (List D)} {p q : Env → Res Bool} {u v : Env → SR} {env : Env} {i : Nat} {d : D} {k : D → Res D} {kk : D → D → Res D}
@[simp] theorem sSeq_e : sSeq u v env = (u env).bind fun r => match r.1 with
  | .nx => v r.2
  | _ => .ok r := rfl
@[simp] theorem sIf_e : sIf p u v env = (p env).bind fun b => if b = true then u env else v env := rfl
@[simp] theorem sNil_e : sNil env = .ok (.nx, env) := rfl
@[simp] theorem sRet_e : sRet f env = (f env).bind fun d => if noT d = true then .ok (.rt d, env) else .stuck := rfl
@[simp] theorem sRetV_e : sRetV i env = match env[i]? with
  | some (some d) => .ok (.rt d, env)
  | _ => .stuck := rfl
@[simp] theorem sDrop_e : sDrop f env = (f env).bind fun _ => .ok (.nx, env) := rfl
@[simp] theorem sSet_e : sSet i f env = (f env).bind fun d => store i d env := rfl
@[simp] theorem store_e : store i d env = if noT d = true then .ok (.nx, env.set i (some d)) else .stuck := rfl
@[simp] theorem put1_e : put1 i d env = if noT d = true then .ok (env.set i (some d)) else .stuck := rfl
@[simp] theorem putb_e : putb i d env = .ok (env.set i (some d)) := rfl
@[simp] theorem putN_e : putN [] env = .ok env := rfl
@[simp] theorem putD_e {s : TgF} {t : TgFs} {ds : List D} : putD s t (d :: ds) env = (s d env).bind fun env' => t ds env' := rfl
@[simp] theorem putT_e {n : Nat} {t : TgFs} {ds : List D} : putT n t (.tup ds) env = if ds.length = n then t ds env else .stuck := rfl
@[simp] theorem putT_l {n : Nat} {t : TgFs} {x : Tag} {ds : List D} : putT n t (.nd x .lst ds) env = if ds.length = n then t ds env else .stuck := rfl
@[simp] theorem sFrz_e : sFrz i u env = u (freezeE i env) := rfl
@[simp] theorem freezeE_e : freezeE i env = match env[i]? with
  | some (some d) => env.set i (some (fz d))
  | _ => env := rfl
@[simp] theorem sFor_e {it : Env → Res (List D × Env)} {s : TgF} {fg : List Nat} : sFor it s u fg env = (it env).bind fun p => forL s u fg p.1 (forget fg p.2) := rfl
@[simp] theorem yLift_e {y : Env → Res (List D)} : yLift y env = (y env).bind fun xs => .ok (xs, env) := rfl
@[simp] theorem yVal_e {b : Bool} : yVal b f env = (f env).bind (itemsOf b) := rfl
@[simp] theorem yL_e {y : List D → Res (List D)} : yL y fs env = (fs env).bind y := rfl
@[simp] theorem forget_nil : forget [] env = env := rfl
@[simp] theorem forget_cons {is : List Nat} : forget (i :: is) env = forget is (env.set i none) := rfl
@[simp] theorem wipeE_nil : wipeE [] env = env := rfl
@[simp] theorem wipeE_cons {is : List Nat} : wipeE (i :: is) env = (wipeE is env).set i none := rfl
@[simp] theorem sApp_e : sApp i f env = match ownL env i with
  | some ds => (f env).bind fun d => if noT d = true ∧ ds.length < bigL then .ok (.nx, env.set i (some (.lst .own (ds ++ [d])))) else .stuck
  | none => .stuck := rfl
@[simp] theorem ownL_e : ownL env i = match env[i]? with
  | some (some (.nd .own .lst ds)) => some ds
  | _ => none := rfl
@[simp] theorem eVar_e : eVar i env = match env[i]? with
  | some (some d) => .ok (rd d)
  | _ => .stuck := rfl
@[simp] theorem eC_e : eC d env = .ok d := rfl
@[simp] theorem e2_e : e2 kk f g env = (f env).bind fun x => (g env).bind fun y => kk x y := rfl
@[simp] theorem e1_e : e1 k f env = (f env).bind k := rfl
@[simp] theorem eCl_e {kl : List D → Res D} : eC_ kl fs env = (fs env).bind kl := rfl
@[simp] theorem lNil_e : lNil env = .ok [] := rfl
@[simp] theorem lCons_e : lCons f fs env = (f env).bind fun d => (fs env).bind fun ds => .ok (d :: ds) := rfl
@[simp] theorem eTup_e : eTup fs env = (fs env).bind fun ds => if ds.length ≤ bigL then .ok (.tup ds) else .stuck := rfl
@[simp] theorem eLst_e : eLst fs env = (fs env).bind fun ds => if ds.length ≤ bigL then .ok (.lst .own ds) else .stuck := rfl
@[simp] theorem eIf_e : eIf p f g env = (p env).bind fun b => if b = true then f env else g env := rfl
@[simp] theorem eAnd_e : eAnd f g env = (f env).bind fun d => (asB d).bind fun b => if b = true then g env else .ok (.bl false) := rfl
@[simp] theorem asB_bl {b : Bool} : asB (.bl b) = .ok b := rfl
@[simp] theorem eB_e : eB f env = (f env).bind asB := rfl
@[simp] theorem eT_e : eT f env = (f env).bind tru := rfl
@[simp] theorem tru_bl {b : Bool} : tru (.bl b) = .ok b := rfl
@[simp] theorem tru_int {n : Int} : tru (.int n) = .ok (n != 0) := rfl
@[simp] theorem tru_non : tru .non = .ok false := rfl
@[simp] theorem tru_lst {t : Tag} {ds : List D} : tru (.nd t .lst ds) = .ok (!ds.isEmpty) := rfl
@[simp] theorem bAnd_e : bAnd p q env = (p env).bind fun b => if b = true then q env else .ok false := rfl
@[simp] theorem bOr_e : bOr p q env = (p env).bind fun b => if b = true then .ok true else q env := rfl
@[simp] theorem bNot_e : bNot p env = (p env).bind fun b => .ok (!b) := rfl
@[simp] theorem bYes_e : bYes env = .ok true := rfl
@[simp] theorem eChain_e {k1 k2 : D → D → Res D} : eChain k1 k2 f g h env = (f env).bind fun x => (g env).bind fun y => (k1 x y).bind fun z => (asB z).bind fun b => if b = true then (h env).bind fun w => k2 y w else .ok (.bl false) := rfl
@[simp] theorem oNo_e : oNo env = .ok none := rfl
@[simp] theorem oSome_e : oSome f env = (f env).bind oInt := rfl
@[simp] theorem oInt_e {n : Int} : oInt (.int n) = .ok (some n) := rfl
@[simp] theorem eSl_e {l m : Env → Res (Option Int)} : eSl f l m env = (f env).bind fun d => (l env).bind fun lo => (m env).bind fun hi => dSl d lo hi := rfl
@[simp] theorem eLc_e {it : Env → Res (List D)} {s : TgF} {vs : List Nat} : eLc it s p f vs env = (it env).bind fun items => (lcL s p f (wipeE vs env) items).bind fun ys => if ys.length ≤ bigL then .ok (.lst .own ys) else .stuck := rfl
@[simp] theorem eCall_e {Φ : List D → Res D} {dd : List D} : eCall Φ dd fs env = (fs env).bind fun ds => callD Φ (ds ++ dd) := rfl
@[simp] theorem callD_e {Φ : List D → Res D} {ds : List D} : callD Φ ds = if noTL ds = true then Φ (fzL ds) else (Φ (faL ds)).bind fun d => if imO d = true then .ok d else .stuck := rfl
@[simp] theorem lenIs_e {n : Nat} {Φ : List D → Res D} {ds : List D} : lenIs n Φ ds = if ds.length = n then Φ ds else .stuck := rfl
@[simp] theorem rd_non : rd .non = .non := rfl
@[simp] theorem rd_bl {b : Bool} : rd (.bl b) = .bl b := rfl
@[simp] theorem rd_int {n : Int} : rd (.int n) = .int n := rfl
@[simp] theorem rd_str {s : Str} : rd (.str s) = .str s := rfl
@[simp] theorem rd_tup {ds : List D} : rd (.tup ds) = .tup (rdL ds) := by rw [rd]
@[simp] theorem rd_own {k : Kind} {ds : List D} : rd (.nd .own k ds) = .nd .tmp k (rdL ds) := by rw [rd]; rfl
@[simp] theorem rd_frz {k : Kind} {ds : List D} : rd (.nd .frz k ds) = .nd .frz k (rdL ds) := by rw [rd]; rfl
@[simp] theorem rd_tmp {k : Kind} {ds : List D} : rd (.nd .tmp k ds) = .nd .tmp k (rdL ds) := by rw [rd]; rfl
@[simp] theorem rdL_nil : rdL [] = [] := rfl
@[simp] theorem rdL_cons {ds : List D} : rdL (d :: ds) = rd d :: rdL ds := by rw [rdL]
@[simp] theorem fz_non : fz .non = .non := rfl
@[simp] theorem fz_bl {b : Bool} : fz (.bl b) = .bl b := rfl
@[simp] theorem fz_int {n : Int} : fz (.int n) = .int n := rfl
@[simp] theorem fz_str {s : Str} : fz (.str s) = .str s := rfl
@[simp] theorem fz_tup {ds : List D} : fz (.tup ds) = .tup (fzL ds) := by rw [fz]
@[simp] theorem fz_own {k : Kind} {ds : List D} : fz (.nd .own k ds) = .nd .frz k (fzL ds) := by rw [fz]; rfl
@[simp] theorem fz_frz {k : Kind} {ds : List D} : fz (.nd .frz k ds) = .nd .frz k (fzL ds) := by rw [fz]; rfl
@[simp] theorem fz_tmp {k : Kind} {ds : List D} : fz (.nd .tmp k ds) = .nd .tmp k (fzL ds) := by rw [fz]; rfl
@[simp] theorem fzL_nil : fzL [] = [] := rfl
@[simp] theorem fzL_cons {ds : List D} : fzL (d :: ds) = fz d :: fzL ds := by rw [fzL]
@[simp] theorem noT_non : noT .non = true := rfl
@[simp] theorem noT_bl {b : Bool} : noT (.bl b) = true := rfl
@[simp] theorem noT_int {n : Int} : noT (.int n) = true := rfl
@[simp] theorem noT_str {s : Str} : noT (.str s) = true := rfl
@[simp] theorem noT_tup {ds : List D} : noT (.tup ds) = noTL ds := by rw [noT]
@[simp] theorem noT_own {k : Kind} {ds : List D} : noT (.nd .own k ds) = noTL ds := by rw [noT]; rfl
@[simp] theorem noT_frz {k : Kind} {ds : List D} : noT (.nd .frz k ds) = noTL ds := by rw [noT]; rfl
@[simp] theorem noT_tmp {k : Kind} {ds : List D} : noT (.nd .tmp k ds) = false := by rw [noT]; rfl
@[simp] theorem noTL_nil : noTL [] = true := rfl
@[simp] theorem noTL_cons {ds : List D} : noTL (d :: ds) = (noT d && noTL ds) := by rw [noTL]
variable {a b : Int} {s t : Str}
@[simp] theorem dI_e {k : Int → Int → Res D} : dI k (.int a) (.int b) = k a b := rfl
@[simp] theorem dAdd_int : dAdd (.int a) (.int b) = .ok (.int (a + b)) := rfl
@[simp] theorem dAdd_str : dAdd (.str s) (.str t) = if s.length + t.length ≤ bigL then .ok (.str (s ++ t)) else .stuck := rfl
@[simp] theorem dAdd_lst {x y : Tag} {xs ys : List D} : dAdd (.nd x .lst xs) (.nd y .lst ys) = if xs.length + ys.length ≤ bigL then .ok (.lst .own (rdL (xs ++ ys))) else .stuck := rfl
@[simp] theorem dMul_int : dMul (.int a) (.int b) = if OkMul a b then .ok (.int (a * b)) else .stuck := rfl
@[simp] theorem OkDiv_lit {n : Nat} (h : 0 < n) (h2 : n < 1073741824) : OkDiv a (no_index (OfNat.ofNat n : Int)) := ⟨by exact Int.natCast_pos.mpr h, h2⟩
@[simp] theorem OkPow_lit {m n : Nat} (h : n ≤ 1000000) (h2 : m < 18446744073709551616) : OkPow (no_index (OfNat.ofNat m : Int)) (no_index (OfNat.ofNat n : Int)) := ⟨Int.natCast_nonneg n, h, h2⟩
@[simp] theorem OkMul_litR {n : Nat} (h : n < 18446744073709551616) : OkMul a (no_index (OfNat.ofNat n : Int)) := .inr h
@[simp] theorem OkMul_litL {n : Nat} (h : n < 18446744073709551616) : OkMul (no_index (OfNat.ofNat n : Int)) a := .inl h
theorem OkMul_l (h : a.natAbs < 18446744073709551616) : OkMul a b := .inl h
theorem OkMul_r (h : b.natAbs < 18446744073709551616) : OkMul a b := .inr h
@[simp] theorem bigL_e : bigL = 1000000 := rfl
@[simp] theorem dLen_str : dLen [.str s] = if s.length ≤ bigL then .ok (.int s.length) else .stuck := rfl
@[simp] theorem dLen_tup {ds : List D} : dLen [.tup ds] = .ok (.int ds.length) := rfl
@[simp] theorem dLen_lst {x : Tag} {ds : List D} : dLen [.nd x .lst ds] = .ok (.int ds.length) := rfl
@[simp] theorem dNot_bl {b : Bool} : dNot (.bl b) = .ok (.bl (!b)) := rfl
@[simp] theorem dNeg_int : dNeg (.int a) = .ok (.int (-a)) := rfl
@[simp] theorem dEq_int : dEq (.int a) (.int b) = .ok (.bl (a == b)) := rfl
@[simp] theorem dNe_int : dNe (.int a) (.int b) = .ok (.bl (!(a == b))) := rfl
@[simp] theorem dEq_str : dEq (.str s) (.str t) = .ok (.bl (s == t)) := rfl
@[simp] theorem dNe_str : dNe (.str s) (.str t) = .ok (.bl (!(s == t))) := rfl
@[simp] theorem dEq_bl {a b : Bool} : dEq (.bl a) (.bl b) = .ok (.bl (a == b)) := rfl
@[simp] theorem dNe_bl {a b : Bool} : dNe (.bl a) (.bl b) = .ok (.bl (!(a == b))) := rfl
@[simp] theorem dNotN_e : dNotN d = match d with
  | .pin _ _ => .stuck
  | .pack _ _ => .stuck
  | .non => .ok (.bl false)
  | _ => .ok (.bl true) := by cases d <;> rfl
@[simp] theorem dIn0_one {k : Nat} : dIn0 (.str ⟨#[k]⟩) (.str t) = .ok (.bl (!decide (k ∈ t.cps.toList))) := by
  show (Res.ok (D.bl (!(!(Builtin.Str.occurrences t ⟨#[k]⟩ 0 t.length 1).isEmpty)))) = _
  rw [PySem.StrLaws.found_one]
theorem dIn0_lst {x : Tag} {ys : List D} (h1 : flatD d = true) (h2 : ys.all flatD = true) : dIn0 d (.nd x .lst ys) = .ok (.bl (!inL d ys)) := by
  unfold dIn0 dIn
  cases d <;> simp_all [flatD]
@[simp] theorem dIx_lst {x : Tag} {xs : List D} : dIx (.nd x .lst xs) (.int a) = (ofO (atI xs a)).bind fun d => .ok (rd d) := rfl
@[simp] theorem dIx_tup {xs : List D} : dIx (.tup xs) (.int a) = (ofO (atI xs a)).bind fun d => .ok (rd d) := rfl
@[simp] theorem dIx_str : dIx (.str s) (.int a) = if s.length ≤ bigL then (ofO (atI s.cps.toList a)).bind fun k => .ok (.str ⟨#[k]⟩) else .stuck := rfl
@[simp] theorem dSl_lst {x : Tag} {xs : List D} {lo hi : Option Int} : dSl (.nd x .lst xs) lo hi = .ok (.lst .own (rdL (cutL xs lo hi))) := rfl
@[simp] theorem dSl_str {lo hi : Option Int} : dSl (.str s) lo hi = if s.length ≤ bigL then .ok (.str (cutS s lo hi)) else .stuck := rfl
@[simp] theorem dInt_int : dInt [.int a] = .ok (.int a) := rfl
@[simp] theorem dInt_bl {b : Bool} : dInt [.bl b] = .ok (.int (if b then 1 else 0)) := rfl
@[simp] theorem dMax_2 : dMax [.int a, .int b] = .ok (.int (max a b)) := rfl
@[simp] theorem rng1_e : rng1 [.int a] = if R62 a then .ok (rngD 0 a.toNat) else .stuck := rfl
theorem R62_of (h : a.natAbs ≤ 1000000000) : R62 a := by unfold R62; omega
@[simp] theorem R62_lit {n : Nat} (h : n < 4611686018427387904) : R62 (no_index (OfNat.ofNat n : Int)) := h
@[simp] theorem R62_0 : R62 0 := by unfold R62; decide
@[simp] theorem R62_1 : R62 1 := by unfold R62; decide
@[simp] theorem R62_m1 : R62 (-1) := by unfold R62; decide
@[simp] theorem rng2_e : rng2 [.int a, .int b] = if R62 a ∧ R62 b then .ok (rngD a (b - a).toNat) else .stuck := rfl
@[simp] theorem itemsOf_tmp {ds : List D} : itemsOf false (.nd .tmp .lst ds) = .ok (rdL ds) := rfl
@[simp] theorem itemsOf_lstF {x : Tag} {ds : List D} : itemsOf false (.nd x .lst ds) = .ok (rdL ds) := rfl
@[simp] theorem itemsOf_lstT {x : Tag} {ds : List D} : itemsOf true (.nd x .lst ds) = if noT (.nd x .lst ds) = true then .ok (fzL ds) else .stuck := rfl
@[simp] theorem itemsOf_str {b : Bool} : itemsOf b (.str s) = .ok (s.cps.toList.map fun k => .str ⟨#[k]⟩) := rfl
@[simp] theorem runF_e {N : Nat} {u : Env → SR} {ds : List D} : runF N u ds = match u (ds.map some ++ List.replicate (N - ds.length) none) with
  | .ok (.rt d, _) => .ok d
  | .ok (.nx, _) => .ok .non
  | .exc x => .exc x
  | _ => .stuck := rfl
end
section
variable {s : TgF} {u : Env → SR} {fg : List Nat} {env : Env}
@[simp] theorem forL_nil : forL s u fg [] env = .ok (.nx, env) := rfl
end
@[simp] theorem len_one (k : Nat) : (⟨#[k]⟩ : Str).length = 1 := rfl
section
variable {α : Type} {xs : List α} {ei g : α → D} {as bs : List D}
theorem rdL_eq : ∀ as : List D, rdL as = as.map rd
  | [] => rfl
  | a :: as => by rw [rdL_cons, rdL_eq as, List.map_cons]
theorem fzL_eq : ∀ as : List D, fzL as = as.map fz
  | [] => rfl
  | a :: as => by rw [fzL_cons, fzL_eq as, List.map_cons]
theorem noTL_eq : ∀ as : List D, noTL as = as.all noT
  | [] => rfl
  | a :: as => by rw [noTL_cons, noTL_eq as, List.all_cons]
@[simp] theorem rdL_map : rdL (xs.map ei) = xs.map fun x => rd (ei x) := by rw [rdL_eq, List.map_map]; rfl
@[simp] theorem fzL_map : fzL (xs.map ei) = xs.map fun x => fz (ei x) := by rw [fzL_eq, List.map_map]; rfl
@[simp] theorem noTL_map : noTL (xs.map ei) = xs.all fun x => noT (ei x) := by rw [noTL_eq, List.all_map]; rfl
@[simp] theorem rdL_app : rdL (as ++ bs) = rdL as ++ rdL bs := by rw [rdL_eq, rdL_eq, rdL_eq, List.map_append]
@[simp] theorem fzL_app : fzL (as ++ bs) = fzL as ++ fzL bs := by rw [fzL_eq, fzL_eq, fzL_eq, List.map_append]
@[simp] theorem noTL_app : noTL (as ++ bs) = (noTL as && noTL bs) := by rw [noTL_eq, noTL_eq, noTL_eq, List.all_append]
@[simp] theorem rdL_len : (rdL as).length = as.length := by rw [rdL_eq, List.length_map]
@[simp] theorem fzL_len : (fzL as).length = as.length := by rw [fzL_eq, List.length_map]
@[simp high] theorem rdL_ints {zs : List Int} : rdL (zs.map D.int) = zs.map D.int := by rw [rdL_map]; rfl
@[simp high] theorem fzL_ints {zs : List Int} : fzL (zs.map D.int) = zs.map D.int := by rw [fzL_map]; rfl
end
def S (l : List Nat) : Str := ⟨l.toArray⟩
@[simp] theorem S_cps {l : List Nat} : (S l).cps.toList = l := rfl
@[simp] theorem S_len {l : List Nat} : (S l).length = l.length := by simp [S, Str.length]
@[simp] theorem S_app {a b : List Nat} : S a ++ S b = S (a ++ b) := by
  show (⟨a.toArray ++ b.toArray⟩ : Str) = _
  simp [S]
@[simp] theorem S_cut {l : List Nat} {lo hi : Option Int} : cutS (S l) lo hi = S (cutL l lo hi) := by
  unfold cutS cutL S
  simp [Str.length]
@[simp] theorem S_inj {a b : List Nat} : S a = S b ↔ a = b := by
  constructor
  · intro h
    have := congrArg (fun s : Str => s.cps.toList) h
    exact this
  · rintro rfl; rfl
section
variable {α : Type} {xs : List α} {a b : Int}
theorem cutL_to (h : 0 ≤ b) : cutL xs none (some b) = xs.take b.toNat := by
  unfold cutL HT.sIx
  simp only [if_neg (show ¬ b < 0 by omega), List.drop_zero, Nat.sub_zero]
  rw [List.take_eq_take_iff]
  omega
theorem cutL_from (h : 0 ≤ a) : cutL xs (some a) none = xs.drop a.toNat := by
  unfold cutL HT.sIx
  simp only [if_neg (show ¬ a < 0 by omega)]
  rw [List.take_of_length_le (by simp)]
  by_cases q : a.toNat ≤ xs.length
  · rw [Nat.min_eq_left q]
  · rw [List.drop_eq_nil_of_le (by omega), List.drop_eq_nil_of_le (by omega)]
end
theorem nodup_map {α β : Type} {f : α → β} {xs : List α} (h : ∀ a b, f a = f b → a = b) (n : xs.Nodup) : (xs.map f).Nodup := by
  unfold List.Nodup
  rw [List.pairwise_map]
  exact List.Pairwise.imp (fun q e => q (h _ _ e)) n
def isLet (k : Nat) : Prop := 97 ≤ k ∧ k ≤ 122
def NameL (l : List Nat) : Prop := 1 ≤ l.length ∧ l.length ≤ 6 ∧ ∀ k ∈ l, isLet k
theorem abc_cps : (Str.ofString "abcdefghijklmnopqrstuvwxyz").cps.toList = List.range' 97 26 := by decide +kernel
theorem abc_mem (k : Nat) : k ∈ (Str.ofString "abcdefghijklmnopqrstuvwxyz").cps.toList ↔ isLet k := by
  rw [abc_cps, List.mem_range'_1]
  unfold isLet
  omega
theorem abc_len : (Str.ofString "abcdefghijklmnopqrstuvwxyz").length = 26 := by decide +kernel
theorem atI_map {α β : Type} {xs : List α} {f : α → β} {i : Int} : atI (xs.map f) i = (atI xs i).map f := by
  unfold atI
  rw [List.length_map]
  cases ixN xs.length i <;> simp
theorem rngD_map (n : Nat) (a : Int) : rngD a n = (List.range n).map fun i : Nat => D.int (a + (i : Int)) := rfl
theorem rng0 (n : Nat) : rngD 0 n = (List.range n).map fun i : Nat => D.int (i : Int) := by
  rw [rngD_map]
  simp
section
variable {α β : Type} {s : TgF} {u : PV.Env → SR} {fg : List Nat} {env : PV.Env} {ei : α → D}
theorem enumD_map : ∀ (xs : List α) (k : Nat), enumD k (xs.map ei) = (xs.zipIdx k).map fun p => .tup [.int (p.2 : Int), ei p.1]
  | [], _ => rfl
  | x :: xs, k => by
    rw [List.map_cons, enumD, enumD_map xs (k + 1)]
    rfl
@[simp] theorem enum1_lstT {x : Tag} {ds : List D} : enum1 true [.nd x .lst ds] = if noTL ds = true ∧ x ≠ .tmp then .ok (enumD 0 (fzL ds)) else .stuck := by
  show (itemsOf true (.nd x .lst ds)).bind _ = _
  rw [itemsOf_lstT]
  cases x <;> simp
  · by_cases h : noTL ds = true <;> simp [h]
  · by_cases h : noTL ds = true <;> simp [h]
@[simp] theorem enum1_lstF {x : Tag} {ds : List D} : enum1 false [.nd x .lst ds] = .ok (enumD 0 (rdL ds)) := rfl
end
mutual
def plD : Nat → D → Bool
  | _, .non => true
  | _, .bl _ => true
  | _, .int _ => true
  | _, .str s => PyData.strOk s
  | 0, _ => false
  | n + 1, .tup ds => plL n ds
  | n + 1, .nd _ .lst ds => plL n ds
  | _ + 1, .nd _ _ _ => false
  | _ + 1, .pin _ _ => false
  | _ + 1, .pack _ _ => false
def plL : Nat → List D → Bool
  | _, [] => true
  | n, d :: ds => plD n d && plL n ds
end
theorem plL_eq (n : Nat) : ∀ ds : List D, plL n ds = ds.all (plD n)
  | [] => by rw [plL]; rfl
  | d :: ds => by rw [plL, plL_eq n ds, List.all_cons]
mutual
theorem pl_shaped : ∀ (d : D) (n : Nat), plD n d = true → (toP d).canLay0 = true ∧ (toP d).depth ≤ n
  | .non, n, h => by simp [toP, PyData.canLay0, PyData.depth]
  | .bl _, n, h => by simp [toP, PyData.canLay0, PyData.depth]
  | .int _, n, h => by simp [toP, PyData.canLay0, PyData.depth]
  | .str s, n, h => by
    cases n <;> (rw [plD] at h; simp [toP, PyData.canLay0, PyData.depth, h])
  | .tup ds, n, h => by
    cases n with
    | zero => simp [plD] at h
    | succ n =>
      rw [plD] at h
      obtain ⟨h1, h2⟩ := plL_shaped ds n h
      rw [toP, PyData.canLay0, PyData.depth]
      exact ⟨h1, by omega⟩
  | .nd t k ds, n, h => by
    cases n with
    | zero => cases k <;> simp [plD] at h
    | succ n =>
      cases k with
      | lst =>
        rw [plD] at h
        obtain ⟨h1, h2⟩ := plL_shaped ds n h
        rw [toP, PyData.canLay0, PyData.depth]
        exact ⟨h1, by omega⟩
      | _ => simp [plD] at h
  | .pin _ _, n, h => by cases n <;> simp [plD] at h
  | .pack _ _, n, h => by cases n <;> simp [plD] at h
theorem plL_shaped : ∀ (ds : List D) (n : Nat), plL n ds = true → PyData.canLayAll0 (toPL ds) = true ∧ PyData.depthAll (toPL ds) ≤ n
  | [], n, h => by simp [toPL, PyData.canLayAll0, PyData.depthAll]
  | d :: ds, n, h => by
    rw [plL, Bool.and_eq_true] at h
    obtain ⟨a1, a2⟩ := pl_shaped d n h.1
    obtain ⟨b1, b2⟩ := plL_shaped ds n h.2
    rw [toPL, PyData.canLayAll0, PyData.depthAll, a1, b1]
    exact ⟨rfl, by omega⟩
end
theorem dNe_same {x y : D} {n : Nat} (hp : plD n x = true) (hn : n ≤ 64) (h : toP x = toP y) : dNe x y = .ok (.bl false) ∧ dEq x y = .ok (.bl true) := by
  obtain ⟨h1, h2⟩ := pl_shaped x n hp
  have hs : SeqAt.shaped (toP x) = true := by
    unfold SeqAt.shaped
    simp [h1]
    omega
  have e : eqOk x y = true := by
    unfold eqOk
    rw [← h, hs]
    simp
  have q : eqD x y = true := by
    unfold eqD
    rw [← h]
    exact SeqAt.eqv_refl _ h1
  unfold dNe dEq
  simp [e, q]
@[simp] theorem cutL_map {α β : Type} {xs : List α} {f : α → β} {a b : Option Int} : cutL (xs.map f) a b = (cutL xs a b).map f := by
  unfold cutL
  rw [List.length_map, List.map_take, List.map_drop]
theorem ints_map : ∀ zs : List Int, ints? (zs.map D.int) = some zs
  | [] => rfl
  | z :: zs => by
    have := ints_map zs
    simp only [List.map_cons]
    simp [ints?, this]
@[simp] theorem dSum_ints {t : Tag} {zs : List Int} : dSum [.nd t .lst (zs.map D.int)] = .ok (.int zs.sum) := by
  show (ofO (ints? (zs.map D.int))).bind _ = _
  rw [ints_map]
  rfl
@[simp high] theorem dSl_ints {x : Tag} {zs : List Int} {lo hi : Option Int} : dSl (.nd x .lst (zs.map D.int)) lo hi = .ok (.lst .own ((cutL zs lo hi).map D.int)) := by
  rw [dSl_lst, cutL_map, rdL_ints]
@[simp] theorem noTL_ints' {zs : List Int} : noTL (zs.map D.int) = true := by
  rw [noTL_map]; simp
@[simp high] theorem rng1_nat {n : Nat} (h : n ≤ 1000000) : rng1 [.int (n : Int)] = .ok (rngD 0 n) := by
  rw [rng1_e, if_pos (R62_of (by omega)), Int.toNat_natCast]
theorem inL_ints {a : Int} {zs : List Int} : inL (.int a) (zs.map D.int) = decide (a ∈ zs) := by
  unfold inL
  rw [List.any_map]
  by_cases h : a ∈ zs
  · rw [decide_eq_true h, List.any_eq_true]
    exact ⟨a, h, by simp [eqD, toP, PyData.eqv]⟩
  · rw [decide_eq_false h, List.any_eq_false]
    intro x hx
    simp [eqD, toP, PyData.eqv]
    intro e
    exact h (e ▸ hx)
@[simp] theorem dIn0_ints {x : Tag} {a : Int} {zs : List Int} : dIn0 (.int a) (.nd x .lst (zs.map D.int)) = .ok (.bl (!decide (a ∈ zs))) := by
  rw [dIn0_lst rfl (by simp [flatD]), inL_ints]
@[simp] theorem faL_nil : faL [] = [] := by rw [faL]
@[simp] theorem faL_cons {d : D} {ds : List D} : faL (d :: ds) = fa d :: faL ds := by rw [faL]
@[simp] theorem fa_nd {t : Tag} {k : Kind} {ds : List D} : fa (.nd t k ds) = .nd .frz k (faL ds) := by rw [fa]
@[simp] theorem fa_tup {ds : List D} : fa (.tup ds) = .tup (faL ds) := by rw [fa]
@[simp] theorem fa_int {i : Int} : fa (.int i) = .int i := by rw [fa] <;> simp
@[simp] theorem fa_str {i : Str} : fa (.str i) = .str i := by rw [fa] <;> simp
@[simp] theorem fa_bl {i : Bool} : fa (.bl i) = .bl i := by rw [fa] <;> simp
@[simp] theorem fa_non : fa .non = .non := by rw [fa] <;> simp
theorem faL_eq : ∀ as : List D, faL as = as.map fa
  | [] => by rw [faL_nil]; rfl
  | a :: as => by rw [faL_cons, faL_eq as, List.map_cons]
@[simp] theorem faL_map {α : Type} {xs : List α} {ei : α → D} : faL (xs.map ei) = xs.map fun x => fa (ei x) := by rw [faL_eq, List.map_map]; rfl
@[simp high] theorem faL_ints {zs : List Int} : faL (zs.map D.int) = zs.map D.int := by rw [faL_map]; simp
@[simp] theorem imm_tup {ds : List D} : imm (.tup ds) = immL ds := by rw [imm]
@[simp] theorem imm_nd {t : Tag} {k : Kind} {ds : List D} : imm (.nd t k ds) = false := by rw [imm]
@[simp] theorem imm_int {i : Int} : imm (.int i) = true := by rw [imm] <;> simp
@[simp] theorem imm_str {i : Str} : imm (.str i) = true := by rw [imm] <;> simp
@[simp] theorem imm_bl {i : Bool} : imm (.bl i) = true := by rw [imm] <;> simp
@[simp] theorem imm_non : imm .non = true := by rw [imm] <;> simp
@[simp] theorem imO_tup {ds : List D} : imO (.tup ds) = imOL ds := by rw [imO]
@[simp] theorem imO_own {k : Kind} {ds : List D} : imO (.nd .own k ds) = imOL ds := by rw [imO]; rfl
@[simp] theorem imO_frz {k : Kind} {ds : List D} : imO (.nd .frz k ds) = false := by rw [imO]; rfl
@[simp] theorem imO_tmp {k : Kind} {ds : List D} : imO (.nd .tmp k ds) = false := by rw [imO]; rfl
@[simp] theorem imO_int {i : Int} : imO (.int i) = true := by rw [imO] <;> simp
@[simp] theorem imO_str {i : Str} : imO (.str i) = true := by rw [imO] <;> simp
@[simp] theorem imO_bl {i : Bool} : imO (.bl i) = true := by rw [imO] <;> simp
@[simp] theorem imO_non : imO .non = true := by rw [imO] <;> simp
@[simp] theorem imOL_nil : imOL [] = true := by rw [imOL]
@[simp] theorem imOL_cons {d : D} {ds : List D} : imOL (d :: ds) = (imO d && imOL ds) := by rw [imOL]
theorem imOL_eq : ∀ ds : List D, imOL ds = ds.all imO
  | [] => by rw [imOL_nil]; rfl
  | d :: ds => by rw [imOL_cons, imOL_eq ds, List.all_cons]
@[simp] theorem imOL_map {α : Type} {xs : List α} {ei : α → D} : imOL (xs.map ei) = xs.all fun x => imO (ei x) := by rw [imOL_eq, List.all_map]; rfl
@[simp high] theorem imOL_ints {zs : List Int} : imOL (zs.map D.int) = true := by rw [imOL_map]; simp
@[simp] theorem itemsOf_tupF {ds : List D} : itemsOf false (.tup ds) = .ok (rdL ds) := rfl
section
variable {X : Cx} {c : Cfg X.K} {E : XK} {pos : Pos}
theorem each_vals {R : Value → V × PyData → Prop} (hR : ∀ u b, RelV b.1 u → R u b) : ∀ {bs : List (V × PyData)} {us : List Value}, Vals (bs.map (·.1)) us → PySem.W.EachIs R us bs
  | [], us, h => by
    rw [List.map_nil] at h
    cases h
    exact .nil
  | b :: bs, us, h => by
    rw [List.map_cons] at h
    cases h with
    | cons r t => exact .cons (hR _ _ r) (each_vals hR t)
theorem vals_each : ∀ {bs : List (V × PyData)} {us : List Value}, PySem.W.EachIs (fun u b => RelV b.1 u) us bs → Vals (bs.map (·.1)) us
  | _, _, .nil => by rw [List.map_nil]; exact Paired.nil
  | _, _, .cons r t => by rw [List.map_cons]; exact Paired.cons r (vals_each t)
theorem each_dp {K : PySem.W.Frag} {H : Hp} {R : Value → V × PyData → Prop} (hR : ∀ u b, Dp K H b.1 b.2 → RelV b.1 u → R u b) : ∀ {bs : List (V × PyData)} {us : List Value}, (∀ b ∈ bs, Dp K H b.1 b.2) → Vals (bs.map (·.1)) us → PySem.W.EachIs R us bs
  | [], us, _, h => by
    rw [List.map_nil] at h
    cases h
    exact .nil
  | b :: bs, us, d, h => by
    rw [List.map_cons] at h
    cases h with
    | cons r t => exact .cons (hR _ _ (d b (List.mem_cons_self ..)) r) (each_dp hR (fun x hx => d x (List.mem_cons_of_mem _ hx)) t)
def rSortD (K : PySem.W.Frag) : List V → Hp → VK → Prop := fun vs H Q => ∃ (a : Addr) (bs : List (V × PyData)), vs = [V.ref a] ∧ SqL K H a (bs.map (·.1)) ∧ (∀ b ∈ bs, Dp K H b.1 b.2) ∧ PySem.W.AllAlike (bs.map (·.2)) ∧ PySem.W.Sortable (bs.map (·.2)) ∧ (∀ b ∈ bs, b.2.depth ≤ 50) ∧
  ∀ p, H p = none → Q (.ref p) (upd H p (.lst ((bs.mergeSort (PySem.W.dataLe false (·.2))).map (·.1))))
theorem cr_sortD (hu : X.A.units + 64 < cLine) : CallR X (.builtin "sorted") (rSortD X.K) := by
  intro pins s σ H vs us Q I r h
  obtain ⟨a, bs, rfl, hs, hd, ha, hk, hp, q⟩ := h
  obtain ⟨its, rv, hl, hz⟩ := I.list hs
  rw [Vals.ref1 r]
  have hlen : bs.length ≤ sizeLine := by
    rw [List.length_map] at hz
    exact hz
  refine PySem.W.sorted_data (R := fun u b => RelV b.1 u) (enc := (·.2)) (bs := bs) hl.isList (each_vals (fun _ _ z => z) rv) (each_dp (fun u b z1 z2 => Dp.reads I b.2 b.1 u z1 z2) hd rv) ha hk hlen (fun b hb => by have := hp b hb; omega) fun out ho he => ?_
  obtain ⟨ep, he'⟩ := PyProof.Rows.sortedAll_at s.heap its (List.toArray out)
  have hl2 : ((bs.mergeSort (PySem.W.dataLe false (·.2))).map (·.1)).length ≤ sizeLine := by
    rw [List.length_map, List.length_mergeSort]
    exact hlen
  exact ⟨.ref _, upd H (s.heap.objs.size + 1) (.lst ((bs.mergeSort (PySem.W.dataLe false (·.2))).map (·.1))), I.laid (t' := s.toks) (fun _ _ => PyProof.Rows.sortedAll_old) (Nat.le_succ _) ⟨hl2, _, ep, by simpa using vals_each he, he'⟩, rfl, q _ (I.hok.fresh (Nat.le_succ _))⟩
theorem repL_zip {M : PySem.W.Frag} {κ : Kap M} {F H : Hp} : ∀ {ds : List D} {vs : List V}, RepL κ F H ds vs [] → ∃ L : List (V × D), L.map (·.2) = ds ∧ L.map (·.1) = vs ∧ ∀ p ∈ L, Rep κ F H p.2 p.1 []
  | [], vs, h => by cases h; exact ⟨[], rfl, rfl, by simp⟩
  | d :: ds, vs, h => by
    generalize hf : ([] : List Addr) = fp at h
    cases h with
    | cons r t =>
      rename_i v vs fa fb
      obtain ⟨h1, h2⟩ := List.append_eq_nil_iff.mp hf.symm
      subst h1 h2
      obtain ⟨L, e1, e2, h3⟩ := repL_zip t
      refine ⟨(v, d) :: L, by rw [List.map_cons, e1], by rw [List.map_cons, e2], fun p hp => ?_⟩
      rcases List.mem_cons.mp hp with rfl | hp
      · exact r
      · exact h3 p hp
theorem zip_repL {M : PySem.W.Frag} {κ : Kap M} {F H : Hp} : ∀ {L : List (V × D)}, (∀ p ∈ L, Rep κ F H p.2 p.1 []) → RepL κ F H (L.map (·.2)) (L.map (·.1)) []
  | [], _ => .nil
  | p :: L, h => RepL.cons (fp := []) (fq := []) (h p (List.mem_cons_self ..)) (zip_repL fun q hq => h q (List.mem_cons_of_mem _ hq))
def leD (x y : D) : Bool := PySem.W.dataLe false toP x y
def tupB : PyData → Bool
  | .tuple (_ :: _) => true
  | _ => false
def othB : PyData → Bool
  | .none => false
  | .tuple _ => false
  | _ => true
theorem tupB_is : ∀ {d : PyData}, tupB d = true → ∃ x r, d = .tuple (x :: r)
  | .tuple (x :: r), _ => ⟨x, r, rfl⟩
theorem othB_is {d : PyData} (h : othB d = true) : d ≠ .none ∧ ∀ xs, d ≠ .tuple xs := by
  constructor
  · rintro rfl; cases h
  · rintro xs rfl; cases h
def sortOk (ds : List D) : Bool := immL ds && (plL 50 ds && ((ds.all fun x => ds.all fun y => PySem.W.alike (toP x) (toP y)) && ((ds.all fun x => tupB (toP x)) || (ds.all fun x => othB (toP x)))))
def dSort : List D → Res D
  | [.nd _ .lst ds] => if sortOk ds = true then .ok (.lst .own (ds.mergeSort leD)) else .stuck
  | _ => .stuck
theorem opc_sort : OpC c (rSortD X.K) dSort := by
  intro E F H ds vs fp Q fh r p
  unfold dSort at p
  split at p
  · rename_i t ds
    obtain ⟨v, fq, rfl, r1⟩ := r.one
    obtain ⟨a, vs, fq, rfl, h1, h2, _⟩ := r1.sqL fh
    by_cases ok : sortOk ds = true
    case neg => rw [if_neg ok] at p; exact p.elim
    rw [if_pos ok] at p
    unfold sortOk at ok
    simp only [Bool.and_eq_true] at ok
    obtain ⟨ok1, ok2, ok3, ok4⟩ := ok
    obtain ⟨rfl, h3⟩ := RepL.imm _ F H F H (fun _ _ z => z) _ _ _ ok1 h2
    obtain ⟨L, e1, e2, h4⟩ := repL_zip h3
    have hpl : ∀ d ∈ ds, plD 50 d = true := by
      rw [plL_eq, List.all_eq_true] at ok2
      exact ok2
    have hin : ∀ q ∈ L, q.2 ∈ ds := fun q hq => by rw [← e1]; exact List.mem_map.mpr ⟨q, hq, rfl⟩
    refine ⟨a, L.map fun q => (q.1, toP q.2), rfl, by rw [List.map_map]; rw [← e2] at h1; exact h1, ?_, ?_, ?_, ?_, fun l hl => ?_⟩
    · intro b hb
      obtain ⟨q, hq, rfl⟩ := List.mem_map.mp hb
      exact Rep.dp _ F H fh _ _ _ (pl_shaped _ _ (hpl _ (hin q hq))).1 (h4 q hq)
    · rw [List.map_map]
      intro x hx y hy
      obtain ⟨q, hq, rfl⟩ := List.mem_map.mp hx
      obtain ⟨q', hq', rfl⟩ := List.mem_map.mp hy
      exact List.all_eq_true.mp (List.all_eq_true.mp ok3 _ (hin q hq)) _ (hin q' hq')
    · rw [List.map_map]
      rcases Bool.or_eq_true_iff.mp ok4 with k | k
      · refine .inl fun x hx => ?_
        obtain ⟨q, hq, rfl⟩ := List.mem_map.mp hx
        exact tupB_is (List.all_eq_true.mp k _ (hin q hq))
      · refine .inr fun x hx => ?_
        obtain ⟨q, hq, rfl⟩ := List.mem_map.mp hx
        exact othB_is (List.all_eq_true.mp k _ (hin q hq))
    · intro b hb
      obtain ⟨q, hq, rfl⟩ := List.mem_map.mp hb
      exact (pl_shaped _ _ (hpl _ (hin q hq))).2
    · have m1 : (L.map fun q => (q.1, toP q.2)).mergeSort (PySem.W.dataLe false (·.2)) = (L.mergeSort fun x y => leD x.2 y.2).map fun q => (q.1, toP q.2) := by
        rw [List.map_mergeSort]
        intro x _ y _
        rfl
      have m2 : ds.mergeSort leD = (L.mergeSort fun x y => leD x.2 y.2).map (·.2) := by
        rw [List.map_mergeSort (s := leD), e1]
        intro x _ y _
        rfl
      rw [m1, List.map_map]
      refine p.newO fh hl rfl ?_ rfl
      rw [m2]
      exact zip_repL fun q hq => h4 q ((List.mergeSort_perm L _).mem_iff.mp hq)
  · exact p.elim
theorem ev_sorted {e : Expr} {p : Pos} {fs : Env → Res (List D)} (hu : X.A.units + 64 < cLine) (hg : Gl X "sorted") (hm : X.mg "sorted" = none) (ha : EL X c E [e] fs) (he : starEach [e] X.env = (false, eval e X.env) :: starEach [] X.env := by rfl) : EV X c E (.Call (.Name "sorted" p) [e] [] pos) (eC_ dSort fs) :=
  ev_callB opc_sort (cr_sortD hu) hg hm (by decide +kernel) ha (by decide) (by decide) he
end
theorem RepL.look {M : PySem.W.Frag} {κ : Kap M} {F H : Hp} {f : Str} {d : D} : ∀ {ns : List Str} {ds : List D} {vs : List V} {fp : List Addr}, RepL κ F H ds vs fp → (ns.zip ds).lookup f = some d → ∃ v fq, (ns.zip vs).lookup f = some v ∧ Rep κ F H d v fq
  | [], _, _, _, _, h => by simp at h
  | n :: ns, [], _, _, _, h => by simp at h
  | n :: ns, e :: ds, _, _, r, h => by
    cases r with
    | cons r1 r2 =>
      rename_i v vs fa fb
      rw [List.zip_cons_cons, List.lookup_cons] at h ⊢
      cases q : f == n with
      | true =>
        rw [q] at h
        cases h
        exact ⟨v, fa, rfl, r1⟩
      | false =>
        rw [q] at h
        exact RepL.look r2 h
def dFld (cs : List Str) (f : Str) : D → Res D
  | .nd _ (.ins c ns) ds => if cs.contains c = true then (ofO ((ns.zip ds).lookup f)).bind fun d => .ok (rd d) else .stuck
  | .nd _ (.inv c ns _) ds => if cs.contains c = true then (ofO ((ns.zip ds).lookup f)).bind fun d => .ok (rd d) else .stuck
  | _ => .stuck
structure ClsOk {M : PySem.W.Frag} (κ : Kap M) (cs : List Str) (f : Str) : Prop where
  all : ∀ c, cs.contains c = true → Cls M (κ.cls c) ∧ NoAttr M (κ.cls c) f
theorem ClsOk.nil {M : PySem.W.Frag} {κ : Kap M} {f : Str} : ClsOk κ [] f := ⟨fun c h => by simp at h⟩
theorem ClsOk.cons {M : PySem.W.Frag} {κ : Kap M} {f a : Str} {cs : List Str} (h1 : Cls M (κ.cls a)) (h2 : NoAttr M (κ.cls a) f) (h : ClsOk κ cs f) : ClsOk κ (a :: cs) f := ⟨fun c hc => by
  rw [List.contains_cons, Bool.or_eq_true] at hc
  rcases hc with hc | hc
  · rw [beq_iff_eq] at hc
    subst hc
    exact ⟨h1, h2⟩
  · exact h.all c hc⟩
theorem Rep.insL {M : PySem.W.Frag} {κ : Kap M} {F H : Hp} {t : Tag} {cn : Str} {ns : List Str} {ds : List D} {v : V} {fp : List Addr} (r : Rep κ F H (.nd t (.ins cn ns) ds) v fp) (fh : Sub F H) :
    ∃ a dx vs fq, v = .ref a ∧ H a = some (.ins (κ.cls cn) dx (ns.zip vs)) ∧ RepL κ F H ds vs fq := by
  cases r with
  | ndO ha hs hl =>
    obtain ⟨_, dx, rfl⟩ := hs
    exact ⟨_, dx, _, _, rfl, ha, hl⟩
  | ndF ha hr hs hl =>
    obtain ⟨_, dx, rfl⟩ := hs
    rcases hr with rfl | ⟨z, _⟩
    · exact ⟨_, dx, _, _, rfl, fh _ _ ha, hl⟩
    · cases z
  | ndT ha hr hs hl =>
    obtain ⟨_, dx, rfl⟩ := hs
    rcases hr with rfl | ⟨z, _⟩
    · exact ⟨_, dx, _, _, rfl, ha, hl⟩
    · cases z
theorem Rep.invL {M : PySem.W.Frag} {κ : Kap M} {F H : Hp} {t : Tag} {cn : Str} {ns : List Str} {as : List Addr} {ds : List D} {v : V} {fp : List Addr} (r : Rep κ F H (.nd t (.inv cn ns as) ds) v fp) (fh : Sub F H) :
    ∃ a dx vs fq, v = .ref a ∧ H a = some (.ins (κ.cls cn) dx (ns.zip vs)) ∧ RepL κ F H ds vs fq := by
  cases r with
  | ndO ha hs hl =>
    obtain ⟨⟨_, dx, rfl⟩, _⟩ := hs
    exact ⟨_, dx, _, _, rfl, ha, hl⟩
  | ndF ha hr hs hl =>
    obtain ⟨⟨_, dx, rfl⟩, _⟩ := hs
    rcases hr with rfl | ⟨z, _⟩
    · exact ⟨_, dx, _, _, rfl, fh _ _ ha, hl⟩
    · cases z
  | ndT ha hr hs hl =>
    obtain ⟨⟨_, dx, rfl⟩, _⟩ := hs
    rcases hr with rfl | ⟨z, _⟩
    · exact ⟨_, dx, _, _, rfl, ha, hl⟩
    · cases z
section
variable {X : Cx} {c : Cfg X.K} {E : XK} {e : Expr} {f : Str} {pos : Pos} {g : Env → Res D}
theorem ev_fld (cs : List Str) (k : ClsOk c.κ cs f) (ha : EV X c E e g) (hb : attributeBase e f X.env (eval e X.env) = eval e X.env := by rfl) : EV X c E (.Attribute e f pos) (e1 (dFld cs f) g) :=
  PE.imp (pe_fld ha hb) fun σ H Q q => glue1 q fun F H1 d v fp fh r nd fr p => by
    unfold dFld at p
    split at p
    · rename_i t cn ns ds
      by_cases h : cs.contains cn = true
      · rw [if_pos h] at p
        obtain ⟨a, dx, vs, fq, rfl, h1, h2⟩ := r.insL fh
        cases q : (ns.zip ds).lookup f with
        | none => rw [q] at p; exact p.elim
        | some d =>
          rw [q] at p
          obtain ⟨v, fq, h3, h4⟩ := h2.look q
          exact ⟨a, _, dx, _, v, rfl, h1, (k.all cn h).1, (k.all cn h).2, h3, PostV.at_ p fh (h4.rd _ _ _ fh)⟩
      · rw [if_neg h] at p
        exact p.elim
    · rename_i t cn ns as ds
      by_cases h : cs.contains cn = true
      · rw [if_pos h] at p
        obtain ⟨a, dx, vs, fq, rfl, h1, h2⟩ := r.invL fh
        cases q : (ns.zip ds).lookup f with
        | none => rw [q] at p; exact p.elim
        | some d =>
          rw [q] at p
          obtain ⟨v, fq, h3, h4⟩ := h2.look q
          exact ⟨a, _, dx, _, v, rfl, h1, (k.all cn h).1, (k.all cn h).2, h3, PostV.at_ p fh (h4.rd _ _ _ fh)⟩
      · rw [if_neg h] at p
        exact p.elim
    · exact p.elim
end
@[simp] theorem dFld_i {cs : List Str} {f : Str} {t : Tag} {c : Str} {ns : List Str} {as : List Addr} {ds : List D} : dFld cs f (.nd t (.inv c ns as) ds) = if cs.contains c = true then (ofO ((ns.zip ds).lookup f)).bind fun d => .ok (rd d) else .stuck := (rfl)
@[simp] theorem dFld_e {cs : List Str} {f : Str} {t : Tag} {c : Str} {ns : List Str} {ds : List D} : dFld cs f (.nd t (.ins c ns) ds) = if cs.contains c = true then (ofO ((ns.zip ds).lookup f)).bind fun d => .ok (rd d) else .stuck := (rfl)
end PV
end
section
namespace PV
open PySem PySem.Spec PyProof.Rows L2
open PySem.W
end PV
end
section
namespace PV
open PySem PySem.Spec PyProof.Rows L2
end PV
end
section
namespace PV
open PySem PySem.Spec PyProof.Rows L2
open PySem.AutoSeq1 (wpAny_loadPart')
end PV
end
section
namespace PV
open PySem PySem.Spec PyProof.Rows L2
theorem se_startM {M : PySem.W.Frag} {c : Cfg M} {Kh F0 H : Hp} {d0 : D} {v0 : V} {fp : List Addr} {ds : List D} {vs : List V} {N : List Str} (kk : Sm Kh H) (fh : Sub F0 H) (mk : Mks c.κ F0) (r0 : Rep c.κ F0 H d0 v0 fp) (nd : fp.Nodup) (fr : ∀ a ∈ fp, F0 a = none ∧ Kh a = none)
    (r : RepL c.κ F0 H ds vs []) (n0 : noT d0 = true) (nt : noTL ds = true) :
    SE true c.κ Kh F0 F0 ((d0 :: ds).map some ++ List.replicate (N.length - (d0 :: ds).length) none) (put (fun _ => []) 0 fp) (L2.start N (v0 :: vs)) H := by
  have S := se_start (c := c) (N := N) kk fh mk (RepL.cons (fp := []) (fq := []) Rep.non r) (by rw [noTL_cons, nt]; rfl)
  have f : Float c.κ Kh F0 (fun _ => []) H d0 v0 fp := ⟨r0, nd, fun a m => ⟨(fr a m).1, (fr a m).2, fun _ z => by cases z⟩⟩
  have S2 := S.setF f (fun _ => n0) 0
  have e1 : (((.non :: ds).map some ++ List.replicate (N.length - (D.non :: ds).length) none : Env)).set 0 (some d0) = (d0 :: ds).map some ++ List.replicate (N.length - (d0 :: ds).length) none := rfl
  have e2 : (L2.start N (V.non :: vs)).set 0 (some v0) = L2.start N (v0 :: vs) := rfl
  rw [e1, e2] at S2
  exact S2
end PV
end
section
namespace PV
open PySem PySem.Spec PyProof.Rows L2
inductive Fo (σ : Type) where
  | nx (s : σ) | bk (s : σ) | rt (d : D)
section
variable {σ τ α β γ : Type}
def forV (step : D → σ → Res (Fo σ)) : List D → σ → Res (Fo σ)
  | [], s => .ok (.nx s)
  | d :: ds, s => (step d s).bind fun r => match r with
    | .nx s' => forV step ds s'
    | .bk s' => .ok (.nx s')
    | .rt d => .ok (.rt d)
def whileV (test : σ → Res Bool) (step : σ → Res (Fo σ)) : Nat → σ → Res (Fo σ)
  | 0, _ => .stuck
  | n + 1, s => (test s).bind fun b => if b = true then (step s).bind fun r => match r with
    | .nx s' => whileV test step n s'
    | .bk s' => .ok (.nx s')
    | .rt d => .ok (.rt d) else .ok (.nx s)
def afterV (r : Res (Fo σ)) (k : σ → Res β) (q : D → Res β) : Res β := r.bind fun x => match x with
  | .nx s => k s
  | .bk s => k s
  | .rt d => q d
def chk (d : D) : Res D := if noT d = true then .ok d else .stuck
def ifR (c : Res Bool) (a b : Res β) : Res β := c.bind fun x => if x = true then a else b
def lcV (step : D → Res (Option D)) : List D → Res (List D)
  | [] => .ok []
  | d :: ds => match step d with
    | .ok (some y) => (lcV step ds).bind fun ys => .ok (y :: ys)
    | .ok none => lcV step ds
    | _ => .stuck
def lstO (x : D) : Res (List D) := match x with
  | .nd .own .lst ds => .ok ds
  | _ => .stuck
def appL (ds : List D) (d : D) : Res D := if noT d = true ∧ ds.length < bigL then .ok (.lst .own (ds ++ [d])) else .stuck
def appV (x : D) (c : Res D) : Res D := (lstO x).bind fun ds => c.bind fun d => appL ds d
def ub2 (d : D) : Res (D × D) := match seqO d with
  | some [a, b] => .ok (a, b)
  | _ => .stuck
section
variable {i j k l m n o : Nat} {d : D} {env : Env}
theorem t_1 : put1 i d env = (chk d).bind fun a => .ok (env.set i (some a)) := by
  unfold put1 chk; split <;> rfl
theorem t_2b : putT 2 (putD (putb i) (putD (putb j) (putN))) d env = (ub2 d).bind fun p => .ok ((env.set i (some p.1)).set j (some p.2)) := by
  unfold putT ub2
  cases seqO d with
  | none => rfl
  | some ds =>
    match ds with
    | [] => rfl
    | [a] => rfl
    | [a, b] => rfl
    | a :: b :: z :: r => simp
end
section
variable {env : Env} {f g h : Env → Res D} {fs : Env → Res (List D)} {p q : Env → Res Bool} {a b c : Res D} {as : Res (List D)} {pa qa : Res Bool}
theorem x_e2 {k : D → D → Res D} (h1 : f env = a) (h2 : g env = b) : e2 k f g env = a.bind fun x => b.bind fun y => k x y := by unfold e2; rw [h1, h2]
theorem x_e1 {k : D → Res D} (h1 : f env = a) : e1 k f env = a.bind k := by unfold e1; rw [h1]
theorem x_eC {k : List D → Res D} (h1 : fs env = as) : eC_ k fs env = as.bind k := by unfold eC_; rw [h1]
theorem x_call {Φ : List D → Res D} {dd : List D} (h1 : fs env = as) : eCall Φ dd fs env = as.bind fun ds => callD Φ (ds ++ dd) := by unfold eCall; rw [h1]
theorem x_cons (h1 : f env = a) (h2 : fs env = as) : lCons f fs env = a.bind fun d => as.bind fun ds => .ok (d :: ds) := by unfold lCons; rw [h1, h2]
theorem x_tup (h1 : fs env = as) : eTup fs env = as.bind fun ds => if ds.length ≤ bigL then .ok (.tup ds) else .stuck := by unfold eTup; rw [h1]
theorem x_lst (h1 : fs env = as) : eLst fs env = as.bind fun ds => if ds.length ≤ bigL then .ok (.lst .own ds) else .stuck := by unfold eLst; rw [h1]
theorem x_B (h1 : f env = a) : eB f env = a.bind asB := by unfold eB; rw [h1]
theorem x_T (h1 : f env = a) : eT f env = a.bind tru := by unfold eT; rw [h1]
theorem x_bAnd (h1 : p env = pa) (h2 : q env = qa) : bAnd p q env = ifR pa qa (.ok false) := by unfold bAnd ifR; rw [h1, h2]
theorem x_bOr (h1 : p env = pa) (h2 : q env = qa) : bOr p q env = ifR pa (.ok true) qa := by unfold bOr ifR; rw [h1, h2]
theorem x_bNot (h1 : p env = pa) : bNot p env = pa.bind fun x => .ok (!x) := by unfold bNot; rw [h1]
theorem x_chain {k1 k2 : D → D → Res D} (h1 : f env = a) (h2 : g env = b) (h3 : h env = c) : eChain k1 k2 f g h env = a.bind fun x => b.bind fun y => (k1 x y).bind fun z => (asB z).bind fun t => if t = true then c.bind fun w => k2 y w else .ok (.bl false) := by unfold eChain; rw [h1, h2, h3]
theorem x_yVal {st : Bool} (h1 : f env = a) : yVal st f env = a.bind (itemsOf st) := by unfold yVal; rw [h1]
theorem x_yL {k : List D → Res (List D)} (h1 : fs env = as) : yL k fs env = as.bind k := by unfold yL; rw [h1]
def lstB (ys : List D) : Res D := if ys.length ≤ bigL then .ok (.lst .own ys) else .stuck
def stepL (s : TgF) (t : Env → Res Bool) (f : Env → Res D) (env : Env) (d : D) : Res (Option D) := (s d env).bind fun env1 => ifR (t env1) ((f env1).bind fun y => (chk y).bind fun y => .ok (some y)) (.ok none)
theorem lc_steps {s : TgF} {t : Env → Res Bool} {f : Env → Res D} {step : D → Res (Option D)} (h : ∀ d, stepL s t f env d = step d) : ∀ ds, lcL s t f env ds = lcV step ds
  | [] => rfl
  | d :: ds => by
    rw [lcL, lcV, ← h d, ← lc_steps h ds]
    unfold stepL ifR chk
    cases s d env with
    | ok env1 =>
      simp only [rb_ok]
      cases t env1 with
      | ok b =>
        simp only [rb_ok]
        cases b with
        | true =>
          simp only [if_true]
          cases f env1 with
          | ok y =>
            simp only [rb_ok]
            by_cases hy : noT y = true
            · simp only [hy, if_true, rb_ok]
            · simp only [hy]; rfl
          | exc y => rfl
          | stuck => rfl
        | false => rfl
      | exc y => rfl
      | stuck => rfl
    | exc y => rfl
    | stuck => rfl
theorem x_lc {it : Env → Res (List D)} {s : TgF} {t : Env → Res Bool} {f : Env → Res D} {vs : List Nat} {ix : Res (List D)} {env1 : Env} {step : D → Res (Option D)} (h1 : it env = ix) (he : wipeE vs env = env1) (h2 : ∀ d, stepL s t f env1 d = step d) :
    eLc it s t f vs env = ix.bind fun items => (lcV step items).bind lstB := by
  unfold eLc
  rw [h1, he]
  congr 1
  funext items
  rw [lc_steps h2]
  rfl
theorem t_lc1 {s : TgF} {f : Env → Res D} {d : D} {tx : Res α} {e' : α → Env} {fx : α → Res D} (h1 : s d env = tx.bind fun a => .ok (e' a)) (h3 : ∀ a, f (e' a) = fx a) :
    stepL s bYes f env d = tx.bind fun a => (fx a).bind fun y => (chk y).bind fun y => .ok (some y) := by
  unfold stepL
  rw [h1]
  cases tx with
  | ok a => simp only [rb_ok]; rw [h3]; rfl
  | exc x => rfl
  | stuck => rfl
end
structure Rl (R : SR → Res β → Prop) (q : D → Res β) : Prop where
  st : ∀ r, R r .stuck
  ex : ∀ x, R (.exc x) (.exc x)
  rt : ∀ d env, R (.ok (.rt d, env)) (q d)
def finF (r : SR) : Res D := match r with
  | .ok (.rt d, _) => .ok d
  | .ok (.nx, _) => .ok .non
  | .exc x => .exc x
  | _ => .stuck
def RF (r : SR) (m : Res D) : Prop := m = .stuck ∨ finF r = m
def RB (Γ : σ → Env) (fg : List Nat) (r : SR) (m : Res (Fo σ)) : Prop := match m with
  | .stuck => True
  | .exc x => r = .exc x
  | .ok (.nx s) => ∃ env, (r = .ok (.nx, env) ∨ r = .ok (.ct, env)) ∧ forget fg env = Γ s
  | .ok (.bk s) => ∃ env, r = .ok (.bk, env) ∧ forget fg env = Γ s
  | .ok (.rt d) => ∃ env, r = .ok (.rt d, env)
def okR (d : D) : Res D := .ok d
def rtR (d : D) : Res (Fo σ) := .ok (.rt d)
theorem rl_F : Rl RF okR := ⟨fun _ => .inl rfl, fun _ => .inr rfl, fun _ _ => .inr rfl⟩
theorem rl_B {Γ : σ → Env} {fg : List Nat} : Rl (RB Γ fg) rtR := ⟨fun _ => trivial, fun _ => rfl, fun _ env => ⟨env, rfl⟩⟩
section
variable {R : SR → Res β → Prop} {q : D → Res β} {u v w : Env → SR} {env : Env} {f g : Env → Res D} {fx gx : Res D} {m : Res β} {i j : Nat} {x : D}
theorem r_last (h : R (sSeq u sNil env) m) : R (u env) m := by
  have e : sSeq u sNil env = u env := by
    unfold sSeq sNil
    cases u env with
    | ok r =>
      obtain ⟨fl, e⟩ := r
      cases fl <;> rfl
    | exc x => rfl
    | stuck => rfl
  rw [e] at h
  exact h
theorem r_assoc (h : R (sSeq u (sSeq v w) env) m) : R (sSeq (sSeq u v) w env) m := by
  have e : sSeq (sSeq u v) w env = sSeq u (sSeq v w) env := by
    unfold sSeq
    cases u env with
    | ok r =>
      obtain ⟨fl, e⟩ := r
      cases fl <;> rfl
    | exc x => rfl
    | stuck => rfl
  rw [e]
  exact h
theorem r_seq (hR : Rl R q) {c : Res α} {e' : α → Env} {k : α → Res β} (hu : u env = c.bind fun a => .ok (.nx, e' a)) (hk : ∀ a, R (w (e' a)) (k a)) : R (sSeq u w env) (c.bind k) := by
  unfold sSeq
  rw [hu]
  cases c with
  | ok a => exact hk a
  | exc x => exact hR.ex x
  | stuck => exact hR.st _
theorem set_eq (hf : f env = fx) : sSet i f env = (fx.bind chk).bind fun a => .ok (.nx, env.set i (some a)) := by
  unfold sSet store chk
  rw [hf]
  cases fx with
  | ok d => simp only [rb_ok]; split <;> rfl
  | exc x => rfl
  | stuck => rfl
theorem r_set (hR : Rl R q) {k : D → Res β} (hf : f env = fx) (hk : ∀ a, R (w (env.set i (some a))) (k a)) : R (sSeq (sSet i f) w env) ((fx.bind chk).bind k) := r_seq hR (set_eq hf) hk
theorem r_setV (hf : f env = .ok x) (hx : noT x = true) (hk : R (w (env.set i (some x))) m) : R (sSeq (sSet i f) w env) m := by
  unfold sSeq sSet store
  rw [hf]
  simp only [rb_ok, hx, if_true]
  exact hk
theorem app_eq (hx : env[i]? = some (some x)) (hf : f env = fx) : sApp i f env = (appV x fx).bind fun a => .ok (.nx, env.set i (some a)) := by
  unfold sApp ownL appV lstO
  rw [hx, hf]
  cases x with
  | nd t kd ds =>
    cases t <;> cases kd <;> try rfl
    cases fx with
    | ok d =>
      simp only [rb_ok]
      unfold appL
      split <;> rfl
    | exc x => rfl
    | stuck => rfl
  | _ => rfl
theorem r_app (hR : Rl R q) {k : D → Res β} (hx : env[i]? = some (some x)) (hf : f env = fx) (hk : ∀ a, R (w (env.set i (some a))) (k a)) : R (sSeq (sApp i f) w env) ((appV x fx).bind k) := r_seq hR (app_eq hx hf) hk
theorem r_drop (hR : Rl R q) (hf : f env = fx) (hk : R (w env) m) : R (sSeq (sDrop f) w env) (fx.bind fun _ => m) := r_seq hR (e' := fun _ => env) (by unfold sDrop; rw [hf]) fun _ => hk
theorem r_ret (hR : Rl R q) (hf : f env = fx) : R (sSeq (sRet f) w env) ((fx.bind chk).bind q) := by
  unfold sSeq sRet chk
  rw [hf]
  cases fx with
  | ok d =>
    by_cases h : noT d = true
    · simp only [rb_ok, h, if_true]; exact hR.rt d env
    · simp only [rb_ok, h]; exact hR.st _
  | exc x => exact hR.ex x
  | stuck => exact hR.st _
theorem r_retC (hR : Rl R q) (hf : f env = .ok x) (hx : noT x = true) : R (sSeq (sRet f) w env) (q x) := by
  unfold sSeq sRet
  rw [hf]
  simp only [rb_ok, hx, if_true]
  exact hR.rt x env
theorem r_retV (hR : Rl R q) (hx : env[i]? = some (some x)) : R (sSeq (sRetV i) w env) (q x) := by
  unfold sSeq sRetV
  rw [hx]
  exact hR.rt x env
theorem r_nilF : RF (sNil env) (okR .non) := .inr rfl
theorem r_nilB {Γ : σ → Env} {fg : List Nat} {s : σ} (h : forget fg env = Γ s) : RB Γ fg (sNil env) (.ok (.nx s)) := ⟨env, .inl rfl, h⟩
theorem r_if (hR : Rl R q) {t : Env → Res Bool} {tx : Res Bool} {a b : Res β} (ht : t env = tx) (h1 : R (sSeq u w env) a) (h2 : R (sSeq v w env) b) : R (sSeq (sIf t u v) w env) (ifR tx a b) := by
  have e : sSeq (sIf t u v) w env = tx.bind fun x => if x = true then sSeq u w env else sSeq v w env := by
    unfold sSeq sIf
    rw [ht]
    cases tx with
    | ok x => cases x <;> rfl
    | exc x => rfl
    | stuck => rfl
  rw [e]
  unfold ifR
  cases tx with
  | ok x =>
    cases x with
    | true => exact h1
    | false => exact h2
  | exc x => exact hR.ex x
  | stuck => exact hR.st _
theorem r_nil (h : R (w env) m) : R (sSeq sNil w env) m := h
theorem r_frz (h : R (sSeq u w (freezeE i env)) m) : R (sSeq (sFrz i u) w env) m := h
def tgt (s : TgF) (u : Env → SR) (d : D) (env : Env) : SR := match s d env with
  | .ok env1 => u env1
  | _ => .stuck
theorem r_tgt {Γ : σ → Env} {fg : List Nat} {s : TgF} {d : D} {tx : Res α} {e' : α → Env} {k : α → Res (Fo σ)} (hs : s d env = tx.bind fun a => .ok (e' a)) (hx : ∀ x, tx ≠ .exc x) (hk : ∀ a, RB Γ fg (u (e' a)) (k a)) : RB Γ fg (tgt s u d env) (tx.bind k) := by
  unfold tgt
  rw [hs]
  cases tx with
  | ok a => exact hk a
  | exc x => exact absurd rfl (hx x)
  | stuck => exact trivial
theorem forV_ok {Γ : σ → Env} {fg : List Nat} {s : TgF} {step : D → σ → Res (Fo σ)} (hb : ∀ d st, RB Γ fg (tgt s u d (Γ st)) (step d st)) : ∀ (ds : List D) (st : σ), match forV step ds st with
    | .ok (.nx st') => forL s u fg ds (Γ st) = .ok (.nx, Γ st')
    | .ok (.bk st') => forL s u fg ds (Γ st) = .ok (.nx, Γ st')
    | .ok (.rt d) => ∃ env, forL s u fg ds (Γ st) = .ok (.rt d, env)
    | .exc x => forL s u fg ds (Γ st) = .exc x
    | .stuck => True
  | [], st => rfl
  | d :: ds, st => by
    have h := hb d st
    rw [forV, forL]
    unfold tgt at h
    cases hs : step d st with
    | ok r =>
      rw [hs] at h
      simp only [rb_ok]
      cases r with
      | nx s' =>
        obtain ⟨env', h1, h2⟩ := h
        have ih := forV_ok hb ds s'
        cases hz : s d (Γ st) with
        | ok env1 =>
          rw [hz] at h1
          dsimp only at h1 ⊢
          rcases h1 with h1 | h1 <;> (rw [h1]; simp only [rb_ok, h2]; exact ih)
        | exc x => rw [hz] at h1; rcases h1 with h1 | h1 <;> cases h1
        | stuck => rw [hz] at h1; rcases h1 with h1 | h1 <;> cases h1
      | bk s' =>
        obtain ⟨env', h1, h2⟩ := h
        cases hz : s d (Γ st) with
        | ok env1 =>
          rw [hz] at h1
          dsimp only at h1 ⊢
          rw [h1]
          simp only [rb_ok, h2]
        | exc x => rw [hz] at h1; cases h1
        | stuck => rw [hz] at h1; cases h1
      | rt d' =>
        obtain ⟨env', h1⟩ := h
        cases hz : s d (Γ st) with
        | ok env1 =>
          rw [hz] at h1
          dsimp only at h1 ⊢
          rw [h1]
          exact ⟨_, rfl⟩
        | exc x => rw [hz] at h1; cases h1
        | stuck => rw [hz] at h1; cases h1
    | exc x =>
      rw [hs] at h
      simp only [rb_exc]
      have h : (match s d (Γ st) with | .ok env1 => u env1 | _ => .stuck) = .exc x := h
      cases hz : s d (Γ st) with
      | ok env1 =>
        rw [hz] at h
        dsimp only at h ⊢
        rw [h]
        rfl
      | exc y => rw [hz] at h; cases h
      | stuck => rw [hz] at h; cases h
    | stuck => exact trivial
theorem after_ok (hR : Rl R q) {Γ : σ → Env} {r : SR} {m : Res (Fo σ)} {k : σ → Res β} (h : match m with
    | .ok (.nx st') => r = .ok (.nx, Γ st')
    | .ok (.bk st') => r = .ok (.nx, Γ st')
    | .ok (.rt d) => ∃ env, r = .ok (.rt d, env)
    | .exc x => r = .exc x
    | .stuck => True) (hk : ∀ st, R (w (Γ st)) (k st)) : R (r.bind fun r => match r.1 with
  | .nx => w r.2
  | _ => .ok r) (afterV m k q) := by
  unfold afterV
  cases m with
  | ok fo =>
    cases fo with
    | nx s => dsimp only at h; rw [h]; exact hk s
    | bk s => dsimp only at h; rw [h]; exact hk s
    | rt d => obtain ⟨e, h⟩ := h; rw [h]; exact hR.rt d e
  | exc x => dsimp only at h; rw [h]; exact hR.ex x
  | stuck => exact hR.st _
theorem r_for (hR : Rl R q) (Γ : σ → Env) {fg : List Nat} {s : TgF} {step : D → σ → Res (Fo σ)} {it : Env → Res (List D)} {ix : Res (List D)} {s0 : σ} {k : σ → Res β} (hi : it env = ix) (h0 : forget fg env = Γ s0)
    (hb : ∀ d st, RB Γ fg (tgt s u d (Γ st)) (step d st)) (hk : ∀ st, R (w (Γ st)) (k st)) : R (sSeq (sFor (yLift it) s u fg) w env) (ix.bind fun items => afterV (forV step items s0) k q) := by
  unfold sSeq sFor yLift
  rw [hi]
  cases ix with
  | ok items =>
    simp only [rb_ok]
    rw [h0]
    exact after_ok hR (forV_ok hb items s0) hk
  | exc x => exact hR.ex x
  | stuck => exact hR.st _
theorem whileV_ok {Γ : σ → Env} {fg : List Nat} {t : Env → Res Bool} {test : σ → Res Bool} {step : σ → Res (Fo σ)} (ht : ∀ st, t (Γ st) = test st) (hb : ∀ st, RB Γ fg (u (Γ st)) (step st)) : ∀ (n : Nat) (st : σ), match whileV test step n st with
    | .ok (.nx st') => whileL t u fg n (Γ st) = .ok (.nx, Γ st')
    | .ok (.bk st') => whileL t u fg n (Γ st) = .ok (.nx, Γ st')
    | .ok (.rt d) => ∃ env, whileL t u fg n (Γ st) = .ok (.rt d, env)
    | .exc x => whileL t u fg n (Γ st) = .exc x
    | .stuck => True
  | 0, st => trivial
  | n + 1, st => by
    have h := hb st
    rw [whileV, whileL, ht st]
    cases test st with
    | ok b =>
      simp only [rb_ok]
      cases b with
      | true =>
        simp only [if_true]
        cases hs : step st with
        | ok r =>
          rw [hs] at h
          simp only [rb_ok]
          cases r with
          | nx s' =>
            obtain ⟨env', h1, h2⟩ := h
            have ih := whileV_ok ht hb n s'
            rcases h1 with h1 | h1 <;> (rw [h1]; simp only [rb_ok, h2]; exact ih)
          | bk s' =>
            obtain ⟨env', h1, h2⟩ := h
            rw [h1]
            simp only [rb_ok, h2]
          | rt d' =>
            obtain ⟨env', h1⟩ := h
            rw [h1]
            exact ⟨_, rfl⟩
        | exc x =>
          rw [hs] at h
          have h : u (Γ st) = .exc x := h
          rw [h]
          rfl
        | stuck => exact trivial
      | false => rfl
    | exc x => rfl
    | stuck => exact trivial
theorem r_while (hR : Rl R q) (Γ : σ → Env) {fg : List Nat} {n : Env → Nat} {N : Nat} {t : Env → Res Bool} {test : σ → Res Bool} {step : σ → Res (Fo σ)} {s0 : σ} {k : σ → Res β} (hn : n env = N) (h0 : forget fg env = Γ s0)
    (ht : ∀ st, t (Γ st) = test st) (hb : ∀ st, RB Γ fg (u (Γ st)) (step st)) (hk : ∀ st, R (w (Γ st)) (k st)) : R (sSeq (sWhile n t u fg) w env) (afterV (whileV test step N s0) k q) := by
  unfold sSeq sWhile
  rw [hn, h0]
  exact after_ok hR (whileV_ok ht hb N s0) hk
end
theorem phi_of {N : Nat} {g : Env → SR} {ds : List D} {env : Env} {m : Res D} (he : ds.map some ++ List.replicate (N - ds.length) none = env) (h : RF (g env) m) : m = .stuck ∨ runF N g ds = m := by
  rcases h with h | h
  · exact .inl h
  · refine .inr ?_
    unfold runF
    rw [he]
    exact h
end
end PV
namespace PV
open PySem PySem.Spec PyProof.Rows L2
theorem chk_nox (d : D) (x : Exn) : chk d ≠ .exc x := by unfold chk; split <;> simp
def andV (a b : Res D) : Res D := a.bind fun d => (asB d).bind fun x => if x = true then b else .ok (.bl false)
def chV (a b : Res D) : Res D := a.bind fun z => (asB z).bind fun t => if t = true then b else .ok (.bl false)
def tupA (ds : List D) : Res D := if ds.length ≤ bigL then .ok (.tup ds) else .stuck
theorem t_lcb {env : Env} {i : Nat} {t : Env → Res Bool} {f : Env → Res D} {d : D} {tt : Res Bool} {fx : Res D} (h2 : t (env.set i (some d)) = tt) (h3 : f (env.set i (some d)) = fx) :
    stepL (putb i) t f env d = ifR tt (fx.bind fun y => (chk y).bind fun y => .ok (some y)) (.ok none) := by
  unfold stepL putb
  simp only [rb_ok]
  rw [h2, h3]
theorem t_lcb1 {env : Env} {i : Nat} {f : Env → Res D} {d : D} {fx : Res D} (h3 : f (env.set i (some d)) = fx) :
    stepL (putb i) bYes f env d = fx.bind fun y => (chk y).bind fun y => .ok (some y) := by
  unfold stepL putb
  simp only [rb_ok]
  rw [h3]
  rfl
theorem x_tupP {env : Env} {fs : Env → Res (List D)} {ds : List D} (h1 : fs env = .ok ds) (n : Nat) (hn : ds.length = n) (hb : Nat.ble n 1000000 = true) : eTup fs env = .ok (.tup ds) := by
  unfold eTup
  rw [h1]
  simp only [rb_ok]
  rw [if_pos (show ds.length ≤ bigL from by rw [hn]; exact Nat.le_of_ble_eq_true hb)]
theorem x_lstP {env : Env} {fs : Env → Res (List D)} {ds : List D} (h1 : fs env = .ok ds) (n : Nat) (hn : ds.length = n) (hb : Nat.ble n 1000000 = true) : eLst fs env = .ok (.lst .own ds) := by
  unfold eLst
  rw [h1]
  simp only [rb_ok]
  rw [if_pos (show ds.length ≤ bigL from by rw [hn]; exact Nat.le_of_ble_eq_true hb)]
theorem x_consP {env : Env} {f : Env → Res D} {fs : Env → Res (List D)} {a : D} {as : List D} (h1 : f env = .ok a) (h2 : fs env = .ok as) : lCons f fs env = .ok (a :: as) := by
  unfold lCons
  rw [h1, h2]
  rfl
theorem x_callP {env : Env} {fs : Env → Res (List D)} {Φ : List D → Res D} {dd as bs : List D} (h1 : fs env = .ok as) (h2 : as ++ dd = bs) : eCall Φ dd fs env = callD Φ bs := by
  unfold eCall
  rw [h1]
  simp only [rb_ok]
  rw [h2]
section
variable {q : D → Res D} {u v w : Env → SR} {env : Env} {f g : Env → Res D} {fx gx : Res D} {i j : Nat} {x : D}
theorem f_set {k : D → Res D} {en : D → Env} (hf : f env = fx) (he : ∀ a, env.set i (some a) = en a) (hk : ∀ a, RF (w (en a)) (k a)) : RF (sSeq (sSet i f) w env) ((fx.bind chk).bind k) := r_set rl_F hf (fun a => (he a).symm ▸ hk a)
theorem b_set {σ : Type} {Γ : σ → Env} {fg : List Nat} {k : D → Res (Fo σ)} {en : D → Env} (hf : f env = fx) (he : ∀ a, env.set i (some a) = en a) (hk : ∀ a, RB Γ fg (w (en a)) (k a)) : RB Γ fg (sSeq (sSet i f) w env) ((fx.bind chk).bind k) := r_set rl_B hf (fun a => (he a).symm ▸ hk a)
theorem f_setV {m : Res D} {en : Env} (hf : f env = .ok x) (hx : noT x = true) (he : env.set i (some x) = en) (hk : RF (w en) m) : RF (sSeq (sSet i f) w env) m := r_setV hf hx (he.symm ▸ hk)
theorem b_app {σ : Type} {Γ : σ → Env} {fg : List Nat} {k : D → Res (Fo σ)} {en : D → Env} (hx : env[i]? = some (some x)) (hf : f env = fx) (he : ∀ a, env.set i (some a) = en a) (hk : ∀ a, RB Γ fg (w (en a)) (k a)) : RB Γ fg (sSeq (sApp i f) w env) ((appV x fx).bind k) := r_app rl_B hx hf (fun a => (he a).symm ▸ hk a)
theorem f_drop {m : Res D} (hf : f env = fx) (hk : RF (w env) m) : RF (sSeq (sDrop f) w env) (fx.bind fun _ => m) := r_drop rl_F hf hk
theorem f_ret (hf : f env = fx) : RF (sSeq (sRet f) w env) ((fx.bind chk).bind okR) := r_ret rl_F hf
theorem f_retC (hf : f env = .ok x) (hx : noT x = true) : RF (sSeq (sRet f) w env) (okR x) := r_retC rl_F hf hx
theorem b_retC {σ : Type} {Γ : σ → Env} {fg : List Nat} (hf : f env = .ok x) (hx : noT x = true) : RB Γ fg (sSeq (sRet f) w env) (rtR x) := r_retC rl_B hf hx
theorem f_retV (hx : env[i]? = some (some x)) : RF (sSeq (sRetV i) w env) (okR x) := r_retV rl_F hx
theorem f_if {t : Env → Res Bool} {tx : Res Bool} {a b : Res D} (ht : t env = tx) (h1 : RF (sSeq u w env) a) (h2 : RF (sSeq v w env) b) : RF (sSeq (sIf t u v) w env) (ifR tx a b) := r_if rl_F ht h1 h2
theorem b_if {σ : Type} {Γ : σ → Env} {fg : List Nat} {t : Env → Res Bool} {tx : Res Bool} {a b : Res (Fo σ)} (ht : t env = tx) (h1 : RB Γ fg (sSeq u w env) a) (h2 : RB Γ fg (sSeq v w env) b) : RB Γ fg (sSeq (sIf t u v) w env) (ifR tx a b) := r_if rl_B ht h1 h2
theorem f_nil {m : Res D} (h : RF (w env) m) : RF (sSeq sNil w env) m := r_nil h
theorem b_nil {σ : Type} {Γ : σ → Env} {fg : List Nat} {m : Res (Fo σ)} (h : RB Γ fg (w env) m) : RB Γ fg (sSeq sNil w env) m := r_nil h
theorem f_frz {m : Res D} {en : Env} (he : freezeE i env = en) (h : RF (sSeq u w en) m) : RF (sSeq (sFrz i u) w env) m := r_frz (he.symm ▸ h)
theorem b_frz {σ : Type} {Γ : σ → Env} {fg : List Nat} {m : Res (Fo σ)} {en : Env} (he : freezeE i env = en) (h : RB Γ fg (sSeq u w en) m) : RB Γ fg (sSeq (sFrz i u) w env) m := r_frz (he.symm ▸ h)
theorem f_assoc {m : Res D} (h : RF (sSeq u (sSeq v w) env) m) : RF (sSeq (sSeq u v) w env) m := r_assoc h
theorem b_assoc {σ : Type} {Γ : σ → Env} {fg : List Nat} {m : Res (Fo σ)} (h : RB Γ fg (sSeq u (sSeq v w) env) m) : RB Γ fg (sSeq (sSeq u v) w env) m := r_assoc h
theorem f_last {m : Res D} (h : RF (sSeq u sNil env) m) : RF (u env) m := r_last h
theorem b_last {σ : Type} {Γ : σ → Env} {fg : List Nat} {m : Res (Fo σ)} (h : RB Γ fg (sSeq u sNil env) m) : RB Γ fg (u env) m := r_last h
theorem f_for {τ : Type} (Δ : τ → Env) {hg : List Nat} {s : TgF} {step : D → τ → Res (Fo τ)} {it : Env → Res (List D)} {ix : Res (List D)} {s0 : τ} {k : τ → Res D} (hi : it env = ix) (h0 : forget hg env = Δ s0) (hb : ∀ d st, RB Δ hg (tgt s u d (Δ st)) (step d st)) (hk : ∀ st, RF (w (Δ st)) (k st)) : RF (sSeq (sFor (yLift it) s u hg) w env) (ix.bind fun items => afterV (forV step items s0) k okR) := r_for rl_F Δ hi h0 hb hk
theorem f_while {τ : Type} (Δ : τ → Env) {hg : List Nat} {n : Env → Nat} {N : Nat} {t : Env → Res Bool} {test : τ → Res Bool} {step : τ → Res (Fo τ)} {s0 : τ} {k : τ → Res D} (hn : n env = N) (h0 : forget hg env = Δ s0) (ht : ∀ st, t (Δ st) = test st) (hb : ∀ st, RB Δ hg (u (Δ st)) (step st)) (hk : ∀ st, RF (w (Δ st)) (k st)) : RF (sSeq (sWhile n t u hg) w env) (afterV (whileV test step N s0) k okR) := r_while rl_F Δ hn h0 ht hb hk
theorem b_tgt {σ α : Type} {Γ : σ → Env} {fg : List Nat} {s : TgF} {d : D} {tx : Res α} {e' en : α → Env} {k : α → Res (Fo σ)} (hs : s d env = tx.bind fun a => .ok (e' a)) (hx : ∀ x, tx ≠ .exc x) (he : ∀ a, e' a = en a) (hk : ∀ a, RB Γ fg (u (en a)) (k a)) : RB Γ fg (tgt s u d env) (tx.bind k) := r_tgt hs hx (fun a => (he a).symm ▸ hk a)
end
end PV
end
section
namespace PV
open PySem PySem.Spec PyProof.Rows L2
def inCls (s : Stmt) (k : Nat) : Stmt := match s with
  | .ClassDef _ _ _ b _ _ _ _ _ _ _ => b.getD k (.Pass ⟨0, 0, 0, 0⟩)
  | _ => .Pass ⟨0, 0, 0, 0⟩
def initT (K : PySem.W.Frag) : List (Str × Nat) → TS
  | [] => fun D σ H => D.nx σ H
  | (f, i) :: l => fun D σ H => sFld K (fun σ H Q => ∃ v, σ[0]? = some (some v) ∧ Q v H) (fun σ H Q => ∃ v, σ[i]? = some (some v) ∧ Q v H) f { D with nx := initT K l D } σ H
theorem init_nil {X : Cx} : PSs X [] (initT X.K []) := PSs.imp pss_nil fun D σ H h => h
theorem init_cons {X : Cx} {f self x : Str} {i : Nat} {l : List (Str × Nat)} {sts : List Stmt} {q1 q2 q3 q4 : Pos} (h0 : X.N[0]? = some self) (hi : X.N[i]? = some x) (v0 : Vis X.env.scope self) (vi : Vis X.env.scope x) (d0 : (self == ("__debug__" : Str)) = false) (c0 : (self == ("__classdict__" : Str)) = false)
    (di : (x == ("__debug__" : Str)) = false) (ci : (x == ("__classdict__" : Str)) = false) (hs : swapsWith (.Name x q3) (some (.Attribute (.Name self q1) f q2)) q4.line X.env = pure false) (h : PSs X sts (initT X.K l)) :
    PSs X (.Assign [.Attribute (.Name self q1) f q2] (.Name x q3) q4 :: sts) (initT X.K ((f, i) :: l)) :=
  PSs.imp (pss_cons (ps_fld (pe_var (i := 0) h0 v0 d0 c0) (pe_var (i := i) hi vi di ci) hs) h) fun D σ H z => by
    obtain ⟨v, h1, w, h2, z⟩ := z
    exact ⟨v, h1, w, h2, z⟩
theorem init_read {K : PySem.W.Frag} {C dx x : Addr} {D : Ends} {σ : L2.St} (h0 : σ[0]? = some (some (.ref x))) (hc : Cls K C) : ∀ (l : List (Str × Nat)) (fs : List (Str × V)) (vs : List V) (H : Hp), l ≠ [] →
    H x = some (.ins C dx fs) → l.length = vs.length → (∀ (j : Nat) (p : Str × Nat) (v : V), l[j]? = some p → vs[j]? = some v → σ[p.2]? = some (some v)) → (∀ p ∈ l, NoAttr K C p.1) → fs.length + l.length ≤ 900 →
    D.nx σ (upd H x (.ins C dx (((l.map (·.1)).zip vs).foldl (fun fs p => putF p.1 p.2 fs) fs))) → initT K l D σ H
  | (f, i) :: l, fs, v :: vs, H, _, hx, hl, hv, hn, hz, q => by
    have e0 : σ[i]? = some (some v) := hv 0 (f, i) v rfl rfl
    refine ⟨v, e0, .ref x, h0, x, C, dx, fs, rfl, hx, hc, hn (f, i) List.mem_cons_self, by omega, ?_⟩
    cases l with
    | nil =>
      have : vs = [] := List.eq_nil_of_length_eq_zero (by simpa using hl.symm)
      subst this
      exact q
    | cons p l =>
      have hlen : (putF f v fs).length ≤ fs.length + 1 := by
        have : ∀ gs : List (Str × V), (putF f v gs).length ≤ gs.length + 1 := by
          intro gs
          induction gs with
          | nil => simp [putF]
          | cons g gs ih => rw [putF]; split <;> simp <;> omega
        exact this fs
      refine init_read h0 hc (p :: l) (putF f v fs) vs _ (by simp) upd_same (by simpa using hl) (fun j p v h1 h2 => hv (j + 1) p v (by simpa using h1) (by simpa using h2)) (fun p hp => hn p (List.mem_cons_of_mem _ hp)) (by simp at hz ⊢; omega) ?_
      rw [upd_upd]
      simpa using q
theorem put_new (f : Str) (v : V) : ∀ fs : List (Str × V), (∀ p ∈ fs, p.1 ≠ f) → putF f v fs = fs ++ [(f, v)]
  | [], _ => rfl
  | (g, x) :: r, h => by
    rw [putF, if_neg (h (g, x) List.mem_cons_self), put_new f v r fun p hp => h p (List.mem_cons_of_mem _ hp)]
    rfl
theorem put_zip : ∀ (ns : List Str) (vs : List V) (fs : List (Str × V)), ns.length = vs.length → ns.Nodup → (∀ n ∈ ns, ∀ p ∈ fs, p.1 ≠ n) → (ns.zip vs).foldl (fun fs p => putF p.1 p.2 fs) fs = fs ++ ns.zip vs
  | [], vs, fs, _, _, _ => by simp
  | n :: ns, [], fs, h, _, _ => by simp at h
  | n :: ns, v :: vs, fs, h, nd, hf => by
    rw [List.nodup_cons] at nd
    rw [List.zip_cons_cons, List.foldl_cons, put_new n v fs (hf n List.mem_cons_self), put_zip ns vs _ (by simpa using h) nd.2, List.append_assoc]
    · rfl
    · intro m hm p hp
      rcases List.mem_append.mp hp with hp | hp
      · exact hf m (List.mem_cons_of_mem _ hm) p hp
      · rw [List.mem_singleton.mp hp]
        rintro rfl
        exact nd.1 hm
def SpInit (C : Addr) (ns : List Str) : Sp := fun vs H Q _ => ∃ (x dx : Addr) (us : List V), vs = .ref x :: us ∧ us.length = ns.length ∧ H x = some (.ins C dx []) ∧ Q .non (upd H x (.ins C dx (ns.zip us)))
section
variable {P : Program} {w : World} {K : PySem.W.Frag} {mg : Str → Option Value} {base : Heap}
theorem init_ok {qual : Str} {st : Stmt} {f : Addr} {fd : FuncData} {N ps : List Str} {dvs : List V} {kws : List (Str × V)} {C : Addr} {l : List (Str × Nat)} (F : FunD K "__init__" qual (defArgs st) (defBody st) (defScope st) dvs kws f fd) (S : FnScope N ps (defScope st))
    (hc : Cls K C) (hn : ∀ p ∈ l, NoAttr K C p.1) (hl : ps.length = l.length + 1) (hne : l ≠ []) (hz : l.length ≤ 900) (nd : (l.map (·.1)).Nodup) (hi : ∀ (j : Nat) (p : Str × Nat), l[j]? = some p → p.2 = j + 1)
    (hb : ∀ (cdv : Value) (A : Around) (outer : List PySem.Env) (s : Shared) (H : Hp) (E : XK), PSs (cxOf (L2.CX P w) P w K mg base N qual (defScope st) f cdv A outer s H E) (defBody st) (initT K l)) :
    FnOk P w K mg base (L2.CX P w) 1 f fd ps (SpInit C (l.map (·.1))) := by
  refine F.ok (k := 0) S (fun vs H Q E h => ?_) (fun cdv A outer s H vs Q E _ h => ?_)
  · obtain ⟨x, dx, us, rfl, hu, _⟩ := h
    rw [List.length_map] at hu
    rw [hl, List.length_cons, hu]
  · obtain ⟨x, dx, us, rfl, hu, hx, q⟩ := h
    rw [List.length_map] at hu
    refine ⟨_, hb cdv A outer s H E, init_read (x := x) (dx := dx) (by rfl) hc l [] us H hne hx hu.symm (fun j p v h1 h2 => ?_) hn (by simpa using hz) ?_⟩
    · rw [hi j p h1]
      unfold L2.start
      rw [List.map_cons, List.cons_append, List.getElem?_cons_succ, List.getElem?_append_left (by
        have := (List.getElem?_eq_some_iff.mp h2).1
        simpa using this), List.getElem?_map, h2]
      rfl
    · rw [put_zip _ _ _ (by rw [List.length_map, hu]) nd (by simp), List.nil_append]
      exact q
end
structure MkC (P : Program) (w : World) (K : PySem.W.Frag) (mg : Str → Option Value) (base : Heap) (κ : Kap K) (x : Str) (ns : List Str) : Prop where
  ex : ∃ (f : Addr) (fd : FuncData) (ps : List Str), Mk K (κ.cls x) f ∧ FnOk P w K mg base (L2.CX P w) 1 f fd ps (SpInit (κ.cls x) ns) ∧ mg x = some (.ref (κ.cls x)) ∧ Binds K fd ps []
def dMake (x : Str) (ns : List Str) (ds : List D) : Res D := if ds.length = ns.length then .ok (.nd .own (.ins x ns) ds) else .stuck
section
variable {X : Cx} {c : Cfg X.K} {E : XK} {e : Expr} {es : List Expr} {pos p : Pos} {fs : Env → Res (List D)} {x : Str} {ns : List Str} {k : Nat}
theorem ev_make (M : MkC X.prog X.w X.K X.mg X.base c.κ x ns) (hr : Room 2 X.A) (hg : Gl X x) (hx : Passes (L2.CX X.prog X.w) X E)
    (ha : EL X c E (e :: es) fs) (hdb : (x == ("__debug__" : Str)) = false := by decide) (he : starEach (e :: es) X.env = (false, eval e X.env) :: starEach es X.env := by rfl) (hpl : (backTo pos (starEach es X.env)).any (·.1) = false := by rfl) :
    EV X c E (.Call (.Name x p) (e :: es) [] pos) (eC_ (dMake x ns) fs) := by
  obtain ⟨f, fd, ps, mk, F, hm, hb⟩ := M.ex
  refine PE.imp (pe_make mk F hr hg hm hb .nil hx ha hdb he hpl) fun σ H Q q => ?_
  refine glueL (k := dMake x ns) q fun F1 H1 ds vs fp hh fh r nd fr ok ex st => ?_
  intro a dx h1 h2 hne
  unfold dMake at ok st
  by_cases hl : ds.length = ns.length
  case neg => exact absurd (if_neg hl) st
  rw [if_pos hl] at ok
  rw [List.append_nil]
  refine ⟨a, dx, vs, rfl, by rw [← r.length]; exact hl, upd_same, rfl, ?_⟩
  rw [upd_upd]
  have x1 : Ext F1 H1 F1 (upd H1 dx (.own a)) := .newO fh h2
  have h1' : upd H1 dx (.own a) a = none := by rw [upd_ne (Ne.symm hne)]; exact h1
  have x2 : Ext F1 (upd H1 dx (.own a)) F1 (upd (upd H1 dx (.own a)) a (.ins (c.κ.cls x) dx (ns.zip vs))) := .newO x1.fh h1'
  have xx := x1.trans x2
  refine ok _ _ _ _ (a :: fp) rfl xx (.ndO upd_same ⟨by rw [← r.length]; exact hl.symm, dx, rfl⟩ (r.ext xx)) (List.nodup_cons.mpr ⟨fun m => ?_, nd⟩) fun b m => ?_
  · obtain ⟨o, k1, _⟩ := RepL.own _ _ _ _ _ _ r a m
    rw [h1] at k1
    cases k1
  · rcases List.mem_cons.mp m with rfl | m
    · exact ⟨hh.free h1, fh.free h1⟩
    · exact fr b m
end
@[simp] theorem dMake_e {x : Str} {ns : List Str} {ds : List D} : dMake x ns ds = if ds.length = ns.length then .ok (.nd .own (.ins x ns) ds) else .stuck := rfl
section
variable {σ τ α β γ : Type}
@[simp] theorem chk_e {d : D} : chk d = if noT d = true then .ok d else .stuck := rfl
@[simp] theorem okR_e {d : D} : okR d = .ok d := rfl
@[simp] theorem rtR_e {d : D} : (rtR d : Res (Fo σ)) = .ok (.rt d) := rfl
@[simp] theorem ifR_e {c : Bool} {a b : Res β} : ifR (.ok c) a b = if c = true then a else b := rfl
@[simp] theorem ifR_stuck {a b : Res β} : ifR .stuck a b = .stuck := rfl
@[simp] theorem afterV_nx {s : σ} {k : σ → Res β} {q : D → Res β} : afterV (.ok (.nx s)) k q = k s := rfl
@[simp] theorem afterV_rt {d : D} {k : σ → Res β} {q : D → Res β} : afterV (.ok (.rt d)) k q = q d := rfl
@[simp] theorem appV_e {ds : List D} {d : D} : appV (.nd .own .lst ds) (.ok d) = if noT d = true ∧ ds.length < bigL then .ok (.lst .own (ds ++ [d])) else .stuck := rfl
@[simp] theorem ub2_e {a b : D} : ub2 (.tup [a, b]) = .ok (a, b) := rfl
@[simp] theorem lstB_e {ys : List D} : lstB ys = if ys.length ≤ bigL then .ok (.lst .own ys) else .stuck := rfl
@[simp] theorem tupA_e {ys : List D} : tupA ys = if ys.length ≤ bigL then .ok (.tup ys) else .stuck := rfl
@[simp] theorem andV_e {b : Bool} {r : Res D} : andV (.ok (.bl b)) r = if b = true then r else .ok (.bl false) := rfl
@[simp] theorem chV_e {b : Bool} {r : Res D} : chV (.ok (.bl b)) r = if b = true then r else .ok (.bl false) := rfl
@[simp] theorem forV_nil {f : D → σ → Res (Fo σ)} {s : σ} : forV f [] s = .ok (.nx s) := rfl
theorem forV_cons {f : D → σ → Res (Fo σ)} {d : D} {ds : List D} {s : σ} : forV f (d :: ds) s = (f d s).bind fun r => match r with
    | .nx s' => forV f ds s'
    | .bk s' => .ok (.nx s')
    | .rt d => .ok (.rt d) := rfl
theorem forV_same {f : D → σ → Res (Fo σ)} {ei : α → D} {s : σ} : ∀ xs : List α, (∀ x ∈ xs, f (ei x) s = .ok (.nx s)) → forV f (xs.map ei) s = .ok (.nx s)
  | [], _ => rfl
  | x :: xs, q => by
    rw [List.map_cons, forV_cons, q x (List.mem_cons_self ..)]
    exact forV_same xs fun y hy => q y (List.mem_cons_of_mem _ hy)
theorem lcV_eq {f : D → Res (Option D)} {ei : α → D} (e : γ → D) (g : α → Option γ) : ∀ xs : List α, (∀ x ∈ xs, f (ei x) = .ok ((g x).map e)) → lcV f (xs.map ei) = .ok ((xs.filterMap g).map e)
  | [], _ => rfl
  | x :: xs, h => by
    have ih := lcV_eq e g xs fun y hy => h y (List.mem_cons_of_mem _ hy)
    rw [List.map_cons, lcV, h x (List.mem_cons_self ..)]
    cases hx : g x with
    | none => rw [List.filterMap_cons_none hx]; exact ih
    | some y => rw [List.filterMap_cons_some hx]; simp only [Option.map_some, ih, rb_ok, List.map_cons]
theorem lcV_map {f : D → Res (Option D)} {ei : α → D} (e : γ → D) (g : α → γ) (xs : List α) (h : ∀ x ∈ xs, f (ei x) = .ok (some (e (g x)))) : lcV f (xs.map ei) = .ok ((xs.map g).map e) := by
  rw [lcV_eq e (fun x => some (g x)) xs h]
  simp
end
@[simp] theorem itemsOf_frzT {ds : List D} : itemsOf true (.nd .frz .lst ds) = if noTL ds = true then .ok (fzL ds) else .stuck := by rw [itemsOf_lstT, noT_frz]
@[simp] theorem itemsOf_ownT {ds : List D} : itemsOf true (.nd .own .lst ds) = if noTL ds = true then .ok (fzL ds) else .stuck := by rw [itemsOf_lstT, noT_own]
section
variable {α : Type}
theorem atI_lit {xs : List α} {k : Nat} {v : α} (h : xs[k]? = some v) : atI xs (k : Int) = some v := atI_nat h
@[simp] theorem at_0 {a : α} {xs : List α} : atI (a :: xs) (0 : Int) = some a := atI_lit (k := 0) rfl
@[simp] theorem at_1 {a b : α} {xs : List α} : atI (a :: b :: xs) (1 : Int) = some b := atI_lit (k := 1) rfl
@[simp] theorem at_2 {a b c : α} {xs : List α} : atI (a :: b :: c :: xs) (2 : Int) = some c := atI_lit (k := 2) rfl
@[simp] theorem at_3 {a b c d : α} {xs : List α} : atI (a :: b :: c :: d :: xs) (3 : Int) = some d := atI_lit (k := 3) rfl
@[simp] theorem at_4 {a b c d e : α} {xs : List α} : atI (a :: b :: c :: d :: e :: xs) (4 : Int) = some e := atI_lit (k := 4) rfl
@[simp] theorem at_5 {a b c d e f : α} {xs : List α} : atI (a :: b :: c :: d :: e :: f :: xs) (5 : Int) = some f := atI_lit (k := 5) rfl
@[simp] theorem at_6 {a b c d e f g : α} {xs : List α} : atI (a :: b :: c :: d :: e :: f :: g :: xs) (6 : Int) = some g := atI_lit (k := 6) rfl
@[simp] theorem at_7 {a b c d e f g h : α} {xs : List α} : atI (a :: b :: c :: d :: e :: f :: g :: h :: xs) (7 : Int) = some h := atI_lit (k := 7) rfl
end
@[simp] theorem rdL_append (xs ys : List D) : rdL (xs ++ ys) = rdL xs ++ rdL ys := by
  induction xs with
  | nil => rfl
  | cons x xs ih => rw [List.cons_append, rdL_cons, rdL_cons, ih, List.cons_append]
@[simp] theorem fzL_append (xs ys : List D) : fzL (xs ++ ys) = fzL xs ++ fzL ys := by
  induction xs with
  | nil => rfl
  | cons x xs ih => rw [List.cons_append, fzL_cons, fzL_cons, ih, List.cons_append]
@[simp] theorem faL_append (xs ys : List D) : faL (xs ++ ys) = faL xs ++ faL ys := by
  induction xs with
  | nil => rw [faL_nil]; rfl
  | cons x xs ih => rw [List.cons_append, faL_cons, faL_cons, ih, List.cons_append]
@[simp] theorem imOL_append (xs ys : List D) : imOL (xs ++ ys) = (imOL xs && imOL ys) := by
  rw [imOL_eq, imOL_eq, imOL_eq, List.all_append]
theorem sort_strs {α : Type} {t : Tag} (f : α → Str) (ls : List α) (h : ∀ w ∈ ls, PyData.strOk (f w) = true) : dSort [.nd t .lst (ls.map fun w => .str (f w))] = .ok (.lst .own ((ls.mergeSort fun a b => decide ((f a).cps.toList ≤ (f b).cps.toList)).map fun w => .str (f w))) := by
  have e : (ls.map fun w => D.str (f w)).mergeSort leD = (ls.mergeSort fun a b => decide ((f a).cps.toList ≤ (f b).cps.toList)).map fun w => .str (f w) := by
    rw [List.map_mergeSort]
    intro a _ b _
    exact (congrFun (congrFun (PySem.W.dataLe_str f) a) b).symm
  have ok : sortOk (ls.map fun w => D.str (f w)) = true := by
    unfold sortOk
    have h1 : immL (ls.map fun w => D.str (f w)) = true := by
      have : ∀ xs : List α, immL (xs.map fun w => D.str (f w)) = true := fun xs => by
        induction xs with
        | nil => rw [List.map_nil, immL]
        | cons x xs ih => rw [List.map_cons, immL, ih, imm_str]; rfl
      exact this ls
    have h2 : plL 50 (ls.map fun w => D.str (f w)) = true := by
      rw [plL_eq, List.all_eq_true]
      intro d hd
      obtain ⟨w, hw, rfl⟩ := List.mem_map.mp hd
      rw [plD]
      exact h w hw
    rw [h1, h2]
    simp only [Bool.true_and, Bool.and_eq_true, Bool.or_eq_true]
    refine ⟨?_, .inr ?_⟩
    · rw [List.all_eq_true]
      intro d hd
      rw [List.all_eq_true]
      intro d' hd'
      obtain ⟨w, hw, rfl⟩ := List.mem_map.mp hd
      obtain ⟨w', hw', rfl⟩ := List.mem_map.mp hd'
      rfl
    · rw [List.all_eq_true]
      intro d hd
      obtain ⟨w, hw, rfl⟩ := List.mem_map.mp hd
      rfl
  show (if sortOk (ls.map fun w => D.str (f w)) = true then Res.ok (D.lst .own ((ls.map fun w => D.str (f w)).mergeSort leD)) else .stuck) = _
  rw [if_pos ok, e]
end PV
end
section
namespace PV
open PySem PySem.Spec PyProof.Rows L2 PySem.Froz
section
variable {P : Program} {w : World} {K : Type} [DecidableEq K] {knd : PySem.KeyKind P w K}
abbrev Row (K : Type) : Type := (Int × Value) × K
def RowOk (knd : PySem.KeyKind P w K) (r : Row K) : Prop := (knd.is r.2 r.1.2 = true ∧ r.1.1 = knd.hash r.2) ∧ r.1.2.scannable = true
def SetT (knd : PySem.KeyKind P w K) (h : Heap) (a : Addr) (T : List (Row K)) : Prop :=
  ∃ D : SD, h.get? a = some (sObj "set" D) ∧ D.1.toList.Perm (T.map Prod.fst) ∧ (∀ r ∈ T, RowOk knd r) ∧ (T.map Prod.snd).Nodup ∧ D.1.size < scanBound ∧ D.2.2.fits D.1.size = true ∧ Ris D.2.2.place.toList ∧ (w.params.followText "set-order" = true ∨ D.2.2.led = true)
theorem SetT.size {h : Heap} {a : Addr} {T : List (Row K)} {D : SD} (pm : D.1.toList.Perm (T.map Prod.fst)) : D.1.size = T.length := by
  rw [← Array.length_toList, pm.length_eq, List.length_map]
theorem SetT.stays {h h' : Heap} {a : Addr} {T : List (Row K)} (S : SetT knd h a T) (k : ∀ o, h.get? a = some o → h'.get? a = some o) : SetT knd h' a T := by
  obtain ⟨D, ho, r⟩ := S
  exact ⟨D, k _ ho, r⟩
theorem rows_elems {T : List (Row K)} {es : List (Int × Value)} (pm : es.Perm (T.map Prod.fst)) (ok : ∀ r ∈ T, RowOk knd r) : ElemsOf knd es := by
  intro e he
  obtain ⟨r, hr, rfl⟩ := List.mem_map.mp (pm.mem_iff.mp he)
  exact ⟨⟨r.2, (ok r hr).1⟩, (ok r hr).2⟩
theorem tail_keeps (ep : Nat) (es : Array (Int × Value)) (t : SetTable) (b : Bool) (hf : t.fits es.size = true) (hr : Ris t.place.toList) :
    (tailTx ep es t b).1.toList.Perm es.toList ∧ (tailTx ep es t b).2.2.fits (tailTx ep es t b).1.size = true ∧ Ris (tailTx ep es t b).2.2.place.toList ∧ (tailTx ep es t b).2.2.led = t.led := by
  unfold tailTx
  split
  · exact ⟨relayAll_perm t es _, relayAll_fits t es _, relayAll_ris t es _, relayAll_led t es _⟩
  · exact ⟨List.Perm.refl _, hf, hr, rfl⟩
variable {A : Around} {E : Value → Shared → Prop} {s : Shared}
theorem sett_add {a : Addr} {T : List (Row K)} {x : Value} {k : K} {Q : Bool → Shared → Prop} (S : SetT knd s.heap a T) (hx : knd.is k x = true) (sc : x.scannable = true) (room : T.length + 1 < scanBound)
    (hQ : ∀ b h' T', Heap.SameBut a s.heap h' → SetT knd h' a T' → (∀ j, j ∈ T'.map Prod.snd ↔ j ∈ T.map Prod.snd ∨ j = k) → T'.length ≤ T.length + 1 → Q b { s with heap := h' }) :
    wpAny (model P w) A (setAddHashed a x (knd.hash k)) Q E s := by
  have S0 := S
  obtain ⟨⟨es, ep, t⟩, ho, pm, ok, nd, hb, hf, hr, hl⟩ := S
  have el := rows_elems pm ok
  have sz : es.size = T.length := SetT.size (h := s.heap) (a := a) (D := (es, ep, t)) pm
  have da : (sObj "set" (es, ep, t)).data = .set es ep t := rfl
  unfold setAddHashed setAddHashedIn
  apply wpAny_holding
  apply wpAny_bind
  apply wpAny_setState_of ho da hf
  dsimp only
  rw [if_pos (byScan_of (knd := knd) sc hb el)]
  unfold setAddByScan
  apply wpAny_bind
  apply wpAny_bind
  apply wpAny_rule
  apply wpAny_bind
  apply wpAny_setScan_of (knd := knd) (k := k) hx ho da hf el
  have gw : ∀ (b : Bool) {s₁ : Shared} {Q' : Unit → Shared → Prop}, Q' () s₁ → wpAny (model P w) A (match b with | true => rule "set.scan.the-table-gave-way" | false => pure ()) Q' E s₁ := by
    intro b s₁ Q' q
    cases b
    · exact wpAny_pure q
    · exact wpAny_rule q
  cases fi : es.toList.findIdx? (fun e => knd.is k e.2) with
  | some j =>
    obtain ⟨hj, pj, _⟩ := List.findIdx?_eq_some_iff_getElem.mp fi
    obtain ⟨r, hrT, er⟩ := List.mem_map.mp (pm.mem_iff.mp (List.getElem_mem hj))
    have ek : r.2 = k := by
      refine knd.inj r.1.2 r.2 k (ok r hrT).1.1 ?_
      rw [er]
      exact pj
    refine wpAny_pure (wpAny_pure (hQ _ _ T (Heap.SameBut.refl a s.heap) S0 (fun i => ⟨.inl, fun q => q.elim id fun q => ?_⟩) (Nat.le_succ _)))
    rw [q, ← ek]
    exact List.mem_map.mpr ⟨r, hrT, rfl⟩
  | none =>
    have kn : k ∉ T.map Prod.snd := by
      intro q
      obtain ⟨r, hrT, er⟩ := List.mem_map.mp q
      have := List.findIdx?_eq_none_iff.mp fi r.1 (pm.mem_iff.mpr (List.mem_map.mpr ⟨r, hrT, rfl⟩))
      rw [← er, (ok r hrT).1.1] at this
      cases this
    have lp := layNew_perm t es (knd.hash k) x
    have lf := layNew_fits t es (knd.hash k) x
    have lr := layNew_ris t es (knd.hash k) x hr
    have ll := layNew_led t es (knd.hash k) x
    dsimp only
    generalize layNew t es (knd.hash k) x = L at lp lf lr ll ⊢
    obtain ⟨es1, t1, wd, gave⟩ := L
    dsimp only at lp lf lr ll ⊢
    rw [Array.toList_push] at lp
    have s1 : es1.size = es.size + 1 := by
      have := lp.length_eq
      simpa using this
    have b1 : es1.size < scanBound := by omega
    have fin : ∀ t2 : SetTable, t2.fits es1.size = true → Ris t2.place.toList → t2.led = t1.led → ∀ b, Q b { s with heap := s.heap.update a fun _ => sObj "set" (tailTx ep es1 t2 wd) } := by
      intro t2 f2 r2 l2 b
      obtain ⟨q1, q2, q3, q4⟩ := tail_keeps ep es1 t2 wd f2 r2
      have pz : (tailTx ep es1 t2 wd).1.toList.Perm ((((knd.hash k, x), k) :: T).map Prod.fst) := by
        refine (q1.trans lp).trans ((List.perm_append_singleton _ _).trans ?_)
        exact List.Perm.cons _ pm
      refine hQ b _ (((knd.hash k, x), k) :: T) (Heap.SameBut.update s.heap a _) ⟨tailTx ep es1 t2 wd, get_upd _ ho rfl, pz, ?_, ?_, ?_, q2, q3, ?_⟩ ?_ (Nat.le_refl _)
      · intro r hr'
        rcases List.mem_cons.mp hr' with rfl | hr'
        · exact ⟨⟨hx, rfl⟩, sc⟩
        · exact ok r hr'
      · rw [List.map_cons, List.nodup_cons]
        exact ⟨kn, nd⟩
      · rw [SetT.size (h := s.heap) (a := a) pz, List.length_cons]
        exact room
      · rw [q4, l2, ll]
        exact hl
      · intro j
        rw [List.map_cons, List.mem_cons]
        exact Or.comm
    apply wpAny_bind
    apply gw
    split
    · apply wpAny_bind
      rw [hashByValue_scannable 8 sc]
      apply wpAny_pure
      apply addTail_x (T := "set") (ep := ep) (es := es) (t := t) (fun b s₁ Q' q => gw b q) ho b1
      apply wpAny_pure
      refine fin _ ?_ ?_ ?_ true
      · split
        · exact SetTable.fits_plain_off lf
        · exact lf
      · split <;> exact lr
      · split <;> rfl
    · apply wpAny_bind
      apply wpAny_pure
      apply addTail_x (T := "set") (ep := ep) (es := es) (t := t) (fun b s₁ Q' q => gw b q) ho b1
      apply wpAny_pure
      exact fin _ lf lr rfl true
theorem sett_loop {I : Addr} {fp wr : List Addr} {G : Array GenState → Array GenState → Prop} {n : Nat} {Pv : Nat → Value → Prop} {St : Nat → Shared → Prop} {R : Result → Shared → Prop} (W : WalksS P w A.in1 I fp wr G n Pv St) {a : Addr} (ha : a ∉ fp)
    (ks : List K) (hn : n = ks.length) (room : n + 1 < scanBound) (hv : ∀ i v, Pv i v → ∃ k, ks[i]? = some k ∧ knd.is k v = true ∧ v.scannable = true)
    (m : Nat) : ∀ (i : Nat) (s : Shared) (T : List (Row K)), n = i + m → St i s → SetT knd s.heap a T → T.length ≤ i → (∀ j, j ∈ T.map Prod.snd ↔ j ∈ ks.take i) →
      (∀ s' T', Moved (a :: wr) G s s' → SetT knd s'.heap a T' → (∀ j, j ∈ T'.map Prod.snd ↔ j ∈ ks) → R (.ok (.ret .none)) s') → codeAny (model P w) A (.builtin "set.update.loop" ⟨[.ref a, .ref I], []⟩) R s := by
  have wf : a ∉ wr := fun q => ha (W.sub a q)
  have up : ∀ b ∈ wr, b ∈ a :: wr := fun b q => .tail a q
  induction m with
  | zero =>
    intro i s T e st S _ mem fin
    obtain rfl : n = i := e
    apply codeAny_builtin F.entry_set_update_loop
    rw [Around.under_plainId F.plain_set_update_loop]
    show wpAny _ A.in1 (pyNext (.ref I) >>= _) _ _ _
    apply wpAny_bind
    apply W.done s _ _ st
    intro s' mv
    show wpAny _ A.in1 (ret Value.none) _ _ _
    apply wpAny_pure
    refine fin s' T (mv.mono up) (S.stays fun o q => mv.heap a o wf q) fun j => ?_
    rw [mem j, List.take_of_length_le (by omega)]
  | succ m ih =>
    intro i s T e st S le mem fin
    apply codeAny_builtin F.entry_set_update_loop
    rw [Around.under_plainId F.plain_set_update_loop]
    show wpAny _ A.in1 (pyNext (.ref I) >>= _) _ _ _
    apply wpAny_bind
    apply W.item i s _ _ (by omega) st
    intro v s' pv st' mv
    obtain ⟨k, hk, kv, sc⟩ := hv i v pv
    have S1 : SetT knd s'.heap a T := S.stays fun o q => mv.heap a o wf q
    show wpAny _ A.in1 (holding [v] (setAdd a v) >>= _) _ _ _
    apply wpAny_bind
    apply wpAny_holding
    unfold setAdd
    apply wpAny_holding
    apply wpAny_bind
    apply knd.pyHash kv
    refine sett_add (s := { s' with toks := s'.toks + 1 }) S1 kv sc (by omega) fun b h' T' sb S2 mem2 le2 => ?_
    apply wpAny_pure
    refine ⟨plainId_quiet F.plain_set_update_loop _, ih (i + 1) _ T' (by omega) ?_ S2 (by omega) (fun j => ?_) fun s2 T2 mv2 S3 mem3 => ?_⟩
    · refine W.frame _ s' _ _ st' (Nat.le_succ _) fun b hb o q => ?_
      rw [sb.2 b fun z => ha (z ▸ hb)]
      exact q
    · rw [mem2 j, mem j, List.take_add_one, hk]
      simp
    · refine fin s2 T2 (Moved.trans W.gtrans ((mv.mono up).then_heap (Nat.le_succ _) fun b o hb q => ?_) mv2) S3 mem3
      rw [sb.2 b fun z => hb (z ▸ .head _)]
      exact q
def newSet (w : World) : Obj := sObj "set" (#[], 0, .fresh 0 0 (!w.params.followText "set-order"))
theorem newSet_at {h : Heap} {a : Addr} (ho : h.get? a = some (newSet w)) : SetT knd h a [] := by
  refine ⟨_, ho, List.Perm.nil, fun r hr => (nomatch hr), List.nodup_nil, (by decide : 0 < scanBound), rfl, List.Pairwise.nil, ?_⟩
  cases w.params.followText "set-order"
  · exact .inr rfl
  · exact .inl rfl
theorem set_init_keys {l : Addr} {its : Array Value} {ks : List K} {R : Result → Shared → Prop} {h0 : Heap} (hh : A.handled = none) (hl : h0.IsList l its) (hz : its.size = ks.length) (room : ks.length + 1 < scanBound)
    (hv : ∀ (i : Nat) (v : Value), its[i]? = some v → ∃ k, ks[i]? = some k ∧ knd.is k v = true ∧ v.scannable = true)
    (fin : ∀ (h' : Heap) (tk : Nat) T, SetT knd h' h0.objs.size T → (∀ j, j ∈ T.map Prod.snd ↔ j ∈ ks) → (∀ b o, h0.get? b = some o → h'.get? b = some o) → R (.ok (.ret .none)) { s with heap := h', toks := tk }) :
    codeAny (model P w) A (.call (.builtin "set.__init__") ⟨[.ref h0.objs.size, .ref l], []⟩) R { s with heap := h0.push (newSet w) } := by
  have g0 : (h0.push (newSet w)).get? h0.objs.size = some (newSet w) := Heap.get?_push_size _ rfl
  have ty : Shared.TypeIs { s with heap := h0.push (newSet w) } (.ref h0.objs.size) "set" := ⟨_, g0, rfl⟩
  apply codeAny_call_builtin F.called_set.init.plain F.entry_set_init
  apply check_set_init_1 ty
  have ll : l < h0.objs.size := by
    obtain ⟨o, q, _⟩ := hl
    exact Heap.lt_size q
  have l1 : (h0.push (newSet w)).IsList l its := hl.push _
  obtain ⟨o1, ho1, hc1, n1, hd1⟩ := l1
  obtain ⟨c1, d1, t1, sl1⟩ := o1
  simp only at hc1 hd1
  subst hc1 hd1
  have sub1 := F.sub_list_set
  have sub2 := F.sub_list_frozenset
  have nd : (Value.type "list" == Value.type "dict") = false := by decide
  have l2 : (h0.push (newSet w)).IsList l its := ⟨_, ho1, rfl, n1, rfl⟩
  unfold Builtin.«set.__init__» noKeywords Builtin.Frozenset.updateFrom
  generalize pi : pyIter = PI
  wp_walk
  subst pi
  apply wpAny_pyIter_list l2
  apply wpAny_bind
  apply wpAny_runValue
  have sz1 : (h0.push (newSet w)).objs.size = h0.objs.size + 1 := Heap.size_push ..
  have n1 : l ≠ (h0.push (newSet w)).objs.size := by rw [sz1]; exact Nat.ne_of_lt (Nat.lt_succ_of_lt ll)
  have nf : h0.objs.size ∉ [(h0.push (newSet w)).objs.size, l] := by
    rw [sz1]
    intro q
    rcases List.mem_cons.mp q with q | q
    · exact absurd q (Nat.ne_of_lt (Nat.lt_succ_self _))
    · exact absurd (List.mem_singleton.mp q) (Nat.ne_of_gt ll)
  have h3 : A.in1.in1.handled = none := by simp [hh]
  have it0 : ((h0.push (newSet w)).push { cls := .type "list_iterator", data := .fields #[.ref l, .int 0 0] }).get? h0.objs.size = some (newSet w) := Heap.get?_push_of_some _ g0
  refine sett_loop (knd := knd) (Walks.list h3 _ l n1 its).toS nf ks hz (by omega) hv its.size 0 _ [] (by omega) ?_ ?_ (Nat.le_refl _) (fun j => by simp) fun s' T mv S mem => ?_
  · exact ⟨⟨_, Heap.get?_push_size _ rfl, rfl, rfl⟩, l2.push _⟩
  · exact newSet_at it0
  obtain ⟨h', g', d', tk', os'⟩ := s'
  obtain rfl : g' = s.gens := mv.gens
  obtain rfl : d' = s.drawn := mv.drawn
  obtain rfl : os' = s.os := mv.os
  show wpAny _ _ _ _ _ _
  apply wpAny_pure
  show wpAny _ _ (ret Value.none) _ _ _
  apply wpAny_pure
  refine fin h' tk' T S mem fun b o q => ?_
  have lb : b < h0.objs.size := Heap.lt_size q
  refine mv.heap b o (fun z => ?_) (Heap.get?_push_of_some _ (Heap.get?_push_of_some _ q))
  rcases List.mem_cons.mp z with z | z
  · exact absurd z (Nat.ne_of_lt lb)
  · rw [List.mem_singleton, sz1] at z
    exact absurd z (Nat.ne_of_lt (Nat.lt_succ_of_lt lb))
set_option maxHeartbeats 2000000 in
theorem set_keys {l : Addr} {its : Array Value} (ks : List K) {Q : Value → Shared → Prop} (hh : A.handled = none) (hl : s.heap.IsList l its) (hz : its.size = ks.length) (room : ks.length + 1 < scanBound)
    (hv : ∀ (i : Nat) (v : Value), its[i]? = some v → ∃ k, ks[i]? = some k ∧ knd.is k v = true ∧ v.scannable = true)
    (hQ : ∀ (h' : Heap) (tk : Nat) T, SetT knd h' s.heap.objs.size T → (∀ j, j ∈ T.map Prod.snd ↔ j ∈ ks) → (∀ b o, s.heap.get? b = some o → h'.get? b = some o) → Q (.ref s.heap.objs.size) { s with heap := h', toks := tk }) :
    wpAny (model P w) A (call (.type "set") [.ref l]) Q E s := by
  obtain ⟨c, tl, mro⟩ := F.called_set.mro
  have mk := F.called_set.made
  have sb := F.called_set.sub
  have nt := F.called_set.notType
  have cc := F.called_set.canCreate
  have tc := F.typeCall_set_1 (.ref l)
  apply wpAny_call
  apply codeAny_of_tree
  show wpAny _ _ (callAny (.type "set") _) _ _ _
  apply wpAny_pure
  refine ⟨Code.quiet_builtin _ (by decide +kernel), ?_⟩
  apply codeAny_builtin F.entry_type_call
  rw [Around.under_plain (weight_type_call_type "set" [.ref l] []) rfl]
  repeat (any_goals (first | assumption | wp_step))
  apply codeAny_mono (code_set_led1 (.ref l) (E := E) (Q₁ := fun v s₁ => v = .ref s.heap.objs.size ∧ s₁ = { s with heap := s.heap.push (newSet w) }) ⟨rfl, rfl⟩)
  intro r s₁ hr
  cases r with
  | error e => exact hr
  | ok f =>
  cases f with
  | ret v =>
    obtain ⟨rfl, rfl⟩ := hr
    have ty : Shared.TypeIs { s with heap := s.heap.push (newSet w) } (.ref s.heap.objs.size) "set" := ⟨_, Heap.get?_push_size _ rfl, rfl⟩
    have li := F.called_set.init.lookup
    have bi := F.called_set.init.bind (.ref s.heap.objs.size)
    repeat (any_goals (first | assumption | wp_step))
    apply codeAny_mono (set_init_keys (knd := knd) (s := s) (ks := ks) (R := wants (fun v s₂ => v = .none ∧ ∃ h' tk T, s₂ = { s with heap := h', toks := tk } ∧ SetT knd h' s.heap.objs.size T ∧ (∀ j, j ∈ T.map Prod.snd ↔ j ∈ ks) ∧ ∀ b o, s.heap.get? b = some o → h'.get? b = some o) E) (by simpa using hh) hl hz room hv fun h' tk T S mem k => ⟨rfl, h', tk, T, rfl, S, mem, k⟩)
    intro r2 s₂ h2
    cases r2 with
    | error e => exact h2
    | ok f2 =>
    cases f2 with
    | ret v =>
      obtain ⟨rfl, h', tk, T, rfl, S, mem, k⟩ := h2
      repeat (any_goals (first | assumption | wp_step))
      exact hQ h' tk T S mem k
    | _ => exact h2.elim
  | _ => exact hr.elim
end
end PV
end
section
namespace PV
open PySem PySem.Spec PyProof.Rows L2 PySem.Froz
def onceL {α : Type} [DecidableEq α] : List α → List α
  | [] => []
  | x :: l => if x ∈ l then onceL l else x :: onceL l
theorem mem_once {α : Type} [DecidableEq α] {y : α} : ∀ {l : List α}, y ∈ onceL l ↔ y ∈ l
  | [] => Iff.rfl
  | x :: l => by
    have ih := mem_once (y := y) (l := l)
    unfold onceL
    split
    · rename_i h
      rw [ih, List.mem_cons]
      exact ⟨.inr, fun q => q.elim (fun e => e ▸ h) id⟩
    · rw [List.mem_cons, List.mem_cons, ih]
theorem nodup_once {α : Type} [DecidableEq α] : ∀ l : List α, (onceL l).Nodup
  | [] => List.nodup_nil
  | x :: l => by
    have ih := nodup_once l
    unfold onceL
    split
    · exact ih
    · rename_i h
      exact List.nodup_cons.mpr ⟨fun q => h (mem_once.mp q), ih⟩
theorem perm_once {α : Type} [DecidableEq α] {xs ys : List α} (nd : ys.Nodup) (m : ∀ y, y ∈ ys ↔ y ∈ xs) : ys.Perm (onceL xs) :=
  (List.perm_ext_iff_of_nodup nd (nodup_once xs)).mpr fun y => by rw [m y, mem_once]
def strs? : List D → Option (List Str)
  | [] => some []
  | .str x :: r => (strs? r).map fun xs => x :: xs
  | _ :: _ => none
theorem strs_rep {M : PySem.W.Frag} {κ : Kap M} {F H : Hp} : ∀ {ds : List D} {vs : List V} {fp : List Addr} {xs : List Str}, RepL κ F H ds vs fp → strs? ds = some xs → vs = xs.map V.str
  | _, _, _, _, .nil, h => by
    cases h
    rfl
  | _, _, _, xs, .cons (d := d) r t, h => by
    cases d with
    | str x =>
      rw [strs?] at h
      cases q : strs? _ with
      | none => rw [q] at h; cases h
      | some ys =>
        rw [q] at h
        cases h
        have e := strs_rep t q
        cases r
        rw [e]
        rfl
    | _ => simp [strs?] at h
section
variable {X : Cx} {c : Cfg X.K} {E : XK} {pos : Pos}
theorem strs_repL {M : PySem.W.Frag} {κ : Kap M} {F H : Hp} : ∀ xs : List Str, RepL κ F H (xs.map D.str) (xs.map V.str) []
  | [] => .nil
  | x :: xs => RepL.cons (fp := []) (fq := []) (.str x) (strs_repL xs)
end
end PV
end
section
namespace PV
open PySem PySem.Spec PyProof.Rows L2
theorem RepL.appAt {M : PySem.W.Frag} {κ : Kap M} {F H : Hp} {es : List D} : ∀ {ds : List D} {vs : List V} {fp : List Addr} (j : Nat), RepL κ F H ds vs fp → fp.Nodup → noTL ds = true → ds[j]? = some (.nd .own .lst es) →
    ∃ b ws, vs[j]? = some (.ref b) ∧ H b = some (.lst ws) ∧ es.length = ws.length ∧ b ∈ fp ∧ ∀ d v fd, Rep κ F H d v fd → fd.Nodup → (∀ a ∈ fd, a ∉ fp) → noT d = true →
      ∃ fr, RepL κ F (upd H b (.lst (ws ++ [v]))) (ds.set j (.nd .own .lst (es ++ [d]))) vs fr ∧ fr.Nodup ∧ ∀ a ∈ fr, a ∈ fp ∨ a ∈ fd
  | _, _, _, j, .nil, _, _, e => by simp at e
  | _, _, _, 0, .cons (fp := fa) (fq := fb) r t, nd, nt, e => by
    simp at e
    subst e
    rw [noTL_cons, Bool.and_eq_true] at nt
    obtain ⟨b, ws, fq, rfl, rfl, hb, hl⟩ := RepL.of_own r
    have n := List.nodup_append.mp nd
    have n1 := List.nodup_cons.mp n.1
    refine ⟨b, ws, rfl, hb, hl.length, by simp, fun d v fd rd n2 dj hd => ?_⟩
    have nb : ∀ a ∈ fq ++ fd, upd H b (.lst (ws ++ [v])) a = H a := fun a m => upd_ne fun z => by
      subst z
      rcases List.mem_append.mp m with m | m
      · exact n1.1 m
      · exact dj a m (by simp)
    have es_nt : noTL (es ++ [d]) = true := by
      have := nt.1
      rw [noT, Bool.and_eq_true] at this
      rw [noTL_append, this.2, noTL_cons, hd]
      rfl
    have r2 : RepL κ F H (es ++ [d]) (ws ++ [v]) (fq ++ fd) := by
      have := hl.append (RepL.cons rd .nil)
      simpa using this
    have r3 := r2.stay _ _ _ F (upd H b (.lst (ws ++ [v]))) (Same.refl _) _ _ _ nb es_nt
    have t3 := t.stay _ _ _ F (upd H b (.lst (ws ++ [v]))) (Same.refl _) _ _ _ (fun a m => upd_ne fun z => n.2.2 b (by simp) a m z.symm) nt.2
    refine ⟨(b :: (fq ++ fd)) ++ fb, RepL.cons (.ndO upd_same rfl r3) t3, ?_, ?_⟩
    · refine List.nodup_append.mpr ⟨List.nodup_cons.mpr ⟨fun m => ?_, List.nodup_append.mpr ⟨n1.2, n2, fun a m a2 m2 z => ?_⟩⟩, n.2.1, fun a m a2 m2 z => ?_⟩
      · rcases List.mem_append.mp m with m | m
        · exact n1.1 m
        · exact dj b m (by simp)
      · subst z
        exact dj a m2 (by simp [m])
      · subst z
        rcases List.mem_cons.mp m with m | m
        · exact n.2.2 b (by simp) a m2 m.symm
        · rcases List.mem_append.mp m with m | m
          · exact n.2.2 a (by simp [m]) a m2 rfl
          · exact dj a m (by simp [m2])
    · intro a m
      rcases List.mem_append.mp m with m | m
      · rcases List.mem_cons.mp m with m | m
        · subst m
          exact .inl (by simp)
        · rcases List.mem_append.mp m with m | m
          · exact .inl (by simp [m])
          · exact .inr m
      · exact .inl (by simp [m])
  | _, _, _, j + 1, .cons (fp := fa) (fq := fb) r t, nd, nt, e => by
    rw [noTL_cons, Bool.and_eq_true] at nt
    have n := List.nodup_append.mp nd
    obtain ⟨b, ws, h1, h2, h3, h4, h5⟩ := RepL.appAt j t n.2.1 nt.2 (by simpa using e)
    refine ⟨b, ws, by simpa using h1, h2, h3, List.mem_append_right _ h4, fun d v fd rd n2 dj hd => ?_⟩
    obtain ⟨fr, k1, k2, k3⟩ := h5 d v fd rd n2 (fun a m m2 => dj a m (List.mem_append_right _ m2)) hd
    have r2 := Rep.stay _ _ _ F (upd H b (.lst (ws ++ [v]))) (Same.refl _) _ _ _ (fun a m => upd_ne fun z => n.2.2 a m b h4 z) nt.1 r
    refine ⟨fa ++ fr, RepL.cons r2 k1, List.nodup_append.mpr ⟨n.1, k2, fun a m a2 m2 z => ?_⟩, fun a m => ?_⟩
    · subst z
      rcases k3 a m2 with w | w
      · exact n.2.2 a m a w rfl
      · exact dj a w (List.mem_append_left _ m)
    · rcases List.mem_append.mp m with m | m
      · exact .inl (List.mem_append_left _ m)
      · rcases k3 a m with w | w
        · exact .inl (List.mem_append_right _ w)
        · exact .inr w
end PV
namespace PV
open PySem PySem.Spec PyProof.Rows L2
end PV
end
section
namespace PV
open PySem PySem.Spec PyProof.Rows L2 RZ
end PV
end
section
namespace PV
open PySem PySem.Spec PyProof.Rows L2
section
variable {κ : Type} [DecidableEq κ]
def ixK : List κ → κ → Option Nat
  | [], _ => none
  | x :: r, k => if x = k then some 0 else (ixK r k).map (· + 1)
theorem ixK_none : ∀ {ks : List κ} {k : κ}, ixK ks k = none ↔ k ∉ ks
  | [], k => by simp [ixK]
  | x :: r, k => by
    unfold ixK
    by_cases h : x = k
    · simp [h]
    · rw [if_neg h, Option.map_eq_none_iff, ixK_none, List.mem_cons]
      exact ⟨fun n m => m.elim (fun e => h e.symm) n, fun n m => n (.inr m)⟩
theorem ixK_some : ∀ {ks : List κ} {k : κ} {j : Nat}, ixK ks k = some j → ks[j]? = some k ∧ j < ks.length
  | [], k, j, h => by cases h
  | x :: r, k, j, h => by
    unfold ixK at h
    by_cases e : x = k
    · rw [if_pos e] at h
      cases h
      simp [e]
    · rw [if_neg e, Option.map_eq_some_iff] at h
      obtain ⟨i, h1, h2⟩ := h
      obtain ⟨h3, h4⟩ := ixK_some h1
      subst h2
      exact ⟨by simpa using h3, by simpa using h4⟩
variable {α : Type}
theorem putK_cons_ne {x k : κ} {v y : V} {r : List (κ × V)} (h : ¬ x = k) : putK ((x, v) :: r) k y = (x, v) :: putK r k y := by
  unfold putK
  rw [List.any_cons]
  have : decide ((x, v).1 = k) = false := by simp [h]
  rw [this, Bool.false_or]
  split
  · rw [List.map_cons]; simp [h]
  · rw [List.cons_append]
theorem map_put_ne {k : κ} {y : V} : ∀ {ks : List κ} {vs : List V}, k ∉ ks → (ks.zip vs).map (fun kv => if kv.1 = k then (kv.1, y) else kv) = ks.zip vs
  | [], vs, h => rfl
  | x :: r, [], h => by simp
  | x :: r, v :: vs, h => by
    rw [List.mem_cons, not_or] at h
    rw [List.zip_cons_cons, List.map_cons, map_put_ne h.2]
    have : ¬ x = k := fun e => h.1 e.symm
    simp [this]
theorem putK_some {k : κ} {y : V} : ∀ {ks : List κ} {vs : List V} {j : Nat}, ks.Nodup → ks.length = vs.length → ixK ks k = some j → putK (ks.zip vs) k y = ks.zip (vs.set j y)
  | [], vs, j, nd, hl, h => by cases h
  | x :: r, [], j, nd, hl, h => by simp at hl
  | x :: r, v :: vs, j, nd, hl, h => by
    rw [List.nodup_cons] at nd
    unfold ixK at h
    by_cases e : x = k
    · rw [if_pos e] at h
      cases h
      subst e
      rw [List.zip_cons_cons]
      unfold putK
      rw [if_pos (by simp), List.map_cons, map_put_ne nd.1]
      simp
    · rw [if_neg e, Option.map_eq_some_iff] at h
      obtain ⟨i, h1, h2⟩ := h
      subst h2
      rw [List.zip_cons_cons, putK_cons_ne e, putK_some nd.2 (by simpa using hl) h1]
      rfl
theorem any_zip {k : κ} : ∀ {ks : List κ} {vs : List V}, k ∉ ks → ((ks.zip vs).any fun kv => decide (kv.1 = k)) = false
  | [], vs, h => rfl
  | x :: r, [], h => by simp
  | x :: r, v :: vs, h => by
    rw [List.mem_cons, not_or] at h
    have : ¬ x = k := fun e => h.1 e.symm
    rw [List.zip_cons_cons, List.any_cons, any_zip h.2]
    simp [this]
theorem putK_none {k : κ} {y : V} {ks : List κ} {vs : List V} (hl : ks.length = vs.length) (h : ixK ks k = none) : putK (ks.zip vs) k y = (ks ++ [k]).zip (vs ++ [y]) := by
  unfold putK
  rw [any_zip (ixK_none.mp h), if_neg Bool.false_ne_true, List.zip_append hl]
  rfl
theorem nodup_snoc {ks : List κ} {k : κ} (h : ks.Nodup) (n : ixK ks k = none) : (ks ++ [k]).Nodup :=
  List.nodup_append.mpr ⟨h, by simp, fun a m b m2 e => ixK_none.mp n (by simp at m2; rw [← m2, ← e]; exact m)⟩
end
section
variable {M : PySem.W.Frag} {κ : Kap M} {F H : Hp}
theorem Rep.of_own {k : Kind} {ds : List D} {v : V} {fp : List Addr} (r : Rep κ F H (.nd .own k ds) v fp) : ∃ a vs fq o, v = .ref a ∧ fp = a :: fq ∧ H a = some o ∧ IsHO κ k vs o ∧ RepL κ F H ds vs fq := by
  cases r with
  | ndO ha hs hl => exact ⟨_, _, _, _, rfl, rfl, ha, hs, hl⟩
end
def putL (ks : List Key) (ds : List D) (k : Key) (d : D) : D := match ixK ks k with
  | some j => .nd .own (.dic ks) (ds.set j d)
  | none => .nd .own (.dic (ks ++ [k])) (ds ++ [d])
section
variable {M : PySem.W.Frag} {κ : Kap M} {F H : Hp}
theorem RepL.put {ks : List Key} {ds : List D} {vs : List V} {fp fd : List Addr} {d : D} {v : V} (k : Key) (hn : ks.Nodup) (hl : ks.length = vs.length) (r : RepL κ F H ds vs fp) (rd : Rep κ F H d v fd) (n1 : fp.Nodup) (n2 : fd.Nodup) (dj : ∀ a ∈ fd, a ∉ fp) (nt : noTL ds = true) (nd : noT d = true) :
    ∃ ks' ds' vs' fr, putL ks ds k d = .nd .own (.dic ks') ds' ∧ IsHO κ (.dic ks') vs' (.dK (putK (ks.zip vs) k v)) ∧ RepL κ F H ds' vs' fr ∧ fr.Nodup ∧ (∀ a ∈ fr, a ∈ fp ∨ a ∈ fd) ∧ noTL ds' = true := by
  unfold putL
  cases hj : ixK ks k with
  | some j =>
    have lt : j < ds.length := by
      have := (ixK_some hj).2
      have := r.length
      omega
    obtain ⟨fr, h1, h2, h3⟩ := RepL.set j lt r rd n1 n2 dj
    exact ⟨ks, _, _, fr, rfl, ⟨⟨hn, by rw [List.length_set]; exact hl⟩, congrArg HO.dK (putK_some hn hl hj)⟩, h1, h2, h3, noTL_set _ _ _ nt nd⟩
  | none =>
    refine ⟨ks ++ [k], _, vs ++ [v], fp ++ fd, rfl, ⟨⟨nodup_snoc hn hj, by simp [hl]⟩, congrArg HO.dK (putK_none hl hj)⟩, ?_, List.nodup_append.mpr ⟨n1, n2, fun a m b m2 e => dj b m2 (e ▸ m)⟩, fun a m => List.mem_append.mp m, by rw [noTL_append, nt, noTL_cons, nd]; rfl⟩
    have := r.append (RepL.cons rd .nil)
    simpa using this
end
section
variable {X : Cx} {c : Cfg X.K} {E : XK} {e a b d : Expr} {f g h : Env → Res D} {pos apos p sp : Pos} {es : List Expr} {fs : Env → Res (List D)}
theorem Rd.same {H H' : Hp} {a : Addr} {u : HO} (s : Sm H H') (h : Rd H a u) (n : nTb u := by exact True.intro) : Rd H' a u := by
  rcases h with h | ⟨o, h⟩
  · exact .inl (s _ _ h)
  · exact .inr ⟨o, s _ _ h⟩
end
section
variable {X : Cx} {c : Cfg X.K} {E : XK} {e b : Expr} {f g : Env → Res D} {pos apos p sp apos2 cpos p1 : Pos}
theorem TV.mono {E : XK} {f : Env → Res D} {σ : L2.St} {H : Hp} {Q Q' : VK} (h : TV c E f σ H Q) (i : ∀ v H, Q v H → Q' v H) : TV c E f σ H Q' := by
  obtain ⟨bb, K, F0, F, env, φ, S, p⟩ := h
  refine ⟨bb, K, F0, F, env, φ, S, ?_⟩
  cases q : f env with
  | ok d => rw [q] at p; exact fun v H' F' fp x r nd fr => i _ _ (p v H' F' fp x r nd fr)
  | exc z => rw [q] at p; exact p
  | stuck => rw [q] at p; exact p
end
section
variable {X : Cx} {c : Cfg X.K} {E : XK} {tg e a b : Expr} {pos : Pos} {ws : List Nat}
theorem lc_step {K F0 F1 : Hp} {env : Env} {φ : Nat → List Addr} {σ : L2.St} {H1 : Hp} {J : It} {items : List D} {s : TgF} {t : Env → Res Bool} {f : Env → Res D} {vs : List Nat} {Q : VK} {ys : List D} {D : Addr} (hw : ∀ w ∈ ws, w ∈ vs) (S1 : SE false c.κ K F0 F1 env φ σ H1) (Y : Yields c.κ J items (Pst false F1 H1))
    (fh1 : Sub F1 H1) (hD : H1 D = none) (z2 : lcL s t f (wipeE vs env) items = .ok ys) (hl : ys.length ≤ bigL)
    (p : ∀ v H2 F2 fp, Ext F1 H1 F2 H2 → Rep c.κ F2 H2 (.lst .own ys) v fp → fp.Nodup → (∀ a ∈ fp, H1 a = none ∧ F2 a = none) → noTL ys = true → Q v H2) :
    ∃ W : Nat → Nat → Hp → Prop, (∃ m, W 0 m (upd H1 D (.lst []))) ∧ ∀ i m H, W i m H →
      (J.stop i H ∧ Q (.ref D) H) ∨ (J.go i H ∧ ∃ Nx : Hp → Prop, (∀ H', Nx H' → ∃ m', m' < m ∧ W (i + 1) m' H') ∧ ∀ x H', J.yld i H x H' → TGt c false ws s x (wipe σ vs) H' fun σ2 H2 => wipe σ2 vs = wipe σ vs ∧ TB c (fun _ _ _ => False) t σ2 H2 fun b H3 =>
        if b = true then TV c (fun _ _ _ => False) f σ2 H3 fun y H4 => ∃ acc, H4 D = some (.lst acc) ∧ acc.length < sizeLine ∧ Nx (upd H4 D (.lst (acc ++ [y]))) else Nx H3) := by
  obtain ⟨φw, Sw⟩ := S1.wiped vs
  refine ⟨fun i m H2 => m = items.length - i ∧ i ≤ items.length ∧ ∃ F2 ds as fp rest, Ext F1 H1 F2 H2 ∧ F2 D = none ∧ H2 D = some (.lst as) ∧ RepL c.κ F2 H2 ds as fp ∧ fp.Nodup ∧ (∀ a ∈ fp, H1 a = none ∧ F2 a = none ∧ a ≠ D) ∧ noTL ds = true ∧ lcL s t f (wipeE vs env) (items.drop i) = .ok rest ∧ ds ++ rest = ys,
    ⟨items.length, by simp, Nat.zero_le _, F1, [], [], [], ys, .newO fh1 hD, ?_, upd_same, .nil, .nil, by simp, rfl, z2, rfl⟩, ?_⟩
  · exact fh1.free hD
  rintro i m H2 ⟨rfl, hi, F2, ds, as, fp, rest, x2, fD, hDl, r, nd, fr, nt, er, ey⟩
  have pst : Pst false F1 H1 F2 H2 := ⟨x2.ff, x2.fh, fun _ => x2.hh⟩
  by_cases hlt : i < items.length
  · rw [List.drop_eq_getElem_cons hlt, lcL] at er
    have hd : items[i]? = some items[i] := List.getElem?_eq_getElem hlt
    refine .inr ⟨Y.go i F2 H2 pst hlt, fun H' => ∃ F2 ds as fp rest, Ext F1 H1 F2 H' ∧ F2 D = none ∧ H' D = some (.lst as) ∧ RepL c.κ F2 H' ds as fp ∧ fp.Nodup ∧ (∀ a ∈ fp, H1 a = none ∧ F2 a = none ∧ a ≠ D) ∧ noTL ds = true ∧ lcL s t f (wipeE vs env) (items.drop (i + 1)) = .ok rest ∧ ds ++ rest = ys,
      fun H' h => ⟨items.length - (i + 1), by omega, rfl, hlt, h⟩, fun x H3 y => ?_⟩
    obtain ⟨F3, x3, r3⟩ := Y.yld i F2 H2 x H3 _ pst hd y
    have S3 := Sw.ext (x2.trans x3)
    refine ⟨K, F0, F3, wipeE vs env, φw, items[i], [], S3, ⟨r3, .nil, by simp⟩, ?_⟩
    have ntl : ∀ as, ¬ IsTup' (.lst as) := fun _ z => z
    cases w : s items[i] (wipeE vs env) with
    | ok env1 =>
      rw [w] at er
      dsimp only at er ⊢
      intro σ4 H4 F4 φ4 T ag x4
      refine ⟨wipe_agree ag hw, false, K, F3, F4, env1, φ4, T, ?_⟩
      cases w2 : t env1 with
      | ok b =>
        rw [w2] at er
        intro H5 F5 x5
        have x25 := (x3.trans x4).trans x5
        cases b with
        | false =>
          rw [if_neg Bool.false_ne_true]
          exact ⟨F5, ds, as, fp, rest, x2.trans x25, x25.notF fD hDl (ntl _), x25.hh _ _ hDl, r.ext x25, nd, fun a m => by
            obtain ⟨o, h1, h2⟩ := RepL.own _ _ _ _ _ _ r a m
            exact ⟨(fr a m).1, x25.notF (fr a m).2.1 h1 h2, (fr a m).2.2⟩, nt, er, ey⟩
        | true =>
          rw [if_pos rfl]
          refine ⟨false, K, F3, F5, env1, φ4, T.ext x5, ?_⟩
          cases w3 : f env1 with
          | ok yd =>
            rw [w3] at er
            dsimp only at er
            by_cases hn : noT yd = true
            case neg => rw [if_neg hn] at er; cases er
            rw [if_pos hn] at er
            cases z3 : lcL s t f (wipeE vs env) (List.drop (i + 1) items) with
            | ok ys' =>
              rw [z3] at er
              cases er
              intro v H6 F6 fq x6 r6 nd6 fr6
              have x26 := x25.trans x6
              have hD5 : H5 D = some (.lst as) := x25.hh _ _ hDl
              have hD6 : H6 D = some (.lst as) := x26.hh _ _ hDl
              have lenas : as.length = ds.length := r.length.symm
              refine ⟨as, hD6, ?_, ?_⟩
              · have : ds.length + (ys'.length + 1) ≤ bigL := by
                  rw [← ey] at hl
                  simpa using hl
                have h2 := bigL_line (n := ds.length + (ys'.length + 1)) this
                omega
              · have fD6 : F6 D = none := x26.notF fD hDl (ntl _)
                have nD : ∀ a ∈ fq, a ≠ D := fun a m z => by
                  have q := (fr6 a m).1
                  rw [z, hD5] at q
                  cases q
                refine ⟨F6, ds ++ [yd], as ++ [v], fp ++ fq, ys', ⟨(x2.trans x26).hh.upd hD, (x2.trans x26).ff, x26.fh.upd fD6 hD6 (fun z => z), (x2.trans x26).gr⟩, fD6, upd_same, ?_, ?_, ?_, ?_, rfl, by rw [← ey]; simp⟩
                · have ra := r.ext x26
                  have q1 := ra.stay _ _ _ F6 (upd H6 D (.lst (as ++ [v]))) (Same.refl _) _ _ _ (fun a m => upd_ne (fr a m).2.2) nt
                  have q2 := r6.stay _ _ _ F6 (upd H6 D (.lst (as ++ [v]))) (Same.refl _) _ _ _ (fun a m => upd_ne (nD a m)) hn
                  have q3 := q1.append (RepL.cons q2 .nil)
                  simpa using q3
                · refine List.nodup_append.mpr ⟨nd, nd6, fun a m b m2 z => ?_⟩
                  subst z
                  obtain ⟨o, h1, h2⟩ := RepL.own _ _ _ _ _ _ r a m
                  have := (fr6 a m2).1
                  rw [x25.hh.at_ _ _ h1 (nTb_of h2)] at this
                  cases this
                · intro a m
                  rcases List.mem_append.mp m with m | m
                  · obtain ⟨o, h1, h2⟩ := RepL.own _ _ _ _ _ _ r a m
                    exact ⟨(fr a m).1, x26.notF (fr a m).2.1 h1 h2, (fr a m).2.2⟩
                  · exact ⟨(x2.trans x25).hh.free (fr6 a m).1, (fr6 a m).2, nD a m⟩
                · rw [noTL_append]
                  simp [nt, hn, noTL]
            | exc y => exact absurd z3 (lcL_nox _ _)
            | stuck => rw [z3] at er; cases er
          | exc y => rw [w3] at er; cases er
          | stuck => rw [w3] at er; cases er
      | exc y => rw [w2] at er; cases er
      | stuck => rw [w2] at er; cases er
    | exc y => rw [w] at er; cases er
    | stuck => rw [w] at er; cases er
  · have e : i = items.length := by omega
    subst e
    rw [List.drop_length, lcL] at er
    cases er
    rw [List.append_nil] at ey
    subst ey
    refine .inl ⟨Y.stop F2 H2 pst, p (.ref D) H2 F2 (D :: fp) x2 (.ndO hDl rfl r) (List.nodup_cons.mpr ⟨fun m => (fr D m).2.2 rfl, nd⟩) (fun a m => ?_) nt⟩
    rcases List.mem_cons.mp m with rfl | m
    · exact ⟨hD, fD⟩
    · exact ⟨(fr a m).1, (fr a m).2.1⟩
end
inductive Wk where
  | key | val | itm
end PV
end
section
namespace PV
open PySem PySem.Calls PySem.Spec PyProof.Rows RT
end PV
namespace PV
open PySem PySem.Spec PyProof.Rows L2
end PV
end
section
namespace PV
open PySem PySem.Spec PyProof.Rows L2
end PV
end
section
set_option maxHeartbeats 3000000
namespace PV
open PySem PySem.Spec PyProof.Rows L2
end PV
end
section
set_option maxHeartbeats 3000000
namespace PV
open PySem PySem.Spec PyProof.Rows L2
structure Lam1 (sc scope : Scope) (a : Str) : Prop where
  kind : scope.kind = .function
  co : scope.isCoroutine = false
  gen : scope.isGenerator = false
  par : scope.names.lookup a = some .local
  own : ∀ y ∈ scope.names, y.2 ≠ .cell ∧ (y.2 = .local → y.1 = a)
  free : ∀ y ∈ scope.names, y.2 = .free → sc.names.lookup y.1 = some .cell ∨ sc.names.lookup y.1 = some .free
section
variable {X : Cx} {pins : List (Addr × Obj)} {σ : L2.St} {H : Hp} {s : Shared}
theorem Lam1.has {scope : Scope} {a : Str} (L : Lam1 X.env.scope scope a) (ok : X.Ok) : ∀ y ∈ scope.names, y.2 = .free → ∃ c, X.env.cells.lookup y.1 = some c := fun y hy e =>
  (L.free y hy e).elim (fun k => ok.has _ (.inl k)) (fun k => ok.has _ (.inr k))
end
end PV
end
section
set_option maxHeartbeats 3000000
namespace PV
open PySem PySem.Spec PyProof.Rows L2
end PV
end
section
set_option maxHeartbeats 3000000
namespace PV
open PySem PySem.Spec PyProof.Rows L2
section
variable {X : Cx} {c : Cfg X.K} {E : XK} {e : Expr} {p pos kpos lpos rp rpos : Pos} {params : Arguments} {body : Expr} {scope : Scope} {a : Str} {j k : Nat} {gb f : Env → Res D} {fs : Env → Res (List D)} {cd P : Addr}
theorem tab_of {κ : Kap X.K} {F0 F H : Hp} {q : Str} (f0 : FF κ F0 F) (fh : Sub F H) (h : (P, q) ∈ κ.tb) : F P = some (markT q) ∧ LamX.TabS H P q := by
  have e := f0.mks.mt _ h
  refine ⟨e, ?_⟩
  obtain ⟨q', t, e1, e2⟩ := fh.tb P _ e
  have z2 : [Value.str q 0] = [Value.str q' t] := congrArg Array.toList e1
  injection z2 with z3
  injection z3 with z4
  rw [z4]
  exact e2
end
end PV
end
section
namespace PV
open PySem PySem.Spec PyProof.Rows L2
def dLtG : D → D → Res D
  | .int i, .int j => .ok (.bl (decide (i < j)))
  | .str a, .str b => .ok (.bl (decide (a.cps.toList < b.cps.toList)))
  | .tup ds, .tup es => (match ints? ds, ints? es with
    | some ns, some ms => .ok (.bl (HT.lexLt ns ms))
    | _, _ => .stuck)
  | _, _ => .stuck
section
variable {X : Cx} {c : Cfg X.K} {E : XK} {a b : Expr} {f g : Env → Res D} {pos : Pos}
abbrev rLtG (K : PySem.W.Frag) : R2 := fun x y H Q => (rI0 fun i j => .bl (decide (i < j))) x y H Q ∨ ((∃ i j, x = .str i ∧ y = .str j ∧ Q (.bl (decide (i.cps.toList < j.cps.toList))) H) ∨ rLtT K x y H Q)
theorem op2_ltG {M : PySem.W.Frag} {c : Cfg M} : Op2 c (rLtG M) dLtG := by
  intro E F H x y v u fx fy Q fh rx ry p
  unfold dLtG at p
  split at p
  · cases rx
    cases ry
    exact .inl ⟨_, _, rfl, rfl, p.bl fh⟩
  · cases rx
    cases ry
    exact .inr (.inl ⟨_, _, rfl, rfl, p.bl fh⟩)
  · rename_i ds es
    obtain ⟨a1, vs, rfl, _, l1, r1⟩ := rx.sqT fh
    obtain ⟨a2, ws, rfl, _, l2, r2⟩ := ry.sqT fh
    cases z1 : ints? ds with
    | none => rw [z1] at p; exact p.elim
    | some ns =>
      cases z2 : ints? es with
      | none => rw [z1, z2] at p; exact p.elim
      | some ms =>
        rw [z1, z2] at p
        obtain ⟨e1, _⟩ := ints_rep r1 z1
        obtain ⟨e2, _⟩ := ints_rep r2 z2
        subst e1 e2
        exact .inr (.inr ⟨a1, a2, ns, ms, rfl, rfl, l1, l2, p.bl fh⟩)
  · exact p.elim
theorem op_ltG (hu : X.A.units + 64 < cLine) : OpR X (compareOp .Lt) (rLtG X.K) := OpR.or op_lt (OpR.or op_lt_str (op_ltT (by omega)))
theorem et_ltG (hu : X.A.units + 64 < cLine) (ha : EV X c E a f) (hb : EV X c E b g) (hm : behindInMarks .Lt b = false := by rfl) : ET X c E (.Compare a [.Lt] [b] pos) (eB (e2 dLtG f g)) := et_cmp (op_ltG hu) op2_ltG ha hb hm
end
def xrC {M : PySem.W.Frag} (κ : Kap M) : XRep := fun H x cl dd H' => (∀ p ∈ κ.tb, LamX.TabS H' p.1 p.2) ∧ cl = .ref (κ.cls x.cls) ∧
  ∃ (G : Hp) (vs : List V) (fq : Nat → List Addr), Sub G H' ∧ (∀ a o, G a = some o → H a = none ∨ IsTup' o) ∧ (∀ a ps, G a ≠ some (.tbl ps)) ∧
    (∀ (j : Nat) (z : D) (v : V), x.ds[j]? = some z → vs[j]? = some v → Rep κ G H' z v (fq j)) ∧ (∀ j, (fq j).Nodup) ∧ (∀ j k, j ≠ k → ∀ a ∈ fq j, a ∉ fq k) ∧ (∀ j, ∀ a ∈ fq j, H a = none ∧ G a = none ∧ ∃ o, H' a = some o ∧ ¬ IsTup' o) ∧ noTL x.ds = true ∧ x.ds.length = vs.length ∧
    ((x.ns = [] ∧ dd = none) ∨ ∃ (d : Addr) (fs : List (Str × V)), dd = some d ∧ (H d = none ∧ G d = none ∧ x.ns ≠ [] ∧ ∀ j, d ∉ fq j) ∧ H' d = some (.xd fs) ∧ x.ns.length = vs.length ∧ ∀ (j : Nat) (n : Str) (v : V), x.ns[j]? = some n → vs[j]? = some v → fs.lookup n = some v)
theorem xrC_mono {M : PySem.W.Frag} {κ : Kap M} {H H1 : Hp} {x : Exn} {cl : Value} {dd : Option Addr} {H' : Hp} (s : Sm H H1) (h : xrC κ H1 x cl dd H') : xrC κ H x cl dd H' := by
  obtain ⟨h1, h2, G, vs, fq, h3, h4, h5, h6, h7, h8, h9, h10, h11, h12⟩ := h
  exact ⟨h1, h2, G, vs, fq, h3, fun a o e => (h4 a o e).imp s.free id, h5, h6, h7, h8, fun j a m => ⟨s.free (h9 j a m).1, (h9 j a m).2⟩, h10, h11, h12.imp id fun ⟨d, fs, e1, e2, e3⟩ => ⟨d, fs, e1, ⟨s.free e2.1, e2.2⟩, e3⟩⟩
inductive RA where
  | loc (i : Nat)
  | ix (i k : Nat)
def XD (d : Option Addr) (H : Hp) : Prop := match d with
  | none => True
  | some dd => ∃ fs, H dd = some (.xd fs)
theorem XD.same {d : Option Addr} {H H' : Hp} (s : Same H H') (h : XD d H) : XD d H' := by
  cases d with
  | none => exact h
  | some dd => obtain ⟨fs, h⟩ := h; exact ⟨fs, s _ _ h⟩
inductive SuE where
  | fld (f : Str)
  | bool (b : Bool)
  deriving DecidableEq
structure XAt {M : PySem.W.Frag} (κ : Kap M) (F H : Hp) (a : Addr) (d : Option Addr) (i : Nat) (x : Exn) (l : List (Nat × SuE)) (B : Nat) (φ : Nat → List Addr) (σ : L2.St) (env : Env) : Prop where
  sl : σ[i]? = some (some (.ref a))
  no : env[i]?.getD none = none
  xd : XD d H
  hb : env.length ≤ B ∧ ∀ q ∈ l, q.1 < B
  vs : ∃ vs : List V, noTL x.ds = true ∧ (x.ns = [] ∨ ∃ (dd : Addr) (fs : List (Str × V)), d = some dd ∧ H dd = some (.xd fs) ∧ x.ns.length = vs.length ∧ ∀ (j : Nat) (n : Str) (v : V), x.ns[j]? = some n → vs[j]? = some v → fs.lookup n = some v) ∧
    ∀ (j : Nat) (n : Str) (z : D) (v : V), x.ns[j]? = some n → x.ds[j]? = some z → vs[j]? = some v → (∃ q ∈ l, q.2 = .fld n) → Rep κ F H z v (φ (B + j))
section
variable {X : Cx} {c : Cfg X.K} {a D : Addr} {oe : Obj} {d : Option Addr} {pn : List (Addr × Obj)} {pos p p' : Pos} {i j : Nat} {n f s y : Str} {l : List (Nat × SuE)} {sts : List Stmt} {e : Expr} {b : Bool}
theorem XAt.step {M : PySem.W.Frag} {κ : Kap M} {F H H' : Hp} {x : Exn} {B : Nat} {φ : Nat → List Addr} {q0 : Nat × SuE} {σ : L2.St} {env : Env} {v : V} {z : PV.D} {fp : List Addr} (T : XAt κ F H a d i x (q0 :: l) B φ σ env) (sm : Same H H') (hj : q0.1 ≠ i) :
    XAt κ F H' a d i x l B (put φ q0.1 fp) (σ.set q0.1 (some v)) (env.set q0.1 (some z)) :=
  ⟨by rw [List.getElem?_set_ne hj]; exact T.sl, by rw [List.getElem?_set_ne hj]; exact T.no, T.xd.same sm, ⟨by rw [List.length_set]; exact T.hb.1, fun q hq => T.hb.2 q (List.mem_cons_of_mem _ hq)⟩, by
    obtain ⟨vs, h2, h3, h1⟩ := T.vs
    refine ⟨vs, h2, h3.imp id fun ⟨dd, fs, q1, q2, q3⟩ => ⟨dd, fs, q1, sm _ _ q2, q3⟩, fun j n z v e1 e2 e3 ⟨q, hq, e4⟩ => ?_⟩
    have hlt := T.hb.2 q0 List.mem_cons_self
    rw [put_ne (by omega)]
    exact (rep_mono (Same.refl _) (Sm.of sm)).1 _ _ _ (h1 j n z v e1 e2 e3 ⟨q, List.mem_cons_of_mem _ hq, e4⟩)⟩
theorem XAt.take {M : PySem.W.Frag} {κ : Kap M} {F H : Hp} {x : Exn} {B k : Nat} {φ : Nat → List Addr} {j : Nat} {σ : L2.St} {env : Env} {v : V} {z : PV.D} {fp : List Addr} (T : XAt κ F H a d i x ((j, .fld f) :: l) B φ σ env) (hj : j ≠ i) (hk : x.ns[k]? = some f) (hl : ∀ q ∈ l, q.2 ≠ .fld f) :
    XAt κ F H a d i x l B (put (put φ (B + k) []) j fp) (σ.set j (some v)) (env.set j (some z)) :=
  ⟨by rw [List.getElem?_set_ne hj]; exact T.sl, by rw [List.getElem?_set_ne hj]; exact T.no, T.xd, ⟨by rw [List.length_set]; exact T.hb.1, fun q hq => T.hb.2 q (List.mem_cons_of_mem _ hq)⟩, by
    obtain ⟨vs, h2, h3, h1⟩ := T.vs
    refine ⟨vs, h2, h3, fun m n z v e1 e2 e3 ⟨q, hq, e4⟩ => ?_⟩
    have hlt : j < B := T.hb.2 (j, .fld f) List.mem_cons_self
    have hmk : m ≠ k := fun e => by
      subst e
      rw [hk] at e1
      cases e1
      exact hl q hq e4
    rw [put_ne (by omega), put_ne (by omega)]
    exact h1 m n z v e1 e2 e3 ⟨q, List.mem_cons_of_mem _ hq, e4⟩⟩
end
def PostT {M : PySem.W.Frag} (c : Cfg M) (W : WX) (K F0 : Hp) (σ : L2.St) (H : Hp) (r : SR) (Dn : Ends) : Prop := match r with
  | .ok q => PostS c (fun _ _ _ => False) K F0 (.ok q) Dn
  | .exc x => ∀ cl dd H', Sm H H' → c.xr H x cl dd H' → W cl dd σ H'
  | .stuck => False
def tBody {M : PySem.W.Frag} (c : Cfg M) (W : WX) (g : Env → SR) : TS := fun Dn σ H => ∃ K F0 F env φ, SE true c.κ K F0 F env φ σ H ∧ PostT c W K F0 σ H (g env) Dn
structure BodyOk (X : Cx) (c : Cfg X.K) (body : List Stmt) (g : Env → SR) : Prop where
  run : ∀ (W : WX) (pn : List (Addr × Obj)) (xe : Value → Shared → Prop), Takes (X.tr pn xe) W → PSs (X.tr pn xe) body (tBody c W g)
theorem post_ok {M : PySem.W.Frag} {c : Cfg M} {E E2 : XK} {K F0 : Hp} {q : Fl × Env} {Dn : Ends} (h : PostS c E K F0 (.ok q) Dn) : PostS c E2 K F0 (.ok q) Dn := by
  obtain ⟨fl, env⟩ := q
  cases fl <;> exact h
section
variable {X : Cx} {c : Cfg X.K} {e : Expr} {es : List Expr} {pos p : Pos} {fs : Env → Res (List D)} {f : Env → Res D} {k n : Nat} {Φ : List D → Res D} {x y : Str} {i : Nat}
def EVW (X : Cx) (c : Cfg X.K) (e : Expr) (f : Env → Res D) : Prop := ∀ (W : WX) (pn : List (Addr × Obj)) (xe : Value → Shared → Prop), Takes (X.tr pn xe) W → PE (X.tr pn xe) e (fun σ H Q => TV c (WE W σ) f σ H Q)
theorem ew_call (C : Cal X.prog X.w X.K X.mg X.base c x k n Φ []) (hr : Room k X.A) (hg : Gl X x)
    (ha : ∀ (E : XK) (pn : List (Addr × Obj)) (xe : Value → Shared → Prop), EL (X.tr pn xe) c E (e :: es) fs) (hdb : (x == ("__debug__" : Str)) = false := by decide) (he : starEach (e :: es) X.env = (false, eval e X.env) :: starEach es X.env := by rfl) (hpl : (backTo pos (starEach es X.env)).any (·.1) = false := by rfl) :
    EVW X c (.Call (.Name x p) (e :: es) [] pos) (eCall (lenIs n Φ) [] fs) := fun W pn xe tk => by
  obtain ⟨fa, fd, ps, dvs, ds, F, hm, hk, hb, hd, hr'⟩ := C.ex
  have hdv : dvs = [] := by
    have := (hr' (fun _ => none) (fun _ => none)).length
    exact List.eq_nil_of_length_eq_zero this.symm
  subst hdv
  have hds : ds = [] := by cases hd; rfl
  subst hds
  have hA : PA (X.tr pn xe) (e :: es) (fun σ H R => TL c (WE W σ) fs σ H R) := ⟨fun pos pins s σ H Q I q => (ha (WE W σ) pn xe).run pos pins s σ H Q I q⟩
  refine PE.imp (pe_callS (X := X.tr pn xe) F hr hg hm hk hb (fun σ => passAt tk σ) hA hdb he hpl) fun σ H Q q => ?_
  have z := glueCall (n := n) (dd := []) (dvs := []) hr' (fun ds vs h => len_or (dd := []) (dvs := []) ds vs rfl h) q
  have e1 : (fun (vs : List V) H1 => SpD c n (lenIs n Φ) (vs ++ []) H1 Q (WE W σ)) = fun vs H1 => SpD c n (lenIs n Φ) vs H1 Q (WE W σ) := by
    funext vs H1
    rw [List.append_nil]
  rw [e1] at z
  exact z
theorem body_set (h : EVW X c e f) (hN : X.N.Nodup) {pos' : Pos} (hi : X.N[i]? = some y := by rfl) (hx : Loc X.env.scope y := by first | exact .inl rfl | exact .inr rfl) (hs : swapsWith e (some (.Name y pos')) pos.line X.env = pure false := by rfl)
    (hf : X.fn y = true ∨ X.env.scope.names.lookup y = some .local := by first | exact .inl rfl | exact .inr rfl | assumption) : BodyOk X c [.Assign [.Name y pos'] e pos] (sSet i f) := ⟨fun W pn xe tk => pss_one (PS.imp (ps_set (X := X.tr pn xe) hN hi hx (h W pn xe tk) hs hf) fun Dn σ H q => by
  obtain ⟨K, F0, F, env, φ, S, p⟩ := q
  refine ⟨true, K, F0, F, env, φ, S, ?_⟩
  unfold sSet at p
  cases z : f env with
  | ok d =>
    simp only [z, Res.bind] at p
    intro v H' F' fp x r nd fr
    unfold store at p
    by_cases h : noT d = true
    · rw [if_pos h] at p
      exact p _ H' F' _ (S.set x r nd fr (fun _ => h) i)
    · rw [if_neg h] at p
      exact p.elim
  | exc y => simp only [z, Res.bind] at p; exact p
  | stuck => simp only [z, Res.bind] at p; exact p)⟩
end
theorem SE.any {bb : Bool} {M : PySem.W.Frag} {κ : Kap M} {K F0 F H : Hp} {env : Env} {φ : Nat → List Addr} {σ : L2.St} {i : Nat} {w : Option V} (S : SE bb κ K F0 F env φ σ H) (h : env[i]?.getD none = none) : SE bb κ K F0 F env φ (σ.set i w) H :=
  ⟨by rw [List.length_set]; exact S.len, S.kk, S.f0, S.fh, S.gr, fun j d e => by
    have hj : i ≠ j := fun z => by
      subst z
      rw [e] at h; cases h
    rw [List.getElem?_set_ne hj]; exact S.sl j d e, S.nd, S.dj, S.ow⟩
def moreP (φ : Nat → List Addr) (B : Nat) (fq : Nat → List Addr) : Nat → List Addr := fun j => if j < B then φ j else fq (j - B)
theorem SE.more {bb : Bool} {M : PySem.W.Frag} {κ : Kap M} {K F0 F H : Hp} {env : Env} {φ fq : Nat → List Addr} {σ : L2.St} {B : Nat} (S : SE bb κ K F0 F env φ σ H) (hB : env.length ≤ B) (n1 : ∀ j, (fq j).Nodup) (n2 : ∀ j k, j ≠ k → ∀ a ∈ fq j, a ∉ fq k)
    (n3 : ∀ j, ∀ a ∈ fq j, F a = none ∧ K a = none ∧ (∀ k, a ∉ φ k) ∧ ∃ o, H a = some o ∧ ¬ IsTup' o) : SE bb κ K F0 F env (moreP φ B fq) σ H := by
  refine ⟨S.len, S.kk, S.f0, S.fh, S.gr, fun j d e => ?_, fun j => ?_, fun j k hjk a m => ?_, fun j a m => ?_⟩
  · have hj : j < B := Nat.lt_of_lt_of_le (List.getElem?_eq_some_iff.mp e).1 hB
    have : moreP φ B fq j = φ j := if_pos hj
    rw [this]
    exact S.sl j d e
  · unfold moreP
    split
    · exact S.nd j
    · exact n1 _
  · unfold moreP at m ⊢
    split at m
    · split
      · exact S.dj j k hjk a m
      · exact fun m2 => (n3 _ a m2).2.2.1 j m
    · split
      · exact (n3 _ a m).2.2.1 k
      · exact n2 _ _ (by omega) a m
  · unfold moreP at m
    split at m
    · exact S.ow j a m
    · obtain ⟨h1, h2, _, h3⟩ := n3 _ a m
      exact ⟨h1, h2, h3⟩
def joinG (F G : Hp) : Hp := fun a => match F a with
  | some o => some o
  | none => G a
theorem joinG_l {F G : Hp} : Same F (joinG F G) := fun a o e => by unfold joinG; rw [e]
theorem joinG_cases {F G : Hp} {a : Addr} {o : HO} (h : joinG F G a = some o) : F a = some o ∨ F a = none ∧ G a = some o := by
  unfold joinG at h
  cases q : F a with
  | some u => rw [q] at h; exact .inl h
  | none => rw [q] at h; exact .inr ⟨rfl, h⟩
theorem join_tab {M : PySem.W.Frag} {κ : Kap M} {F0 F H H' : Hp} (f0 : FF κ F0 F) (ht : ∀ p ∈ κ.tb, LamX.TabS H' p.1 p.2) {a : Addr} {ps : Array Value} (e : F a = some (.tbl ps)) : ∃ q, ps = #[.str q 0] ∧ LamX.TabS H' a q := by
  obtain ⟨p, hp, rfl⟩ := f0.mks.tt a ps e
  have h := f0.mks.mt p hp
  rw [h] at e
  have z : markT p.2 = .tbl ps := Option.some.inj e
  unfold markT at z
  injection z with z
  exact ⟨p.2, z.symm, ht p hp⟩
theorem join_ext {M : PySem.W.Frag} {κ : Kap M} {F0 F H H' G : Hp} (f0 : FF κ F0 F) (fh : Sub F H) (sm : Sm H H') (ht : ∀ p ∈ κ.tb, LamX.TabS H' p.1 p.2) (g1 : Sub G H') (g2 : ∀ a o, G a = some o → H a = none ∨ IsTup' o) (g3 : ∀ a ps, G a ≠ some (.tbl ps)) :
    Ext F H (joinG F G) H' ∧ Same G (joinG F G) := by
  refine ⟨⟨sm, ⟨joinG_l, fun a ps e => ?_⟩, ⟨fun a o e n => ?_, fun a ps e => ?_⟩, fun a o e => ?_⟩, fun a o e => ?_⟩
  · rcases joinG_cases e with h | ⟨_, h⟩
    · exact h
    · exact (g3 a ps h).elim
  · rcases joinG_cases e with h | ⟨_, h⟩
    · exact sm.at_ _ _ (fh.at_ _ _ h n) n
    · exact g1.at_ _ _ h n
  · rcases joinG_cases e with h | ⟨_, h⟩
    · obtain ⟨q, h1, h2⟩ := join_tab (H := H) f0 ht h
      exact ⟨q, 0, h1, h2⟩
    · exact (g3 a ps h).elim
  · rcases joinG_cases e with h | ⟨_, h⟩
    · exact .inl h
    · exact .inr (g2 a o h)
  · have no : nTb o := by
      cases o with
      | tbl ps => exact (g3 a ps e).elim
      | _ => exact True.intro
    have hG := g1.at_ a o e no
    unfold joinG
    cases q : F a with
    | none => exact e
    | some u =>
      by_cases n : nTb u
      · have := sm.at_ _ _ (fh.at_ _ _ q n) n
        rw [hG] at this
        exact this.symm
      · cases u with
        | tbl ps =>
          obtain ⟨_, _, ps2, h1, _⟩ := join_tab (H := H) f0 ht q
          rw [hG] at h1
          cases h1
          exact (g3 a _ e).elim
        | _ => exact (n True.intro).elim
section
variable {β : Type} {R : SR → Res β → Prop} {q : D → Res β} {env : Env} {w : Env → SR} {fx : Res D} {f : Env → Res D} {i j : Nat} {s x : Str} {l : List (Nat × SuE)} {ns : List Str} {rs : List RA} {os : List (Option D)}
theorem g_set (hf : f env = fx) : sSet j f env = (fx.bind chk).bind fun d => .ok (.nx, env.set j (some d)) := set_eq hf
end
def eqB (a b : Option (Option Value)) : Bool := decide (a = b)
theorem mr_cons {a b : Bool} (h : (a && b) = true) : a = true ∧ b = true := Bool.and_eq_true_iff.mp h
end PV
end
section
namespace PV
open PySem PySem.Spec PyProof.Rows L2 PySem.Froz
section
variable {X : Cx} {c : Cfg X.K} {E : XK} {pos : Pos}
def tLenSetS (K : PySem.W.Frag) (ta : TE) : TE := fun σ H Q => ta σ H fun x H1 => ∃ l, ∃ xs : List Str, x = .ref l ∧ SqL K H1 l (xs.map V.str) ∧ xs.length ≤ 4000 ∧ Q (.int (onceL xs).length) H1
theorem pe_lenSetS {a : Expr} {ta : TE} {p p2 q : Pos} (hc : X.calm = true) (hg : Gl X "len") (hm : X.mg "len" = none) (hg2 : Gl X "set") (hm2 : X.mg "set" = none) (ha : PE X a ta)
    (na : starEach [a] X.env = (false, eval a X.env) :: starEach [] X.env := by rfl) : PE X (.Call (.Name "len" p) [.Call (.Name "set" p2) [a] [] q] [] pos) (tLenSetS X.K ta) := ⟨fun pins s σ H Q I h => by
  refine Call_ (ld_blt I hg hm PySem.boot_len ?_)
  refine PyProof.Rows.callWith_builtin1 (PyProof.Rows.args_cons ?_ rfl) rfl rfl
  refine Call_ (ld_blt I hg2 hm2 PyProof.Rows.boot_set ?_)
  refine PyProof.Rows.callWith_type1 (PyProof.Rows.args_cons (thn (ha.run pins s σ H _ I h) fun v s1 ⟨x, H1, I1, r1, q1⟩ => PyProof.Rows.args_nil ?_) na) na rfl
  obtain ⟨l, xs, rfl, hq, hl, q1⟩ := q1
  cases r1
  obtain ⟨its, r, pl, hz⟩ := I1.list hq
  have sz : its.toArray.size = xs.length := by rw [List.size_toArray, ← r.length, List.length_map]
  have hd := I1.ok.hd hc
  refine set_keys (knd := strKind X.prog X.w) xs hd pl.isList sz (by unfold scanBound; omega) (fun i v hv => ?_) fun h' tk T S mem k => ?_
  · have hi : i < xs.length := by
      rw [← sz]
      exact (Array.getElem?_eq_some_iff.mp hv).1
    obtain ⟨u, hu', t, e⟩ := r.get (i := i) (x := .str xs[i]) (by simp [hi])
    rw [List.getElem?_toArray] at hv
    have eu := Option.some.inj (hv.symm.trans hu')
    rw [eu, e]
    exact ⟨xs[i], List.getElem?_eq_getElem hi, is_str _ _, rfl⟩
  · refine PyProof.Rows.args_nil ?_
    obtain ⟨D, ho, pm, ok, nd, hb, hf, hr, hl2⟩ := S
    have tl : D.1.size = (onceL xs).length := by
      rw [SetT.size (h := h') (a := s1.heap.objs.size) pm]
      have e1 : T.length = (T.map Prod.snd).length := by rw [List.length_map]
      rw [e1]
      exact (perm_once nd mem).length_eq
    have I2 : Inv X pins σ H1 { s1 with heap := h', toks := tk } := I1.kept fun b o e => k b o e
    have fits := fits_of_scanBound hb
    rw [sizeLine_eq] at fits
    exact call_len_set ho ⟨rfl, rfl, rfl⟩ rfl hf (by omega) ⟨.int (onceL xs).length, H1, I2.tok _, ⟨_, by rw [tl]⟩, q1⟩⟩
def dLenSetS : D → Res D
  | .nd _ .lst ds => (ofO (strs? ds)).bind fun xs => if xs.length ≤ 4000 then .ok (.int (onceL xs).length) else .stuck
  | _ => .stuck
theorem ev_lenSetS {a : Expr} {f : Env → Res D} {p p2 q : Pos} (hc : X.calm = true) (hg : Gl X "len") (hm : X.mg "len" = none) (hg2 : Gl X "set") (hm2 : X.mg "set" = none) (ha : EV X c E a f) (na : starEach [a] X.env = (false, eval a X.env) :: starEach [] X.env := by rfl) :
    EV X c E (.Call (.Name "len" p) [.Call (.Name "set" p2) [a] [] q] [] pos) (e1 dLenSetS f) := PE.imp (pe_lenSetS hc hg hm hg2 hm2 ha na) fun σ H Q w => glue1 w fun F H1 d v fp fh r nd fr p => by
  unfold dLenSetS at p
  split at p
  case h_2 => exact p.elim
  rename_i t ds
  obtain ⟨b, vs, fq, rfl, h1, h2, _⟩ := r.sqL fh
  cases z : strs? ds with
  | none => rw [z] at p; exact p.elim
  | some xs =>
    rw [z] at p
    obtain rfl := strs_rep h2 z
    by_cases h : xs.length ≤ 4000
    · simp only [ofO, rb_ok, if_pos h] at p
      exact ⟨b, xs, rfl, h1, h, p.int fh⟩
    · simp only [ofO, rb_ok, if_neg h] at p
      exact p.elim
end
end PV
end
section
namespace PV
open PySem PySem.Spec PyProof.Rows L2 He
def placesY (g : Addr → Option Obj) (n : Nat) : List Addr := cStatics :: asD g n
def lookY (n : Nat) (fa : List Fa) (fn : List DefD) (tf : List Defn) (ex : PySem.W.Frag → Bool) (g : Addr → Option Obj) : AlX :=
  let K := frT g (placesY g n)
  (obsT fa fn [] K, ex K && tabsB g tf K)
theorem saysY_of {as : List Addr} {fa : List Fa} {fn : List DefD} {tf : List Defn} {ex : PySem.W.Frag → Bool} {w : World} {h : Heap} (e : (obsT fa fn [] (frT h.get? as), ex (frT h.get? as) && tabsB h.get? tf (frT h.get? as)) = valX fn [] w) :
    SaysX fa fn [] tf ex w h (frT h.get? as) := by
  have a1 := congrArg Prod.fst e
  have a2 := congrArg Prod.snd e
  have a3 : (ex (frT h.get? as) && tabsB h.get? tf (frT h.get? as)) = true := a2
  rw [Bool.and_eq_true] at a3
  have tab : ∀ p, p ∈ tf → PySem.W.codeHdIn (frT h.get? as) (cT (frT h.get? as) p).1 (cT (frT h.get? as) p).2 = true ∧ ∃ o, h.get? (cT (frT h.get? as) p).2 = some o ∧ emptyTab o = true := by
    intro p hp
    have b := List.all_eq_true.mp a3.2 p hp
    rw [Bool.and_eq_true] at b
    refine ⟨b.1, ?_⟩
    have b2 := b.2
    split at b2
    · rename_i o ho; exact ⟨o, ho, b2⟩
    · cases b2
  refine { t := a1, more := a3.1, hd := fun p hp => (tab p hp).1, out := fun p hp => ?_, empty := fun p hp => ?_ }
  · obtain ⟨_, o, h1, h2⟩ := tab p hp; exact frT_none h1 h2
  · obtain ⟨_, o, h1, h2⟩ := tab p hp; rw [h1, emptyTab_eq h2]
def hookY (n : Nat) (fa : List Fa) (fn : List DefD) (tf : List Defn) (ex : PySem.W.Frag → Bool) : PySem.W.Hook where
  α := AlX
  val := fun w => valX fn [] w
  obs := fun s => lookY n fa fn tf ex s.heap.get?
  says := fun w h => ∃ K : PySem.W.Frag, K.In h ∧ SaysX fa fn [] tf ex w h K
  of := fun _ _ e => ⟨_, frT_in, saysY_of e⟩
  keeps := fun _ _ _ q k => by
    obtain ⟨K, inn, c⟩ := q
    exact ⟨K, PySem.W.Frag.In.keeps inn k, { t := c.t, more := c.more, hd := c.hd, out := c.out, empty := fun p hp => k _ _ (c.empty p hp) }⟩
theorem lookY_eq {n : Nat} {fa : List Fa} {fn : List DefD} {tf : List Defn} {ex : PySem.W.Frag → Bool} {g : Addr → Option Obj} {s : Shared} (h : ∀ a, g a = s.heap.get? a) : lookY n fa fn tf ex g = (hookY n fa fn tf ex).obs s := by
  obtain rfl : g = s.heap.get? := funext h
  rfl
end PV
end
section
namespace PV
open PySem PySem.Spec PyProof.Rows L2
section
variable {X : Cx} {c : Cfg X.K} {E : XK} {e : Expr} {es : List Expr} {f : Env → Res D} {pos apos p : Pos}
def dJoin (a : Str) : D → Res D
  | .nd _ .lst ds => (ofO (strs? ds)).bind fun xs => if (xs.map (·.length)).sum + xs.length * a.length ≤ 16777216 then .ok (.str (Txt.join a xs)) else .stuck
  | _ => .stuck
theorem ev_join {a : Str} {j : Nat} {p2 : Pos} (ha : EV X c E e f) (hs : starEach [e] X.env = [(false, eval e X.env)] := by rfl) (hbase : attributeBase (.Constant (.str a) j p2) "join" X.env (eval (.Constant (.str a) j p2) X.env) = eval (.Constant (.str a) j p2) X.env := by rfl)
    (hline : (apos.endLine == pos.line) = true := by rfl) : EV X c E (.Call (.Attribute (.Constant (.str a) j p2) "join" apos) [e] [] pos) (e1 (dJoin a) f) := PE.imp (pe_join pe_str ha hs hbase hline) fun σ H Q w => ⟨⟨a, rfl⟩, glue1 w fun F H1 d v fp fh r nd fr p => by
  unfold dJoin at p
  split at p
  case h_2 => exact p.elim
  rename_i t ds
  obtain ⟨b, vs, fq, rfl, h1, h2, _⟩ := r.sqL fh
  cases z : strs? ds with
  | none => rw [z] at p; exact p.elim
  | some xs =>
    rw [z] at p
    obtain rfl := strs_rep h2 z
    by_cases h : (xs.map (·.length)).sum + xs.length * a.length ≤ 16777216
    · simp only [ofO, rb_ok, if_pos h] at p
      exact ⟨a, b, xs, rfl, rfl, .inl h1, h, p.str fh⟩
    · simp only [ofO, rb_ok, if_neg h] at p
      exact p.elim⟩
def dStrI : D → Res D
  | .int i => if i.natAbs.log2 < 1920 then .ok (.str (toString i)) else .stuck
  | _ => .stuck
theorem ev_strI (hg : Gl X "str") (hm : X.mg "str" = none) (ha : EV X c E e f) (he : starEach [e] X.env = (false, eval e X.env) :: starEach [] X.env := by rfl) : EV X c E (.Call (.Name "str" p) [e] [] pos) (e1 dStrI f) :=
  PE.imp (pe_callTy call_str_int hg hm (by decide +kernel) (pa_cons ha pa_nil he) (by decide) (by decide) he) fun σ H Q w => glue1 w fun F H1 d v fp fh r nd fr p => by
    unfold dStrI at p
    cases d with
    | int i =>
      cases r
      by_cases h : i.natAbs.log2 < 1920
      · dsimp only at p; rw [if_pos h] at p; exact ⟨i, rfl, h, p.str fh⟩
      · dsimp only at p; rw [if_neg h] at p; exact p.elim
    | _ => exact p.elim
def jN : List (Env → Res D) := []
def jC (f : Env → Res D) (l : List (Env → Res D)) : List (Env → Res D) := f :: l
inductive EJ (X : Cx) (c : Cfg X.K) (E : XK) : List Expr → List (Env → Res D) → Prop where
  | nil : EJ X c E [] jN
  | cons {e : Expr} {es : List Expr} {f : Env → Res D} {fl : List (Env → Res D)} (h : EV X c E e f) (r : EJ X c E es fl) : EJ X c E (e :: es) (jC f fl)
end
@[simp] theorem dStrI_e {i : Int} : dStrI (.int i) = if i.natAbs.log2 < 1920 then .ok (.str (toString i)) else .stuck := rfl
def exF (oe : Obj) : HO := .frz oe (.ext fun _ => True)
structure HeldX (H : Hp) (a : Addr) (oe : Obj) (C : Addr) (dd : Option Addr) : Prop where
  at_ : H a = some (exF oe)
  z : Zc (.ref C) dd oe
  f : ∃ fv, oe.data = .fields fv
  d : XD dd H
theorem HeldX.same {H H' : Hp} {a : Addr} {oe : Obj} {C : Addr} {dd : Option Addr} (h : HeldX H a oe C dd) (s : Same H H') : HeldX H' a oe C dd := ⟨s _ _ h.at_, h.z, h.f, h.d.same s⟩
def xc0B (K : PySem.W.Frag) (C : Addr) : Bool := PySem.W.excIn K C [.type "ValueError", .type "Exception", .type "BaseException", .type "object"] "ValueError.__new__" && (PySem.W.keepIn K (.ref C) && (decide (PySem.W.subIn K (.ref C) (.type "BaseException") = some true) && decide (PySem.W.typeIn K (.ref C) = some (.type "type"))))
def excB (K : PySem.W.Frag) (C : Addr) : Bool := eqB (PySem.W.findIn K (.ref C) "__getattribute__") (some (some (.builtin "BaseException.__getattribute__"))) && (eqB (PySem.W.findIn K (.ref C) "__getattr__") (some none) && (decide (PySem.W.subIn K (.ref C) (.type "BaseException") = some true) && (PySem.W.hasDictIn K C &&
  (eqB (PySem.W.findIn K (.ref C) "__class__") (some (some (.builtin "object.__class__"))) && (eqB (PySem.W.specialIn K (.builtin "object.__class__") "__get__") (some (some (.builtin "getset_descriptor.__get__"))) && (decide (PySem.W.takesIn K (.builtin "object.__class__") = some true) && decide (PySem.W.mroIn K C (.type "object") = some true)))))))
theorem exc_ok {K : PySem.W.Frag} {C : Addr} (h : excB K C = true) : ExcC K C := by
  unfold excB eqB at h
  simp only [Bool.and_eq_true, decide_eq_true_eq] at h
  obtain ⟨h1, h2, h3, h4, h5, h6, h7, h8⟩ := h
  exact ⟨h1, h2, h3, h4, h5, h6, h7, h8⟩
structure MkX0 (K : PySem.W.Frag) (mg : Str → Option Value) (c : Cfg K) (x : Str) : Prop where
  xr : c.xr = xrC c.κ
  ok : xc0B K (c.κ.cls x) = true
  hm : mg x = some (.ref (c.κ.cls x))
  ec : ExcC K (c.κ.cls x)
def sRaise0 (x : Str) : Env → SR := fun _ => .exc ⟨x, [], []⟩
section
variable {X : Cx} {c : Cfg X.K} {E : XK} {x m : Str} {j : Nat} {p p2 pos pos' : Pos}
theorem es_raise0 (M : MkX0 X.K X.mg c x) (hg : Gl X x) (hcalm : X.calm = true) (tk : Takes X (fun cl d _ H => E cl d H)) (hdb : (x == ("__debug__" : Str)) = false := by decide) :
    ES X c E (.Raise (some (.Call (.Name x p) [.Constant (.str m) j p2] [] pos)) none pos') (sRaise0 x) := by
  have ok := M.ok
  unfold xc0B at ok
  simp only [Bool.and_eq_true, decide_eq_true_eq] at ok
  obtain ⟨q1, q2, q3, q4⟩ := ok
  refine PS.imp (ps_raise hcalm tk (pmk_own PySem.F.excBase_ValueError q1 M.hm q2 (raises_own q3 q4) hg hdb)) fun Dn σ H q => ?_
  obtain ⟨K, F0, F, env, φ, S, z⟩ := q
  refine z _ _ H S.kk ?_
  rw [M.xr]
  have no : ∀ (a : Addr) (o : HO), (fun _ => none : Hp) a = some o → False := fun a o e => by cases e
  refine ⟨fun q hq => (tab_of (X := X) S.f0 S.fh hq).2, rfl, (fun _ => none : Hp), [], fun _ => [], ⟨fun a o e _ => (no a o e).elim, fun a ps e => (no a _ e).elim⟩, fun a o e => (no a o e).elim, fun a ps e => no a _ e, fun j z v e => ?_, fun _ => List.nodup_nil, fun _ _ _ a h => ?_, fun _ a h => ?_, rfl, rfl, .inl ⟨rfl, rfl⟩⟩
  · cases e
  · cases h
  · cases h
end
def Kap.pin {M : PySem.W.Frag} (κ : Kap M) (as : List Addr) : Kap M := { κ with pv := as }
def Cfg.pin {M : PySem.W.Frag} (c : Cfg M) (as : List Addr) : Cfg M := ⟨c.κ.pin as, c.xr, c.mono⟩
theorem isHO_cls {M : PySem.W.Frag} {κ κ' : Kap M} (e : κ.cls = κ'.cls) {k : Kind} {vs : List V} {o : HO} (h : IsHO κ k vs o) : IsHO κ' k vs o := by
  cases k with
  | ins c ns => obtain ⟨h1, dx, h2⟩ := h; exact ⟨h1, dx, by rw [← e]; exact h2⟩
  | inv c ns as => obtain ⟨⟨h1, dx, h2⟩, h3⟩ := h; exact ⟨⟨h1, dx, by rw [← e]; exact h2⟩, h3⟩
  | exc c => obtain ⟨oe, dd, h1, h2, h3⟩ := h; exact ⟨oe, dd, h1, by rw [← e]; exact h2, h3⟩
  | _ => exact h
mutual
theorem Rep.repin {M : PySem.W.Frag} {κ κ' : Kap M} (e : κ.cls = κ'.cls) (F H : Hp) : ∀ (d : D) (v : V) (fp : List Addr), noP d = true → Rep κ F H d v fp → Rep κ' F H d v fp
  | .non, _, _, _, h => by cases h; exact .non
  | .bl _, _, _, _, h => by cases h; exact .bl _
  | .int _, _, _, _, h => by cases h; exact .int _
  | .str _, _, _, _, h => by cases h; exact .str _
  | .tup ds, _, _, hn, h => by
    rw [noP] at hn
    cases h with | tup ha hl => exact .tup ha (RepL.repin e F H ds _ _ hn hl)
  | .nd t k ds, _, _, hn, h => by
    rw [noP] at hn
    cases h with
    | ndO ha hs hl => exact .ndO ha (isHO_cls e hs) (RepL.repin e F H ds _ _ hn hl)
    | ndF ha hr hs hl => exact .ndF ha hr (isHO_cls e hs) (RepL.repin e F H ds _ _ hn hl)
    | ndT ha hr hs hl => exact .ndT ha hr (isHO_cls e hs) (RepL.repin e F H ds _ _ hn hl)
    | ndK ha hl => exact .ndK ha (RepL.repin e F H ds _ _ hn hl)
  | .pin _ _, _, _, hn, _ => by rw [noP] at hn; cases hn
  | .pack _ _, _, _, hn, _ => by rw [noP] at hn; cases hn
theorem RepL.repin {M : PySem.W.Frag} {κ κ' : Kap M} (e : κ.cls = κ'.cls) (F H : Hp) : ∀ (ds : List D) (vs : List V) (fp : List Addr), noPL ds = true → RepL κ F H ds vs fp → RepL κ' F H ds vs fp
  | [], _, _, _, h => by cases h; exact .nil
  | d :: ds, _, _, hn, h => by
    rw [noPL, Bool.and_eq_true] at hn
    cases h with | cons h1 h2 => exact .cons (Rep.repin e F H d _ _ hn.1 h1) (RepL.repin e F H ds _ _ hn.2 h2)
end
mutual
theorem Rep.noP {M : PySem.W.Frag} {κ : Kap M} (e : κ.pv = []) (F H : Hp) : ∀ (d : D) (v : V) (fp : List Addr), Rep κ F H d v fp → PV.noP d = true
  | .non, _, _, _ => rfl
  | .bl _, _, _, _ => rfl
  | .int _, _, _, _ => rfl
  | .str _, _, _, _ => rfl
  | .tup ds, _, _, h => by
    rw [PV.noP]
    cases h with | tup ha hl => exact RepL.noP e F H ds _ _ hl
  | .nd t k ds, _, _, h => by
    rw [PV.noP]
    cases h with
    | ndO ha hs hl => exact RepL.noP e F H ds _ _ hl
    | ndF ha hr hs hl => exact RepL.noP e F H ds _ _ hl
    | ndT ha hr hs hl => exact RepL.noP e F H ds _ _ hl
    | ndK ha hl => exact RepL.noP e F H ds _ _ hl
  | .pin _ _, _, _, h => by
    cases h with | pin hp _ => rw [e] at hp; simp at hp
  | .pack _ _, _, _, h => by
    cases h with | pack hp _ _ => exact absurd e hp
theorem RepL.noP {M : PySem.W.Frag} {κ : Kap M} (e : κ.pv = []) (F H : Hp) : ∀ (ds : List D) (vs : List V) (fp : List Addr), RepL κ F H ds vs fp → noPL ds = true
  | [], _, _, _ => rfl
  | d :: ds, _, _, h => by
    cases h with | cons h1 h2 => rw [noPL, Rep.noP e F H d _ _ h1, RepL.noP e F H ds _ _ h2]; rfl
end
section
variable {M : PySem.W.Frag} {κ : Kap M} {K F0 F H : Hp}
theorem RetOk.pin (e : κ.pv = []) (as : List Addr) {d : D} {v : V} {fp : List Addr} (R : RetOk κ K F0 F H d v fp) : RetOk (κ.pin as) K F0 F H d v fp :=
  ⟨R.kk, ⟨R.f0.same, ⟨R.f0.mks.mt, R.f0.mks.tt⟩⟩, R.fh, R.gr, R.rep.repin (κ := κ) (κ' := κ.pin as) rfl _ _ _ _ _ (R.rep.noP e _ _ _ _ _), R.nd, R.ow, R.nt⟩
end
theorem Cal.pin {P : Program} {w : World} {K : PySem.W.Frag} {mg : Str → Option Value} {base : Heap} {c : Cfg K} {x : Str} {k n : Nat} {Φ : List D → Res D} {dd : List D} (C : Cal P w K mg base c x k n Φ dd) (e : c.κ.pv = []) (as : List Addr) : Cal P w K mg base (c.pin as) x k n Φ dd := by
  obtain ⟨f, fd, ps, dvs, ds, F, hm, hk, hb, hd, hr⟩ := C.ex
  refine ⟨f, fd, ps, dvs, ds, F.imp fun vs H Q E q => ?_, hm, hk, hb, hd, fun F H => ?_⟩
  · obtain ⟨Kh, F0, ds, kk, fh, r, nt, hl, p⟩ := q
    refine ⟨Kh, F0, ds, kk, ⟨fh.1, ⟨fh.2.1.mt, fh.2.1.tt⟩, fh.2.2⟩, r.repin (κ := c.κ.pin as) (κ' := c.κ) rfl _ _ _ _ _ fh.2.2, nt, hl, ?_⟩
    cases z : lenIs n Φ ds with
    | ok d => rw [z] at p; exact fun v H' F' fp R => p v H' F' fp (R.pin e as)
    | exc x => rw [z] at p; exact p
    | stuck => rw [z] at p; exact p
  · have r := hr F H
    exact r.repin (κ := c.κ) (κ' := c.κ.pin as) rfl _ _ _ _ _ (r.noP e _ _ _ _ _)
def SpIO {M : PySem.W.Frag} (c : Cfg M) (n m : Nat) (Φ : List D → Res D) : Sp := fun vs H Q E => ∃ K F0 ds as φ, (vs.length = n ∧ ds.length = n ∧ as.length = m) ∧ SE true (c.κ.pin as) K F0 F0 (ds.map some) φ (vs.map some) H ∧ PostF (c.pin as) E K F0 (Φ ds) Q
def pinsOf : List Nat → Nat → Env → Option (List D)
  | [], _, _ => some []
  | i :: is, j, env => match env[i]? with
    | some (some (.pin j' c)) => if j' = j then (pinsOf is (j + 1) env).map (c :: ·) else none
    | _ => none
def packOf (is : List Nat) (d : D) (env : Env) : Res (Fl × Env) := match pinsOf is 0 env with
  | some cs => .ok (.rt (.pack d cs), env)
  | none => .stuck
theorem pins_rep {bb : Bool} {M : PySem.W.Frag} {κ : Kap M} {K F0 F H : Hp} {env : Env} {φ : Nat → List Addr} {σ : L2.St} (S : SE bb κ K F0 F env φ σ H) : ∀ (is : List Nat) (j : Nat) (cs : List D), is.Nodup → pinsOf is j env = some cs → j + is.length = κ.pv.length →
    ∃ fq, RepL κ F H cs ((κ.pv.drop j).map V.ref) fq ∧ fq.Nodup ∧ (∀ a ∈ fq, ∃ i ∈ is, a ∈ φ i) ∧ (bb = true → noTL cs = true)
  | [], j, cs, _, h, hl => by
    cases h
    refine ⟨[], ?_, .nil, by simp, fun _ => rfl⟩
    rw [List.drop_of_length_le (by simp at hl; omega)]
    exact .nil
  | i :: is, j, cs, nd, h, hl => by
    rw [List.nodup_cons] at nd
    unfold pinsOf at h
    split at h
    · rename_i j' c e
      split at h
      · rename_i ej
        subst ej
        cases h2 : pinsOf is (j' + 1) env with
        | none => rw [h2] at h; cases h
        | some cs' =>
          rw [h2] at h
          cases h
          rw [List.length_cons] at hl
          obtain ⟨fq, r, n1, m1, t1⟩ := pins_rep S is (j' + 1) cs' nd.2 h2 (by omega)
          obtain ⟨v, s1, s2, s3⟩ := S.sl i _ e
          generalize hφ : φ i = fp at s2
          cases s2 with
          | @pin _ a _ fp hp hd =>
            have hj : j' < κ.pv.length := by omega
            have ea : κ.pv[j'] = a := by rw [List.getElem?_eq_getElem hj] at hp; exact Option.some.inj hp
            refine ⟨fp ++ fq, ?_, ?_, fun b hb => ?_, fun z => ?_⟩
            · rw [List.drop_eq_getElem_cons hj, ea, List.map_cons]
              exact .cons hd r
            · rw [List.nodup_append]
              refine ⟨hφ ▸ S.nd i, n1, fun b hb b' hb' z => ?_⟩
              subst z
              obtain ⟨k, hk, m2⟩ := m1 b hb'
              exact S.dj i k (fun q => nd.1 (q ▸ hk)) b (by rw [hφ]; exact hb) m2
            · rcases List.mem_append.mp hb with hb | hb
              · exact ⟨i, List.mem_cons_self, by rw [hφ]; exact hb⟩
              · obtain ⟨k, hk, m2⟩ := m1 b hb
                exact ⟨k, List.mem_cons_of_mem _ hk, m2⟩
            · have := s3 z
              rw [noT] at this
              rw [noTL, this, t1 z]
              rfl
      · cases h
    · cases h
theorem pack_ret {M : PySem.W.Frag} {κ : Kap M} {K F0 F H : Hp} {env : Env} {φ : Nat → List Addr} {σ : L2.St} (S : SE true κ K F0 F env φ σ H) {is : List Nat} {cs : List D} (nd : is.Nodup) (ne : is ≠ []) (hl : is.length = κ.pv.length) (h : pinsOf is 0 env = some cs) {d : D} {v : V} {fp : List Addr} (f : Float κ K F φ H d v fp) (nt : noT d = true) :
    ∃ fq, RetOk κ K F0 F H (.pack d cs) v fq := by
  obtain ⟨fq, r, n1, m1, t1⟩ := pins_rep S is 0 cs nd h (by omega)
  refine ⟨fp ++ fq, S.kk, S.f0, S.fh, S.gr, .pack (fun z => ne (List.eq_nil_of_length_eq_zero (by rw [hl, z]; rfl))) f.rep r, ?_, fun a m => ?_, ?_⟩
  · rw [List.nodup_append]
    refine ⟨f.nd, n1, fun a ha b hb z => ?_⟩
    subst z
    obtain ⟨k, _, m2⟩ := m1 a hb
    exact (f.ap a ha).2.2 k m2
  · rcases List.mem_append.mp m with m | m
    · exact ⟨(f.ap a m).1, (f.ap a m).2.1⟩
    · obtain ⟨k, _, m2⟩ := m1 a m
      exact ⟨(S.ow k a m2).1, (S.ow k a m2).2.1⟩
  · rw [noT, nt, t1 rfl]; rfl
def sRetIO (is : List Nat) (f : Env → Res D) : Env → SR := fun env => (f env).bind fun d => if noT d = true then packOf is d env else .stuck
def sEndIO (is : List Nat) : Env → SR := fun env => packOf is .non env
section
variable {X : Cx} {c : Cfg X.K} {E : XK} {e : Expr} {f : Env → Res D} {pos : Pos} {is : List Nat}
theorem es_retIO (hl : is.length = c.κ.pv.length) (nd : is.Nodup) (ne : is ≠ []) (ha : EV X c E e f) : ES X c E (.Return (some e) pos) (sRetIO is f) := PS.imp (ps_ret ha) fun Dn σ H q =>
  glueS (k := fun d env => if noT d = true then packOf is d env else .stuck) q fun K F0 F F' env φ d v fp H' S x r nd2 fr p => by
    by_cases h : noT d = true
    · rw [if_pos h] at p
      unfold packOf at p
      split at p
      · rename_i cs hc
        have S' := S.ext x
        obtain ⟨fq, R⟩ := pack_ret S' nd ne hl hc ⟨r, nd2, fun a m => ⟨(fr a m).2, S.apart (fr a m).1⟩⟩ h
        exact p v H' F' fq R
      · exact p.elim
    · rw [if_neg h] at p
      exact p.elim
end
theorem SE.pad {bb : Bool} {M : PySem.W.Frag} {κ : Kap M} {K F0 F H : Hp} {env : Env} {φ : Nat → List Addr} {σ : L2.St} (S : SE bb κ K F0 F env φ σ H) (m : Nat) : SE bb κ K F0 F (env ++ List.replicate m none) φ (σ ++ List.replicate m none) H := by
  refine ⟨by rw [List.length_append, List.length_append, S.len]; simp, S.kk, S.f0, S.fh, S.gr, fun i d h => ?_, S.nd, S.dj, S.ow⟩
  have hi : i < env.length := by
    by_cases q : i < env.length
    · exact q
    · rw [List.getElem?_append_right (by simpa using q), List.getElem?_replicate] at h
      split at h <;> cases h
  rw [List.getElem?_append_left hi] at h
  obtain ⟨v, h1, h2, h3⟩ := S.sl i d h
  exact ⟨v, by rw [List.getElem?_append_left (by rw [← S.len]; exact hi)]; exact h1, h2, h3⟩
section
variable {P : Program} {w : World} {K : PySem.W.Frag} {mg : Str → Option Value} {base : Heap}
theorem fnd_okIO {x qual : Str} {st : Stmt} {f : Addr} {fd : FuncData} {N ps : List Str} {k m : Nat} {c : Cfg K} {g : Env → SR} {dvs : List V} {kws : List (Str × V)} {is : List Nat} (F : FunD K x qual (defArgs st) (defBody st) (defScope st) dvs kws f fd) (S : FnScope N ps (defScope st)) (his : is.Nodup) (hne : is ≠ []) (hm : is.length = m)
    (hb : ∀ (as : List Addr), is.length = as.length → ∀ (cdv : Value) (A : Around) (outer : List PySem.Env) (s : Shared) (H : Hp) (E : XK), Room k (A.deeper (envOfC qual (defScope st) s.heap.objs.size f cdv)) → EB (cxOf (L2.CX P w) P w K mg base N qual (defScope st) f cdv A outer s H E) (c.pin as) E (defBody st) g) :
    FnOk P w K mg base (L2.CX P w) (k + 1) f fd ps (SpIO c ps.length m (runF N.length (sSeq g (sEndIO is)))) := by
  refine F.ok S (fun vs H Q E h => ?_) (fun cdv A outer s H vs Q E hr h => ?_)
  · obtain ⟨_, _, ds, as, φ, hl, _⟩ := h
    exact hl.1
  · obtain ⟨Kh, F0, ds, as, φ, hl, S0, p⟩ := h
    have la : is.length = as.length := by rw [hm, hl.2.2]
    have el : ds.length = vs.length := hl.2.1.trans hl.1.symm
    have S1 := S0.pad (N.length - ds.length)
    have e1 : vs.map some ++ List.replicate (N.length - ds.length) none = L2.start N vs := by unfold L2.start; rw [el]
    rw [e1] at S1
    refine ⟨_, hb as la cdv A outer s H E hr, Kh, F0, F0, _, φ, S1, ?_⟩
    unfold runF at p
    unfold sSeq at p
    cases z : g (ds.map some ++ List.replicate (N.length - ds.length) none) with
    | ok r =>
      obtain ⟨fl, env'⟩ := r
      rw [z] at p
      cases fl with
      | nx =>
        intro σ' H' F' φ' T
        simp only [Res.bind] at p
        unfold sEndIO packOf at p
        cases hc : pinsOf is 0 env' with
        | none => rw [hc] at p; exact p.elim
        | some cs =>
          rw [hc] at p
          obtain ⟨fq, R⟩ := pack_ret T his hne la hc (d := .non) (v := .non) (fp := []) ⟨.non, .nil, by simp⟩ rfl
          exact p .non H' F' fq R
      | bk => exact p.elim
      | ct => exact p.elim
      | rt d => exact p
    | exc y => rw [z] at p; exact p
    | stuck => rw [z] at p; exact p
theorem FnOk.lenIO {k n m : Nat} {c : Cfg K} {f : Addr} {fd : FuncData} {ps : List Str} {Φ : List D → Res D} (F : FnOk P w K mg base (L2.CX P w) k f fd ps (SpIO c n m Φ)) : FnOk P w K mg base (L2.CX P w) k f fd ps (SpIO c n m (lenIs n Φ)) := F.imp fun vs H Q E h => by
  obtain ⟨Kh, F0, ds, as, φ, hl, S0, p⟩ := h
  refine ⟨Kh, F0, ds, as, φ, hl, S0, ?_⟩
  unfold lenIs at p
  rw [if_pos hl.2.1] at p
  exact p
theorem FnOk.eqvIO {k n m : Nat} {c : Cfg K} {f : Addr} {fd : FuncData} {ps : List Str} {Φ Ψ : List D → Res D} (F : FnOk P w K mg base (L2.CX P w) k f fd ps (SpIO c n m Φ)) (h : ∀ ds, Ψ ds = .stuck ∨ Φ ds = Ψ ds) : FnOk P w K mg base (L2.CX P w) k f fd ps (SpIO c n m Ψ) := F.imp fun vs H Q E q => by
  obtain ⟨Kh, F0, ds, as, φ, hl, S0, p⟩ := q
  refine ⟨Kh, F0, ds, as, φ, hl, S0, ?_⟩
  rcases h ds with e | e
  · rw [e] at p; exact p.elim
  · rw [e]; exact p
end
def sPin (i : Nat) (g : Env → SR) : Env → SR := fun env => match env[i]? with
  | some (some (.pin j d)) => (g (env.set i (some d))).bind fun r => match r.1, r.2[i]? with
    | .nx, some (some d') => .ok (.nx, r.2.set i (some (.pin j d')))
    | _, _ => .stuck
  | _ => .stuck
section
variable {bb : Bool} {M : PySem.W.Frag} {κ : Kap M} {K F0 F H : Hp} {env : Env} {φ : Nat → List Addr} {σ : L2.St} {i j : Nat} {d : D}
theorem SE.unpin (S : SE bb κ K F0 F env φ σ H) (e : env[i]? = some (some (.pin j d))) : SE bb κ K F0 F (env.set i (some d)) φ σ H ∧ ∃ a, κ.pv[j]? = some a ∧ σ[i]? = some (some (.ref a)) := by
  obtain ⟨v, h1, h2, h3⟩ := S.sl i _ e
  generalize hφ : φ i = fp at h2
  cases h2 with
  | @pin _ a _ _ hp hd =>
    refine ⟨⟨by simpa using S.len, S.kk, S.f0, S.fh, S.gr, fun k z q => ?_, S.nd, S.dj, S.ow⟩, a, hp, h1⟩
    by_cases hk : k = i
    · subst hk
      rw [List.getElem?_set_self (List.getElem?_eq_some_iff.mp e).1] at q
      cases q
      exact ⟨_, h1, by rw [hφ]; exact hd, fun z => by have := h3 z; rw [noT] at this; exact this⟩
    · rw [List.getElem?_set_ne (Ne.symm hk)] at q
      exact S.sl k z q
theorem SE.repin {a : Addr} (S : SE bb κ K F0 F env φ σ H) (e : env[i]? = some (some d)) (hp : κ.pv[j]? = some a) (hv : σ[i]? = some (some (.ref a))) : SE bb κ K F0 F (env.set i (some (.pin j d))) φ σ H := by
  refine ⟨by simpa using S.len, S.kk, S.f0, S.fh, S.gr, fun k z q => ?_, S.nd, S.dj, S.ow⟩
  by_cases hk : k = i
  · subst hk
    rw [List.getElem?_set_self (List.getElem?_eq_some_iff.mp e).1] at q
    cases q
    obtain ⟨v, h1, h2, h3⟩ := S.sl k _ e
    rw [hv] at h1
    cases h1
    exact ⟨_, hv, .pin hp h2, fun z => by rw [noT]; exact h3 z⟩
  · rw [List.getElem?_set_ne (Ne.symm hk)] at q
    exact S.sl k z q
end
theorem esk_pin {X : Cx} {c : Cfg X.K} {E : XK} {st : Stmt} {g : Env → SR} (i : Nat) (h : ESk X c E st g) : ESk X c E st (sPin i g) := PS.imp h fun Dn σ H q => by
  obtain ⟨K, F0, F, env, φ, S, p⟩ := q
  unfold sPin at p
  split at p
  · rename_i j d e
    obtain ⟨S1, a, hp, hv⟩ := S.unpin e
    refine ⟨K, F0, F, _, φ, S1, ?_⟩
    cases z : g (env.set i (some d)) with
    | ok r =>
      obtain ⟨fl, env'⟩ := r
      rw [z] at p
      simp only [Res.bind] at p
      cases fl with
      | nx =>
        cases e2 : env'[i]? with
        | none => rw [e2] at p; exact p.elim
        | some o =>
          rw [e2] at p
          cases o with
          | none => exact p.elim
          | some d' => exact fun H' F' φ' T => p H' F' φ' (T.repin e2 hp hv)
      | bk => exact p.elim
      | ct => exact p.elim
      | rt d => exact p.elim
    | exc y => rw [z] at p; exact p
    | stuck => rw [z] at p; exact p
  · exact p.elim
def PostVS {M : PySem.W.Frag} (c : Cfg M) (E : XK) (K F0 : Hp) (σ : L2.St) (r : Res (D × Env)) (Q : VK) : Prop := match r with
  | .ok (d, env) => ∀ v H F φ fp, SE true c.κ K F0 F env φ σ H → Float c.κ K F φ H d v fp → Q v H
  | .exc x => ∀ cl dd H, Sm K H → c.xr K x cl dd H → E cl dd H
  | .stuck => False
def TVS {M : PySem.W.Frag} (c : Cfg M) (E : XK) (f : Env → Res (D × Env)) : TE := fun σ H Q => ∃ K F0 F env φ, SE true c.κ K F0 F env φ σ H ∧ PostVS c E K F0 σ (f env) Q
def EVS (X : Cx) (c : Cfg X.K) (E : XK) (e : Expr) (f : Env → Res (D × Env)) : Prop := PE X e (TVS c E f)
theorem glueVS {M : PySem.W.Frag} {c : Cfg M} {E : XK} {f : Env → Res (D × Env)} {σ : L2.St} {H : Hp} {Dn : Ends} {k : D × Env → SR} {R : V → Hp → Prop} (q : TSt c E (fun env => (f env).bind k) Dn σ H)
    (step : ∀ K F0 F env φ d v fp H', SE true c.κ K F0 F env φ σ H' → Float c.κ K F φ H' d v fp → PostS c E K F0 (k (d, env)) Dn → R v H') : TVS c E f σ H R := by
  obtain ⟨K, F0, F, env, φ, S, p⟩ := q
  refine ⟨K, F0, F, env, φ, S, ?_⟩
  dsimp only at p
  cases z : f env with
  | ok r =>
    obtain ⟨d, env'⟩ := r
    rw [z] at p
    exact fun v H' F' φ' fp T fl => step K F0 F' env' φ' d v fp H' T fl p
  | exc y => rw [z] at p; exact p
  | stuck => rw [z] at p; exact p
section
variable {X : Cx} {c : Cfg X.K} {E : XK} {e : Expr} {f : Env → Res (D × Env)} {pos apos p : Pos} {i : Nat}
def sSetS (i : Nat) (f : Env → Res (D × Env)) : Env → SR := fun env => (f env).bind fun r => store i r.1 r.2
theorem es_setS (i : Nat) {x : Str} {pos' : Pos} (ha : EVS X c E e f) (hN : X.N.Nodup) (hi : X.N[i]? = some x := by rfl) (hx : Loc X.env.scope x := by first | exact .inl rfl | exact .inr rfl) (hs : swapsWith e (some (.Name x pos')) pos.line X.env = pure false := by rfl)
    (hf : X.fn x = true ∨ X.env.scope.names.lookup x = some .local := by first | exact .inl rfl | exact .inr rfl | assumption) : ES X c E (.Assign [.Name x pos'] e pos) (sSetS i f) :=
  PS.imp (ps_set hN hi hx ha hs hf) fun Dn σ H q => glueVS (k := fun r => store i r.1 r.2) q fun K F0 F env φ d v fp H' S fl p => by
    unfold store at p
    by_cases h : noT d = true
    · rw [if_pos h] at p
      exact p _ H' F _ (S.setF fl (fun _ => h) i)
    · rw [if_neg h] at p
      exact p.elim
end
def contOf (o : Option (Option D)) : Option D := match o with
  | some (some (.nd .own k ds)) => if noPL ds = true then some (.nd .own k ds) else none
  | some (some (.pin _ (.nd .own k ds))) => if noPL ds = true then some (.nd .own k ds) else none
  | _ => none
def contsOf : List Nat → Env → Option (List D)
  | [], _ => some []
  | i :: is, env => match contOf env[i]?, contsOf is env with
    | some c, some cs => some (c :: cs)
    | _, _ => none
def pinL : Nat → List D → List D
  | _, [] => []
  | j, c :: cs => .pin j c :: pinL (j + 1) cs
def wrapC (o : Option (Option D)) (c : D) : D := match o with
  | some (some (.pin j _)) => .pin j c
  | _ => c
def putCs : List Nat → List D → Env → Env
  | i :: is, c :: cs, env => putCs is cs (env.set i (some (wrapC env[i]? c)))
  | _, _, env => env
def callIO (Φ : List D → Res D) (cs ds : List D) : Res (D × List D) := if noTL ds = true then (Φ (pinL 0 cs ++ fzL ds)).bind fun r => match r with
  | .pack d es => if (noP d && noPL es) = true ∧ es.length = cs.length then .ok (d, es) else .stuck
  | _ => .stuck else .stuck
def eIO (is : List Nat) (Φ : List D → Res D) (fs : Env → Res (List D)) : Env → Res (D × Env) := fun env => match contsOf is env with
  | some cs => (fs env).bind fun ds => (callIO Φ cs ds).bind fun r => .ok (r.1, putCs is r.2 env)
  | none => .stuck
theorem pinL_len : ∀ (j : Nat) (cs : List D), (pinL j cs).length = cs.length
  | _, [] => rfl
  | j, c :: cs => by rw [pinL, List.length_cons, List.length_cons, pinL_len (j + 1) cs]
theorem pinL_get : ∀ (j : Nat) (cs : List D) (k : Nat), (pinL j cs)[k]? = (cs[k]?).map fun c => .pin (j + k) c
  | _, [], k => by simp [pinL]
  | j, c :: cs, 0 => by simp [pinL]
  | j, c :: cs, k + 1 => by
    rw [pinL, List.getElem?_cons_succ, List.getElem?_cons_succ, pinL_get (j + 1) cs k]
    have : j + 1 + k = j + (k + 1) := by omega
    rw [this]
theorem conts_len : ∀ (is : List Nat) (env : Env) (cs : List D), contsOf is env = some cs → cs.length = is.length
  | [], _, _, h => by cases h; rfl
  | i :: is, env, cs, h => by
    unfold contsOf at h
    split at h
    · rename_i c cs' h1 h2
      cases h
      rw [List.length_cons, List.length_cons, conts_len is env cs' h2]
    · cases h
theorem conts_get : ∀ (is : List Nat) (env : Env) (cs : List D), contsOf is env = some cs → ∀ (k i : Nat), is[k]? = some i → ∃ c, cs[k]? = some c ∧ contOf env[i]? = some c
  | [], _, _, _, k, i, hk => by simp at hk
  | i0 :: is, env, cs, h, k, i, hk => by
    unfold contsOf at h
    split at h
    · rename_i c cs' h1 h2
      cases h
      cases k with
      | zero => simp at hk; subst hk; exact ⟨c, rfl, h1⟩
      | succ k => exact conts_get is env cs' h2 k i (by simpa using hk)
    · cases h
section
variable {bb : Bool} {M : PySem.W.Frag} {κ : Kap M} {K F0 F H : Hp} {env : Env} {φ : Nat → List Addr} {σ : L2.St}
theorem SE.cont (S : SE true κ K F0 F env φ σ H) {i : Nat} {c : D} (h : contOf env[i]? = some c) : ∃ a, σ[i]? = some (some (.ref a)) ∧ Rep κ F H c (.ref a) (φ i) ∧ noP c = true ∧ noT c = true := by
  unfold contOf at h
  split at h
  · rename_i k ds e
    split at h
    · rename_i hp
      cases h
      obtain ⟨v, h1, h2, h3⟩ := S.sl i _ e
      have h3 := h3 rfl
      generalize hφ : φ i = fp at h2
      cases h2 with
      | ndO ha hs hl => exact ⟨_, h1, .ndO ha hs hl, by rw [noP]; exact hp, h3⟩
    · cases h
  · rename_i j k ds e
    split at h
    · rename_i hp
      cases h
      obtain ⟨v, h1, h2, h3⟩ := S.sl i _ e
      have h3 := h3 rfl
      rw [noT] at h3
      generalize hφ : φ i = fp at h2
      cases h2 with
      | pin _ hd => exact ⟨_, h1, hd, by rw [noP]; exact hp, h3⟩
    · cases h
  · cases h
theorem repL_split : ∀ {ds : List D} {vs : List V} {fp : List Addr}, RepL κ F H ds vs fp → ∃ fs : List (List Addr), fs.length = ds.length ∧ fp = fs.flatten ∧ ∀ (k : Nat) (d : D) (v : V), ds[k]? = some d → vs[k]? = some v → Rep κ F H d v (fs.getD k [])
  | [], _, _, h => by cases h; exact ⟨[], rfl, rfl, by simp⟩
  | d :: ds, _, _, h => by
    cases h with
    | cons h1 h2 =>
      obtain ⟨fs, l, e, g⟩ := repL_split h2
      refine ⟨_ :: fs, by simp [l], by rw [List.flatten_cons, e], fun k z v q1 q2 => ?_⟩
      cases k with
      | zero => cases q1; cases q2; exact h1
      | succ k => exact g k z v (by simpa using q1) (by simpa using q2)
theorem flat_nd : ∀ {fs : List (List Addr)}, fs.flatten.Nodup → (∀ k, (fs.getD k []).Nodup) ∧ ∀ k l, k ≠ l → ∀ a ∈ fs.getD k [], a ∉ fs.getD l []
  | [], _ => ⟨fun k => by simp, fun k l _ a h => by simp at h⟩
  | f :: fs, h => by
    rw [List.flatten_cons, List.nodup_append] at h
    obtain ⟨h1, h2, h3⟩ := h
    obtain ⟨g1, g2⟩ := flat_nd h2
    have mem : ∀ (l : Nat) (a : Addr), a ∈ fs.getD l [] → a ∈ fs.flatten := fun l a m => by
      by_cases hl : l < fs.length
      · rw [List.getD_eq_getElem?_getD, List.getElem?_eq_getElem hl] at m
        exact List.mem_flatten.mpr ⟨_, List.getElem_mem hl, m⟩
      · rw [List.getD_eq_getElem?_getD, List.getElem?_eq_none (by omega)] at m
        simp at m
    refine ⟨fun k => ?_, fun k l hkl a m m2 => ?_⟩
    · cases k with
      | zero => exact h1
      | succ k => exact g1 k
    · cases k with
      | zero =>
        cases l with
        | zero => exact hkl rfl
        | succ l => exact h3 a m a (mem l a m2) rfl
      | succ k =>
        cases l with
        | zero => exact h3 a m2 a (mem k a m) rfl
        | succ l => exact g2 k l (fun z => hkl (by rw [z])) a m m2
theorem mem_flat {fs : List (List Addr)} {k : Nat} {a : Addr} (m : a ∈ fs.getD k []) : a ∈ fs.flatten := by
  by_cases hl : k < fs.length
  · rw [List.getD_eq_getElem?_getD, List.getElem?_eq_getElem hl] at m
    exact List.mem_flatten.mpr ⟨_, List.getElem_mem hl, m⟩
  · rw [List.getD_eq_getElem?_getD, List.getElem?_eq_none (by omega)] at m
    simp at m
theorem putCs_len : ∀ (is : List Nat) (cs : List D) (env : Env), (putCs is cs env).length = env.length
  | [], _, _ => rfl
  | _ :: _, [], _ => rfl
  | i :: is, c :: cs, env => by rw [putCs, putCs_len is cs, List.length_set]
theorem putCs_other : ∀ (is : List Nat) (cs : List D) (env : Env) (i : Nat), i ∉ is → (putCs is cs env)[i]? = env[i]?
  | [], _, _, _, _ => rfl
  | _ :: _, [], _, _, _ => rfl
  | i0 :: is, c :: cs, env, i, h => by
    rw [putCs, putCs_other is cs _ i fun m => h (List.mem_cons_of_mem _ m), List.getElem?_set_ne fun z => h (by rw [z]; exact List.mem_cons_self)]
theorem putCs_at : ∀ (is : List Nat) (cs : List D) (env : Env) (k i : Nat) (c : D), is.Nodup → is[k]? = some i → cs[k]? = some c → i < env.length → (putCs is cs env)[i]? = some (some (wrapC env[i]? c))
  | [], _, _, k, i, c, _, h, _, _ => by simp at h
  | i0 :: is, [], _, k, i, c, _, _, h, _ => by simp at h
  | i0 :: is, c0 :: cs, env, 0, i, c, nd, h1, h2, hi => by
    simp at h1 h2
    subst h1 h2
    rw [List.nodup_cons] at nd
    rw [putCs, putCs_other is cs _ _ nd.1, List.getElem?_set_self hi]
  | i0 :: is, c0 :: cs, env, k + 1, i, c, nd, h1, h2, hi => by
    rw [List.nodup_cons] at nd
    have h1' : is[k]? = some i := by simpa using h1
    have ne : i0 ≠ i := fun z => nd.1 (by rw [z]; exact List.mem_of_getElem? h1')
    rw [putCs, putCs_at is cs _ k i c nd.2 h1' (by simpa using h2) (by rw [List.length_set]; exact hi), List.getElem?_set_ne ne]
end
def posOf : List Nat → Nat → Option Nat
  | [], _ => none
  | j :: js, i => if j = i then some 0 else (posOf js i).map (· + 1)
theorem posOf_some : ∀ {is : List Nat} {i k : Nat}, posOf is i = some k → is[k]? = some i
  | [], _, _, h => by cases h
  | j :: js, i, k, h => by
    unfold posOf at h
    split at h
    · rename_i e; cases h; rw [e]; rfl
    · cases q : posOf js i with
      | none => rw [q] at h; cases h
      | some m => rw [q] at h; cases h; rw [List.getElem?_cons_succ]; exact posOf_some q
theorem posOf_none : ∀ {is : List Nat} {i : Nat}, posOf is i = none → i ∉ is
  | [], _, _ => by simp
  | j :: js, i, h => by
    unfold posOf at h
    split at h
    · cases h
    · rename_i e
      cases q : posOf js i with
      | none =>
        intro m
        rcases List.mem_cons.mp m with z | z
        · exact e z.symm
        · exact posOf_none q z
      | some m => rw [q] at h; cases h
theorem posOf_at : ∀ {is : List Nat} {i k : Nat}, is.Nodup → is[k]? = some i → posOf is i = some k
  | [], _, _, _, h => by simp at h
  | j :: js, i, 0, _, h => by simp at h; unfold posOf; rw [if_pos h]
  | j :: js, i, k + 1, nd, h => by
    rw [List.nodup_cons] at nd
    have h' : js[k]? = some i := by simpa using h
    unfold posOf
    rw [if_neg fun z => nd.1 (by rw [z]; exact List.mem_of_getElem? h'), posOf_at nd.2 h']
    rfl
theorem refs_of {is : List Nat} {vs0 : List V} (h0 : vs0.length = is.length) (h : ∀ k < is.length, ∃ a, vs0[k]? = some (.ref a)) : ∃ as : List Addr, as.length = is.length ∧ vs0 = as.map V.ref := by
  induction is generalizing vs0 with
  | nil => exact ⟨[], rfl, by simpa using h0⟩
  | cons i is ih =>
    cases vs0 with
    | nil => simp at h0
    | cons v vs0 =>
      obtain ⟨a, ha⟩ := h 0 (by simp)
      simp at ha
      obtain ⟨as, l, e⟩ := ih (vs0 := vs0) (by simpa using h0) fun k hk => by
        obtain ⟨b, hb⟩ := h (k + 1) (by simpa using hk)
        exact ⟨b, by simpa using hb⟩
      exact ⟨a :: as, by simp [l], by rw [ha, e]; rfl⟩
section
variable {M : PySem.W.Frag} {c : Cfg M} {E : XK} {K F0 F H F' H' : Hp} {env : Env} {φ : Nat → List Addr} {σ : L2.St} {is : List Nat} {n : Nat} {Φ : List D → Res D} {ds : List D} {vs0 vs : List V} {fp : List Addr} {Q : VK}
theorem io_post (nd : is.Nodup) (S : SE true c.κ K F0 F env φ σ H) (h0 : vs0.length = is.length) (hv : ∀ (k i : Nat) (v : V), is[k]? = some i → σ[i]? = some (some v) → vs0[k]? = some v) (x : Ext F H F' H') (r : RepL c.κ F' H' ds vs fp) (ndp : fp.Nodup) (fr : ∀ a ∈ fp, H a = none ∧ F' a = none)
    (hn : is.length + vs.length = n) {cs : List D} (hc : contsOf is env = some cs) (p : PostVS c E K F0 σ ((callIO Φ cs ds).bind fun r => .ok (r.1, putCs is r.2 env)) Q) : SpIO c n is.length Φ (vs0 ++ vs) H' Q E := by
  unfold callIO at p
  by_cases ht : noTL ds = true
  case neg => rw [if_neg ht] at p; exact p.elim
  rw [if_pos ht] at p
  have lc := conts_len is env cs hc
  have get : ∀ (k i : Nat), is[k]? = some i → ∃ a d, cs[k]? = some d ∧ σ[i]? = some (some (.ref a)) ∧ Rep c.κ F H d (.ref a) (φ i) ∧ noP d = true ∧ noT d = true ∧ vs0[k]? = some (.ref a) := fun k i hk => by
    obtain ⟨d, h1, h2⟩ := conts_get is env cs hc k i hk
    obtain ⟨a, h3, h4, h5, h6⟩ := S.cont h2
    exact ⟨a, d, h1, h3, h4, h5, h6, hv k i _ hk h3⟩
  obtain ⟨as, la, ev⟩ := refs_of h0 fun k hk => by
    obtain ⟨a, _, _, _, _, _, _, h⟩ := get k is[k] (List.getElem?_eq_getElem hk)
    exact ⟨a, h⟩
  have asAt : ∀ (k : Nat) (a : Addr), vs0[k]? = some (.ref a) → as[k]? = some a := fun k a h => by
    rw [ev, List.getElem?_map] at h
    cases q : as[k]? with
    | none => rw [q] at h; cases h
    | some b => rw [q] at h; cases h; rfl
  have x2 := x.grab fr (RepL.own _ _ _ _ _ _ r)
  have sg : Same F' (grab F' H' fp) := same_grab fun a m => (fr a m).2
  have rz := r.fz _ _ _ _ sg _ _ _ (fun a m => grab_mem m)
  obtain ⟨G, hG⟩ : ∃ G, G = grab F' H' fp := ⟨_, rfl⟩
  obtain ⟨L, hL⟩ : ∃ L, L = is.flatMap φ := ⟨_, rfl⟩
  obtain ⟨Kc, hK⟩ : ∃ Kc : Hp, Kc = fun a => if a ∈ L then none else H' a := ⟨_, rfl⟩
  rw [← hG] at x2 sg rz
  have Kin : ∀ a, a ∈ L → Kc a = none := fun a m => by rw [hK]; exact if_pos m
  have Kout : ∀ a, a ∉ L → Kc a = H' a := fun a m => by rw [hK]; exact if_neg m
  have inL : ∀ a, a ∈ L ↔ ∃ i ∈ is, a ∈ φ i := fun a => by rw [hL, List.mem_flatMap]
  have ow' : ∀ i, ∀ a ∈ φ i, G a = none ∧ K a = none ∧ ∃ o, H a = some o ∧ H' a = some o ∧ ¬ IsTup' o := fun i a m => by
    obtain ⟨h1, h2, o, h3, h4⟩ := S.ow i a m
    exact ⟨x2.notF h1 h3 h4, h2, o, h3, x.hh.at_ _ _ h3 (nTb_of h4), h4⟩
  have smc : Sm Kc H' := ⟨fun a o e _ => by
    by_cases m : a ∈ L
    · rw [Kin a m] at e; cases e
    · rw [Kout a m] at e; exact e, fun a e => by
    by_cases m : a ∈ L
    · exact Kin a m
    · rw [Kout a m]; exact e⟩
  have smK : Sm K Kc := ⟨fun a o e n => by
    have m : a ∉ L := fun m => by
      obtain ⟨i, _, m⟩ := (inL a).mp m
      rw [(ow' i a m).2.1] at e
      cases e
    rw [Kout a m]
    exact x.hh.at_ _ _ (S.kk.at_ a o e n) n, fun a e => by
    by_cases m : a ∈ L
    · obtain ⟨i, _, m⟩ := (inL a).mp m
      exact (ow' i a m).2.1
    · rw [Kout a m] at e
      exact S.kk.free (x.hh.free e)⟩
  have lz : (fzL ds).length = ds.length := fzL_length ds
  have lr := r.length
  have SC : SE true (c.κ.pin as) Kc G G ((pinL 0 cs ++ fzL ds).map some) (fun k => match is[k]? with | some i => φ i | none => []) ((vs0 ++ vs).map some) H' := by
    refine ⟨?_, smc, ⟨Same.refl _, ⟨(S.f0.mks.up x2.ff).mt, (S.f0.mks.up x2.ff).tt⟩⟩, x2.fh, fun _ _ e => .inl e, fun k d e => ?_, fun k => ?_, fun k l hkl a m => ?_, fun k a m => ?_⟩
    · simp only [List.length_map, List.length_append, pinL_len, lz]
      omega
    · rw [List.getElem?_map] at e
      by_cases hk : k < is.length
      · have hik : is[k]? = some is[k] := List.getElem?_eq_getElem hk
        obtain ⟨a, d', h1, h2, h3, h4, h5, h6⟩ := get k is[k] hik
        rw [List.getElem?_append_left (by rw [pinL_len, lc]; exact hk), pinL_get, h1] at e
        cases e
        refine ⟨.ref a, by rw [List.getElem?_map, List.getElem?_append_left (by omega), h6]; rfl, ?_, fun _ => by rw [noT]; exact h5⟩
        rw [hik]
        refine .pin (by rw [Nat.zero_add]; exact asAt k a h6) ?_
        exact Rep.repin (κ := c.κ) (κ' := c.κ.pin as) rfl _ _ _ _ _ h4 ((rep_mono sg (Sm.refl _)).1 _ _ _ (h3.ext x))
      · rw [List.getElem?_append_right (by rw [pinL_len, lc]; omega), pinL_len, lc] at e
        cases q : (fzL ds)[k - is.length]? with
        | none => rw [q] at e; cases e
        | some z =>
          rw [q] at e
          cases e
          obtain ⟨v, fq, g1, g2, g3, _⟩ := rz.get (k - is.length) d q
          cases nil_of_sub g3
          have pz : noP d = true ∧ noT d = true := by
            have key : ∀ (l : List D) (j : Nat), noPL l = true → noTL l = true → l[j]? = some d → noP d = true ∧ noT d = true := by
              intro l
              induction l with
              | nil => intro j _ _ h; simp at h
              | cons w l ih =>
                intro j h1 h2 h3
                rw [noPL, Bool.and_eq_true] at h1
                rw [noTL, Bool.and_eq_true] at h2
                cases j with
                | zero => simp at h3; subst h3; exact ⟨h1.1, h2.1⟩
                | succ j => exact ih j h1.2 h2.2 (by simpa using h3)
            exact key _ _ (noPL_fz ds) (noTL_fz ds ht) q
          refine ⟨v, by rw [List.getElem?_map, List.getElem?_append_right (by omega), h0, g1]; rfl, ?_, fun _ => pz.2⟩
          rw [List.getElem?_eq_none (by omega)]
          exact Rep.repin (κ := c.κ) (κ' := c.κ.pin as) rfl _ _ _ _ _ pz.1 g2
    · try dsimp only
      split
      · exact S.nd _
      · exact .nil
    · try dsimp only at m ⊢
      split at m
      · rename_i i hi
        split
        · rename_i i' hi'
          refine S.dj i i' (fun z => ?_) a m
          subst z
          have := posOf_at nd hi
          rw [posOf_at nd hi'] at this
          exact hkl (Option.some.inj this).symm
        · simp
      · cases m
    · try dsimp only at m
      split at m
      · rename_i i hi
        obtain ⟨h1, h2, o, h3, h4, h5⟩ := ow' i a m
        exact ⟨h1, Kin a ((inL a).mpr ⟨i, List.mem_of_getElem? hi, m⟩), o, h4, h5⟩
      · cases m
  refine ⟨Kc, G, pinL 0 cs ++ fzL ds, as, _, ⟨by rw [List.length_append]; omega, by rw [List.length_append, pinL_len, lz]; omega, la⟩, SC, ?_⟩
  cases z : Φ (pinL 0 cs ++ fzL ds) with
  | stuck => rw [z] at p; exact p.elim
  | exc y =>
    rw [z] at p
    exact fun cl dd H2 s q => p cl dd H2 (smK.trans s) (c.mono smK q)
  | ok res =>
    rw [z] at p
    simp only [Res.bind] at p
    intro v H2 F2 fq R
    obtain ⟨d, es, rfl⟩ : ∃ d es, res = .pack d es := by
      cases res with
      | pack d es => exact ⟨d, es, rfl⟩
      | _ => exact p.elim
    by_cases hchk : (noP d && noPL es) = true ∧ es.length = cs.length
    case neg => simp only [if_neg hchk] at p; exact p.elim
    simp only [if_pos hchk] at p
    obtain ⟨hp, hle⟩ := hchk
    rw [Bool.and_eq_true] at hp
    have hRk := R.kk
    have hRgr := R.gr
    have hRow := R.ow
    have hRnd := R.nd
    have hRfh := R.fh
    have hRf0 := R.f0
    have hrep := R.rep
    have hnt := R.nt
    rw [noT, Bool.and_eq_true] at hnt
    cases hrep with
    | @pack _ _ _ fd fc hne h1 h2 =>
    obtain ⟨fs, lf, ef, gf⟩ := repL_split h2
    have ndc : fc.Nodup := (List.nodup_append.mp hRnd).2.1
    rw [ef] at ndc
    obtain ⟨n1, n2⟩ := flat_nd ndc
    have r1 : Rep c.κ F2 H2 d v fd := Rep.repin (κ := c.κ.pin as) (κ' := c.κ) rfl _ _ _ _ _ hp.1 h1
    have sF : Same F F2 := (x2.ff.same).trans hRf0.same
    have inFc : ∀ (k : Nat) (a : Addr), a ∈ fs.getD k [] → a ∈ fd ++ fc := fun k a m => List.mem_append_right _ (by rw [ef]; exact mem_flat m)
    -- what is not handed stays
    have stay : ∀ i, i ∉ is → ∀ a ∈ φ i, H2 a = H a ∧ a ∉ L := fun i hi a m => by
      obtain ⟨_, _, o, g1, g2, g3⟩ := ow' i a m
      have nl : a ∉ L := fun ml => by
        obtain ⟨i', hi', m'⟩ := (inL a).mp ml
        exact S.dj i i' (fun z => hi (z ▸ hi')) a m m'
      refine ⟨?_, nl⟩
      rw [g1]
      exact hRk.at_ a o (by rw [Kout a nl]; exact g2) (nTb_of g3)
    have freshK : ∀ a, a ∈ fd ++ fc → K a = none ∧ ∀ i, i ∉ is → a ∉ φ i := fun a m => by
      have kc := (hRow a m).2
      refine ⟨smK.free kc, fun i hi m2 => ?_⟩
      obtain ⟨_, _, o, _, g2, _⟩ := ow' i a m2
      rw [Kout a (stay i hi a m2).2, g2] at kc
      cases kc
    refine p v H2 F2 (fun i => match posOf is i with | some k => fs.getD k [] | none => φ i) fd ⟨?_, smK.trans hRk, S.f0.trans ⟨sF, fun a ps e => x2.ff.nt a ps ?_⟩, hRfh, fun a o e => ?_, fun i z e => ?_, fun i => ?_, fun i j hij a m => ?_, fun i a m => ?_⟩ ⟨r1, (List.nodup_append.mp hRnd).1, fun a m => ?_⟩
    · rw [putCs_len]; exact S.len
    · obtain ⟨q, hq, rfl⟩ := hRf0.mks.tt a ps e
      have e2 : G q.1 = some (markT q.2) := (S.f0.mks.up x2.ff).mt q hq
      have := hRf0.same _ _ e2
      rw [e] at this
      cases this
      exact e2
    · rcases hRgr a o e with h | h | h
      · rcases x2.gr a o h with h | h | h
        · exact S.gr a o h
        · exact .inr (.inl (S.kk.free h))
        · exact .inr (.inr h)
      · exact .inr (.inl (smK.free h))
      · exact .inr (.inr h)
    · cases hpz : posOf is i with
      | none =>
        have hi := posOf_none hpz
        rw [putCs_other is es env i hi] at e
        obtain ⟨u, g1, g2, g3⟩ := S.sl i z e
        refine ⟨u, g1, ?_, g3⟩
        exact g2.stay _ _ _ _ _ sF _ _ _ (fun a m => (stay i hi a m).1) (g3 rfl)
      | some k =>
        have hik := posOf_some hpz
        obtain ⟨a, d', q1, q2, q3, q4, q5, q6⟩ := get k i hik
        have hkc : k < es.length := by rw [hle]; exact (List.getElem?_eq_some_iff.mp q1).1
        have hes : es[k]? = some es[k] := List.getElem?_eq_getElem hkc
        have hlt : i < env.length := by
          obtain ⟨d0, g1, g2⟩ := conts_get is env cs hc k i hik
          by_cases q : i < env.length
          · exact q
          · rw [List.getElem?_eq_none (by omega)] at g2; cases g2
        rw [putCs_at is es env k i es[k] nd hik hes hlt] at e
        have rk := gf k es[k] (.ref a) hes (by show (as.map V.ref)[k]? = _; rw [List.getElem?_map, asAt k a q6]; rfl)
        have pk : noP es[k] = true ∧ noT es[k] = true := by
          have key : ∀ (l : List D) (j : Nat) (hj : j < l.length), noPL l = true → noTL l = true → noP l[j] = true ∧ noT l[j] = true := by
            intro l
            induction l with
            | nil => intro j hj; simp at hj
            | cons w l ih =>
              intro j hj h1 h2
              rw [noPL, Bool.and_eq_true] at h1
              rw [noTL, Bool.and_eq_true] at h2
              cases j with
              | zero => exact ⟨h1.1, h2.1⟩
              | succ j => exact ih j (by simpa using hj) h1.2 h2.2
          exact key es k hkc hp.2 hnt.2
        have rk2 : Rep c.κ F2 H2 es[k] (.ref a) (fs.getD k []) := Rep.repin (κ := c.κ.pin as) (κ' := c.κ) rfl _ _ _ _ _ pk.1 rk
        refine ⟨.ref a, q2, ?_, fun _ => ?_⟩
        · cases e
          obtain ⟨d0, g1, g2⟩ := conts_get is env cs hc k i hik
          unfold wrapC
          split
          · rename_i j c0 ej
            obtain ⟨u, s1, s2, _⟩ := S.sl i _ ej
            rw [q2] at s1
            cases s1
            generalize φ i = fpi at s2
            cases s2 with
            | pin hpj _ => exact .pin hpj rk2
          · exact rk2
        · cases e
          unfold wrapC
          split
          · rw [noT]; exact pk.2
          · exact pk.2
    · try dsimp only
      split
      · exact n1 _
      · exact S.nd i
    · try dsimp only at m ⊢
      split at m
      · rename_i k hk
        split
        · rename_i l hl
          refine n2 k l (fun z => hij ?_) a m
          subst z
          exact Option.some.inj ((posOf_some hk).symm.trans (posOf_some hl))
        · rename_i hj
          exact (freshK a (inFc k a m)).2 j (posOf_none hj)
      · rename_i hi
        split
        · rename_i l hl
          exact fun m2 => (freshK a (inFc l a m2)).2 i (posOf_none hi) m
        · exact S.dj i j hij a m
    · try dsimp only at m
      split at m
      · rename_i k hk
        have q := hRow a (inFc k a m)
        have hka := (freshK a (inFc k a m)).1
        have : ∃ o, H2 a = some o ∧ ¬ IsTup' o := RepL.own _ _ _ _ _ _ h2 a (by rw [ef]; exact mem_flat m)
        exact ⟨q.1, hka, this⟩
      · rename_i hi
        obtain ⟨_, g0, o, g1, g2, g3⟩ := ow' i a m
        have st := stay i (posOf_none hi) a m
        refine ⟨?_, g0, o, by rw [st.1]; exact g1, g3⟩
        cases qf : F2 a with
        | none => rfl
        | some u =>
          rcases hRgr a u qf with h | h | h
          · rw [(ow' i a m).1] at h; cases h
          · rw [Kout a st.2, g2] at h; cases h
          · exact (hRfh.notOwn qf h (by rw [st.1]; exact g1) g3).elim
    · have q := hRow a (List.mem_append_left _ m)
      refine ⟨q.1, (freshK a (List.mem_append_left _ m)).1, fun j m2 => ?_⟩
      try dsimp only at m2
      split at m2
      · rename_i k hk
        exact (List.nodup_append.mp hRnd).2.2 a m a (by rw [ef]; exact mem_flat m2) rfl
      · rename_i hj
        exact (freshK a (List.mem_append_left _ m)).2 j (posOf_none hj) m2
end
def pinOp (f : D → Res D) (x : D) : Res D := match x with
  | .pin j d => (f d).bind fun d' => .ok (.pin j d')
  | _ => .stuck
def pinsV : Nat → List D → Option (List D)
  | _, [] => some []
  | j, x :: xs => match x with
    | .pin j' c => if j' = j then (pinsV (j + 1) xs).map (c :: ·) else none
    | _ => none
def packV (xs : List D) (d : D) : Res D := match pinsV 0 xs with
  | some cs => .ok (.pack d cs)
  | none => .stuck
def callO1 (Φ : List D → Res D) (x : D) (as : Res (List D)) : Res (D × D) := match contOf (some (some x)) with
  | some c => as.bind fun ds => (callIO Φ [c] ds).bind fun r => match r.2 with
    | [c'] => .ok (r.1, wrapC (some (some x)) c')
    | _ => .stuck
  | none => .stuck
def chk1 {α : Type} (t : D × α) : Res (D × α) := if noT t.1 = true then .ok t else .stuck
def raise0 {β : Type} (x : Str) : Res β := .exc ⟨x, [], []⟩
theorem callIO_len {Φ : List D → Res D} {cs ds es : List D} {d : D} (h : callIO Φ cs ds = .ok (d, es)) : es.length = cs.length := by
  unfold callIO at h
  split at h
  · cases z : Φ (pinL 0 cs ++ fzL ds) with
    | ok r =>
      rw [z] at h
      simp only [Res.bind] at h
      split at h
      · split at h
        · rename_i q; cases h; exact q.2
        · cases h
      · cases h
    | exc y => rw [z] at h; cases h
    | stuck => rw [z] at h; cases h
  · cases h
section
variable {env : Env} {x : D} {i j : Nat} {Φ : List D → Res D} {fs : Env → Res (List D)} {as : Res (List D)}
theorem x_io1 (hx : env[i]? = some (some x)) (h1 : fs env = as) : eIO [i] Φ fs env = (callO1 Φ x as).bind fun t => .ok (t.1, env.set i (some t.2)) := by
  unfold eIO callO1 contsOf contsOf
  rw [hx, h1]
  cases contOf (some (some x)) with
  | none => rfl
  | some c =>
    dsimp only
    cases as with
    | ok ds =>
      simp only [rb_ok]
      cases z : callIO Φ [c] ds with
      | ok r =>
        obtain ⟨d, es⟩ := r
        have hl := callIO_len z
        match es, hl with
        | [c'], _ =>
          simp only [rb_ok]
          unfold putCs putCs
          rw [hx]
      | exc y => rfl
      | stuck => rfl
    | exc y => rfl
    | stuck => rfl
end
section
variable {β : Type} {R : SR → Res β → Prop} {q : D → Res β} {env : Env} {u w : Env → SR} {f : Env → Res (D × Env)} {fx gx : Res D} {f0 : Env → Res D} {i k : Nat} {x y : D} {c : Res (D × D)} {e' : D → Env}
theorem r_setS (hR : Rl R q) (hf : f env = c.bind fun t => .ok (t.1, e' t.2)) {en : D × D → Env} (he : ∀ t, (e' t.2).set k (some t.1) = en t) {m : D × D → Res β} (hk : ∀ t, R (w (en t)) (m t)) : R (sSeq (sSetS k f) w env) ((c.bind chk1).bind m) := by
  refine r_seq (e' := en) hR ?_ hk
  unfold sSetS
  rw [hf]
  cases c with
  | ok t =>
    simp only [rb_ok]
    unfold store chk1
    split
    · rw [he]; rfl
    · rfl
  | exc y => rfl
  | stuck => rfl
theorem r_pin (hR : Rl R q) {g : Env → SR} {h : D → Res D} {en : D → Env} (hx : env[i]? = some (some x)) (hg : ∀ d, g (env.set i (some d)) = (h d).bind fun d' => .ok (.nx, env.set i (some d'))) (he : ∀ d, env.set i (some d) = en d) {m : D → Res β} (hk : ∀ d, R (w (en d)) (m d)) :
    R (sSeq (sPin i g) w env) ((pinOp h x).bind m) := by
  refine r_seq (e' := en) hR ?_ hk
  have hlt : i < env.length := (List.getElem?_eq_some_iff.mp hx).1
  unfold sPin pinOp
  rw [hx]
  cases x with
  | pin j d =>
    dsimp only
    rw [hg]
    cases h d with
    | ok d' =>
      simp only [rb_ok]
      rw [List.getElem?_set_self hlt]
      dsimp only
      rw [List.set_set, he]
    | exc y => rfl
    | stuck => rfl
  | _ => rfl
theorem r_packR (hR : Rl R q) {is : List Nat} {xs : List D} (hp : ∀ j, pinsOf is j env = pinsV j xs) (hf : f0 env = fx) : R (sSeq (sRetIO is f0) w env) (((fx.bind chk).bind (packV xs)).bind q) := by
  unfold sSeq sRetIO packOf packV
  rw [hf, hp]
  cases fx with
  | ok d =>
    simp only [rb_ok, chk_e]
    split
    · simp only [rb_ok]
      cases pinsV 0 xs with
      | none => exact hR.st _
      | some cs => exact hR.rt _ _
    · exact hR.st _
  | exc y => exact hR.ex _
  | stuck => exact hR.st _
theorem r_packE (hR : Rl R q) {is : List Nat} {xs : List D} (hp : ∀ j, pinsOf is j env = pinsV j xs) : R (sSeq (sEndIO is) w env) ((packV xs .non).bind q) := by
  unfold sSeq sEndIO packOf packV
  rw [hp]
  cases pinsV 0 xs with
  | none => exact hR.st _
  | some cs => exact hR.rt _ _
theorem pins1 (h : env[i]? = some (some x)) : ∀ j, pinsOf [i] j env = pinsV j [x] := fun j => by
  unfold pinsOf pinsV
  rw [h]
  cases x <;> rfl
theorem r_raise0 (hR : Rl R q) {x : Str} : R (sSeq (sRaise0 x) w env) (raise0 x) := hR.ex _
end
section
variable {env : Env} {w : Env → SR} {f : Env → Res (D × Env)} {fx : Res D} {f0 : Env → Res D} {i k : Nat} {x y : D} {c : Res (D × D)} {e' : D → Env}
theorem f_setS (hf : f env = c.bind fun t => .ok (t.1, e' t.2)) {en : D × D → Env} (he : ∀ t, (e' t.2).set k (some t.1) = en t) {m : D × D → Res D} (hk : ∀ t, RF (w (en t)) (m t)) : RF (sSeq (sSetS k f) w env) ((c.bind chk1).bind m) := r_setS rl_F hf he hk
theorem b_setS {σ : Type} {Γ : σ → Env} {fg : List Nat} (hf : f env = c.bind fun t => .ok (t.1, e' t.2)) {en : D × D → Env} (he : ∀ t, (e' t.2).set k (some t.1) = en t) {m : D × D → Res (Fo σ)} (hk : ∀ t, RB Γ fg (w (en t)) (m t)) : RB Γ fg (sSeq (sSetS k f) w env) ((c.bind chk1).bind m) := r_setS rl_B hf he hk
theorem f_pin {g : Env → SR} {h : D → Res D} {en : D → Env} (hx : env[i]? = some (some x)) (hg : ∀ d, g (env.set i (some d)) = (h d).bind fun d' => .ok (.nx, env.set i (some d'))) (he : ∀ d, env.set i (some d) = en d) {m : D → Res D} (hk : ∀ d, RF (w (en d)) (m d)) : RF (sSeq (sPin i g) w env) ((pinOp h x).bind m) := r_pin rl_F hx hg he hk
theorem b_pin {σ : Type} {Γ : σ → Env} {fg : List Nat} {g : Env → SR} {h : D → Res D} {en : D → Env} (hx : env[i]? = some (some x)) (hg : ∀ d, g (env.set i (some d)) = (h d).bind fun d' => .ok (.nx, env.set i (some d'))) (he : ∀ d, env.set i (some d) = en d) {m : D → Res (Fo σ)} (hk : ∀ d, RB Γ fg (w (en d)) (m d)) : RB Γ fg (sSeq (sPin i g) w env) ((pinOp h x).bind m) := r_pin rl_B hx hg he hk
theorem f_packR {is : List Nat} {xs : List D} (hp : ∀ j, pinsOf is j env = pinsV j xs) (hf : f0 env = fx) : RF (sSeq (sRetIO is f0) w env) (((fx.bind chk).bind (packV xs)).bind okR) := r_packR rl_F hp hf
theorem f_packE {is : List Nat} {xs : List D} (hp : ∀ j, pinsOf is j env = pinsV j xs) : RF (sSeq (sEndIO is) w env) ((packV xs .non).bind okR) := r_packE rl_F hp
theorem f_raise0 {x : Str} : RF (sSeq (sRaise0 x) w env) (raise0 x) := r_raise0 rl_F
theorem b_raise0 {σ : Type} {Γ : σ → Env} {fg : List Nat} {x : Str} : RB Γ fg (sSeq (sRaise0 x) w env) (raise0 x) := r_raise0 rl_B
end
@[simp] theorem pinOp_e {f : D → Res D} {j : Nat} {d : D} : pinOp f (.pin j d) = (f d).bind fun d' => .ok (.pin j d') := rfl
@[simp] theorem chk1_e {α : Type} {d : D} {a : α} : chk1 (d, a) = if noT d = true then .ok (d, a) else .stuck := rfl
@[simp] theorem raise0_e {β : Type} {x : Str} : (raise0 x : Res β) = .exc ⟨x, [], []⟩ := rfl
@[simp] theorem rd_pin {j : Nat} {d : D} : rd (.pin j d) = rd d := by rw [rd]
@[simp] theorem fz_pin {j : Nat} {d : D} : fz (.pin j d) = fz d := by rw [fz]
def own1 (o : Option D) : Option (List D) := match o with
  | some (.nd .own .lst es) => some es
  | _ => none
theorem own1_some {o : Option D} {es : List D} (h : own1 o = some es) : o = some (.nd .own .lst es) := by
  unfold own1 at h
  split at h
  · cases h; rfl
  · cases h
section
variable {M : PySem.W.Frag} {κ : Kap M} {F H : Hp}
theorem DGet.tr {H : Hp} {a b : Addr} {kvs : List (List Key × V)} {k : List Key} (e : Rd H a (.dT kvs)) (eb : H b = some (.tup (k.map kV))) : DGet H a (.ref b) (valV kvs k) := .inr ⟨kvs, k, b, e, rfl, eb, rfl⟩
end
def putLT (ks : List (List Key)) (ds : List D) (k : List Key) (d : D) : D := match ixK ks k with
  | some j => .nd .own (.dit ks) (ds.set j d)
  | none => .nd .own (.dit (ks ++ [k])) (ds ++ [d])
section
variable {M : PySem.W.Frag} {κ : Kap M} {F H : Hp}
theorem RepL.putT {ks : List (List Key)} {ds : List D} {vs : List V} {fp fd : List Addr} {d : D} {v : V} (k : List Key) (hn : ks.Nodup) (hl : ks.length = vs.length) (r : RepL κ F H ds vs fp) (rd : Rep κ F H d v fd) (n1 : fp.Nodup) (n2 : fd.Nodup) (dj : ∀ a ∈ fd, a ∉ fp) (nt : noTL ds = true) (nd : noT d = true) :
    ∃ ks' ds' vs' fr, putLT ks ds k d = .nd .own (.dit ks') ds' ∧ IsHO κ (.dit ks') vs' (.dT (putK (ks.zip vs) k v)) ∧ RepL κ F H ds' vs' fr ∧ fr.Nodup ∧ (∀ a ∈ fr, a ∈ fp ∨ a ∈ fd) ∧ noTL ds' = true := by
  unfold putLT
  cases hj : ixK ks k with
  | some j =>
    have lt : j < ds.length := by
      have := (ixK_some hj).2
      have := r.length
      omega
    obtain ⟨fr, h1, h2, h3⟩ := RepL.set j lt r rd n1 n2 dj
    exact ⟨ks, _, _, fr, rfl, ⟨⟨hn, by rw [List.length_set]; exact hl⟩, congrArg HO.dT (putK_some hn hl hj)⟩, h1, h2, h3, noTL_set _ _ _ nt nd⟩
  | none =>
    refine ⟨ks ++ [k], _, vs ++ [v], fp ++ fd, rfl, ⟨⟨nodup_snoc hn hj, by simp [hl]⟩, congrArg HO.dT (putK_none hl hj)⟩, ?_, List.nodup_append.mpr ⟨n1, n2, fun a m b m2 e => dj b m2 (e ▸ m)⟩, fun a m => List.mem_append.mp m, by rw [noTL_append, nt, noTL_cons, nd]; rfl⟩
    have := r.append (RepL.cons rd .nil)
    simpa using this
end
section
variable {X : Cx} {c : Cfg X.K} {E : XK} {o : Expr} {f : Env → Res D} {pos apos p : Pos}
def dSplit (b : Str) : D → Res D
  | .str a => if (b.length == 0) = false ∧ a.length + 2 ≤ 16777216 ∧ (Txt.split a b).length ≤ bigL then .ok (.lst .own ((Txt.split a b).map D.str)) else .stuck
  | _ => .stuck
theorem ev_split {b : Str} {j : Nat} {p2 : Pos} (ha : EV X c E o f) (hs : starEach [.Constant (.str b) j p2] X.env = [(false, eval (.Constant (.str b) j p2) X.env)] := by rfl) (hbase : attributeBase o "split" X.env (eval o X.env) = eval o X.env := by rfl)
    (hline : (apos.endLine == pos.line) = true := by rfl) : EV X c E (.Call (.Attribute o "split" apos) [.Constant (.str b) j p2] [] pos) (e1 (dSplit b) f) := PE.imp (pe_split ha pe_str hs hbase hline) fun σ H Q w => glue1 w fun F H1 d v fp fh r nd fr p => by
  unfold dSplit at p
  cases d with
  | str y =>
    cases r
    by_cases h : (b.length == 0) = false ∧ y.length + 2 ≤ 16777216 ∧ (Txt.split y b).length ≤ bigL
    · dsimp only at p
      rw [if_pos h] at p
      exact ⟨⟨y, rfl⟩, y, b, rfl, rfl, h.1, by rw [sizeLine_eq]; exact h.2.1, fun q hq => p.newO fh hq rfl (strs_repL _) rfl⟩
    · dsimp only at p
      rw [if_neg h] at p
      exact p.elim
  | _ => exact p.elim
end
def insK : Kind → Option (Str × List Str)
  | .ins c ns => some (c, ns)
  | .inv c ns _ => some (c, ns)
  | _ => none
theorem insK_ho {M : PySem.W.Frag} {κ : Kap M} {k : Kind} {c : Str} {ns : List Str} {vs : List V} {o : HO} (h : insK k = some (c, ns)) (h2 : IsHO κ k vs o) : ns.length = vs.length ∧ ∃ dx, o = .ins (κ.cls c) dx (ns.zip vs) := by
  cases k with
  | ins c' ns' => cases h; exact h2
  | inv c' ns' as => cases h; exact h2.1
  | _ => cases h
structure InsT where
  k : Kind
  c : Str
  ns : List Str
  ds : List D
def insO (x : D) : Option InsT := match x with
  | .nd .own k ds => (match insK k with
    | some (c, ns) => some ⟨k, c, ns, ds⟩
    | none => none)
  | _ => none
theorem insO_some {x : D} {t : InsT} (h : insO x = some t) : x = .nd .own t.k t.ds ∧ insK t.k = some (t.c, t.ns) := by
  unfold insO at h
  split at h
  · rename_i k ds
    cases q : insK k with
    | none => rw [q] at h; cases h
    | some p =>
      rw [q] at h
      cases h
      exact ⟨rfl, q⟩
  · cases h
def ownI (env : Env) (i : Nat) : Option InsT := match env[i]? with
  | some (some x) => insO x
  | _ => none
theorem ownI_get {env : Env} {i : Nat} {t : InsT} (h : ownI env i = some t) : env[i]? = some (some (.nd .own t.k t.ds)) ∧ insK t.k = some (t.c, t.ns) := by
  unfold ownI at h
  split at h
  · rename_i x e
    obtain ⟨h1, h2⟩ := insO_some h
    rw [e, h1]
    exact ⟨rfl, h2⟩
  · cases h
theorem ownI_of {env : Env} {i : Nat} {x : D} (hx : env[i]? = some (some x)) : ownI env i = insO x := by unfold ownI; rw [hx]
def fldL (cs : List Str) (f : Str) (t : InsT) : Option (Nat × List D) := if cs.contains t.c = true then (match ixK t.ns f with
  | some j => (match own1 t.ds[j]? with
    | some es => some (j, es)
    | none => none)
  | none => none) else none
theorem fldL_some {cs : List Str} {f : Str} {t : InsT} {es : List D} {j : Nat} (h : fldL cs f t = some (j, es)) : cs.contains t.c = true ∧ ixK t.ns f = some j ∧ t.ds[j]? = some (.nd .own .lst es) := by
  unfold fldL at h
  split at h
  · rename_i h0
    cases h1 : ixK t.ns f with
    | none => rw [h1] at h; cases h
    | some j1 =>
      rw [h1] at h
      dsimp only at h
      cases h2 : own1 t.ds[j1]? with
      | none => rw [h2] at h; cases h
      | some es1 =>
        rw [h2] at h
        cases h
        exact ⟨h0, rfl, own1_some h2⟩
  · cases h
theorem zip_look {f : Str} : ∀ {ns : List Str} {vs : List V} {j : Nat} {v : V}, ixK ns f = some j → vs[j]? = some v → (ns.zip vs).lookup f = some v
  | [], _, _, _, h, _ => by cases h
  | n :: ns, [], _, _, _, h => by simp at h
  | n :: ns, u :: vs, j, v, h, h2 => by
    unfold ixK at h
    rw [List.zip_cons_cons, List.lookup_cons]
    by_cases e : n = f
    · subst e
      rw [if_pos rfl] at h
      cases h
      rw [beq_self_eq_true]
      simpa using h2
    · rw [if_neg e] at h
      have e' : (f == n) = false := by rw [beq_eq_false_iff_ne]; exact fun z => e z.symm
      rw [e']
      cases q : ixK ns f with
      | none => rw [q] at h; cases h
      | some j' =>
        rw [q] at h
        cases h
        exact zip_look q (by simpa using h2)
def setI (t : InsT) (j : Nat) (es : List D) : D := .nd .own t.k (t.ds.set j (.lst .own es))
def fapp1 (t : InsT) (je : Nat × List D) (d : D) : Res D := if noT d = true ∧ je.2.length < bigL then .ok (setI t je.1 (je.2 ++ [d])) else .stuck
def sFApp (i : Nat) (cs : List Str) (fn : Str) (f : Env → Res D) : Env → SR := fun env => match ownI env i with
  | some t => (match fldL cs fn t with
    | some je => (f env).bind fun d => (fapp1 t je d).bind fun y => .ok (.nx, env.set i (some y))
    | none => .stuck)
  | none => .stuck
theorem noTL_get {es : List D} : ∀ (l : List D) (i : Nat), noTL l = true → l[i]? = some (.nd .own .lst es) → noTL es = true
  | [], i, _, h => by simp at h
  | u :: l, i, t1, t2 => by
    rw [noTL_cons, Bool.and_eq_true] at t1
    cases i with
    | zero =>
      rw [List.getElem?_cons_zero] at t2
      have e := Option.some.inj t2
      rw [e] at t1
      have := t1.1
      rw [noT_own] at this
      exact this
    | succ i => exact noTL_get l i t1.2 (by simpa using t2)
section
variable {X : Cx} {c : Cfg X.K} {E : XK} {e : Expr} {f : Env → Res D} {fn : Str} {pos apos p fp0 : Pos}
theorem esk_fapp (i : Nat) (cs : List Str) (kc : ClsOk c.κ cs fn) {x : Str} {q : Pos} (ha : EV X c E e f) (hN : X.N[i]? = some x := by rfl) (hv : Vis X.env.scope x := by first | exact Or.inl rfl | exact Or.inr (Or.inl rfl) | exact Or.inr (Or.inr rfl)) (hd : (x == ("__debug__" : Str)) = false := by decide)
    (hcd : (x == ("__classdict__" : Str)) = false := by decide)
    (hb0 : attributeBase (.Name x q) fn X.env (eval (.Name x q) X.env) = eval (.Name x q) X.env := by rfl)
    (hbase : attributeBase (.Attribute (.Name x q) fn fp0) "append" X.env (eval (.Attribute (.Name x q) fn fp0) X.env) = eval (.Attribute (.Name x q) fn fp0) X.env := by rfl)
    (hfew : ((backTo p (starEach [e] X.env)).all (fun x => !x.1) && (backToKw p (keywordEach [] X.env)).all (fun x => x.1.isSome)
      && decide ([e].length + ([] : List Keyword).length + (if ([] : List Keyword).isEmpty then 0 else 1) < 30)) = true := by rfl)
    (hline : (apos.endLine == p.line) = true := by rfl) (hs1 : starEach [e] X.env = (false, eval e X.env) :: starEach [] X.env := by rfl) (hplain : (backTo p (starEach [] X.env)).any (·.1) = false := by rfl)
    (hs : swapsWith (.Call (.Attribute (.Attribute (.Name x q) fn fp0) "append" apos) [e] [] p) none pos.line X.env = pure false := by rfl) :
    ESk X c E (.Expr (.Call (.Attribute (.Attribute (.Name x q) fn fp0) "append" apos) [e] [] p) pos) (sFApp i cs fn f) :=
  PS.imp (ps_expr (pe_bm PySem.F.plainAttrs_list PySem.F.slot_list_append PySem.F.type_list_append mt_append (pe_fld (pe_var (i := i) hN hv hd hcd) hb0) (pa_cons ha pa_nil hs1) hbase hfew hline hs1 hplain) hs) fun Dn σ H q => by
    obtain ⟨K, F0, F, env, φ, S, p⟩ := q
    unfold sFApp at p
    cases hs0 : ownI env i with
    | none => rw [hs0] at p; exact p.elim
    | some t =>
      obtain ⟨hslot, hk⟩ := ownI_get hs0
      obtain ⟨kd, cn, ns, ds⟩ := t
      rw [hs0] at p
      dsimp only at p hk hslot
      cases hf0 : fldL cs fn ⟨kd, cn, ns, ds⟩ with
      | none => rw [hf0] at p; exact p.elim
      | some je =>
        obtain ⟨j, es⟩ := je
        rw [hf0] at p
        dsimp only at p
        obtain ⟨hc1, hj, hd0⟩ := fldL_some hf0
        dsimp only at hc1 hj hd0
        obtain ⟨v, h1, h2, h3⟩ := S.sl i _ hslot
        have h3' := h3 rfl
        rw [noT_own] at h3'
        have n1 := S.nd i
        generalize hφ : φ i = fpi at h2 n1
        cases h2 with
        | ndO ha' hso hl =>
          rename_i a vs fq o
          have hso' := hso
          obtain ⟨hlen, dx, rfl⟩ := insK_ho hk hso
          rw [List.nodup_cons] at n1
          obtain ⟨y, ws, w1, w2, w3, w4, _⟩ := RepL.appAt j hl n1.2 h3' hd0
          refine ⟨.ref a, h1, a, _, dx, _, .ref y, rfl, ha', (kc.all cn hc1).1, (kc.all cn hc1).2, zip_look hj w1, .inl ⟨rfl, ws, .inl (.inl w2)⟩, true, K, F0, F, env, φ, S, ?_⟩
          cases z2 : f env with
          | ok d =>
            simp only [z2, Res.bind] at p
            intro v H2 F2 fp x2 r nd fr
            unfold fapp1 at p
            dsimp only at p
            by_cases hc : noT d = true ∧ es.length < bigL
            · rw [if_pos hc] at p
              have S2 := S.ext x2
              have hl2 := hl.ext x2
              obtain ⟨y2, ws2, u1, u2, u3, u4, u5⟩ := RepL.appAt j hl2 n1.2 h3' hd0
              have ey : y2 = y := by
                rw [w1] at u1
                injection u1 with u1
                injection u1 with u1
                exact u1.symm
              subst ey
              have dis : ∀ b ∈ fp, b ∉ fq := fun b m m2 => (S.apart (fr b m).1).2 i (by rw [hφ]; exact List.mem_cons_of_mem _ m2)
              obtain ⟨fr', k1, k2, k3⟩ := u5 d v fp r nd dis hc.1
              have yne : a ≠ y2 := fun q => n1.1 (q ▸ u4)
              have ha2 := x2.hh _ _ ha'
              refine ⟨y2, ws2, v, rfl, rfl, u2, ?_, ?_⟩
              · have := sizeLine_eq
                have hb := hc.2
                unfold bigL at hb
                omega
              · have afr : a ∉ fr' := fun m => by
                  rcases k3 a m with w | w
                  · exact n1.1 w
                  · exact (S.apart (fr a w).1).2 i (by rw [hφ]; exact List.mem_cons_self)
                refine p _ F2 _ (S2.write (i := i) (a := y2) (by rw [hφ]; exact List.mem_cons_of_mem _ u4) h1 (.ndO (by rw [upd_ne yne]; exact ha2) hso' k1) (List.nodup_cons.mpr ⟨afr, k2⟩) (fun b m => ?_) ?_)
                · rcases List.mem_cons.mp m with rfl | m
                  · exact .inl (by rw [hφ]; exact List.mem_cons_self)
                  · rcases k3 b m with w | w
                    · exact .inl (by rw [hφ]; exact List.mem_cons_of_mem _ w)
                    · exact .inr ⟨(fr b w).2, (S.apart (fr b w).1).1, (S.apart (fr b w).1).2⟩
                · unfold setI
                  rw [noT_own]
                  exact noTL_set ds j _ h3' (by rw [noT_own, noTL_append, noTL_get ds j h3' hd0, noTL_cons, hc.1]; rfl)
            · rw [if_neg hc] at p
              exact p.elim
          | exc y => simp only [z2, Res.bind] at p; exact fun cl dd H' s w => p cl dd H' (S.kk.trans s) (c.mono S.kk w)
          | stuck => simp only [z2, Res.bind] at p; exact p
end
theorem put_at {f : Str} {v : V} : ∀ {ns : List Str} {vs : List V} {j : Nat}, ixK ns f = some j → ns.length = vs.length → putF f v (ns.zip vs) = ns.zip (vs.set j v)
  | [], _, _, h, _ => by cases h
  | n :: ns, [], _, _, h => by simp at h
  | n :: ns, u :: vs, j, h, hl => by
    unfold ixK at h
    rw [List.zip_cons_cons, putF]
    by_cases e : n = f
    · subst e
      rw [if_pos rfl] at h
      cases h
      rw [if_pos rfl]
      rfl
    · rw [if_neg e] at h
      rw [if_neg e]
      cases q : ixK ns f with
      | none => rw [q] at h; cases h
      | some j' =>
        rw [q] at h
        cases h
        rw [put_at q (by simpa using hl)]
        rfl
theorem put_none {f : Str} {v : V} {ns : List Str} {vs : List V} (h : ixK ns f = none) (hl : ns.length = vs.length) : putF f v (ns.zip vs) = (ns ++ [f]).zip (vs ++ [v]) := by
  rw [put_new f v _ (fun p hp e => by
    obtain ⟨a, b⟩ := p
    have := (List.of_mem_zip hp).1
    subst e
    exact ixK_none.mp h this), List.zip_append hl]
  rfl
def fput1 (cs : List Str) (fn : Str) (t : InsT) (d : D) : Res D := if cs.contains t.c = true ∧ noT d = true ∧ t.ns.length < 900 then (match ixK t.ns fn with
  | some j => .ok (.nd .own (.ins t.c t.ns) (t.ds.set j d))
  | none => .ok (.nd .own (.ins t.c (t.ns ++ [fn])) (t.ds ++ [d]))) else .stuck
def sFPut (i : Nat) (cs : List Str) (fn : Str) (f : Env → Res D) : Env → SR := fun env => match ownI env i with
  | some t => (f env).bind fun d => (fput1 cs fn t d).bind fun y => .ok (.nx, env.set i (some y))
  | none => .stuck
section
variable {X : Cx} {c : Cfg X.K} {E : XK} {e : Expr} {f : Env → Res D} {fn : Str} {pos pos' : Pos}
theorem esk_fput (i : Nat) (cs : List Str) (kc : ClsOk c.κ cs fn) {x : Str} {q : Pos} (ha : EV X c E e f) (hN : X.N[i]? = some x := by rfl) (hv : Vis X.env.scope x := by first | exact Or.inl rfl | exact Or.inr (Or.inl rfl) | exact Or.inr (Or.inr rfl)) (hd : (x == ("__debug__" : Str)) = false := by decide)
    (hcd : (x == ("__classdict__" : Str)) = false := by decide) (hs : swapsWith e (some (.Attribute (.Name x q) fn pos')) pos.line X.env = pure false := by rfl) :
    ESk X c E (.Assign [.Attribute (.Name x q) fn pos'] e pos) (sFPut i cs fn f) :=
  PS.imp (ps_fld (pe_var (i := i) hN hv hd hcd) ha hs) fun Dn σ H q => by
    obtain ⟨K, F0, F, env, φ, S, p⟩ := q
    unfold sFPut at p
    cases hs0 : ownI env i with
    | none => rw [hs0] at p; exact p.elim
    | some t =>
      obtain ⟨hslot, hk⟩ := ownI_get hs0
      obtain ⟨kd, cn, ns, ds⟩ := t
      rw [hs0] at p
      dsimp only at p hk hslot
      obtain ⟨v0, h1, h2, h3⟩ := S.sl i _ hslot
      have h3' := h3 rfl
      rw [noT_own] at h3'
      have n1 := S.nd i
      generalize hφ : φ i = fpi at h2 n1
      cases h2 with
      | ndO ha' hso hl =>
        rename_i a vs fq o
        obtain ⟨hlen, dx, rfl⟩ := insK_ho hk hso
        rw [List.nodup_cons] at n1
        refine ⟨true, K, F0, F, env, φ, S, ?_⟩
        cases z : f env with
        | ok d =>
          simp only [z, Res.bind] at p
          intro v H2 F2 fp x2 r nd fr
          unfold fput1 at p
          dsimp only at p
          by_cases hc : cs.contains cn = true ∧ noT d = true ∧ ns.length < 900
          case neg => rw [if_neg hc] at p; exact p.elim
          rw [if_pos hc] at p
          have S2 := S.ext x2
          have hl2 := hl.ext x2
          have ha2 := x2.hh _ _ ha'
          refine ⟨.ref a, h1, a, _, dx, _, rfl, ha2, (kc.all cn hc.1).1, (kc.all cn hc.1).2, by
            have : (ns.zip vs).length ≤ ns.length := by rw [List.length_zip]; exact Nat.min_le_left _ _
            omega, ?_⟩
          have dis : ∀ b ∈ fp, b ∉ fq := fun b m m2 => (S.apart (fr b m).1).2 i (by rw [hφ]; exact List.mem_cons_of_mem _ m2)
          have afp : a ∉ fp := fun m => (S.apart (fr a m).1).2 i (by rw [hφ]; exact List.mem_cons_self)
          have fin : ∀ (ns' : List Str) (ds' : List D) (vs' : List V) (fr' : List Addr), RepL c.κ F2 H2 ds' vs' fr' → fr'.Nodup → (∀ b ∈ fr', b ∈ fq ∨ b ∈ fp) → noTL ds' = true → ns'.length = vs'.length → putF fn v (ns.zip vs) = ns'.zip vs' →
              SE true c.κ K F0 F2 (env.set i (some (.nd .own (.ins cn ns') ds'))) (put φ i (a :: fr')) σ (upd H2 a (.ins (c.κ.cls cn) dx (putF fn v (ns.zip vs)))) := by
            intro ns' ds' vs' fr' k1 k2 k3 k4 k5 k6
            have afr : a ∉ fr' := fun m => by
              rcases k3 a m with w | w
              · exact n1.1 w
              · exact afp w
            have k1' := k1.stay _ _ _ F2 (upd H2 a (.ins (c.κ.cls cn) dx (putF fn v (ns.zip vs)))) (Same.refl _) _ _ _ (fun b m => upd_ne fun z => afr (z ▸ m)) k4
            refine S2.write (i := i) (a := a) (by rw [hφ]; exact List.mem_cons_self) h1 (.ndO upd_same ⟨k5, dx, by rw [k6]⟩ k1') (List.nodup_cons.mpr ⟨afr, k2⟩) (fun b m => ?_) (by rw [noT_own]; exact k4)
            rcases List.mem_cons.mp m with rfl | m
            · exact .inl (by rw [hφ]; exact List.mem_cons_self)
            · rcases k3 b m with w | w
              · exact .inl (by rw [hφ]; exact List.mem_cons_of_mem _ w)
              · exact .inr ⟨(fr b w).2, (S.apart (fr b w).1).1, (S.apart (fr b w).1).2⟩
          cases hj : ixK ns fn with
          | some j =>
            rw [hj] at p
            dsimp only at p
            have jl : j < ds.length := by
              have := (ixK_some hj).2
              have := hl.length
              omega
            obtain ⟨fr', k1, k2, k3⟩ := RepL.set j jl hl2 r n1.2 nd dis
            exact p _ F2 _ (fin ns _ _ fr' k1 k2 k3 (noTL_set ds j _ h3' hc.2.1) (by rw [List.length_set]; exact hlen) (put_at hj hlen))
          | none =>
            rw [hj] at p
            dsimp only at p
            have k1 := hl2.append (RepL.cons r .nil)
            rw [List.append_nil] at k1
            refine p _ F2 _ (fin (ns ++ [fn]) _ _ (fq ++ fp) k1 (List.nodup_append.mpr ⟨n1.2, nd, fun b m b2 m2 z => dis b2 m2 (z ▸ m)⟩) (fun b m => List.mem_append.mp m) (by rw [noTL_append, h3', noTL_cons, hc.2.1]; rfl) (by rw [List.length_append, List.length_append, hlen]; rfl) (put_none hj hlen))
        | exc y => simp only [z, Res.bind] at p; exact fun cl dd H' s w => p cl dd H' (S.kk.trans s) (c.mono S.kk w)
        | stuck => simp only [z, Res.bind] at p; exact p
end
def recvOk (C m : Str) (o : Option (Option D)) : Bool := match contOf o with
  | some x => (match insO x with
    | some t => decide (t.c = C) && (ixK t.ns m).isNone
    | none => false)
  | none => false
theorem recvOk_some {C m : Str} {o : Option (Option D)} (h : recvOk C m o = true) : ∃ k ns ds, contOf o = some (.nd .own k ds) ∧ insK k = some (C, ns) ∧ ixK ns m = none := by
  unfold recvOk at h
  cases q : contOf o with
  | none => rw [q] at h; cases h
  | some x =>
    rw [q] at h
    dsimp only at h
    cases q2 : insO x with
    | none => rw [q2] at h; cases h
    | some t =>
      rw [q2] at h
      dsimp only at h
      rw [Bool.and_eq_true, decide_eq_true_eq] at h
      obtain ⟨h1, h2⟩ := h
      obtain ⟨h3, h4⟩ := insO_some q2
      exact ⟨t.k, t.ns, t.ds, by rw [h3], by rw [h4, h1], Option.isNone_iff_eq_none.mp h2⟩
theorem zip_none {f : Str} : ∀ {ns : List Str} {vs : List V}, ixK ns f = none → (ns.zip vs).lookup f = none
  | [], _, _ => by simp
  | n :: ns, [], _ => by simp
  | n :: ns, u :: vs, h => by
    unfold ixK at h
    rw [List.zip_cons_cons, List.lookup_cons]
    by_cases e : n = f
    · rw [if_pos e] at h; cases h
    · rw [if_neg e] at h
      have e' : (f == n) = false := by rw [beq_eq_false_iff_ne]; exact fun z => e z.symm
      rw [e']
      cases q : ixK ns f with
      | none => exact zip_none q
      | some j' => rw [q] at h; cases h
def eIOM (C m : Str) (i : Nat) (Φ : List D → Res D) (fs : Env → Res (List D)) : Env → Res (D × Env) := fun env => if recvOk C m env[i]? = true then eIO [i] Φ fs env else .stuck
structure CalM (P : Program) (w : World) (K : PySem.W.Frag) (mg : Str → Option Value) (base : Heap) (c : Cfg K) (C m : Str) (k n : Nat) (Φ : List D → Res D) : Prop where
  ex : ∃ (f : Addr) (fd : FuncData) (ps : List Str), Cls K (c.κ.cls C) ∧ Meth K (c.κ.cls C) m f ∧ FnOk P w K mg base (L2.CX P w) k f fd ps (SpIO c n 1 (lenIs n Φ)) ∧ Binds K fd ps []
section
variable {X : Cx} {c : Cfg X.K} {E : XK} {e : Expr} {es : List Expr} {pos apos p : Pos} {fs : Env → Res (List D)} {k n : Nat} {Φ : List D → Res D} {C m : Str}
theorem ev_ioM {pl : Sem Bool} (M : CalM X.prog X.w X.K X.mg X.base c C m k n Φ) (hr : Room k X.A) (hx : Passes (L2.CX X.prog X.w) X E) (i : Nat) {y : Str} {q : Pos} (ha : EL X c E (e :: es) fs)
    (hN : X.N[i]? = some y := by rfl) (hv : Vis X.env.scope y := by first | exact Or.inl rfl | exact Or.inr (Or.inl rfl) | exact Or.inr (Or.inr rfl)) (hd : (y == ("__debug__" : Str)) = false := by decide) (hcd : (y == ("__classdict__" : Str)) = false := by decide)
    (hst : starEach (e :: es) X.env = (false, eval e X.env) :: starEach es X.env := by rfl) (hpl : (backTo pos (starEach es X.env)).any (·.1) = false := by rfl)
    (ht : eval (.Call (.Attribute (.Name y q) m apos) (e :: es) [] pos) X.env = (do
      let ov ← eval (.Name y q) X.env
      standAt apos.atName
      let (f, first) ← holding [ov] (getMethod ov m pl)
      callWith pos f first (backTo pos (starEach (e :: es) X.env)) (backToKw pos (keywordEach [] X.env))) := by rfl) :
    EVS X c E (.Call (.Attribute (.Name y q) m apos) (e :: es) [] pos) (eIOM C m i (lenIs n Φ) fs) := by
  obtain ⟨f, fd, ps, hC, hM, F, hb⟩ := M.ex
  refine PE.imp (pe_meth (pl := pl) (pe_var (i := i) hN hv hd hcd) hC hM F hr hb .nil hx ha hst hpl ht) fun σ H Q qq => ?_
  obtain ⟨K, F0, F1, env, φ, S, p⟩ := qq
  unfold eIOM at p
  by_cases hrv : recvOk C m env[i]? = true
  case neg => rw [if_neg hrv] at p; exact p.elim
  rw [if_pos hrv] at p
  obtain ⟨kd, ns, dd, hct, hkd, hnm⟩ := recvOk_some hrv
  obtain ⟨a, h3, hrep, _⟩ := S.cont hct
  unfold eIO at p
  cases hc : contsOf [i] env with
  | none => rw [hc] at p; exact p.elim
  | some cs =>
    rw [hc] at p
    try dsimp only at p
    have hins : ∃ dx vs, H a = some (.ins (c.κ.cls C) dx (ns.zip vs)) := by
      generalize φ i = fpi at hrep
      cases hrep with
      | ndO ha' hso hl =>
        obtain ⟨_, dx, rfl⟩ := insK_ho hkd hso
        exact ⟨dx, _, ha'⟩
    obtain ⟨dx, vs0, hat⟩ := hins
    refine ⟨.ref a, h3, a, dx, _, rfl, hat, zip_none hnm, true, K, F0, F1, env, φ, S, ?_⟩
    cases z : fs env with
    | ok ds =>
      rw [z] at p
      intro vs H' F' fp xx r nd fr
      rw [List.append_nil]
      have lr := r.length
      have hl : 1 + vs.length = n ∨ callIO (lenIs n Φ) cs ds = .stuck := by
        by_cases q : 1 + vs.length = n
        · exact .inl q
        · right
          have l1 := conts_len [i] env cs hc
          unfold callIO
          split
          · unfold lenIs
            rw [if_neg (by rw [List.length_append, pinL_len, fzL_length, l1, lr]; exact q)]
            rfl
          · rfl
      rcases hl with hl | hl
      · have := io_post (is := [i]) (vs0 := [.ref a]) (n := n) (by simp) S rfl (fun k i' v e1 e2 => by
          cases k with
          | zero => simp at e1; subst e1; rw [h3] at e2; cases e2; rfl
          | succ k => simp at e1) xx r nd fr hl hc p
        simpa using this
      · simp only [Res.bind, hl] at p
        exact p.elim
    | exc y => rw [z] at p; exact fun cl dd H' s w => p cl dd H' (S.kk.trans s) (c.mono S.kk w)
    | stuck => rw [z] at p; exact p
end
theorem CalM.pin {P : Program} {w : World} {K : PySem.W.Frag} {mg : Str → Option Value} {base : Heap} {c : Cfg K} {C m : Str} {k n : Nat} {Φ : List D → Res D} (M : CalM P w K mg base c C m k n Φ) (as : List Addr) : CalM P w K mg base (c.pin as) C m k n Φ := ⟨M.ex⟩
structure MkIO (P : Program) (w : World) (K : PySem.W.Frag) (mg : Str → Option Value) (base : Heap) (c : Cfg K) (x : Str) (k n : Nat) (Φ : List D → Res D) : Prop where
  ex : ∃ (f : Addr) (fd : FuncData) (ps : List Str), Mk K (c.κ.cls x) f ∧ FnOk P w K mg base (L2.CX P w) k f fd ps (SpIO c n 1 (lenIs n Φ)) ∧ mg x = some (.ref (c.κ.cls x)) ∧ Binds K fd ps []
def mkIOr (r : Res D) : Res D := r.bind fun r => match r with
  | .pack .non [d] => if noP d = true ∧ noT d = true then .ok d else .stuck
  | _ => .stuck
def dMakeIO (x : Str) (Φ : List D → Res D) (ds : List D) : Res D := if noTL ds = true then mkIOr (Φ (.pin 0 (.nd .own (.ins x []) []) :: fzL ds)) else .stuck
section
variable {X : Cx} {c : Cfg X.K} {E : XK} {e : Expr} {es : List Expr} {pos p : Pos} {fs : Env → Res (List D)} {k n : Nat} {Φ : List D → Res D} {x : Str}
theorem make_io {F H : Hp} {Q : VK} {ds : List D} {vs : List V} {a dx : Addr} (mk : Mks c.κ F) (fh : Sub F H) (r : RepL c.κ F H ds vs []) (nt : noTL ds = true) (np : noPL ds = true) (h1 : H a = none) (h2 : H dx = none) (hne : dx ≠ a) (p : PostV c E F H (mkIOr (lenIs n Φ (.pin 0 (.nd .own (.ins x []) []) :: ds))) Q) :
    SpIO c n 1 (lenIs n Φ) (.ref a :: vs) (upd (upd H dx (.own a)) a (.ins (c.κ.cls x) dx [])) (fun v H2 => v = .non ∧ Q (.ref a) H2) E := by
  by_cases hl : (D.pin 0 (.nd .own (.ins x []) []) :: ds).length = n
  case neg =>
    have : lenIs n Φ (.pin 0 (.nd .own (.ins x []) []) :: ds) = .stuck := if_neg hl
    rw [this] at p
    exact p.elim
  have x3 : Ext F H F (upd H dx (.own a)) := .newO fh h2
  have h1' : upd H dx (.own a) a = none := by rw [upd_ne (Ne.symm hne)]; exact h1
  have x4 : Ext F (upd H dx (.own a)) F (upd (upd H dx (.own a)) a (.ins (c.κ.cls x) dx [])) := .newO x3.fh h1'
  have x5 := x3.trans x4
  have lr := r.length
  rw [List.length_cons] at hl
  have S := se_startM (c := c.pin [a]) (Kh := H) (F0 := F) (H := upd (upd H dx (.own a)) a (.ins (c.κ.cls x) dx [])) (d0 := .pin 0 (.nd .own (.ins x []) [])) (v0 := .ref a) (fp := [a]) (ds := ds) (vs := vs) (N := List.replicate n "")
    x5.hh x5.fh ⟨mk.mt, mk.tt⟩ (.pin rfl (.ndO upd_same ⟨rfl, dx, rfl⟩ .nil)) (by simp) (fun b m => by rw [List.mem_singleton] at m; subst m; exact ⟨fh.free h1, h1⟩) (RepL.repin (κ := c.κ) (κ' := (c.pin [a]).κ) rfl _ _ _ _ _ np (r.ext x5)) rfl nt
  have e1 : ((D.pin 0 (.nd .own (.ins x []) []) :: ds).map some ++ List.replicate ((List.replicate n ("" : Str)).length - (D.pin 0 (.nd .own (.ins x []) []) :: ds).length) none : Env) = (D.pin 0 (.nd .own (.ins x []) []) :: ds).map some := by
    rw [List.length_replicate, List.length_cons, show n - (ds.length + 1) = 0 by omega, List.replicate_zero, List.append_nil]
  have e2 : L2.start (List.replicate n ("" : Str)) (.ref a :: vs) = (V.ref a :: vs).map some := by
    unfold L2.start
    rw [List.length_replicate, List.length_cons, show n - (vs.length + 1) = 0 by omega, List.replicate_zero, List.append_nil]
  rw [e1, e2] at S
  refine ⟨H, F, _, [a], _, ⟨by rw [List.length_cons]; omega, by rw [List.length_cons]; omega, rfl⟩, S, ?_⟩
  unfold mkIOr at p
  cases z : lenIs n Φ (.pin 0 (.nd .own (.ins x []) []) :: ds) with
  | stuck => rw [z] at p; exact p.elim
  | exc y =>
    rw [z] at p
    exact fun cl dd H2 s q => p cl dd H2 s q
  | ok res =>
    rw [z] at p
    simp only [Res.bind] at p
    intro v H2 F2 fq R
    split at p
    case h_2 => exact p.elim
    rename_i d
    by_cases hd : noP d = true ∧ noT d = true
    case neg => rw [if_neg hd] at p; exact p.elim
    rw [if_pos hd] at p
    have hrep := R.rep
    have hRnd := R.nd
    have hRow := R.ow
    cases hrep with
    | @pack _ _ _ fd fc hne h1r h2r =>
    cases h1r
    cases h2r with
    | cons ra rn =>
      cases rn
      rename_i fp0
      refine ⟨rfl, ?_⟩
      have ra2 : Rep c.κ F2 H2 d (.ref a) fp0 := Rep.repin (κ := c.κ.pin [a]) (κ' := c.κ) rfl _ _ _ _ _ hd.1 ra
      have sF : SameT F F2 := by
        have ff : FF c.κ F F2 := ⟨R.f0.same, ⟨R.f0.mks.mt, R.f0.mks.tt⟩⟩
        exact ff.sameT mk
      refine p (.ref a) H2 F2 fp0 ⟨R.kk, sF, R.fh, R.gr⟩ ra2 ?_ fun b m => ?_
      · simpa using hRnd
      · have := hRow b (by simpa using m)
        exact ⟨this.2, this.1⟩
theorem ev_makeIO (M : MkIO X.prog X.w X.K X.mg X.base c x k n Φ) (hr : Room (k + 1) X.A) (hg : Gl X x) (hx : Passes (L2.CX X.prog X.w) X E)
    (ha : EL X c E (e :: es) fs) (hdb : (x == ("__debug__" : Str)) = false := by decide) (he : starEach (e :: es) X.env = (false, eval e X.env) :: starEach es X.env := by rfl) (hpl : (backTo pos (starEach es X.env)).any (·.1) = false := by rfl) :
    EV X c E (.Call (.Name x p) (e :: es) [] pos) (eC_ (dMakeIO x (lenIs n Φ)) fs) := by
  obtain ⟨f, fd, ps, mk, F, hm, hb⟩ := M.ex
  refine PE.imp (pe_make mk F hr hg hm hb .nil hx ha hdb he hpl) fun σ H Q q => ?_
  obtain ⟨bb, K, F0, F1, env, φ, S, p⟩ := q
  refine ⟨bb, K, F0, F1, env, φ, S, ?_⟩
  unfold eC_ at p
  cases z : fs env with
  | exc y => simp only [z, Res.bind] at p; exact p
  | stuck => simp only [z, Res.bind] at p; exact p
  | ok ds =>
    simp only [z, Res.bind] at p
    intro vs H' F' fp xx r nd fr a dx h1 h2 hne
    unfold dMakeIO at p
    by_cases hnt : noTL ds = true
    case neg => rw [if_neg hnt] at p; exact p.elim
    rw [if_pos hnt] at p
    have x2 := xx.grab fr (RepL.own _ _ _ _ _ _ r)
    have rz : RepL c.κ (grab F' H' fp) H' (fzL ds) vs [] := r.fz _ _ _ _ (same_grab fun a m => (fr a m).2) _ _ _ (fun a m => grab_mem m)
    rw [List.append_nil]
    refine make_io (S.f0.mks.up x2.ff) x2.fh rz (noTL_fz ds hnt) (noPL_fz ds) h1 h2 hne ?_
    generalize mkIOr (lenIs n Φ (D.pin 0 (D.nd Tag.own (Kind.ins x []) []) :: fzL ds)) = rr at p ⊢
    cases rr with
    | stuck => exact p
    | exc y => exact fun cl dd H2 s q => p cl dd H2 (x2.hh.trans s) (c.mono x2.hh q)
    | ok d => exact fun v H2 F2 fp2 e1 r1 n1 f1 => p v H2 F2 fp2 (x2.trans e1) r1 n1 fun b m => ⟨x2.hh.free (f1 b m).1, (f1 b m).2⟩
end
def insR (x : D) : Res InsT := ofO (insO x)
def fappV (cs : List Str) (fn : Str) (x : D) (c : Res D) : Res D := (insR x).bind fun t => (ofO (fldL cs fn t)).bind fun je => c.bind fun d => fapp1 t je d
def fputV (cs : List Str) (fn : Str) (x : D) (c : Res D) : Res D := (insR x).bind fun t => c.bind fun d => fput1 cs fn t d
def callM (C m : Str) (Φ : List D → Res D) (x : D) (as : Res (List D)) : Res (D × D) := if recvOk C m (some (some x)) = true then callO1 Φ x as else .stuck
section
variable {i k : Nat} {env : Env} {x y : D} {f g : Env → Res D} {fx gx : Res D} {cs : List Str} {fn C m : Str} {Φ : List D → Res D} {fs : Env → Res (List D)} {as : Res (List D)}
theorem fapp_eq (hx : env[i]? = some (some x)) (hf : f env = fx) : sFApp i cs fn f env = (fappV cs fn x fx).bind fun a => .ok (.nx, env.set i (some a)) := by
  subst hf
  unfold sFApp fappV insR
  rw [ownI_of hx]
  cases insO x with
  | none => rfl
  | some t =>
    dsimp only [ofO, rb_ok]
    cases fldL cs fn t with
    | none => rfl
    | some je =>
      dsimp only [ofO, rb_ok]
      cases f env <;> rfl
theorem fput_eq (hx : env[i]? = some (some x)) (hf : f env = fx) : sFPut i cs fn f env = (fputV cs fn x fx).bind fun a => .ok (.nx, env.set i (some a)) := by
  subst hf
  unfold sFPut fputV insR
  rw [ownI_of hx]
  cases insO x with
  | none => rfl
  | some t =>
    dsimp only [ofO, rb_ok]
    cases f env <;> rfl
theorem x_ioM (hx : env[i]? = some (some x)) (h1 : fs env = as) : eIOM C m i Φ fs env = (callM C m Φ x as).bind fun t => .ok (t.1, env.set i (some t.2)) := by
  unfold eIOM callM
  rw [hx]
  split
  · exact x_io1 hx h1
  · rfl
end
def sRetVIO (is : List Nat) (i : Nat) : Env → SR := fun env => match env[i]? with
  | some (some d) => packOf is d (env.set i none)
  | _ => .stuck
section
variable {X : Cx} {c : Cfg X.K} {E : XK} {e : Expr} {pos : Pos} {is : List Nat}
theorem es_retVIO (i : Nat) {x : Str} {p : Pos} (hl : is.length = c.κ.pv.length) (nd : is.Nodup) (ne : is ≠ []) (hN : X.N[i]? = some x := by rfl) (hv : Vis X.env.scope x := by first | exact Or.inl rfl | exact Or.inr (Or.inl rfl) | exact Or.inr (Or.inr rfl)) (hd : (x == ("__debug__" : Str)) = false := by decide)
    (hcd : (x == ("__classdict__" : Str)) = false := by decide) : ES X c E (.Return (some (.Name x p)) pos) (sRetVIO is i) := PS.imp (ps_ret (pe_var hN hv hd hcd)) fun Dn σ H q => by
  obtain ⟨K, F0, F, env, φ, S, w⟩ := q
  unfold sRetVIO at w
  split at w
  · rename_i d q
    obtain ⟨v, h1, h2, h3⟩ := S.sl i d q
    have S' := S.drop i
    unfold packOf at w
    split at w
    · rename_i cs hc
      obtain ⟨fq, R⟩ := pack_ret S' nd ne hl hc (d := d) (v := v) (fp := φ i) ⟨h2, S.nd i, fun a m => ⟨(S.ow i a m).1, (S.ow i a m).2.1, fun j m2 => by
        by_cases z : j = i
        · subst z
          rw [put_same] at m2
          cases m2
        · rw [put_ne z] at m2
          exact S.dj i j (Ne.symm z) a m m2⟩⟩ (h3 rfl)
      exact ⟨v, h1, w v H F fq R⟩
    · exact w.elim
  · exact w.elim
end
section
variable {β : Type} {R : SR → Res β → Prop} {q : D → Res β} {env : Env} {w : Env → SR} {i : Nat} {x : D}
theorem r_retVIO (hR : Rl R q) {is : List Nat} {xs : List D} (hx : env[i]? = some (some x)) (hp : ∀ j, pinsOf is j (env.set i none) = pinsV j xs) : R (sSeq (sRetVIO is i) w env) ((packV xs x).bind q) := by
  unfold sSeq sRetVIO packOf packV
  rw [hx]
  dsimp only
  rw [hp]
  cases pinsV 0 xs with
  | none => exact hR.st _
  | some cs => exact hR.rt _ _
theorem f_retVIO {is : List Nat} {xs : List D} (hx : env[i]? = some (some x)) (hp : ∀ j, pinsOf is j (env.set i none) = pinsV j xs) : RF (sSeq (sRetVIO is i) w env) ((packV xs x).bind okR) := r_retVIO rl_F hx hp
end
def Itt (z : Str) : It :=
  ⟨fun i _ => i < z.cps.size, fun i H v H' => ∃ T c, v = .ref T ∧ H T = none ∧ H' = upd H T (.tup [.int (i : Nat), .str ⟨#[c]⟩]) ∧ z.cps[i]? = some c, fun i _ => z.cps.size ≤ i⟩
def rMulS : R2 := fun x y H Q => ∃ a n, x = .str a ∧ y = .int n ∧ MulOk a n ∧ Q (.str (Txt.mul a n)) H
theorem op_mulS {X : Cx} : OpR X (binaryOp .Mult) rMulS := by
  intro pins s σ H x y v u Q I rx ry h
  obtain ⟨a, n, rfl, rfl, ok, q⟩ := h
  obtain ⟨t, rfl⟩ := rx
  obtain ⟨t', rfl⟩ := ry
  exact SB.mul ok fun t'' k => ⟨.str _, H, I.tok _, ⟨_, rfl⟩, q⟩
end PV
end
section
namespace PySem
end PySem
namespace PV
open PySem PySem.Spec PyProof.Rows L2
end PV
end
section
namespace PV
open PySem PySem.Spec PyProof.Rows L2
section
variable {M : PySem.W.Frag} {κ : Kap M} {K F0 F H : Hp} {env : Env} {φ : Nat → List Addr} {σ : L2.St} {d : D} {v : V} {fp : List Addr}
theorem SE.grabF (S : SE true κ K F0 F env φ σ H) (fl : Float κ K F φ H d v fp) : SE true κ K F0 (grab F H fp) env φ σ H ∧ Rep κ (grab F H fp) H (fz d) v [] := by
  have ow : ∀ a ∈ fp, ∃ o, H a = some o ∧ ¬ IsTup' o := Rep.own _ _ _ _ _ _ fl.rep
  have hg : Same F (grab F H fp) := same_grab fun a m => (fl.ap a m).1
  have hgT : SameT F (grab F H fp) := sameT_grab (fun a m => (fl.ap a m).1) ow
  refine ⟨⟨S.len, S.kk, S.f0.trans hgT, grab_same S.fh ow, fun a o e => ?_, fun i e h => ?_, S.nd, S.dj, fun i a m => ?_⟩, fl.rep.fz _ _ _ _ hg _ _ _ (fun a m => grab_mem m)⟩
  · by_cases m : a ∈ fp
    · exact .inr (.inl (fl.ap a m).2.1)
    · rw [grab_not m] at e; exact S.gr a o e
  · obtain ⟨v, h1, h2, h3⟩ := S.sl i e h
    exact ⟨v, h1, h2.stay _ _ _ _ _ hg _ _ _ (fun a m => rfl) (h3 rfl), h3⟩
  · obtain ⟨h1, h2, h3⟩ := S.ow i a m
    exact ⟨by rw [grab_not fun z => (fl.ap a z).2.2 i m]; exact h1, h2, h3⟩
theorem frz_list {t : Tag} {ds : List D} (nt : noT (.nd t .lst ds) = true) (r : Rep κ F H (fz (.nd t .lst ds)) v []) :
    ∃ a vs, v = .ref a ∧ (∀ F1 H1, Same F F1 → Sub F1 H1 → SqL M H1 a vs) ∧ RepL κ F H (fzL ds) vs [] ∧ noTL (fzL ds) = true := by
  have n2 := noT_fz _ nt
  rw [fz] at r n2
  rw [noT, Bool.and_eq_true] at n2
  have key : ∀ {t' : Tag}, t' ≠ .tmp → Rep κ F H (.nd t' .lst (fzL ds)) v [] → ∃ a vs, v = .ref a ∧ (∀ F1 H1, Same F F1 → Sub F1 H1 → SqL M H1 a vs) ∧ RepL κ F H (fzL ds) vs [] := by
    intro t' ht' r'
    cases r' with
    | ndF ha hr hs hl =>
      cases hs
      refine ⟨_, _, rfl, fun F1 H1 f1 f2 => ?_, hl⟩
      have h1 := f2 _ _ (f1 _ _ ha)
      rcases hr with rfl | ⟨_, ob, rfl⟩
      · exact .inl (.inl h1)
      · exact .inl (.inr ⟨ob, h1⟩)
    | ndT => exact absurd rfl ht'
    | ndK ha hl => exact ⟨_, _, rfl, fun _ _ _ _ => .inr ha, hl⟩
  obtain ⟨a, vs, e, sq, hl⟩ := key (of_decide_eq_true n2.1) r
  exact ⟨a, vs, e, sq, hl, n2.2⟩
end
def callN (Φ : List D → Res D) (x : D) : Res D := if noT x = true then Φ [fz x] else .stuck
def eCallS (Φ : List D → Res D) (g : Env → Res (D × Env)) : Env → Res (D × Env) := fun env => (g env).bind fun r => (callN Φ r.1).bind fun d => .ok (d, r.2)
def itemsL (x : D) : Res (List D) := match x with
  | .nd t .lst ds => if noT (.nd t .lst ds) = true then .ok (fzL ds) else .stuck
  | _ => .stuck
theorem itemsL_ok {x : D} {xs : List D} (h : itemsL x = .ok xs) : ∃ t ds, x = .nd t .lst ds ∧ noT x = true ∧ xs = fzL ds := by
  unfold itemsL at h
  split at h
  · rename_i t ds
    by_cases q : noT (.nd t .lst ds) = true
    · rw [if_pos q] at h
      cases h
      exact ⟨t, ds, rfl, q, rfl⟩
    · rw [if_neg q] at h; cases h
  · cases h
theorem itemsL_nox {x : D} (y : Exn) : itemsL x ≠ .exc y := by
  unfold itemsL
  split
  · split <;> simp
  · simp
def eLcS (g : Env → Res (D × Env)) (s : TgF) (t : Env → Res Bool) (f : Env → Res D) (vs : List Nat) : Env → Res (D × Env) := fun env => (g env).bind fun r => (itemsL r.1).bind fun xs => (lcL s t f (wipeE vs r.2) xs).bind fun ys => if ys.length ≤ bigL then .ok (.lst .own ys, r.2) else .stuck
def sForS (it : Env → Res (D × Env)) (s : TgF) (gb : Env → SR) (fg : List Nat) : Env → SR := fun env => (it env).bind fun r => (itemsL r.1).bind fun xs => forL s gb fg xs (forget fg r.2)
section
variable {X : Cx} {c : Cfg X.K} {E : XK} {e a b tg : Expr} {pos p : Pos} {k n : Nat} {Φ : List D → Res D} {x : Str} {g : Env → Res (D × Env)} {ws : List Nat}
theorem ev_callS (C : Cal X.prog X.w X.K X.mg X.base c x k n Φ []) (hr : Room k X.A) (hg : Gl X x) (hx : Passes (L2.CX X.prog X.w) X E) (ha : EVS X c E e g) (hdb : (x == ("__debug__" : Str)) = false := by decide)
    (he : starEach [e] X.env = (false, eval e X.env) :: starEach [] X.env := by rfl) (hpl : (backTo pos (starEach [] X.env)).any (·.1) = false := by rfl) :
    EVS X c E (.Call (.Name x p) [e] [] pos) (eCallS (lenIs n Φ) g) := by
  obtain ⟨f, fd, ps, dvs, dss, F, hm, hk, hb, hd, hrl⟩ := C.ex
  refine PE.imp (pe_call F hr hg hm hk hb hd hx (pa_cons ha pa_nil he) hdb he hpl) fun σ H Q q => ?_
  obtain ⟨K, F0, F1, env, φ, S, p⟩ := q
  refine ⟨K, F0, F1, env, φ, S, ?_⟩
  unfold eCallS at p
  cases z : g env with
  | ok r =>
    obtain ⟨d, env'⟩ := r
    simp only [z, Res.bind] at p
    intro v H' F' φ' fp T fl
    unfold callN at p
    by_cases nt : noT d = true
    case neg => rw [if_neg nt] at p; exact p.elim
    rw [if_pos nt] at p
    obtain ⟨T2, r2⟩ := T.grabF fl
    have dl : dvs = [] := by
      have := hrl F' H'
      cases this
      rfl
    subst dl
    by_cases hn : [fz d].length = n
    case neg =>
      have : lenIs n Φ [fz d] = .stuck := if_neg hn
      rw [this] at p
      exact p.elim
    refine ⟨H', grab F' H' fp, [fz d], Sm.refl _, ⟨T2.fh, T2.f0.mks.up (SameT.refl _), noPL_fz [d]⟩, RepL.cons (fp := []) (fq := []) r2 .nil, noTL_fz [d] (by rw [noTL_cons, nt]; rfl), hn, ?_⟩
    cases z2 : lenIs n Φ [fz d] with
    | ok y =>
      rw [z2] at p
      intro w H2 F2 fq R
      have x2 : Ext (grab F' H' fp) H' F2 H2 := ⟨R.kk, R.f0.sameT T2.f0.mks, R.fh, fun a o e => by
        rcases R.gr a o e with q | q | q
        · exact .inl q
        · exact .inr (.inl q)
        · exact .inr (.inr q)⟩
      exact p w H2 F2 φ' fq (T2.ext x2) (T2.float x2 R.rep R.nd fun a m => ⟨(R.ow a m).2, (R.ow a m).1⟩)
    | exc y => rw [z2] at p; exact fun cl dd H2 s q => p cl dd H2 (T2.kk.trans s) (c.mono T2.kk q)
    | stuck => rw [z2] at p; exact p.elim
  | exc y => simp only [z, Res.bind] at p; exact p
  | stuck => simp only [z, Res.bind] at p; exact p
theorem es_lcS (i : Nat) {y : Str} {py spos : Pos} {elt iter : Expr} {ifs : List Expr} {scope : Scope} (own : List (Str × Nat)) {s : TgF} {t : Env → Res Bool} {f : Env → Res D} (hc : X.calm = true) (hN : X.N.Nodup) (hyl : X.env.scope.names.lookup y = some .local)
    (hsw : swapsWith (.ListComp elt [⟨tg, iter, ifs, 0⟩] scope pos) (some (.Name y py)) spos.line X.env = pure true) (hi : EVS X c E iter g) (ok : BlkOk X.N X.env.scope scope own)
    (hg : ∀ (s' : Shared) (H : Hp) (C : Addr) (cl : List (Str × Addr)) (fp : List Addr), EG (X.blk s' H scope (compEnvC scope cl C X.env) fp) c false tg ws s) (ht : ∀ (s : Shared) (H : Hp) (C : Addr) (cl : List (Str × Addr)) (fp : List Addr), ETs (X.blk s H scope (compEnvC scope cl C X.env) fp) c (fun _ _ _ => False) ifs t)
    (he : ∀ (s : Shared) (H : Hp) (C : Addr) (cl : List (Str × Addr)) (fp : List Addr), EV (X.blk s H scope (compEnvC scope cl C X.env) fp) c (fun _ _ _ => False) elt f) (hy : X.N[i]? = some y := by rfl) (hw : ∀ w ∈ ws, w ∈ own.map (·.2) := by decide) (hs : ∀ x, foldedSetIterable iter X.env x = pure x := by intro _; rfl) :
    ES X c E (.Assign [.Name y py] (.ListComp elt [⟨tg, iter, ifs, 0⟩] scope pos) spos) (sSetS i (eLcS g s t f (own.map (·.2)))) :=
  PS.imp (ps_setLc (g := TGt c false ws s) (tt := TB c (fun _ _ _ => False) t) (te := TV c (fun _ _ _ => False) f) hc hN hy hyl hsw (pi_list hi) ok hg ht he hs) fun Dn σ H q => by
    obtain ⟨K, F0, F1, env, φ, S, p⟩ := q
    refine ⟨K, F0, F1, env, φ, S, ?_⟩
    unfold sSetS eLcS at p
    cases z : g env with
    | ok r =>
      obtain ⟨d, env'⟩ := r
      simp only [z, Res.bind] at p
      intro v H' F' φ' fp T fl
      cases hI : itemsL d with
      | exc y => exact absurd hI (itemsL_nox y)
      | stuck => rw [hI] at p; exact p.elim
      | ok xs =>
      rw [hI] at p
      obtain ⟨t', ds, rfl, nt, rfl⟩ := itemsL_ok hI
      obtain ⟨T2, r2⟩ := T.grabF fl
      obtain ⟨a, vs, rfl, sq, hl, ntl⟩ := frz_list nt r2
      refine ⟨a, rfl, ⟨vs, sq _ _ (Same.refl _) T2.fh⟩, fun Dl hD => ?_⟩
      dsimp only at p
      cases z2 : lcL s t f (wipeE (own.map (·.2)) env') (fzL ds) with
      | ok ys =>
        simp only [z2] at p
        by_cases hlen : ys.length ≤ bigL
        case neg => rw [if_neg hlen] at p; exact p.elim
        rw [if_pos hlen] at p
        have Y : Yields c.κ (Itl X.K a) (fzL ds) (Pst false (grab F' H' fp) H') := yields_list (F := grab F' H' fp) (H := H') fun F1 H1 p => ⟨sq F1 H1 p.1 p.2.1, p.2.1, hl.stay _ _ _ _ _ p.1 _ _ _ (fun a m => absurd m (by simp)) ntl⟩
        exact lc_step (Q := fun v H1 => Dn.nx (σ.set i (some v)) H1) hw T2.weak Y T2.fh hD z2 hlen fun v H2 F2 fq x2 r nd fr nt => by
          have hnt : noT (D.lst .own ys) = true := by rw [noT, nt]; rfl
          unfold store at p
          dsimp only at p
          rw [if_pos hnt] at p
          exact p _ H2 F2 _ ((T2.ext x2).setF (T2.float x2 r nd fr) (fun _ => hnt) i)
      | exc y => exact absurd z2 (lcL_nox _ _)
      | stuck => simp only [z2] at p; exact p.elim
    | exc y => simp only [z, Res.bind] at p; exact p
    | stuck => simp only [z, Res.bind] at p; exact p
end
section
variable {X : Cx} {c : Cfg X.K} {E : XK} {tg : Expr} {pos : Pos} {ws : List Nat}
theorem es_forS {iter : Expr} {body : List Stmt} {it : Env → Res (D × Env)} {s : TgF} {gb : Env → SR} (fg : List Nat) (hp : PassesOwn (model X.prog X.w) X.A X.env X.xe) (hc : X.calm = true) (hi : EVS X c E iter it) (hg : EG X c true tg ws s) (hb : EB X c E body gb)
    (hs : ∀ x, foldedSetIterable iter X.env x = pure x := by intro _; rfl) : ES X c E (.For tg iter body [] pos) (sForS it s gb fg) := PS.imp (ps_for hp hc (pi_list hi) hg hb hs) fun Dn σ H q => by
  obtain ⟨K, F0, F, env, φ, S, p⟩ := q
  refine ⟨K, F0, F, env, φ, S, ?_⟩
  unfold sForS at p
  cases z : it env with
  | ok r =>
    obtain ⟨d, env'⟩ := r
    simp only [z, Res.bind] at p
    intro v H' F'' φ' fp T fl
    cases hI : itemsL d with
    | exc y => exact absurd hI (itemsL_nox y)
    | stuck => rw [hI] at p; exact p.elim
    | ok xs =>
    rw [hI] at p
    obtain ⟨t', ds, rfl, nt, rfl⟩ := itemsL_ok hI
    obtain ⟨S0, r2⟩ := T.grabF fl
    obtain ⟨a, vs, rfl, sq, hl, ntl⟩ := frz_list nt r2
    generalize grab F'' H' fp = F' at *
    refine ⟨a, rfl, ⟨vs, sq _ _ (Same.refl _) S0.fh⟩, ?_⟩
    dsimp only at p
    have Y : Yields c.κ (Itl X.K a) (fzL ds) (Pst true F' H') := yields_list (F := F') (H := H') fun F1 H1 p => ⟨sq F1 H1 p.1 p.2.1, p.2.1, hl.stay _ _ _ _ _ p.1 _ _ _ (fun a m => absurd m (by simp)) ntl⟩
    generalize fzL ds = items at *
    refine ⟨fun i m σ H => m = items.length - i ∧ i ≤ items.length ∧ ∃ F1 env φ, SE true c.κ K F0 F1 env φ σ H ∧ Same F' F1 ∧ PostS c E K F0 (forL s gb fg (items.drop i) env) Dn, ⟨items.length, by simp, Nat.zero_le _, ?_⟩, ?_⟩
    · obtain ⟨φ2, S2⟩ := S0.forget fg
      exact ⟨F', _, φ2, S2, Same.refl _, p⟩
    · rintro i m σ1 H1 ⟨rfl, hi, F1, env1, φ1, S1, ff, p1⟩
      by_cases hlt : i < items.length
      · have pst : Pst true F' H' F1 H1 := ⟨ff, S1.fh, fun z => nomatch z⟩
        have hd : items[i]? = some items[i] := List.getElem?_eq_getElem hlt
        rw [List.drop_eq_getElem_cons hlt, forL] at p1
        refine .inr ⟨Y.go i F1 H1 pst hlt, fun σ2 H2 => ∃ m', m' < items.length - i ∧ m' = items.length - (i + 1) ∧ i + 1 ≤ items.length ∧ ∃ F2 env φ, SE true c.κ K F0 F2 env φ σ2 H2 ∧ Same F' F2 ∧ PostS c E K F0 (forL s gb fg (items.drop (i + 1)) env) Dn, fun σ' H' ⟨m', h1, h2⟩ => ⟨m', h1, h2⟩, fun x H2 y => ?_⟩
        obtain ⟨F2, x2, r2⟩ := Y.yld i F1 H1 x H2 _ pst hd y
        have S2 := S1.ext x2
        refine ⟨K, F0, F2, env1, φ1, items[i], [], S2, ⟨r2, .nil, by simp⟩, ?_⟩
        cases w : s items[i] env1 with
        | ok env2 =>
          rw [w] at p1
          dsimp only at p1 ⊢
          intro σ3 H3 F3 φ3 T _ _
          have T0 := S2.base T
          refine ⟨K, F3, F3, env2, φ3, T0.self, ?_⟩
          have again : ∀ {env3 : Env} {σ4 : L2.St} {H4 F4 : Hp} {φ4 : Nat → List Addr}, SE true c.κ K F3 F4 env3 φ4 σ4 H4 → PostS c E K F0 (forL s gb fg (items.drop (i + 1)) (forget fg env3)) Dn → ∃ m', m' < items.length - i ∧ m' = items.length - (i + 1) ∧ i + 1 ≤ items.length ∧ ∃ F2 env φ, SE true c.κ K F0 F2 env φ σ4 H4 ∧ Same F' F2 ∧ PostS c E K F0 (forL s gb fg (items.drop (i + 1)) env) Dn := by
            intro env3 σ4 H4 F4 φ4 T4 q4
            obtain ⟨φ5, T5⟩ := (T0.base T4).forget fg
            exact ⟨_, by omega, rfl, hlt, F4, _, φ5, T5, (((ff.trans x2.ff).trans T.f0.same).trans T4.f0.same), q4⟩
          cases w2 : gb env2 with
          | ok r =>
            obtain ⟨fl, env3⟩ := r
            simp only [w2, Res.bind] at p1
            cases fl with
            | nx => exact fun σ4 H4 F4 φ4 T4 => again T4 p1
            | ct => exact fun σ4 H4 F4 φ4 T4 => again T4 p1
            | bk =>
              intro σ4 H4 F4 φ4 T4
              obtain ⟨φ5, T5⟩ := (T0.base T4).forget fg
              exact p1 σ4 H4 F4 φ5 T5
            | rt d => exact fun v H4 F4 fp T4 => p1 v H4 F4 fp (T4.base T0)
          | exc y => simp only [w2, Res.bind] at p1; exact p1
          | stuck => simp only [w2, Res.bind] at p1; exact p1
        | exc y => rw [w] at p1; exact p1.elim
        | stuck => rw [w] at p1; exact p1.elim
      · have e : i = items.length := by omega
        subst e
        rw [List.drop_length, forL] at p1
        exact .inl ⟨Y.stop F1 H1 ⟨ff, S1.fh, fun z => nomatch z⟩, p1 σ1 H1 F1 φ1 S1⟩
  | exc y => simp only [z, Res.bind] at p; exact p
  | stuck => simp only [z, Res.bind] at p; exact p
end
structure CalR (P : Program) (w : World) (K : PySem.W.Frag) (mg : Str → Option Value) (base : Heap) (c : Cfg K) (C m : Str) (k : Nat) (Φ : List D → Res D) : Prop where
  ex : ∃ (f : Addr) (fd : FuncData) (ps : List Str), Cls K (c.κ.cls C) ∧ Meth K (c.κ.cls C) m f ∧ FnOk P w K mg base (L2.CX P w) k f fd ps (SpD c 1 (lenIs 1 Φ)) ∧ Binds K fd ps []
def eMrd (C m : Str) (i : Nat) (Φ : List D → Res D) : Env → Res D := fun env => if recvOk C m env[i]? = true then (match contOf env[i]? with
  | some d => callD Φ [rd d]
  | none => .stuck) else .stuck
section
variable {bb : Bool} {M : PySem.W.Frag} {κ : Kap M} {K F0 F H : Hp} {env : Env} {φ : Nat → List Addr} {σ : L2.St}
theorem SE.contB (S : SE bb κ K F0 F env φ σ H) {i : Nat} {c : D} (h : contOf env[i]? = some c) : ∃ a, σ[i]? = some (some (.ref a)) ∧ Rep κ F H c (.ref a) (φ i) := by
  unfold contOf at h
  split at h
  · rename_i k ds e
    split at h
    · rename_i hp
      cases h
      obtain ⟨v, h1, h2, h3⟩ := S.sl i _ e
      generalize hφ : φ i = fp at h2
      cases h2 with
      | ndO ha hs hl => exact ⟨_, h1, .ndO ha hs hl⟩
    · cases h
  · rename_i j k ds e
    split at h
    · rename_i hp
      cases h
      obtain ⟨v, h1, h2, h3⟩ := S.sl i _ e
      generalize hφ : φ i = fp at h2
      cases h2 with
      | pin _ hd => exact ⟨_, h1, by
          cases hd with
          | ndO ha hs hl => exact .ndO ha hs hl⟩
    · cases h
  · cases h
end
theorem CalR.pin {P : Program} {w : World} {K : PySem.W.Frag} {mg : Str → Option Value} {base : Heap} {c : Cfg K} {C m : Str} {k : Nat} {Φ : List D → Res D} (M : CalR P w K mg base c C m k Φ) (e : c.κ.pv = []) (as : List Addr) : CalR P w K mg base (c.pin as) C m k Φ := by
  obtain ⟨f, fd, ps, hC, hM, F, hb⟩ := M.ex
  refine ⟨f, fd, ps, hC, hM, F.imp fun vs H Q E q => ?_, hb⟩
  obtain ⟨Kh, F0, ds, kk, fh, r, nt, hl, p⟩ := q
  refine ⟨Kh, F0, ds, kk, ⟨fh.1, ⟨fh.2.1.mt, fh.2.1.tt⟩, fh.2.2⟩, r.repin (κ := c.κ.pin as) (κ' := c.κ) rfl _ _ _ _ _ fh.2.2, nt, hl, ?_⟩
  cases z : lenIs 1 Φ ds with
  | ok d => rw [z] at p; exact fun v H' F' fp R => p v H' F' fp (R.pin e as)
  | exc x => rw [z] at p; exact p
  | stuck => rw [z] at p; exact p
section
variable {X : Cx} {c : Cfg X.K} {E : XK} {pos apos : Pos} {k : Nat} {Φ : List D → Res D} {C m : Str}
theorem ev_mrd0 {pl : Sem Bool} (M : CalR X.prog X.w X.K X.mg X.base c C m k Φ) (hr : Room k X.A) (hx : Passes (L2.CX X.prog X.w) X E) (i : Nat) {y : Str} {q : Pos}
    (hN : X.N[i]? = some y := by rfl) (hv : Vis X.env.scope y := by first | exact Or.inl rfl | exact Or.inr (Or.inl rfl) | exact Or.inr (Or.inr rfl)) (hd : (y == ("__debug__" : Str)) = false := by decide) (hcd : (y == ("__classdict__" : Str)) = false := by decide)
    (ht : eval (.Call (.Attribute (.Name y q) m apos) [] [] pos) X.env = (do
      let ov ← eval (.Name y q) X.env
      standAt apos.atName
      let (f, first) ← holding [ov] (getMethod ov m pl)
      callWith pos f first (backTo pos (starEach [] X.env)) (backToKw pos (keywordEach [] X.env))) := by rfl) :
    EV X c E (.Call (.Attribute (.Name y q) m apos) [] [] pos) (eMrd C m i (lenIs 1 Φ)) := by
  obtain ⟨f, fd, ps, hC, hM, F, hb⟩ := M.ex
  refine PE.imp (pe_meth0 (pl := pl) (pe_var (i := i) hN hv hd hcd) hC hM F hr hb .nil hx ht) fun σ H Q qq => ?_
  obtain ⟨bb, K, F0, F1, env, φ, S, p⟩ := qq
  unfold eMrd at p
  by_cases hrv : recvOk C m env[i]? = true
  case neg => rw [if_neg hrv] at p; exact p.elim
  rw [if_pos hrv] at p
  obtain ⟨kd, ns, dd, hct, hkd, hnm⟩ := recvOk_some hrv
  rw [hct] at p
  dsimp only at p
  obtain ⟨a, h3, hrep⟩ := S.contB hct
  have r2 : Rep c.κ F1 H (rd (.nd .own kd dd)) (.ref a) [] := hrep.rd _ _ _ S.fh
  have hins : ∃ dx vs, H a = some (.ins (c.κ.cls C) dx (ns.zip vs)) := by
    generalize φ i = fpi at hrep
    cases hrep with
    | ndO ha' hso hl =>
      obtain ⟨_, dx, rfl⟩ := insK_ho hkd hso
      exact ⟨dx, _, ha'⟩
  obtain ⟨dx, vs0, hat⟩ := hins
  refine ⟨.ref a, h3, a, dx, _, rfl, hat, zip_none hnm, ?_⟩
  exact call_post (Ext.refl S.fh) (RepL.cons (fp := []) (fq := []) r2 .nil) .nil (by simp) rfl S.f0.mks (by
    cases z : callD (lenIs 1 Φ) [rd (.nd .own kd dd)] with
    | ok d => rw [z] at p; exact p
    | exc x => rw [z] at p; exact p
    | stuck => rw [z] at p; exact p.elim)
end
def augI (cs : List Str) (fn : Str) (t : InsT) : Option Int := if cs.contains t.c = true ∧ t.ns.length < 900 then (match (ixK t.ns fn).bind fun j => t.ds[j]? with
  | some (.int a) => some a
  | _ => none) else none
theorem augI_some {cs : List Str} {fn : Str} {t : InsT} {n : Int} (h : augI cs fn t = some n) : cs.contains t.c = true ∧ t.ns.length < 900 ∧ ∃ j, ixK t.ns fn = some j ∧ t.ds[j]? = some (.int n) := by
  unfold augI at h
  by_cases q : cs.contains t.c = true ∧ t.ns.length < 900
  case neg => rw [if_neg q] at h; cases h
  rw [if_pos q] at h
  cases hj : ixK t.ns fn with
  | none => rw [hj] at h; cases h
  | some j =>
    rw [hj, Option.bind_some] at h
    split at h
    · rename_i a e
      cases h
      exact ⟨q.1, q.2, j, rfl, e⟩
    · cases h
def faug1 (cs : List Str) (fn : Str) (t : InsT) (n : Int) (d : D) : Res D := match d with
  | .int b => fput1 cs fn t (.int (n + b))
  | _ => .stuck
def sFAug (i : Nat) (cs : List Str) (fn : Str) (f : Env → Res D) : Env → SR := fun env => match ownI env i with
  | some t => (match augI cs fn t with
    | some n => (f env).bind fun d => (faug1 cs fn t n d).bind fun y => .ok (.nx, env.set i (some y))
    | none => .stuck)
  | none => .stuck
section
variable {X : Cx} {c : Cfg X.K} {E : XK} {e : Expr} {f : Env → Res D} {fn : Str} {pos pos' : Pos}
theorem esk_faug (i : Nat) (cs : List Str) (kc : ClsOk c.κ cs fn) {x : Str} {q : Pos} (ha : EV X c E e f) (hN : X.N[i]? = some x := by rfl) (hv : Vis X.env.scope x := by first | exact Or.inl rfl | exact Or.inr (Or.inl rfl) | exact Or.inr (Or.inr rfl)) (hd : (x == ("__debug__" : Str)) = false := by decide)
    (hcd : (x == ("__classdict__" : Str)) = false := by decide) :
    ESk X c E (.AugAssign (.Attribute (.Name x q) fn pos') .Add e pos) (sFAug i cs fn f) :=
  PS.imp (ps_fldaug (pe_var (i := i) hN hv hd hcd) ha in_add) fun Dn σ H q => by
    obtain ⟨K, F0, F, env, φ, S, p⟩ := q
    unfold sFAug at p
    cases hs0 : ownI env i with
    | none => rw [hs0] at p; exact p.elim
    | some t =>
      obtain ⟨hslot, hk⟩ := ownI_get hs0
      rw [hs0] at p
      dsimp only at p
      cases hau : augI cs fn t with
      | none => rw [hau] at p; exact p.elim
      | some n =>
      rw [hau] at p
      dsimp only at p
      obtain ⟨hc1, hc2, j, hj, hdj⟩ := augI_some hau
      obtain ⟨kd, cn, ns, ds⟩ := t
      dsimp only at p hk hslot hc1 hc2 hj hdj
      obtain ⟨v0, h1, h2, h3⟩ := S.sl i _ hslot
      have h3' := h3 rfl
      rw [noT_own] at h3'
      have n1 := S.nd i
      generalize hφ : φ i = fpi at h2 n1
      cases h2 with
      | ndO ha' hso hl =>
        rename_i a vs fq o
        obtain ⟨hlen, dx, rfl⟩ := insK_ho hk hso
        rw [List.nodup_cons] at n1
        obtain ⟨u, fr0, g1, g2, _, _⟩ := hl.get j _ hdj
        cases g2
        have hzl : (ns.zip vs).length ≤ ns.length := by rw [List.length_zip]; exact Nat.min_le_left _ _
        refine ⟨.ref a, h1, a, _, dx, _, .int n, rfl, ha', (kc.all cn hc1).1, (kc.all cn hc1).2, zip_look hj g1, true, K, F0, F, env, φ, S, ?_⟩
        cases z : f env with
        | ok d =>
          simp only [z, Res.bind] at p
          intro v H2 F2 fp x2 r nd fr
          unfold faug1 at p
          cases d with
          | int b =>
            dsimp only at p
            cases r
            unfold fput1 at p
            dsimp only at p
            rw [if_pos ⟨hc1, rfl, hc2⟩, hj] at p
            dsimp only at p
            have S2 := S.ext x2
            have hl2 := hl.ext x2
            have ha2 := x2.hh _ _ ha'
            have jl : j < ds.length := (List.getElem?_eq_some_iff.mp hdj).1
            obtain ⟨fr', k1, k2, k3⟩ := RepL.set j jl hl2 (Rep.int (n + b)) n1.2 .nil (by simp)
            refine ⟨n, b, rfl, rfl, dx, _, ha2, by omega, ?_⟩
            have k4 : noTL (ds.set j (.int (n + b))) = true := noTL_set ds j _ h3' rfl
            have afr : a ∉ fr' := fun m => by
              rcases k3 a m with w | w
              · exact n1.1 w
              · cases w
            have k1' := k1.stay _ _ _ F2 (upd H2 a (.ins (c.κ.cls cn) dx (putF fn (.int (n + b)) (ns.zip vs)))) (Same.refl _) _ _ _ (fun b m => upd_ne fun z => afr (z ▸ m)) k4
            have fin := S2.write (i := i) (a := a) (d := .nd .own (.ins cn ns) (ds.set j (.int (n + b)))) (by rw [hφ]; exact List.mem_cons_self) h1 (.ndO upd_same ⟨by rw [List.length_set]; exact hlen, dx, by rw [put_at hj hlen]⟩ k1') (List.nodup_cons.mpr ⟨afr, k2⟩) (fun b m => by
              rcases List.mem_cons.mp m with rfl | m
              · exact .inl (by rw [hφ]; exact List.mem_cons_self)
              · rcases k3 b m with w | w
                · exact .inl (by rw [hφ]; exact List.mem_cons_of_mem _ w)
                · cases w) (by rw [noT_own]; exact k4)
            exact p _ F2 _ fin
          | _ => exact p.elim
        | exc y => simp only [z, Res.bind] at p; exact fun cl dd H' s w => p cl dd H' (S.kk.trans s) (c.mono S.kk w)
        | stuck => simp only [z, Res.bind] at p; exact p
end
def faugV (cs : List Str) (fn : Str) (x : D) (c : Res D) : Res D := (insR x).bind fun t => (ofO (augI cs fn t)).bind fun n => c.bind fun d => faug1 cs fn t n d
def cmpC (Φ : List D → Res D) (c : Res (D × D)) : Res (D × D) := c.bind fun r => (callN Φ r.1).bind fun d => .ok (d, r.2)
def lcC (c : Res (D × D)) (step : D → Res (Option D)) : Res (D × D) := c.bind fun r => (itemsL r.1).bind fun xs => (lcV step xs).bind fun ys => (lstB ys).bind fun l => .ok (l, r.2)
def mrdV (C m : Str) (Φ : List D → Res D) (x : D) : Res D := if recvOk C m (some (some x)) = true then (match contOf (some (some x)) with
  | some d => callD Φ [rd d]
  | none => .stuck) else .stuck
section
variable {i k : Nat} {env : Env} {x : D} {f : Env → Res D} {fx : Res D} {cs : List Str} {fn C m : Str} {Φ : List D → Res D} {g w : Env → SR}
theorem faug_eq (hx : env[i]? = some (some x)) (hf : f env = fx) : sFAug i cs fn f env = (faugV cs fn x fx).bind fun a => .ok (.nx, env.set i (some a)) := by
  subst hf
  unfold sFAug faugV insR
  rw [ownI_of hx]
  cases insO x with
  | none => rfl
  | some t =>
    dsimp only [ofO, rb_ok]
    cases augI cs fn t with
    | none => rfl
    | some n =>
      dsimp only [ofO, rb_ok]
      cases f env <;> rfl
theorem x_mrd (hx : env[i]? = some (some x)) : eMrd C m i Φ env = mrdV C m Φ x := by
  unfold eMrd mrdV
  first
  | (rw [hx]; done)
  | rw [hx]
    by_cases h : recvOk C m (some (some x)) = true
    · rw [if_pos h, if_pos h]
      cases contOf (some (some x)) <;> rfl
    · rw [if_neg h, if_neg h]
end
section
variable {β : Type} {R : SR → Res β → Prop} {q : D → Res β} {env : Env} {u w : Env → SR} {f : Env → Res (D × Env)} {c : Res (D × D)} {e' : D → Env} {Φ : List D → Res D}
theorem x_callS (hf : f env = c.bind fun t => .ok (t.1, e' t.2)) : eCallS Φ f env = (cmpC Φ c).bind fun t => .ok (t.1, e' t.2) := by
  unfold eCallS cmpC
  rw [hf]
  cases c with
  | ok t =>
    simp only [rb_ok]
    cases callN Φ t.1 <;> rfl
  | exc y => rfl
  | stuck => rfl
theorem x_lcS {s : TgF} {t : Env → Res Bool} {g : Env → Res D} {vs : List Nat} {step : D → Res (Option D)} (hf : f env = c.bind fun t => .ok (t.1, e' t.2)) (h2 : ∀ z d, stepL s t g (wipeE vs (e' z)) d = step d) :
    eLcS f s t g vs env = (lcC c step).bind fun t => .ok (t.1, e' t.2) := by
  unfold eLcS lcC
  rw [hf]
  cases c with
  | ok r =>
    simp only [rb_ok]
    cases itemsL r.1 with
    | ok xs =>
      simp only [rb_ok]
      rw [lc_steps (h2 r.2)]
      cases lcV step xs with
      | ok ys =>
        simp only [rb_ok, lstB]
        by_cases h : ys.length ≤ bigL
        · rw [if_pos h, if_pos h]; rfl
        · rw [if_neg h, if_neg h]; rfl
      | exc y => rfl
      | stuck => rfl
    | exc y => rfl
    | stuck => rfl
  | exc y => rfl
  | stuck => rfl
theorem r_forS (hR : Rl R q) {σ : Type} (Γ : D → σ → Env) {fg : List Nat} {s : TgF} {step : D → D → σ → Res (Fo σ)} {s0 : D → σ} {k : D × D → σ → Res β} (hf : f env = c.bind fun t => .ok (t.1, e' t.2)) (h0 : ∀ z, forget fg (e' z) = Γ z (s0 z))
    (hb : ∀ z d st, RB (Γ z) fg (tgt s u d (Γ z st)) (step z d st)) (hk : ∀ (r : D × D) st, R (w (Γ r.2 st)) (k r st)) : R (sSeq (sForS f s u fg) w env) (c.bind fun t => (itemsL t.1).bind fun items => afterV (forV (step t.2) items (s0 t.2)) (k t) q) := by
  unfold sSeq sForS
  rw [hf]
  cases c with
  | ok t =>
    simp only [rb_ok]
    cases hi : itemsL t.1 with
    | ok items =>
      simp only [rb_ok]
      rw [h0]
      exact after_ok hR (forV_ok (hb t.2) items (s0 t.2)) (hk t)
    | exc y => exact absurd hi (itemsL_nox y)
    | stuck => exact hR.st _
  | exc y => exact hR.ex y
  | stuck => exact hR.st _
end
section
variable {env : Env} {u w : Env → SR} {f : Env → Res (D × Env)} {c : Res (D × D)} {e' : D → Env}
theorem f_forS {τ : Type} (Δ : D → τ → Env) {hg : List Nat} {s : TgF} {step : D → D → τ → Res (Fo τ)} {s0 : D → τ} {k : D × D → τ → Res D} (hf : f env = c.bind fun t => .ok (t.1, e' t.2)) (h0 : ∀ z, forget hg (e' z) = Δ z (s0 z)) (hb : ∀ z d st, RB (Δ z) hg (tgt s u d (Δ z st)) (step z d st)) (hk : ∀ (r : D × D) st, RF (w (Δ r.2 st)) (k r st)) :
    RF (sSeq (sForS f s u hg) w env) (c.bind fun t => (itemsL t.1).bind fun items => afterV (forV (step t.2) items (s0 t.2)) (k t) okR) := r_forS rl_F Δ hf h0 hb hk
end
def pickS {α : Type} (xs : List α) (a k : Int) : List α := (sliceRange (sliceBounds (some a) none (some k) xs.length).1 (sliceBounds (some a) none (some k) xs.length).2.1 (sliceBounds (some a) none (some k) xs.length).2.2).filterMap (xs[·]?)
theorem vals_at : ∀ {xs : List V} {its : List Value}, Vals xs its → ∀ i : Nat, (xs[i]? = none ∧ its[i]? = none) ∨ ∃ x u, xs[i]? = some x ∧ its[i]? = some u ∧ RelV x u
  | [], _, .nil, i => .inl ⟨rfl, rfl⟩
  | x :: xs, u :: us, .cons r rs, 0 => .inr ⟨x, u, rfl, rfl, r⟩
  | x :: xs, u :: us, .cons r rs, i + 1 => by
    rw [List.getElem?_cons_succ, List.getElem?_cons_succ]
    exact vals_at rs i
theorem vals_fm {xs : List V} {its : List Value} (r : Vals xs its) : ∀ l : List Nat, Vals (l.filterMap (xs[·]?)) (l.filterMap (its[·]?))
  | [] => .nil
  | i :: l => by
    rcases vals_at r i with ⟨h1, h2⟩ | ⟨x, u, h1, h2, h3⟩
    · rw [List.filterMap_cons, List.filterMap_cons, h1, h2]
      exact vals_fm r l
    · rw [List.filterMap_cons, List.filterMap_cons, h1, h2]
      exact .cons h3 (vals_fm r l)
def tStpL (K : PySem.W.Frag) (te : TE) (i k : Int) : TE := fun σ H Q => te σ H fun x H1 => ∃ a xs, x = .ref a ∧ SqL K H1 a xs ∧ ∀ p, H1 p = none → Q (.ref p) (upd H1 p (.lst (pickS xs i k)))
theorem pe_stpL {X : Cx} {e : Expr} {te : TE} {i k : Int} {c1 c2 : Nat} {p1 p2 p3 pos : Pos} (he : PE X e te) (hk : k ≠ 0)
    : PE X (.Subscript e (.Slice (some (.Constant (.int i) c1 p1)) none (some (.Constant (.int k) c2 p2)) p3) pos) (tStpL X.K te i k) := by
  refine ⟨fun pins s σ H Q I h => ?_⟩
  refine Subscript_ (thn (he.run pins s σ H _ I h) fun v s1 ⟨x, H1, I1, r1, q1⟩ => ?_)
  obtain ⟨a, xs, ex, hx, q⟩ := q1
  subst ex
  cases r1
  have hst : PO X (some (.Constant (.int k) c2 p2)) (tPart (tC (.int k))) := po_some pe_int
  have hlo : PO X (some (.Constant (.int i) c1 p1)) (tPart (tC (.int i))) := po_some pe_int
  refine wpAny_Slice (thn (hlo.run pins s1 σ H1 (fun o H2 => o = some i ∧ H2 = H1) I1 ⟨i, rfl, rfl, rfl⟩) fun vl s2 ⟨l, H2, I2, pl, el, e2⟩ => ?_)
  subst el e2
  refine thn (po_none.run pins s2 σ H2 (fun o H3 => o = none ∧ H3 = H2) I2 ⟨rfl, rfl⟩) fun vu s3 ⟨u, H3, I3, pu, eu, e3⟩ => ?_
  subst eu e3
  refine thn (hst.run pins s3 σ H3 (fun o H4 => o = some k ∧ H4 = H3) I3 ⟨k, rfl, rfl, rfl⟩) fun vs s4 ⟨o, H4, I4, ps, eo, e4⟩ => ?_
  subst eo e4
  have I5 : Inv X pins σ H4 { s4 with heap := s4.heap.push { cls := .type "slice", data := .fields #[vl, vu, vs] } } := I4.kept (t' := s4.toks) fun b ob q => Heap.get?_push_of_some _ q
  obtain ⟨its, r, ht, hz⟩ := I5.list hx
  have hlen := r.length
  show wpAny (model X.prog X.w) X.A (subscriptTail e (.Slice (some (.Constant (.int i) c1 p1)) none (some (.Constant (.int k) c2 p2)) p3) (.ref a) (.ref s4.heap.objs.size)) (EP X pins σ Q) X.xe { s4 with heap := s4.heap.push { cls := .type "slice", data := .fields #[vl, vu, vs] } }
  refine tail_any (ops := [.ref a, .ref s4.heap.objs.size]) ht.isList.typeIs (PySem.slot_list_getitem.lookup) ?_ (by with_unfolding_all rfl)
  refine wpAny_getItem_list_slice ht.isList (Heap.IsSliceOf.new _ vl vu vs) pl pu ps (by intro z; exact hk (Option.some.inj z)) ?_ (by rw [List.size_toArray]; omega)
  have ep : slicePick its.toArray (some i) none (some k) = (pickS its i k).toArray := by
    unfold slicePick pickS
    rw [List.size_toArray]
    have e0 : (fun n : Nat => its.toArray[n]?) = fun n => its[n]? := by funext n; simp
    rw [e0]
  have ln : (pickS its i k).length ≤ its.length := by
    have := slicePick_size_le its.toArray (some i) none (some k)
    rw [ep, List.size_toArray, List.size_toArray] at this
    exact this
  have lx : pickS xs i k = (sliceRange (sliceBounds (some i) none (some k) its.length).1 (sliceBounds (some i) none (some k) its.length).2.1 (sliceBounds (some i) none (some k) its.length).2.2).filterMap (xs[·]?) := by
    unfold pickS
    rw [hlen]
  have vp : Vals (pickS xs i k) (pickS its i k) := by
    rw [lx]
    exact vals_fm r _
  rw [ep]
  refine ⟨.ref _, _, I5.laid (t' := s4.toks) (o := .lst (pickS xs i k)) (fun b ob q => Heap.get?_push_of_some _ q) (Nat.le_refl _) ?_, rfl, q _ (I5.hok.fresh (Nat.le_refl _))⟩
  exact ⟨by rw [vp.length]; omega, _, 0, vp, Heap.get?_push_size _ rfl⟩
def dStp (i k : Int) (x : D) : Res D := match x with
  | .nd _ .lst ds => if k ≠ 0 then .ok (.lst .own (pickS (rdL ds) i k)) else .stuck
  | _ => .stuck
section
variable {M : PySem.W.Frag} {κ : Kap M} {F H : Hp}
theorem repL_fm {ds : List D} {vs : List V} (r : RepL κ F H ds vs []) : ∀ l : List Nat, RepL κ F H (l.filterMap (ds[·]?)) (l.filterMap (vs[·]?)) []
  | [] => .nil
  | i :: l => by
    cases h : ds[i]? with
    | none =>
      have hv : vs[i]? = none := by
        rw [List.getElem?_eq_none_iff] at h ⊢
        rw [← r.length]
        exact h
      rw [List.filterMap_cons, List.filterMap_cons, h, hv]
      exact repL_fm r l
    | some d =>
      obtain ⟨v, fq, h1, h2, h3, _⟩ := r.get i d h
      have : fq = [] := List.eq_nil_iff_forall_not_mem.mpr fun a m => absurd (h3 a m) (by simp)
      subst this
      rw [List.filterMap_cons, List.filterMap_cons, h, h1]
      exact RepL.cons (fp := []) (fq := []) h2 (repL_fm r l)
theorem repL_pick {ds : List D} {vs : List V} (r : RepL κ F H ds vs []) (i k : Int) : RepL κ F H (pickS ds i k) (pickS vs i k) [] := by
  unfold pickS
  rw [r.length]
  exact repL_fm r _
end
section
variable {X : Cx} {c : Cfg X.K} {E : XK} {e : Expr} {f : Env → Res D} {i k : Int} {c1 c2 : Nat} {p1 p2 p3 pos : Pos}
theorem ev_stp (hk : k ≠ 0) (ha : EV X c E e f) : EV X c E (.Subscript e (.Slice (some (.Constant (.int i) c1 p1)) none (some (.Constant (.int k) c2 p2)) p3) pos) (e1 (dStp i k) f) :=
  PE.imp (pe_stpL ha hk) fun σ H Q q => by
    obtain ⟨bb, K, F0, F, env, φ, S, p⟩ := q
    refine ⟨bb, K, F0, F, env, φ, S, ?_⟩
    unfold e1 at p
    cases z : f env with
    | ok d =>
      simp only [z, Res.bind] at p
      intro v H' F' fp x r nd fr
      unfold dStp at p
      split at p
      · rename_i t ds
        rw [if_pos hk] at p
        obtain ⟨a, vs, fq, rfl, h1, h2, _⟩ := r.sqL x.fh
        refine ⟨a, vs, rfl, h1, fun l hl => ?_⟩
        have r3 := repL_pick (RepL.rd _ _ _ x.fh _ _ _ h2) i k
        have x2 : Ext F' H' F' (upd H' l (.lst (pickS vs i k))) := .newO x.fh hl
        exact p (.ref l) _ F' [l] (x.trans x2) (.ndO upd_same rfl (r3.ext x2)) (by simp) fun b m => by
          rw [List.mem_singleton] at m
          subst m
          exact ⟨x.hh.free hl, x.fh.free hl⟩
      · exact p.elim
    | exc y => simp only [z, Res.bind] at p; exact p
    | stuck => simp only [z, Res.bind] at p; exact p.elim
end
end PV
end
section
namespace PV
open PySem PySem.Spec PyProof.Rows L2
def sTryN (g : Env → SR) (cs : List Str) (h : Env → SR) : Env → SR := fun env => match g env with
  | .ok q => .ok q
  | .exc x => if x.cls ∈ cs then h env else .stuck
  | .stuck => .stuck
def noxS (h : Env → SR) : Prop := ∀ env x, h env ≠ .exc x
theorem nox_set {j : Nat} {d : D} : noxS (sSet j (eC d)) := fun env x => by
  unfold sSet eC store
  simp only [Res.bind]
  split <;> simp
section
variable {X : Cx} {c : Cfg X.K} {E : XK} {body suite : List Stmt} {b₀ : Stmt} {g h : Env → SR} {cs : List Str} {C : Str} {cv : Value} {np pos pos' : Pos}
theorem es_tryN (hs : X.stack = X.env :: X.outer) (hfr : X.env.frame = some X.env.locals) (hc : Names X C cv) (tk : Takes X (fun cl d _ H => E cl d H)) (hxr : c.xr = xrC c.κ)
    (hb : BodyOk X c body g) (hh : ∀ (a : Addr) (oe : Obj) (pn : List (Addr × Obj)), EB (X.suite a ((a, oe) :: pn)) c (fun _ _ _ => False) (b₀ :: suite) h) (hnx : noxS h)
    (hcs : ∀ x ∈ cs, PySem.W.exmOne X.K (.ref (c.κ.cls x)) cv = some true) :
    ES X c E (.Try body [.ExceptHandler (some (.Name C np)) none (b₀ :: suite) pos'] [] [] pos) (sTryN g cs h) := by
  refine PS.imp (ps_try_only (tb := fun W => tBody c W g) (ts := fun a cls d Dn σ H => TSt c (fun _ _ _ => False) h Dn σ H) hs hfr hc tk (fun W pn xe t _ => hb.run W pn xe t)
    (fun a oe cls d pn hz hd => hh a oe pn)) fun Dn σ H q => ?_
  obtain ⟨K, F0, F, env, φ, S, p⟩ := q
  refine ⟨K, F0, F, env, φ, S, ?_⟩
  unfold sTryN at p
  cases z : g env with
  | stuck => rw [z] at p; exact p.elim
  | ok q => rw [z] at p; exact post_ok p
  | exc x =>
    rw [z] at p
    dsimp only at p
    by_cases hm : x.cls ∈ cs
    case neg => rw [if_neg hm] at p; exact p.elim
    rw [if_pos hm] at p
    intro cl dd H' sm xr
    rw [hxr] at xr
    obtain ⟨ht, rfl, G, vs, fq, g1, g2, g3, g4, n1, n2, n3, g5, gl, g6⟩ := xr
    refine ⟨true, hcs _ hm, fun _ a ha => ?_, fun z => nomatch z⟩
    obtain ⟨x1, x2⟩ := join_ext S.f0 S.fh sm ht g1 g2 g3
    refine ⟨K, F0, _, env, φ, S.ext x1, ?_⟩
    cases z2 : h env with
    | ok q => rw [z2] at p; exact post_ok p
    | exc y => exact absurd z2 (hnx env y)
    | stuck => rw [z2] at p; exact p.elim
end
def tryN {β : Type} (fx : Res D) (cs : List Str) (k1 : D → Res β) (k2 : Res β) : Res β := match fx with
  | .ok d => k1 d
  | .exc x => if x.cls ∈ cs then k2 else .stuck
  | .stuck => .stuck
section
variable {β : Type} {R : SR → Res β → Prop} {q : D → Res β} {env : Env} {w h : Env → SR} {cs : List Str}
theorem r_tryN {g : Env → SR} {rx : Res D} {e1 : D → Env} {k1 : D → Res β} {m2 : Res β} (hR : Rl R q) (hg : g env = rx.bind fun d => .ok (.nx, e1 d)) (h1 : ∀ a, R (w (e1 a)) (k1 a)) (h2 : R (sSeq h w env) m2) : R (sSeq (sTryN g cs h) w env) (tryN rx cs k1 m2) := by
  unfold sSeq sTryN tryN
  rw [hg]
  cases rx with
  | stuck => exact hR.st _
  | ok d => simp only [rb_ok]; exact h1 d
  | exc x =>
    simp only [rb_exc]
    by_cases hx : x.cls ∈ cs
    · rw [if_pos hx, if_pos hx]
      exact h2
    · rw [if_neg hx, if_neg hx]
      exact hR.st _
end
section
variable {env : Env} {w h : Env → SR} {cs : List Str} {g : Env → SR} {rx : Res D} {e1 : D → Env}
theorem f_tryN {k1 : D → Res D} {m2 : Res D} (hg : g env = rx.bind fun d => .ok (.nx, e1 d)) (h1 : ∀ a, RF (w (e1 a)) (k1 a)) (h2 : RF (sSeq h w env) m2) : RF (sSeq (sTryN g cs h) w env) (tryN rx cs k1 m2) := r_tryN rl_F hg h1 h2
end
@[simp] theorem tryN_ok {β : Type} {d : D} {cs : List Str} {k1 : D → Res β} {k2 : Res β} : tryN (.ok d) cs k1 k2 = k1 d := rfl
theorem tryN_exc {β : Type} {x : Exn} {cs : List Str} {k1 : D → Res β} {k2 : Res β} (h : x.cls ∈ cs) : tryN (.exc x) cs k1 k2 = k2 := by
  unfold tryN
  dsimp only
  rw [if_pos h]
end PV
namespace PV
open PySem PySem.Spec PyProof.Rows L2
section
variable {X : Cx} {c : Cfg X.K} {E : XK} {x m : Str} {j : Nat} {p p2 pos pos' : Pos}
theorem es_raise0P (as : List Addr) (M : MkX0 X.K X.mg c x) (hg : Gl X x) (hcalm : X.calm = true) (tk : Takes X (fun cl d _ H => E cl d H)) (hdb : (x == ("__debug__" : Str)) = false := by decide) :
    ES X (c.pin as) E (.Raise (some (.Call (.Name x p) [.Constant (.str m) j p2] [] pos)) none pos') (sRaise0 x) := by
  have ok := M.ok
  unfold xc0B at ok
  simp only [Bool.and_eq_true, decide_eq_true_eq] at ok
  obtain ⟨q1, q2, q3, q4⟩ := ok
  refine PS.imp (ps_raise hcalm tk (pmk_own PySem.F.excBase_ValueError q1 M.hm q2 (raises_own q3 q4) hg hdb)) fun Dn σ H q => ?_
  obtain ⟨K, F0, F, env, φ, S, z⟩ := q
  refine z _ _ H S.kk ?_
  show c.xr _ _ _ _ _
  rw [M.xr]
  have no : ∀ (a : Addr) (o : HO), (fun _ => none : Hp) a = some o → False := fun a o e => by cases e
  refine ⟨fun q hq => (tab_of (X := X) S.f0 S.fh hq).2, rfl, (fun _ => none : Hp), [], fun _ => [], ⟨fun a o e _ => (no a o e).elim, fun a ps e => (no a _ e).elim⟩, fun a o e => (no a o e).elim, fun a ps e => no a _ e, fun j z v e => ?_, fun _ => List.nodup_nil, fun _ _ _ a h => ?_, fun _ a h => ?_, rfl, rfl, .inl ⟨rfl, rfl⟩⟩
  · cases e
  · cases h
  · cases h
end
end PV
end
section
namespace PV
open PySem PySem.Spec PyProof.Rows L2
def dMulT (x y : D) : Res D := match x, y with
  | .str a, .int n => if 1 ≤ a.length ∧ a.length ≤ 1000 ∧ 0 ≤ n ∧ n ≤ 1000 then .ok (.str (Txt.mul a n)) else .stuck
  | _, _ => .stuck
theorem mulOkT {a : Str} {n : Int} (h1 : 1 ≤ a.length) (h4 : a.length ≤ 1000) (h2 : 0 ≤ n) (h3 : n ≤ 1000) : MulOk a n := by
  have hb : a.length * n.toNat ≤ 1000 * 1000 := Nat.mul_le_mul h4 (by omega)
  refine ⟨?_, fun h _ => ?_, fun h _ => ?_⟩
  · rw [Bool.or_eq_false_iff, decide_eq_false_iff_not, decide_eq_false_iff_not]
    omega
  · have : (1000 : Int) ≤ (2 ^ 63 - 1) / n := (Int.le_ediv_iff_mul_le (by omega)).mpr (by omega)
    omega
  · unfold PySem.Builtin.Str.tooLong
    have := sizeLine_eq
    rw [decide_eq_false_iff_not]
    omega
section
variable {X : Cx} {c : Cfg X.K} {E : XK} {a b : Expr} {f g : Env → Res D} {pos : Pos}
theorem op2_mulT {M : PySem.W.Frag} {c : Cfg M} : Op2 c rMulS dMulT := by
  intro E F H x y v u fx fy Q fh rx ry p
  unfold dMulT at p
  split at p
  · rename_i z n
    cases rx
    cases ry
    by_cases h : 1 ≤ z.length ∧ z.length ≤ 1000 ∧ 0 ≤ n ∧ n ≤ 1000
    · rw [if_pos h] at p
      exact ⟨_, _, rfl, rfl, mulOkT h.1 h.2.1 h.2.2.1 h.2.2.2, p.str fh⟩
    · rw [if_neg h] at p
      exact p.elim
  · exact p.elim
theorem ev_mulT (ha : EV X c E a f) (hb : EV X c E b g) : EV X c E (.BinOp a .Mult b pos) (e2 dMulT f g) := ev_op op_mulS op2_mulT ha hb
end
theorem rep_fold (xs : Array Nat) : ∀ (n : Nat) (A : Array Nat), ((List.replicate n xs).foldl (· ++ ·) A).toList = A.toList ++ (List.replicate n xs.toList).flatten
  | 0, A => by simp
  | n + 1, A => by
    rw [List.replicate_succ, List.foldl_cons, rep_fold xs n, List.replicate_succ, List.flatten_cons, Array.toList_append, List.append_assoc]
theorem mul_cps (a : Str) (n : Nat) : (Txt.mul a (n : Int)).cps.toList = (List.replicate n a.cps.toList).flatten := by
  unfold Txt.mul
  by_cases h : (n : Int) < 1
  · rw [if_pos h]
    have : n = 0 := by omega
    subst this
    rfl
  · rw [if_neg h]
    by_cases h2 : ((n : Int) == 1 || a.length == 0) = true
    · rw [if_pos h2]
      rw [Bool.or_eq_true, beq_iff_eq, beq_iff_eq] at h2
      rcases h2 with h2 | h2
      · have : n = 1 := by omega
        subst this
        simp
      · have : a.cps.toList = [] := by
          rw [← List.length_eq_zero_iff]
          exact h2
        rw [this]
        simp
    · rw [if_neg h2, rep_fold]
      simp
theorem dMulT_str {a : Str} {n : Nat} (h1 : 1 ≤ a.length) (h2 : a.length ≤ 1000) (h3 : n ≤ 1000) : dMulT (.str a) (.int (n : Int)) = .ok (.str (Txt.mul a (n : Int))) := by
  show (if 1 ≤ a.length ∧ a.length ≤ 1000 ∧ 0 ≤ (n : Int) ∧ (n : Int) ≤ 1000 then Res.ok (D.str (Txt.mul a (n : Int))) else .stuck) = _
  rw [if_pos ⟨h1, h2, by omega, by omega⟩]
section
variable {X : Cx} {c : Cfg X.K} {E : XK} {pos : Pos}
def par3 (i j l : Nat) (ds : List D) (env : Env) : SR := match ds with
  | [x, y, z] => if (noT x && (noT y && noT z)) = true then .ok (.nx, ((env.set i (some x)).set j (some y)).set l (some z)) else .stuck
  | _ => .stuck
def sPar3 (i j l : Nat) (fs : Env → Res (List D)) : Env → SR := fun env => (fs env).bind fun ds => par3 i j l ds env
theorem es_par3 (i j l : Nat) {x y z : Str} {a b e : Expr} {fs : Env → Res (List D)} {px py pz pt : Pos} {kt k2 pt2} (hc : X.calm = true) (hN : X.N.Nodup) (ha : EL X c E [a, b, e] fs) (hij : i ≠ j) (hil : i ≠ l) (hjl : j ≠ l)
    (hx : X.env.scope.names.lookup x = some .local) (hy : X.env.scope.names.lookup y = some .local) (hz : X.env.scope.names.lookup z = some .local)
    (hw : swappedStores [.Tuple [.Name x px, .Name y py, .Name z pz] kt pt] (.Tuple [a, b, e] k2 pt2) X.env = pure (some [x, y, z])) (hi : X.N[i]? = some x := by rfl) (hj : X.N[j]? = some y := by rfl) (hl : X.N[l]? = some z := by rfl)
    (hs : swapsWithSole [.Tuple [.Name x px, .Name y py, .Name z pz] kt pt] (.Tuple [a, b, e] k2 pt2) pos.line X.env = pure false := by rfl) :
    ES X c E (.Assign [.Tuple [.Name x px, .Name y py, .Name z pz] kt pt] (.Tuple [a, b, e] k2 pt2) pos) (sPar3 i j l fs) := PS.imp (ps_par3 hc hN hi hj hl hij hil hjl hx hy hz ha hw hs) fun Dn σ H q => by
  obtain ⟨K, F0, F, env, φ, S, p⟩ := q
  refine ⟨true, K, F0, F, env, φ, S, ?_⟩
  unfold sPar3 at p
  cases z : fs env with
  | ok ds =>
    simp only [z, Res.bind] at p
    intro vs H' F' fp x r nd fr
    unfold par3 at p
    split at p
    · rename_i d e g
      by_cases h : (noT d && (noT e && noT g)) = true
      · rw [if_pos h] at p
        rw [Bool.and_eq_true, Bool.and_eq_true] at h
        cases r with
        | cons r1 r2 =>
          cases r2 with
          | cons r2 r3 =>
            cases r3 with
            | cons r3 r4 =>
            cases r4
            rename_i v fa w fb u fd
            rw [List.append_nil] at nd fr
            have n2 := List.nodup_append.mp nd
            have n3 := List.nodup_append.mp n2.2.1
            refine ⟨v, w, u, rfl, ?_⟩
            have f1 : Float c.κ K F' φ H' d v fa := S.float x r1 n2.1 fun a m => fr a (List.mem_append_left _ m)
            have S1 := (S.ext x).setF f1 (fun _ => h.1) i
            have f2 : Float c.κ K F' (put φ i fa) H' e w fb := ⟨r2, n3.1, fun a m => ⟨(fr a (List.mem_append_right _ (List.mem_append_left _ m))).2, (S.apart (fr a (List.mem_append_right _ (List.mem_append_left _ m))).1).1, fun k mk => by
              by_cases hk : k = i
              · subst hk
                rw [put_same] at mk
                exact n2.2.2 a mk a (List.mem_append_left _ m) rfl
              · rw [put_ne hk] at mk
                exact (S.apart (fr a (List.mem_append_right _ (List.mem_append_left _ m))).1).2 k mk⟩⟩
            have S2 := S1.setF f2 (fun _ => h.2.1) j
            have f3 : Float c.κ K F' (put (put φ i fa) j fb) H' g u fd := ⟨r3, n3.2.1, fun a m => ⟨(fr a (List.mem_append_right _ (List.mem_append_right _ m))).2, (S.apart (fr a (List.mem_append_right _ (List.mem_append_right _ m))).1).1, fun k mk => by
              by_cases hk : k = j
              · subst hk
                rw [put_same] at mk
                exact n3.2.2 a mk a m rfl
              · rw [put_ne hk] at mk
                by_cases hk2 : k = i
                · subst hk2
                  rw [put_same] at mk
                  exact n2.2.2 a mk a (List.mem_append_right _ m) rfl
                · rw [put_ne hk2] at mk
                  exact (S.apart (fr a (List.mem_append_right _ (List.mem_append_right _ m))).1).2 k mk⟩⟩
            exact p _ _ _ _ (S2.setF f3 (fun _ => h.2.2) l)
      · rw [if_neg h] at p
        exact p.elim
    · exact p.elim
  | exc y => simp only [z, Res.bind] at p; exact fun cl dd H' s w => p cl dd H' (S.kk.trans s) (c.mono (S.kk) w)
  | stuck => simp only [z, Res.bind] at p; exact p
end
def parV3 (ds : List D) : Res (D × D × D) := match ds with
  | [x, y, z] => if (noT x && (noT y && noT z)) = true then .ok (x, y, z) else .stuck
  | _ => .stuck
section
variable {env : Env} {i j l : Nat}
theorem par3_eq {fs : Env → Res (List D)} {as : Res (List D)} (hf : fs env = as) : sPar3 i j l fs env = (as.bind parV3).bind fun a => .ok (.nx, ((env.set i (some a.1)).set j (some a.2.1)).set l (some a.2.2)) := by
  unfold sPar3
  rw [hf]
  cases as with
  | ok ds =>
    simp only [rb_ok]
    match ds with
    | [] => rfl
    | [x] => rfl
    | [x, y] => rfl
    | [x, y, z] =>
      unfold par3 parV3
      dsimp only
      by_cases h : (noT x && (noT y && noT z)) = true
      · rw [if_pos h, if_pos h]; rfl
      · rw [if_neg h, if_neg h]; rfl
    | x :: y :: z :: u :: r => rfl
  | exc x => rfl
  | stuck => rfl
variable {β : Type} {R : SR → Res β → Prop} {q : D → Res β} {w : Env → SR}
theorem r_par3 (hR : Rl R q) {fs : Env → Res (List D)} {as : Res (List D)} {k : D × D × D → Res β} (hf : fs env = as) (hk : ∀ a : D × D × D, R (w (((env.set i (some a.1)).set j (some a.2.1)).set l (some a.2.2))) (k a)) : R (sSeq (sPar3 i j l fs) w env) ((as.bind parV3).bind k) := r_seq hR (par3_eq hf) hk
theorem f_par3 {fs : Env → Res (List D)} {as : Res (List D)} {k : D × D × D → Res D} {en : D × D × D → Env} (hf : fs env = as) (he : ∀ a : D × D × D, ((env.set i (some a.1)).set j (some a.2.1)).set l (some a.2.2) = en a) (hk : ∀ a : D × D × D, RF (w (en a)) (k a)) : RF (sSeq (sPar3 i j l fs) w env) ((as.bind parV3).bind k) := r_par3 rl_F hf (fun a => (he a).symm ▸ hk a)
end
end PV
end
section
set_option maxHeartbeats 8000000
namespace Gk05
open PySem PySem.Spec PyProof.Rows L2 PV
def top (i : Nat) : Stmt := PySem.Challenge.pw_wirechannel_k05_bounds.main.body.getD i (.Pass ⟨0, 0, 0, 0⟩)
abbrev si_Channel : Stmt := inCls (top 2) 0
abbrev s_is_name : Stmt := top 3
abbrev s_name_read : Stmt := top 9
abbrev s_number_read : Stmt := top 10
abbrev s_Rows_init : Stmt := inCls (top 11) 0
abbrev s_Rows_head : Stmt := inCls (top 11) 1
abbrev s_Rows_taken : Stmt := inCls (top 11) 2
abbrev s_Rows_several : Stmt := inCls (top 11) 3
abbrev s_pins_read : Stmt := top 12
abbrev s_look_rising : Stmt := top 13
abbrev s_look_sizes : Stmt := top 14
abbrev s_read_channel : Stmt := top 15
abbrev s__law_mix : Stmt := top 17
abbrev s__law_word : Stmt := top 18
abbrev s__law_line : Stmt := top 19
abbrev s_law : Stmt := top 20
def d_is_name : He.DefD := ⟨("is_name", none), "is_name", "is_name", defArgs s_is_name, defBody s_is_name, defScope s_is_name, [], []⟩
def d_name_read : He.DefD := ⟨("name_read", none), "name_read", "name_read", defArgs s_name_read, defBody s_name_read, defScope s_name_read, [], []⟩
def d_number_read : He.DefD := ⟨("number_read", none), "number_read", "number_read", defArgs s_number_read, defBody s_number_read, defScope s_number_read, [], []⟩
def d_Rows_init : He.DefD := ⟨("Rows", some "__init__"), "__init__", "Rows.__init__", defArgs s_Rows_init, defBody s_Rows_init, defScope s_Rows_init, [], []⟩
def d_Rows_head : He.DefD := ⟨("Rows", some "head"), "head", "Rows.head", defArgs s_Rows_head, defBody s_Rows_head, defScope s_Rows_head, [], []⟩
def d_Rows_taken : He.DefD := ⟨("Rows", some "taken"), "taken", "Rows.taken", defArgs s_Rows_taken, defBody s_Rows_taken, defScope s_Rows_taken, [], []⟩
def d_Rows_several : He.DefD := ⟨("Rows", some "several"), "several", "Rows.several", defArgs s_Rows_several, defBody s_Rows_several, defScope s_Rows_several, [], []⟩
def d_pins_read : He.DefD := ⟨("pins_read", none), "pins_read", "pins_read", defArgs s_pins_read, defBody s_pins_read, defScope s_pins_read, [], []⟩
def d_look_rising : He.DefD := ⟨("look_rising", none), "look_rising", "look_rising", defArgs s_look_rising, defBody s_look_rising, defScope s_look_rising, [], []⟩
def d_look_sizes : He.DefD := ⟨("look_sizes", none), "look_sizes", "look_sizes", defArgs s_look_sizes, defBody s_look_sizes, defScope s_look_sizes, [], []⟩
def d_read_channel : He.DefD := ⟨("read_channel", none), "read_channel", "read_channel", defArgs s_read_channel, defBody s_read_channel, defScope s_read_channel, [], []⟩
def d__law_mix : He.DefD := ⟨("_law_mix", none), "_law_mix", "_law_mix", defArgs s__law_mix, defBody s__law_mix, defScope s__law_mix, [], []⟩
def d__law_word : He.DefD := ⟨("_law_word", none), "_law_word", "_law_word", defArgs s__law_word, defBody s__law_word, defScope s__law_word, [], []⟩
def d__law_line : He.DefD := ⟨("_law_line", none), "_law_line", "_law_line", defArgs s__law_line, defBody s__law_line, defScope s__law_line, [], []⟩
def d_law : He.DefD := ⟨("law", none), "law", "law", defArgs s_law, defBody s_law, defScope s_law, [], []⟩
def di_Channel : He.DefD := ⟨("Channel", some "__init__"), "__init__", "Channel.__init__", defArgs si_Channel, defBody si_Channel, defScope si_Channel, [], []⟩
def fn : List He.DefD := [d_is_name, d_name_read, d_number_read, d_Rows_init, d_Rows_head, d_Rows_taken, d_Rows_several, d_pins_read, d_look_rising, d_look_sizes, d_read_channel, d__law_mix, d__law_word, d__law_line, d_law, di_Channel]
def fa : List He.Fa := [.glo "is_name", .glo "name_read", .glo "number_read", .glo "pins_read", .glo "look_rising", .glo "look_sizes", .glo "read_channel", .glo "_law_mix", .glo "_law_word", .glo "_law_line", .glo "law", .glo "Rows", .mkr "Rows", .cls "Rows", .meth "Rows" "head", .meth "Rows" "taken", .meth "Rows" "several", .glo "Channel", .mkr "Channel", .cls "Channel", .noat "Channel" "top", .noat "Channel" "bottom", .noat "Channel" "left", .noat "Channel" "right", .noat "Channel" "wide", .noat "Channel" "bends", .noat "Channel" "keeps", .glo "BadText", .noat "Rows" "front", .noat "Rows" "rows", .str "FIGURES" "0123456789", .str "LETTERS" "abcdefghijklmnopqrstuvwxyz", .free "enumerate", .free "int", .free "len", .free "max", .free "range", .free "set", .free "sorted", .free "str", .free "sum"]
def tn : List (He.Defn × Str) := []
def tf : List He.Defn := tn.map (·.1)
def ex (K : PySem.W.Frag) : Bool := decide ((tn.map fun p => (He.cT K p.1).2).Nodup) && (decide (PySem.W.exmOne K (.ref (He.ga K "BadText")) (.ref (He.ga K "BadText")) = some true) && (decide (xc0B K (He.ga K "BadText") = true) && (decide (excB K (He.ga K "BadText") = true) && (true))))
abbrev R : PySem.W.OpenRow := PySem.W.OpenLaw.row PySem.Challenge.rw_wirechannel_k05_bounds
abbrev hk : PySem.W.Hook := hookY 4 fa fn tf ex
def ob (s : PySem.W.SharedT) : He.AlX := lookY 4 fa fn tf ex (HandSHeadRun.getT s)
theorem ob_eq (s : PySem.W.SharedT) : ob s = hk.obs s.abs := lookY_eq (HandSHeadRun.getT_eq s)
def loose : List Str := ["LETTERS", "Channel", "is_name", "WireError", "BadText", "FIGURES", "name_read", "number_read", "Rows", "pins_read", "look_rising", "look_sizes", "read_channel", "_law_mix", "_law_word", "_law_line"]
set_option maxHeartbeats 0 in
theorem run (w : World) : HandSHeadRun.RunEq R (PySem.W.view R.prog [20]) hk ob 9000 loose w := by
  intro os
  kernel_rfl
end Gk05
end
section
set_option maxHeartbeats 8000000
namespace Gw
open PySem PySem.Spec PyProof.Rows L2 PV
def N__law_mix : List Str := ["_law_cell", "_law_k"]
def g__law_mix : PV.Env → SR := sRet (e2 dDiv (e2 dMod (e2 dAdd (e2 dAdd (e2 dMul (e2 dMod (eVar 0) (e2 dPow (eC (.int 10)) (eC (.int 30)))) (e2 dAdd (e2 dMul (eVar 1) (eVar 1)) (eC (.int 48271)))) (e2 dMul (e2 dMul (e2 dMul (eC (.int 7919)) (eVar 1)) (eVar 1)) (eVar 1))) (eC (.int 11))) (eC (.int 2147483647))) (eC (.int 7)))
def Φ__law_mix : List D → Res D := runF N__law_mix.length g__law_mix
def b_is_name_1 : PV.Env → SR := sIf (eB (e2 dIn0 (eVar 1) (eC (.str "abcdefghijklmnopqrstuvwxyz")))) (sRet (eC (.bl false))) (sNil)
def N_is_name : List Str := ["word", "sign"]
def g_is_name : PV.Env → SR := sSeq (sIf (bOr (eB (e2 dEq (eC_ dLen (lCons (eVar 0) (lNil))) (eC (.int 0)))) (eB (e2 dGt (eC_ dLen (lCons (eVar 0) (lNil))) (eC (.int 6))))) (sRet (eC (.bl false))) (sNil)) (sSeq (sFor (yLift (yVal true (eVar 0))) (put1 1) (b_is_name_1) [1]) (sRet (eC (.bl true))))
def Φ_is_name : List D → Res D := runF N_is_name.length g_is_name
def B_is_name_1 (t3 : D) : Res (Fo Unit) :=
  ((chk t3).bind fun t4 => (ifR ((dIn0 (rd t4) (D.str "abcdefghijklmnopqrstuvwxyz")).bind asB)
  (rtR (D.bl false))
  (Res.ok (Fo.nx ()))))
theorem bo_B_is_name_1 (o_0 : Option D) (t3 : D) : RB (fun s : Unit => [o_0, none]) [1] (tgt (put1 1) b_is_name_1 t3 [o_0, none]) (B_is_name_1 t3) := b_tgt (en := fun t4 => [o_0, some t4]) t_1 (chk_nox t3) (fun _ => rfl) fun t4 => (b_last (b_if (tx := ((dIn0 (rd t4) (D.str "abcdefghijklmnopqrstuvwxyz")).bind asB)) rfl (b_retC (x := (D.bl false)) rfl rfl) (b_nil (r_nilB rfl))))
def M_is_name (v_word : D) : Res D :=
  (ifR (ifR ((((dLen [(rd v_word)])).bind fun t1 => (dEq t1 (D.int 0))).bind asB) (Res.ok true) ((((dLen [(rd v_word)])).bind fun t2 => (dGt t2 (D.int 6))).bind asB))
  (okR (D.bl false))
  (((itemsOf true (rd v_word))).bind fun t6 => (afterV (forV (fun d s => B_is_name_1 d) t6 ()) (fun t5 =>
  (okR (D.bl true))) okR)))
theorem me_is_name (v_word : D) : RF (g_is_name [some v_word, none]) (M_is_name v_word) := (f_last (f_assoc (f_if (tx := (ifR ((((dLen [(rd v_word)])).bind fun t1 => (dEq t1 (D.int 0))).bind asB) (Res.ok true) ((((dLen [(rd v_word)])).bind fun t2 => (dGt t2 (D.int 6))).bind asB))) (x_bOr (pa := ((((dLen [(rd v_word)])).bind fun t1 => (dEq t1 (D.int 0))).bind asB)) (qa := ((((dLen [(rd v_word)])).bind fun t2 => (dGt t2 (D.int 6))).bind asB)) (x_B (a := (((dLen [(rd v_word)])).bind fun t1 => (dEq t1 (D.int 0)))) (x_e2 (a := (dLen [(rd v_word)])) (b := (Res.ok (D.int 0))) (x_eC (as := (Res.ok [(rd v_word)])) (x_consP (a := (rd v_word)) (as := []) rfl rfl)) rfl)) (x_B (a := (((dLen [(rd v_word)])).bind fun t2 => (dGt t2 (D.int 6)))) (x_e2 (a := (dLen [(rd v_word)])) (b := (Res.ok (D.int 6))) (x_eC (as := (Res.ok [(rd v_word)])) (x_consP (a := (rd v_word)) (as := []) rfl rfl)) rfl))) (f_retC (x := (D.bl false)) rfl rfl) (f_nil (f_assoc (f_for (fun s : Unit => [some v_word, none]) (step := (fun d s => B_is_name_1 d)) (s0 := ()) (ix := (itemsOf true (rd v_word))) rfl rfl (fun d s => bo_B_is_name_1 (some v_word) d) fun t5 => (f_retC (x := (D.bl true)) rfl rfl)))))))
def Ψ_is_name (ds : List D) : Res D := match ds with
  | [a0] => M_is_name a0
  | _ => Res.stuck
theorem ps_is_name (ds : List D) : Ψ_is_name ds = Res.stuck ∨ Φ_is_name ds = Ψ_is_name ds := by
  unfold Ψ_is_name
  split
  · exact phi_of rfl (me_is_name _)
  · exact .inl rfl
def N_name_read_x : List Str := ["word"]
def g_name_read_x : PV.Env → SR := sSeq (sIf (bNot (eT (eCall (lenIs 1 Ψ_is_name) [] (lCons (eVar 0) (lNil))))) (sRaise0 "BadText") (sNil)) (sRetV 0)
def Φ_name_read_x : List D → Res D := runF N_name_read_x.length g_name_read_x
def M_name_read_x (v_word : D) : Res D :=
  (ifR (((callD (lenIs 1 Ψ_is_name) [(rd v_word)]).bind tru).bind fun t1 => Res.ok (!t1))
  (raise0 "BadText")
  (okR v_word))
theorem me_name_read_x (v_word : D) : RF (g_name_read_x [some v_word]) (M_name_read_x v_word) := (f_last (f_assoc (f_if (tx := (((callD (lenIs 1 Ψ_is_name) [(rd v_word)]).bind tru).bind fun t1 => Res.ok (!t1))) (x_bNot (pa := ((callD (lenIs 1 Ψ_is_name) [(rd v_word)]).bind tru)) (x_T (a := (callD (lenIs 1 Ψ_is_name) [(rd v_word)])) (x_callP (as := [(rd v_word)]) (x_consP (a := (rd v_word)) (as := []) rfl rfl) rfl))) f_raise0 (f_nil (f_retV rfl)))))
def Ψ_name_read_x (ds : List D) : Res D := match ds with
  | [a0] => M_name_read_x a0
  | _ => Res.stuck
theorem ps_name_read_x (ds : List D) : Ψ_name_read_x ds = Res.stuck ∨ Φ_name_read_x ds = Ψ_name_read_x ds := by
  unfold Ψ_name_read_x
  split
  · exact phi_of rfl (me_name_read_x _)
  · exact .inl rfl
def b_number_read_x_1 : PV.Env → SR := sIf (eB (e2 dIn0 (eVar 1) (eC (.str "0123456789")))) (sRaise0 "BadText") (sNil)
def N_number_read_x : List Str := ["word", "sign"]
def g_number_read_x : PV.Env → SR := sSeq (sIf (bOr (eB (e2 dGt (eC_ dLen (lCons (eVar 0) (lNil))) (eC (.int 2)))) (bAnd (eB (e2 dEq (eC_ dLen (lCons (eVar 0) (lNil))) (eC (.int 2)))) (eB (e2 dEq (e2 dIx (eVar 0) (eC (.int 0))) (eC (.str "0")))))) (sRaise0 "BadText") (sNil)) (sSeq (sFor (yLift (yVal true (eVar 0))) (put1 1) (b_number_read_x_1) [1]) (sRet (eC_ dInt (lCons (eVar 0) (lNil)))))
def Φ_number_read_x : List D → Res D := runF N_number_read_x.length g_number_read_x
def B_number_read_x_1 (v_word : D) (t4 : D) : Res (Fo Unit) :=
  ((chk t4).bind fun t5 => (ifR ((dIn0 (rd t5) (D.str "0123456789")).bind asB)
  (raise0 "BadText")
  (Res.ok (Fo.nx ()))))
theorem bo_B_number_read_x_1 (v_word : D) (t4 : D) : RB (fun s : Unit => [some v_word, none]) [1] (tgt (put1 1) b_number_read_x_1 t4 [some v_word, none]) (B_number_read_x_1 v_word t4) := b_tgt (en := fun t5 => [some v_word, some t5]) t_1 (chk_nox t4) (fun _ => rfl) fun t5 => (b_last (b_if (tx := ((dIn0 (rd t5) (D.str "0123456789")).bind asB)) rfl b_raise0 (b_nil (r_nilB rfl))))
def M_number_read_x (v_word : D) : Res D :=
  (ifR (ifR ((((dLen [(rd v_word)])).bind fun t1 => (dGt t1 (D.int 2))).bind asB) (Res.ok true) (ifR ((((dLen [(rd v_word)])).bind fun t2 => (dEq t2 (D.int 2))).bind asB) ((((dIx (rd v_word) (D.int 0))).bind fun t3 => (dEq t3 (D.str "0"))).bind asB) (Res.ok false)))
  (raise0 "BadText")
  (((itemsOf true (rd v_word))).bind fun t7 => (afterV (forV (fun d s => B_number_read_x_1 v_word d) t7 ()) (fun t6 =>
  (((dInt [(rd v_word)]).bind chk).bind okR)) okR)))
theorem me_number_read_x (v_word : D) : RF (g_number_read_x [some v_word, none]) (M_number_read_x v_word) := (f_last (f_assoc (f_if (tx := (ifR ((((dLen [(rd v_word)])).bind fun t1 => (dGt t1 (D.int 2))).bind asB) (Res.ok true) (ifR ((((dLen [(rd v_word)])).bind fun t2 => (dEq t2 (D.int 2))).bind asB) ((((dIx (rd v_word) (D.int 0))).bind fun t3 => (dEq t3 (D.str "0"))).bind asB) (Res.ok false)))) (x_bOr (pa := ((((dLen [(rd v_word)])).bind fun t1 => (dGt t1 (D.int 2))).bind asB)) (qa := (ifR ((((dLen [(rd v_word)])).bind fun t2 => (dEq t2 (D.int 2))).bind asB) ((((dIx (rd v_word) (D.int 0))).bind fun t3 => (dEq t3 (D.str "0"))).bind asB) (Res.ok false))) (x_B (a := (((dLen [(rd v_word)])).bind fun t1 => (dGt t1 (D.int 2)))) (x_e2 (a := (dLen [(rd v_word)])) (b := (Res.ok (D.int 2))) (x_eC (as := (Res.ok [(rd v_word)])) (x_consP (a := (rd v_word)) (as := []) rfl rfl)) rfl)) (x_bAnd (pa := ((((dLen [(rd v_word)])).bind fun t2 => (dEq t2 (D.int 2))).bind asB)) (qa := ((((dIx (rd v_word) (D.int 0))).bind fun t3 => (dEq t3 (D.str "0"))).bind asB)) (x_B (a := (((dLen [(rd v_word)])).bind fun t2 => (dEq t2 (D.int 2)))) (x_e2 (a := (dLen [(rd v_word)])) (b := (Res.ok (D.int 2))) (x_eC (as := (Res.ok [(rd v_word)])) (x_consP (a := (rd v_word)) (as := []) rfl rfl)) rfl)) rfl)) f_raise0 (f_nil (f_assoc (f_for (fun s : Unit => [some v_word, none]) (step := (fun d s => B_number_read_x_1 v_word d)) (s0 := ()) (ix := (itemsOf true (rd v_word))) rfl rfl (fun d s => bo_B_number_read_x_1 v_word d) fun t6 => (f_ret (fx := (dInt [(rd v_word)])) (x_eC (as := (Res.ok [(rd v_word)])) (x_consP (a := (rd v_word)) (as := []) rfl rfl)))))))))
def Ψ_number_read_x (ds : List D) : Res D := match ds with
  | [a0] => M_number_read_x a0
  | _ => Res.stuck
theorem ps_number_read_x (ds : List D) : Ψ_number_read_x ds = Res.stuck ∨ Φ_number_read_x ds = Ψ_number_read_x ds := by
  unfold Ψ_number_read_x
  split
  · exact phi_of rfl (me_number_read_x _)
  · exact .inl rfl
def q_Rows_init_1 : PV.Env → Res D := eVar 4
def t_Rows_init_1 : PV.Env → Res Bool := eB (e2 dNe (eVar 4) (eC (.str "")))
def b_Rows_init_1 : PV.Env → SR := sSeq (sSet 3 (eLc (yVal false (e1 (dSplit " ") (eVar 2))) (putb 4) (t_Rows_init_1) (q_Rows_init_1) [4])) (sIf (eB (e2 dGt (eC_ dLen (lCons (eVar 3) (lNil))) (eC (.int 0)))) (sFrz 3 (sPin 0 (sFApp 0 ["Rows"] "rows" (eVar 3)))) (sNil))
def N_Rows_init : List Str := ["self", "text", "line", "row", "word"]
def g_Rows_init : PV.Env → SR := sSeq (sSeq (sPin 0 (sFPut 0 ["Rows"] "rows" (eLst (lNil)))) (sSeq (sFor (yLift (yVal true (e1 (dSplit "\n") (eVar 1)))) (put1 2) (b_Rows_init_1) [2, 3]) (sPin 0 (sFPut 0 ["Rows"] "front" (eC (.int 0)))))) (sEndIO [0])
def Φ_Rows_init : List D → Res D := runF N_Rows_init.length g_Rows_init
def B_Rows_init_1 (t3 : D) (v_self : D) : Res (Fo D) :=
  ((chk t3).bind fun t4 => ((((((((dSplit " ") (rd t4))).bind fun t5 => (itemsOf false t5))).bind fun t8 => ((lcV (fun t6 => (ifR ((dNe (rd t6) (D.str "")).bind asB) ((chk (rd t6)).bind fun y => Res.ok (some y)) (Res.ok none))) t8).bind lstB)).bind chk).bind fun v_row =>
  (ifR ((((dLen [(rd v_row)])).bind fun t9 => (dGt t9 (D.int 0))).bind asB)
  ((pinOp (fun t10 => (fappV ["Rows"] "rows" t10 (Res.ok (rd (fz v_row))))) v_self).bind fun v_self =>
  (Res.ok (Fo.nx v_self)))
  (Res.ok (Fo.nx v_self)))))
theorem bo_B_Rows_init_1 (o_1 : Option D) (t3 : D) (v_self : D) : RB (fun s : D => [some s, o_1, none, none, none]) [2 , 3] (tgt (put1 2) b_Rows_init_1 t3 [some v_self, o_1, none, none, none]) (B_Rows_init_1 t3 v_self) := b_tgt (en := fun t4 => [some v_self, o_1, some t4, none, none]) t_1 (chk_nox t3) (fun _ => rfl) fun t4 => (b_last (b_assoc (b_set (fx := ((((((dSplit " ") (rd t4))).bind fun t5 => (itemsOf false t5))).bind fun t8 => ((lcV (fun t6 => (ifR ((dNe (rd t6) (D.str "")).bind asB) ((chk (rd t6)).bind fun y => Res.ok (some y)) (Res.ok none))) t8).bind lstB))) (en := fun v_row => [some v_self, o_1, some t4, some v_row, none]) (x_lc (ix := ((((dSplit " ") (rd t4))).bind fun t5 => (itemsOf false t5))) (step := fun t6 => (ifR ((dNe (rd t6) (D.str "")).bind asB) ((chk (rd t6)).bind fun y => Res.ok (some y)) (Res.ok none))) rfl rfl (fun t6 => t_lcb (tt := ((dNe (rd t6) (D.str "")).bind asB)) (fx := (Res.ok (rd t6))) rfl rfl)) (fun _ => rfl) fun v_row => (b_if (tx := ((((dLen [(rd v_row)])).bind fun t9 => (dGt t9 (D.int 0))).bind asB)) (x_B (a := (((dLen [(rd v_row)])).bind fun t9 => (dGt t9 (D.int 0)))) (x_e2 (a := (dLen [(rd v_row)])) (b := (Res.ok (D.int 0))) (x_eC (as := (Res.ok [(rd v_row)])) (x_consP (a := (rd v_row)) (as := []) rfl rfl)) rfl)) (b_frz (en := [some v_self, o_1, some t4, some (fz v_row), none]) rfl (b_pin (h := fun t10 => (fappV ["Rows"] "rows" t10 (Res.ok (rd (fz v_row))))) (en := fun v_self => [some v_self, o_1, some t4, some (fz v_row), none]) rfl (fun t10 => fapp_eq (x := t10) (fx := (Res.ok (rd (fz v_row)))) rfl rfl) (fun _ => rfl) fun v_self => (r_nilB rfl))) (b_nil (r_nilB rfl))))))
def M_Rows_init (v_self : D) (v_text : D) : Res D :=
  ((pinOp (fun t1 => (fputV ["Rows"] "rows" t1 (Res.ok (D.lst Tag.own [])))) v_self).bind fun v_self =>
  ((((((dSplit "\n") (rd v_text))).bind fun t2 => (itemsOf true t2))).bind fun t13 => (afterV (forV (fun d s => B_Rows_init_1 d s) t13 v_self) (fun t11 =>
  ((pinOp (fun t12 => (fputV ["Rows"] "front" t12 (Res.ok (D.int 0)))) t11).bind fun v_self =>
  ((packV [v_self] D.non).bind okR))) okR)))
theorem me_Rows_init (v_self : D) (v_text : D) : RF (g_Rows_init [some v_self, some v_text, none, none, none]) (M_Rows_init v_self v_text) := (f_last (f_assoc (f_assoc (f_pin (h := fun t1 => (fputV ["Rows"] "rows" t1 (Res.ok (D.lst Tag.own [])))) (en := fun v_self => [some v_self, some v_text, none, none, none]) rfl (fun t1 => fput_eq (x := t1) (fx := (Res.ok (D.lst Tag.own []))) rfl (x_lstP (ds := []) rfl 0 rfl rfl)) (fun _ => rfl) fun v_self => (f_assoc (f_for (fun s : D => [some s, some v_text, none, none, none]) (step := (fun d s => B_Rows_init_1 d s)) (s0 := v_self) (ix := ((((dSplit "\n") (rd v_text))).bind fun t2 => (itemsOf true t2))) rfl rfl (fun d s => bo_B_Rows_init_1 (some v_text) d s) fun t11 => (f_pin (h := fun t12 => (fputV ["Rows"] "front" t12 (Res.ok (D.int 0)))) (en := fun v_self => [some v_self, some v_text, none, none, none]) rfl (fun t12 => fput_eq (x := t12) (fx := (Res.ok (D.int 0))) rfl rfl) (fun _ => rfl) fun v_self => (f_packE (pins1 rfl)))))))))
def Ψ_Rows_init (ds : List D) : Res D := match ds with
  | [a0, a1] => M_Rows_init a0 a1
  | _ => Res.stuck
theorem ps_Rows_init (ds : List D) : Ψ_Rows_init ds = Res.stuck ∨ Φ_Rows_init ds = Ψ_Rows_init ds := by
  unfold Ψ_Rows_init
  split
  · exact phi_of rfl (me_Rows_init _ _)
  · exact .inl rfl
def N_Rows_head : List Str := ["self"]
def g_Rows_head : PV.Env → SR := sSeq (sIf (eB (e2 dLt (e1 (dFld ["Rows"] "front") (eVar 0)) (eC_ dLen (lCons (e1 (dFld ["Rows"] "rows") (eVar 0)) (lNil))))) (sRet (e2 dIx (e2 dIx (e1 (dFld ["Rows"] "rows") (eVar 0)) (e1 (dFld ["Rows"] "front") (eVar 0))) (eC (.int 0)))) (sNil)) (sRet (eC (.str "")))
def Φ_Rows_head : List D → Res D := runF N_Rows_head.length g_Rows_head
def M_Rows_head (v_self : D) : Res D :=
  (ifR (((((dFld ["Rows"] "front") (rd v_self))).bind fun t3 => ((((((((dFld ["Rows"] "rows") (rd v_self))).bind fun t1 => Res.ok [t1])).bind fun t2 => (dLen t2))).bind fun t4 => (dLt t3 t4))).bind asB)
  ((((((((dFld ["Rows"] "rows") (rd v_self))).bind fun t5 => ((((dFld ["Rows"] "front") (rd v_self))).bind fun t6 => (dIx t5 t6)))).bind fun t7 => (dIx t7 (D.int 0))).bind chk).bind okR)
  (okR (D.str "")))
theorem me_Rows_head (v_self : D) : RF (g_Rows_head [some v_self]) (M_Rows_head v_self) := (f_last (f_assoc (f_if (tx := (((((dFld ["Rows"] "front") (rd v_self))).bind fun t3 => ((((((((dFld ["Rows"] "rows") (rd v_self))).bind fun t1 => Res.ok [t1])).bind fun t2 => (dLen t2))).bind fun t4 => (dLt t3 t4))).bind asB)) (x_B (a := ((((dFld ["Rows"] "front") (rd v_self))).bind fun t3 => ((((((((dFld ["Rows"] "rows") (rd v_self))).bind fun t1 => Res.ok [t1])).bind fun t2 => (dLen t2))).bind fun t4 => (dLt t3 t4)))) (x_e2 (a := ((dFld ["Rows"] "front") (rd v_self))) (b := ((((((dFld ["Rows"] "rows") (rd v_self))).bind fun t1 => Res.ok [t1])).bind fun t2 => (dLen t2))) rfl (x_eC (as := ((((dFld ["Rows"] "rows") (rd v_self))).bind fun t1 => Res.ok [t1])) (x_cons (a := ((dFld ["Rows"] "rows") (rd v_self))) (as := (Res.ok [])) rfl rfl)))) (f_ret (fx := ((((((dFld ["Rows"] "rows") (rd v_self))).bind fun t5 => ((((dFld ["Rows"] "front") (rd v_self))).bind fun t6 => (dIx t5 t6)))).bind fun t7 => (dIx t7 (D.int 0)))) rfl) (f_nil (f_retC (x := (D.str "")) rfl rfl)))))
def Ψ_Rows_head (ds : List D) : Res D := match ds with
  | [a0] => M_Rows_head a0
  | _ => Res.stuck
theorem ps_Rows_head (ds : List D) : Ψ_Rows_head ds = Res.stuck ∨ Φ_Rows_head ds = Ψ_Rows_head ds := by
  unfold Ψ_Rows_head
  split
  · exact phi_of rfl (me_Rows_head _)
  · exact .inl rfl
def N_Rows_taken_x : List Str := ["self", "head"]
def g_Rows_taken_x : PV.Env → SR := sSeq (sSeq (sIf (eB (e2 dNe (eMrd "Rows" "head" 0 (lenIs 1 Ψ_Rows_head)) (eVar 1))) (sRaise0 "BadText") (sNil)) (sSeq (sPin 0 (sFAug 0 ["Rows"] "front" (eC (.int 1)))) (sRetIO [0] (eSl (e2 dIx (e1 (dFld ["Rows"] "rows") (eVar 0)) (e2 dSub (e1 (dFld ["Rows"] "front") (eVar 0)) (eC (.int 1)))) (oSome (eC (.int 1))) (oNo))))) (sEndIO [0])
def Φ_Rows_taken_x : List D → Res D := runF N_Rows_taken_x.length g_Rows_taken_x
def M_Rows_taken_x (v_self : D) (v_head : D) : Res D :=
  (ifR ((((mrdV "Rows" "head" (lenIs 1 Ψ_Rows_head) v_self)).bind fun t1 => (dNe t1 (rd v_head))).bind asB)
  (raise0 "BadText")
  ((pinOp (fun t2 => (faugV ["Rows"] "front" t2 (Res.ok (D.int 1)))) v_self).bind fun v_self =>
  (((((((((dFld ["Rows"] "rows") (rd v_self))).bind fun t4 => ((((((dFld ["Rows"] "front") (rd v_self))).bind fun t3 => (dSub t3 (D.int 1)))).bind fun t5 => (dIx t4 t5)))).bind fun t6 => (dSl t6 (some 1) none)).bind chk).bind (packV [v_self])).bind okR)))
theorem me_Rows_taken_x (v_self : D) (v_head : D) : RF (g_Rows_taken_x [some v_self, some v_head]) (M_Rows_taken_x v_self v_head) := (f_last (f_assoc (f_assoc (f_if (tx := ((((mrdV "Rows" "head" (lenIs 1 Ψ_Rows_head) v_self)).bind fun t1 => (dNe t1 (rd v_head))).bind asB)) (x_B (a := (((mrdV "Rows" "head" (lenIs 1 Ψ_Rows_head) v_self)).bind fun t1 => (dNe t1 (rd v_head)))) (x_e2 (a := (mrdV "Rows" "head" (lenIs 1 Ψ_Rows_head) v_self)) (b := (Res.ok (rd v_head))) (x_mrd rfl) rfl)) f_raise0 (f_nil (f_assoc (f_pin (h := fun t2 => (faugV ["Rows"] "front" t2 (Res.ok (D.int 1)))) (en := fun v_self => [some v_self, some v_head]) rfl (fun t2 => faug_eq (x := t2) (fx := (Res.ok (D.int 1))) rfl rfl) (fun _ => rfl) fun v_self => (f_packR (fx := ((((((dFld ["Rows"] "rows") (rd v_self))).bind fun t4 => ((((((dFld ["Rows"] "front") (rd v_self))).bind fun t3 => (dSub t3 (D.int 1)))).bind fun t5 => (dIx t4 t5)))).bind fun t6 => (dSl t6 (some 1) none))) (pins1 rfl) rfl))))))))
def Ψ_Rows_taken_x (ds : List D) : Res D := match ds with
  | [a0, a1] => M_Rows_taken_x a0 a1
  | _ => Res.stuck
theorem ps_Rows_taken_x (ds : List D) : Ψ_Rows_taken_x ds = Res.stuck ∨ Φ_Rows_taken_x ds = Ψ_Rows_taken_x ds := by
  unfold Ψ_Rows_taken_x
  split
  · exact phi_of rfl (me_Rows_taken_x _ _)
  · exact .inl rfl
def m_Rows_several_x_1 : PV.Env → Nat := fun _ => 1000000 -- self.head() == head
def b_Rows_several_x_1 : PV.Env → SR := sSeq (sSetS 4 (eIOM "Rows" "taken" 0 (lenIs 2 Ψ_Rows_taken_x) (lCons (eVar 1) (lNil)))) (sSeq (sIf (eB (e2 dNe (eC_ dLen (lCons (eVar 4) (lNil))) (eVar 2))) (sRaise0 "BadText") (sNil)) (sFrz 4 (sApp 3 (eVar 4))))
def t_Rows_several_x_1 : PV.Env → Res Bool := eB (e2 dEq (eMrd "Rows" "head" 0 (lenIs 1 Ψ_Rows_head)) (eVar 1))
def N_Rows_several_x : List Str := ["self", "head", "many", "found", "row"]
def g_Rows_several_x : PV.Env → SR := sSeq (sSeq (sSet 3 (eLst (lNil))) (sSeq (sWhile m_Rows_several_x_1 (t_Rows_several_x_1) (b_Rows_several_x_1) [4]) (sRetVIO [0] 3))) (sEndIO [0])
def Φ_Rows_several_x : List D → Res D := runF N_Rows_several_x.length g_Rows_several_x
def B_Rows_several_x_1 (v_head : D) (v_many : D) (v_self : D) (v_found : D) : Res (Fo (D × D)) :=
  (((callM "Rows" "taken" (lenIs 2 Ψ_Rows_taken_x) v_self (Res.ok [(rd v_head)])).bind chk1).bind fun t1 =>
  (ifR ((((dLen [(rd t1.1)])).bind fun t2 => (dNe t2 (rd v_many))).bind asB)
  (raise0 "BadText")
  ((appV v_found (Res.ok (rd (fz t1.1)))).bind fun v_found =>
  (Res.ok (Fo.nx (t1.2, v_found))))))
def TB_Rows_several_x_1 (v_head : D) (v_many : D) (v_self : D) (v_found : D) : Res Bool :=
  ((((mrdV "Rows" "head" (lenIs 1 Ψ_Rows_head) v_self)).bind fun t3 => (dEq t3 (rd v_head))).bind asB)
theorem bo_B_Rows_several_x_1 (v_head : D) (v_many : D) (v_self : D) (v_found : D) : RB (fun s : (D × D) => [some s.1, some v_head, some v_many, some s.2, none]) [4] (b_Rows_several_x_1 [some v_self, some v_head, some v_many, some v_found, none]) (B_Rows_several_x_1 v_head v_many v_self v_found) := (b_last (b_assoc (b_setS (e' := (fun d => [some d, some v_head, some v_many, some v_found, none])) (en := fun t1 => [some t1.2, some v_head, some v_many, some v_found, some t1.1]) (x_ioM (as := (Res.ok [(rd v_head)])) rfl (x_consP (a := (rd v_head)) (as := []) rfl rfl)) (fun _ => rfl) fun t1 => (b_assoc (b_if (tx := ((((dLen [(rd t1.1)])).bind fun t2 => (dNe t2 (rd v_many))).bind asB)) (x_B (a := (((dLen [(rd t1.1)])).bind fun t2 => (dNe t2 (rd v_many)))) (x_e2 (a := (dLen [(rd t1.1)])) (b := (Res.ok (rd v_many))) (x_eC (as := (Res.ok [(rd t1.1)])) (x_consP (a := (rd t1.1)) (as := []) rfl rfl)) rfl)) b_raise0 (b_nil (b_frz (en := [some t1.2, some v_head, some v_many, some v_found, some (fz t1.1)]) rfl (b_app (fx := (Res.ok (rd (fz t1.1)))) (en := fun v_found => [some t1.2, some v_head, some v_many, some v_found, some (fz t1.1)]) rfl rfl (fun _ => rfl) fun v_found => (r_nilB rfl)))))))))
theorem to_B_Rows_several_x_1 (v_head : D) (v_many : D) (v_self : D) (v_found : D) : t_Rows_several_x_1 [some v_self, some v_head, some v_many, some v_found, none] = TB_Rows_several_x_1 v_head v_many v_self v_found := (x_B (a := (((mrdV "Rows" "head" (lenIs 1 Ψ_Rows_head) v_self)).bind fun t3 => (dEq t3 (rd v_head)))) (x_e2 (a := (mrdV "Rows" "head" (lenIs 1 Ψ_Rows_head) v_self)) (b := (Res.ok (rd v_head))) (x_mrd rfl) rfl))
def M_Rows_several_x (v_self : D) (v_head : D) (v_many : D) : Res D :=
  (afterV (whileV (fun s => TB_Rows_several_x_1 v_head v_many s.1 s.2) (fun s => B_Rows_several_x_1 v_head v_many s.1 s.2) 1000000 (v_self, (D.lst Tag.own []))) (fun t4 =>
  ((packV [t4.1] t4.2).bind okR)) okR)
theorem me_Rows_several_x (v_self : D) (v_head : D) (v_many : D) : RF (g_Rows_several_x [some v_self, some v_head, some v_many, none, none]) (M_Rows_several_x v_self v_head v_many) := (f_last (f_assoc (f_assoc (f_setV (x := (D.lst Tag.own [])) (en := [some v_self, some v_head, some v_many, some (D.lst Tag.own []), none]) (x_lstP (ds := []) rfl 0 rfl rfl) rfl rfl (f_assoc (f_while (fun s : (D × D) => [some s.1, some v_head, some v_many, some s.2, none]) (test := (fun s => TB_Rows_several_x_1 v_head v_many s.1 s.2)) (step := (fun s => B_Rows_several_x_1 v_head v_many s.1 s.2)) (s0 := (v_self, (D.lst Tag.own []))) (N := 1000000) rfl rfl (fun s => to_B_Rows_several_x_1 v_head v_many s.1 s.2) (fun s => bo_B_Rows_several_x_1 v_head v_many s.1 s.2) fun t4 => (f_retVIO rfl (pins1 rfl))))))))
def Ψ_Rows_several_x (ds : List D) : Res D := match ds with
  | [a0, a1, a2] => M_Rows_several_x a0 a1 a2
  | _ => Res.stuck
theorem ps_Rows_several_x (ds : List D) : Ψ_Rows_several_x ds = Res.stuck ∨ Φ_Rows_several_x ds = Ψ_Rows_several_x ds := by
  unfold Ψ_Rows_several_x
  split
  · exact phi_of rfl (me_Rows_several_x _ _ _)
  · exact .inl rfl
def b_pins_read_x_1 : PV.Env → SR := sIf (eB (e2 dEq (eVar 2) (eC (.str ".")))) (sApp 1 (eC .non)) (sApp 1 (eCall (lenIs 1 Ψ_name_read_x) [] (lCons (eVar 2) (lNil))))
def N_pins_read_x : List Str := ["words", "pins", "word"]
def g_pins_read_x : PV.Env → SR := sSeq (sSet 1 (eLst (lNil))) (sSeq (sFor (yLift (yVal true (eVar 0))) (put1 2) (b_pins_read_x_1) [2]) (sRetV 1))
def Φ_pins_read_x : List D → Res D := runF N_pins_read_x.length g_pins_read_x
def B_pins_read_x_1 (t1 : D) (v_pins : D) : Res (Fo D) :=
  ((chk t1).bind fun t2 => (ifR ((dEq (rd t2) (D.str ".")).bind asB)
  ((appV v_pins (Res.ok D.non)).bind fun v_pins =>
  (Res.ok (Fo.nx v_pins)))
  ((appV v_pins (callD (lenIs 1 Ψ_name_read_x) [(rd t2)])).bind fun v_pins =>
  (Res.ok (Fo.nx v_pins)))))
theorem bo_B_pins_read_x_1 (o_0 : Option D) (t1 : D) (v_pins : D) : RB (fun s : D => [o_0, some s, none]) [2] (tgt (put1 2) b_pins_read_x_1 t1 [o_0, some v_pins, none]) (B_pins_read_x_1 t1 v_pins) := b_tgt (en := fun t2 => [o_0, some v_pins, some t2]) t_1 (chk_nox t1) (fun _ => rfl) fun t2 => (b_last (b_if (tx := ((dEq (rd t2) (D.str ".")).bind asB)) rfl (b_app (fx := (Res.ok D.non)) (en := fun v_pins => [o_0, some v_pins, some t2]) rfl rfl (fun _ => rfl) fun v_pins => (r_nilB rfl)) (b_app (fx := (callD (lenIs 1 Ψ_name_read_x) [(rd t2)])) (en := fun v_pins => [o_0, some v_pins, some t2]) rfl (x_callP (as := [(rd t2)]) (x_consP (a := (rd t2)) (as := []) rfl rfl) rfl) (fun _ => rfl) fun v_pins => (r_nilB rfl))))
def M_pins_read_x (v_words : D) : Res D :=
  (((itemsOf true (rd v_words))).bind fun t4 => (afterV (forV (fun d s => B_pins_read_x_1 d s) t4 (D.lst Tag.own [])) (fun t3 =>
  (okR t3)) okR))
theorem me_pins_read_x (v_words : D) : RF (g_pins_read_x [some v_words, none, none]) (M_pins_read_x v_words) := (f_last (f_assoc (f_setV (x := (D.lst Tag.own [])) (en := [some v_words, some (D.lst Tag.own []), none]) (x_lstP (ds := []) rfl 0 rfl rfl) rfl rfl (f_assoc (f_for (fun s : D => [some v_words, some s, none]) (step := (fun d s => B_pins_read_x_1 d s)) (s0 := (D.lst Tag.own [])) (ix := (itemsOf true (rd v_words))) rfl rfl (fun d s => bo_B_pins_read_x_1 (some v_words) d s) fun t3 => (f_retV rfl))))))
def Ψ_pins_read_x (ds : List D) : Res D := match ds with
  | [a0] => M_pins_read_x a0
  | _ => Res.stuck
theorem ps_pins_read_x (ds : List D) : Ψ_pins_read_x ds = Res.stuck ∨ Φ_pins_read_x ds = Ψ_pins_read_x ds := by
  unfold Ψ_pins_read_x
  split
  · exact phi_of rfl (me_pins_read_x _)
  · exact .inl rfl
def b_look_rising_x_1 : PV.Env → SR := sIf (bNot (eB (e2 dLtG (e2 dIx (eVar 0) (e2 dSub (eVar 1) (eC (.int 1)))) (e2 dIx (eVar 0) (eVar 1))))) (sRaise0 "BadText") (sNil)
def N_look_rising_x : List Str := ["things", "k"]
def g_look_rising_x : PV.Env → SR := sFor (yLift (yL rng2 (lCons (eC (.int 1)) (lCons (eC_ dLen (lCons (eVar 0) (lNil))) (lNil))))) (put1 1) (b_look_rising_x_1) [1]
def Φ_look_rising_x : List D → Res D := runF N_look_rising_x.length g_look_rising_x
def B_look_rising_x_1 (v_things : D) (t4 : D) : Res (Fo Unit) :=
  ((chk t4).bind fun t5 => (ifR (((((((dSub (rd t5) (D.int 1))).bind fun t6 => (dIx (rd v_things) t6))).bind fun t7 => (((dIx (rd v_things) (rd t5))).bind fun t8 => (dLtG t7 t8))).bind asB).bind fun t9 => Res.ok (!t9))
  (raise0 "BadText")
  (Res.ok (Fo.nx ()))))
theorem bo_B_look_rising_x_1 (v_things : D) (t4 : D) : RB (fun s : Unit => [some v_things, none]) [1] (tgt (put1 1) b_look_rising_x_1 t4 [some v_things, none]) (B_look_rising_x_1 v_things t4) := b_tgt (en := fun t5 => [some v_things, some t5]) t_1 (chk_nox t4) (fun _ => rfl) fun t5 => (b_last (b_if (tx := (((((((dSub (rd t5) (D.int 1))).bind fun t6 => (dIx (rd v_things) t6))).bind fun t7 => (((dIx (rd v_things) (rd t5))).bind fun t8 => (dLtG t7 t8))).bind asB).bind fun t9 => Res.ok (!t9))) rfl b_raise0 (b_nil (r_nilB rfl))))
def M_look_rising_x (v_things : D) : Res D :=
  (((((((((dLen [(rd v_things)])).bind fun t1 => Res.ok [t1])).bind fun t2 => Res.ok ((D.int 1) :: t2))).bind fun t3 => (rng2 t3))).bind fun t11 => (afterV (forV (fun d s => B_look_rising_x_1 v_things d) t11 ()) (fun t10 =>
  (okR D.non)) okR))
theorem me_look_rising_x (v_things : D) : RF (g_look_rising_x [some v_things, none]) (M_look_rising_x v_things) := (f_last (f_for (fun s : Unit => [some v_things, none]) (step := (fun d s => B_look_rising_x_1 v_things d)) (s0 := ()) (ix := (((((((dLen [(rd v_things)])).bind fun t1 => Res.ok [t1])).bind fun t2 => Res.ok ((D.int 1) :: t2))).bind fun t3 => (rng2 t3))) (x_yL (as := (((((dLen [(rd v_things)])).bind fun t1 => Res.ok [t1])).bind fun t2 => Res.ok ((D.int 1) :: t2))) (x_cons (a := (Res.ok (D.int 1))) (as := (((dLen [(rd v_things)])).bind fun t1 => Res.ok [t1])) rfl (x_cons (a := (dLen [(rd v_things)])) (as := (Res.ok [])) (x_eC (as := (Res.ok [(rd v_things)])) (x_consP (a := (rd v_things)) (as := []) rfl rfl)) rfl))) rfl (fun d s => bo_B_look_rising_x_1 v_things d) fun t10 => r_nilF))
def Ψ_look_rising_x (ds : List D) : Res D := match ds with
  | [a0] => M_look_rising_x a0
  | _ => Res.stuck
theorem ps_look_rising_x (ds : List D) : Ψ_look_rising_x ds = Res.stuck ∨ Φ_look_rising_x ds = Ψ_look_rising_x ds := by
  unfold Ψ_look_rising_x
  split
  · exact phi_of rfl (me_look_rising_x _)
  · exact .inl rfl
def q_look_sizes_x_1 : PV.Env → Res D := e2 dIx (eVar 1) (eC (.int 0))
def q_look_sizes_x_2 : PV.Env → Res D := e2 dIx (eVar 1) (eC (.int 0))
def b_look_sizes_x_1 : PV.Env → SR := sIf (eB (e2 dIn0 (e2 dIx (eVar 1) (eC (.int 1))) (eTup (lCons (eC (.int 2)) (lCons (eC (.int 3)) (lNil)))))) (sRaise0 "BadText") (sNil)
def q_look_sizes_x_3 : PV.Env → Res D := e2 dIx (eVar 1) (eC (.int 0))
def q_look_sizes_x_4 : PV.Env → Res D := e2 dIx (eVar 1) (eC (.int 1))
def q_look_sizes_x_5 : PV.Env → Res D := eVar 3
def t_look_sizes_x_1 : PV.Env → Res Bool := eB (e1 dNotN (eVar 3))
def a_look_sizes_x_1 : PV.Env → SR := sIf (bOr (bNot (eB (eChain dLe dLe (eC (.int 1)) (eC_ dLen (lCons (e1 (dFld ["Channel"] "top") (eVar 0)) (lNil))) (eC (.int 40))))) (eB (e2 dNe (eC_ dLen (lCons (e1 (dFld ["Channel"] "bottom") (eVar 0)) (lNil))) (eC_ dLen (lCons (e1 (dFld ["Channel"] "top") (eVar 0)) (lNil)))))) (sRaise0 "BadText") (sNil)
def a_look_sizes_x_2 : PV.Env → SR := sDrop (eCall (lenIs 1 Ψ_look_rising_x) [] (lCons (e1 (dFld ["Channel"] "left") (eVar 0)) (lNil)))
def a_look_sizes_x_3 : PV.Env → SR := sDrop (eCall (lenIs 1 Ψ_look_rising_x) [] (lCons (e1 (dFld ["Channel"] "right") (eVar 0)) (lNil)))
def a_look_sizes_x_4 : PV.Env → SR := sDrop (eCall (lenIs 1 Ψ_look_rising_x) [] (lCons (eLc (yVal false (e1 (dFld ["Channel"] "wide") (eVar 0))) (putb 1) (bYes) (q_look_sizes_x_1) [1]) (lNil)))
def a_look_sizes_x_5 : PV.Env → SR := sDrop (eCall (lenIs 1 Ψ_look_rising_x) [] (lCons (eLc (yVal false (e1 (dFld ["Channel"] "bends") (eVar 0))) (putb 1) (bYes) (q_look_sizes_x_2) [1]) (lNil)))
def a_look_sizes_x_6 : PV.Env → SR := sFor (yLift (yVal true (e1 (dFld ["Channel"] "wide") (eVar 0)))) (put1 1) (b_look_sizes_x_1) [1]
def a_look_sizes_x_7 : PV.Env → SR := sSet 2 (e2 dAdd (e2 dAdd (e2 dAdd (e1 (dFld ["Channel"] "left") (eVar 0)) (e1 (dFld ["Channel"] "right") (eVar 0))) (eLc (yVal false (e1 (dFld ["Channel"] "wide") (eVar 0))) (putb 1) (bYes) (q_look_sizes_x_3) [1])) (eLc (yVal false (e1 (dFld ["Channel"] "bends") (eVar 0))) (putb 1) (bYes) (q_look_sizes_x_4) [1]))
def a_look_sizes_x_8 : PV.Env → SR := sSet 2 (e2 dAdd (eVar 2) (eLc (yVal false (e2 dAdd (e1 (dFld ["Channel"] "top") (eVar 0)) (e1 (dFld ["Channel"] "bottom") (eVar 0)))) (putb 3) (t_look_sizes_x_1) (q_look_sizes_x_5) [3]))
def a_look_sizes_x_9 : PV.Env → SR := sIf (bOr (eB (e2 dGt (eC_ dLen (lCons (e1 (dFld ["Channel"] "keeps") (eVar 0)) (lNil))) (eC (.int 8)))) (eB (e2 dGt (e1 dLenSetS (eVar 2)) (eC (.int 24))))) (sRaise0 "BadText") (sNil)
def N_look_sizes_x : List Str := ["channel", "pair", "names", "name"]
def g_look_sizes_x : PV.Env → SR := sSeq (a_look_sizes_x_1) (sSeq (a_look_sizes_x_2) (sSeq (a_look_sizes_x_3) (sSeq (a_look_sizes_x_4) (sSeq (a_look_sizes_x_5) (sSeq (a_look_sizes_x_6) (sSeq (a_look_sizes_x_7) (sSeq (a_look_sizes_x_8) (a_look_sizes_x_9))))))))
def Φ_look_sizes_x : List D → Res D := runF N_look_sizes_x.length g_look_sizes_x
def B_look_sizes_x_1 (v_channel : D) (t30 : D) : Res (Fo Unit) :=
  ((chk t30).bind fun t31 => (ifR ((((dIx (rd t31) (D.int 1))).bind fun t32 => (dIn0 t32 (D.tup [(D.int 2), (D.int 3)]))).bind asB)
  (raise0 "BadText")
  (Res.ok (Fo.nx ()))))
theorem bo_B_look_sizes_x_1 (v_channel : D) (t30 : D) : RB (fun s : Unit => [some v_channel, none, none, none]) [1] (tgt (put1 1) b_look_sizes_x_1 t30 [some v_channel, none, none, none]) (B_look_sizes_x_1 v_channel t30) := b_tgt (en := fun t31 => [some v_channel, some t31, none, none]) t_1 (chk_nox t30) (fun _ => rfl) fun t31 => (b_last (b_if (tx := ((((dIx (rd t31) (D.int 1))).bind fun t32 => (dIn0 t32 (D.tup [(D.int 2), (D.int 3)]))).bind asB)) (x_B (a := (((dIx (rd t31) (D.int 1))).bind fun t32 => (dIn0 t32 (D.tup [(D.int 2), (D.int 3)])))) (x_e2 (a := (dIx (rd t31) (D.int 1))) (b := (Res.ok (D.tup [(D.int 2), (D.int 3)]))) rfl (x_tupP (ds := [(D.int 2), (D.int 3)]) (x_consP (a := (D.int 2)) (as := [(D.int 3)]) rfl (x_consP (a := (D.int 3)) (as := []) rfl rfl)) 2 rfl rfl))) b_raise0 (b_nil (r_nilB rfl))))
def M_look_sizes_x (v_channel : D) : Res D :=
  (ifR (ifR ((((((((((dFld ["Channel"] "top") (rd v_channel))).bind fun t1 => Res.ok [t1])).bind fun t2 => (dLen t2))).bind fun t3 => (chV (dLe (D.int 1) t3) (dLe t3 (D.int 40)))).bind asB).bind fun t4 => Res.ok (!t4)) (Res.ok true) (((((((((dFld ["Channel"] "bottom") (rd v_channel))).bind fun t5 => Res.ok [t5])).bind fun t6 => (dLen t6))).bind fun t9 => ((((((((dFld ["Channel"] "top") (rd v_channel))).bind fun t7 => Res.ok [t7])).bind fun t8 => (dLen t8))).bind fun t10 => (dNe t9 t10))).bind asB))
  (raise0 "BadText")
  ((((((((dFld ["Channel"] "left") (rd v_channel))).bind fun t11 => Res.ok [t11])).bind fun t12 => (callD (lenIs 1 Ψ_look_rising_x) (t12 ++ [])))).bind fun _ => ((((((((dFld ["Channel"] "right") (rd v_channel))).bind fun t13 => Res.ok [t13])).bind fun t14 => (callD (lenIs 1 Ψ_look_rising_x) (t14 ++ [])))).bind fun _ => ((((((((((((dFld ["Channel"] "wide") (rd v_channel))).bind fun t15 => (itemsOf false t15))).bind fun t19 => ((lcV (fun t16 => (((dIx (rd t16) (D.int 0))).bind fun y => (chk y).bind fun y => Res.ok (some y))) t19).bind lstB))).bind fun t20 => Res.ok [t20])).bind fun t21 => (callD (lenIs 1 Ψ_look_rising_x) (t21 ++ [])))).bind fun _ => ((((((((((((dFld ["Channel"] "bends") (rd v_channel))).bind fun t22 => (itemsOf false t22))).bind fun t26 => ((lcV (fun t23 => (((dIx (rd t23) (D.int 0))).bind fun y => (chk y).bind fun y => Res.ok (some y))) t26).bind lstB))).bind fun t27 => Res.ok [t27])).bind fun t28 => (callD (lenIs 1 Ψ_look_rising_x) (t28 ++ [])))).bind fun _ => ((((((dFld ["Channel"] "wide") (rd v_channel))).bind fun t29 => (itemsOf true t29))).bind fun t61 => (afterV (forV (fun d s => B_look_sizes_x_1 v_channel d) t61 ()) (fun t33 =>
  ((((((((((dFld ["Channel"] "left") (rd v_channel))).bind fun t34 => ((((dFld ["Channel"] "right") (rd v_channel))).bind fun t35 => (dAdd t34 t35)))).bind fun t41 => ((((((((dFld ["Channel"] "wide") (rd v_channel))).bind fun t36 => (itemsOf false t36))).bind fun t40 => ((lcV (fun t37 => (((dIx (rd t37) (D.int 0))).bind fun y => (chk y).bind fun y => Res.ok (some y))) t40).bind lstB))).bind fun t42 => (dAdd t41 t42)))).bind fun t48 => ((((((((dFld ["Channel"] "bends") (rd v_channel))).bind fun t43 => (itemsOf false t43))).bind fun t47 => ((lcV (fun t44 => (((dIx (rd t44) (D.int 1))).bind fun y => (chk y).bind fun y => Res.ok (some y))) t47).bind lstB))).bind fun t49 => (dAdd t48 t49))).bind chk).bind fun v_names =>
  ((((((((((((dFld ["Channel"] "top") (rd v_channel))).bind fun t50 => ((((dFld ["Channel"] "bottom") (rd v_channel))).bind fun t51 => (dAdd t50 t51)))).bind fun t52 => (itemsOf false t52))).bind fun t55 => ((lcV (fun t53 => (ifR ((dNotN (rd t53)).bind asB) ((chk (rd t53)).bind fun y => Res.ok (some y)) (Res.ok none))) t55).bind lstB))).bind fun t56 => (dAdd (rd v_names) t56)).bind chk).bind fun v_names =>
  (ifR (ifR (((((((((dFld ["Channel"] "keeps") (rd v_channel))).bind fun t57 => Res.ok [t57])).bind fun t58 => (dLen t58))).bind fun t59 => (dGt t59 (D.int 8))).bind asB) (Res.ok true) ((((dLenSetS (rd v_names))).bind fun t60 => (dGt t60 (D.int 24))).bind asB))
  (raise0 "BadText")
  (okR D.non))))) okR)))))))
theorem me_look_sizes_x (v_channel : D) : RF (g_look_sizes_x [some v_channel, none, none, none]) (M_look_sizes_x v_channel) := (f_last (f_assoc (f_if (tx := (ifR ((((((((((dFld ["Channel"] "top") (rd v_channel))).bind fun t1 => Res.ok [t1])).bind fun t2 => (dLen t2))).bind fun t3 => (chV (dLe (D.int 1) t3) (dLe t3 (D.int 40)))).bind asB).bind fun t4 => Res.ok (!t4)) (Res.ok true) (((((((((dFld ["Channel"] "bottom") (rd v_channel))).bind fun t5 => Res.ok [t5])).bind fun t6 => (dLen t6))).bind fun t9 => ((((((((dFld ["Channel"] "top") (rd v_channel))).bind fun t7 => Res.ok [t7])).bind fun t8 => (dLen t8))).bind fun t10 => (dNe t9 t10))).bind asB))) (x_bOr (pa := ((((((((((dFld ["Channel"] "top") (rd v_channel))).bind fun t1 => Res.ok [t1])).bind fun t2 => (dLen t2))).bind fun t3 => (chV (dLe (D.int 1) t3) (dLe t3 (D.int 40)))).bind asB).bind fun t4 => Res.ok (!t4))) (qa := (((((((((dFld ["Channel"] "bottom") (rd v_channel))).bind fun t5 => Res.ok [t5])).bind fun t6 => (dLen t6))).bind fun t9 => ((((((((dFld ["Channel"] "top") (rd v_channel))).bind fun t7 => Res.ok [t7])).bind fun t8 => (dLen t8))).bind fun t10 => (dNe t9 t10))).bind asB)) (x_bNot (pa := (((((((((dFld ["Channel"] "top") (rd v_channel))).bind fun t1 => Res.ok [t1])).bind fun t2 => (dLen t2))).bind fun t3 => (chV (dLe (D.int 1) t3) (dLe t3 (D.int 40)))).bind asB)) (x_B (a := ((((((((dFld ["Channel"] "top") (rd v_channel))).bind fun t1 => Res.ok [t1])).bind fun t2 => (dLen t2))).bind fun t3 => (chV (dLe (D.int 1) t3) (dLe t3 (D.int 40))))) (x_chain (a := (Res.ok (D.int 1))) (b := ((((((dFld ["Channel"] "top") (rd v_channel))).bind fun t1 => Res.ok [t1])).bind fun t2 => (dLen t2))) (c := (Res.ok (D.int 40))) rfl (x_eC (as := ((((dFld ["Channel"] "top") (rd v_channel))).bind fun t1 => Res.ok [t1])) (x_cons (a := ((dFld ["Channel"] "top") (rd v_channel))) (as := (Res.ok [])) rfl rfl)) rfl))) (x_B (a := ((((((((dFld ["Channel"] "bottom") (rd v_channel))).bind fun t5 => Res.ok [t5])).bind fun t6 => (dLen t6))).bind fun t9 => ((((((((dFld ["Channel"] "top") (rd v_channel))).bind fun t7 => Res.ok [t7])).bind fun t8 => (dLen t8))).bind fun t10 => (dNe t9 t10)))) (x_e2 (a := ((((((dFld ["Channel"] "bottom") (rd v_channel))).bind fun t5 => Res.ok [t5])).bind fun t6 => (dLen t6))) (b := ((((((dFld ["Channel"] "top") (rd v_channel))).bind fun t7 => Res.ok [t7])).bind fun t8 => (dLen t8))) (x_eC (as := ((((dFld ["Channel"] "bottom") (rd v_channel))).bind fun t5 => Res.ok [t5])) (x_cons (a := ((dFld ["Channel"] "bottom") (rd v_channel))) (as := (Res.ok [])) rfl rfl)) (x_eC (as := ((((dFld ["Channel"] "top") (rd v_channel))).bind fun t7 => Res.ok [t7])) (x_cons (a := ((dFld ["Channel"] "top") (rd v_channel))) (as := (Res.ok [])) rfl rfl))))) f_raise0 (f_nil (f_assoc (f_drop (fx := ((((((dFld ["Channel"] "left") (rd v_channel))).bind fun t11 => Res.ok [t11])).bind fun t12 => (callD (lenIs 1 Ψ_look_rising_x) (t12 ++ [])))) (x_call (as := ((((dFld ["Channel"] "left") (rd v_channel))).bind fun t11 => Res.ok [t11])) (x_cons (a := ((dFld ["Channel"] "left") (rd v_channel))) (as := (Res.ok [])) rfl rfl)) (f_assoc (f_drop (fx := ((((((dFld ["Channel"] "right") (rd v_channel))).bind fun t13 => Res.ok [t13])).bind fun t14 => (callD (lenIs 1 Ψ_look_rising_x) (t14 ++ [])))) (x_call (as := ((((dFld ["Channel"] "right") (rd v_channel))).bind fun t13 => Res.ok [t13])) (x_cons (a := ((dFld ["Channel"] "right") (rd v_channel))) (as := (Res.ok [])) rfl rfl)) (f_assoc (f_drop (fx := ((((((((((dFld ["Channel"] "wide") (rd v_channel))).bind fun t15 => (itemsOf false t15))).bind fun t19 => ((lcV (fun t16 => (((dIx (rd t16) (D.int 0))).bind fun y => (chk y).bind fun y => Res.ok (some y))) t19).bind lstB))).bind fun t20 => Res.ok [t20])).bind fun t21 => (callD (lenIs 1 Ψ_look_rising_x) (t21 ++ [])))) (x_call (as := ((((((((dFld ["Channel"] "wide") (rd v_channel))).bind fun t15 => (itemsOf false t15))).bind fun t19 => ((lcV (fun t16 => (((dIx (rd t16) (D.int 0))).bind fun y => (chk y).bind fun y => Res.ok (some y))) t19).bind lstB))).bind fun t20 => Res.ok [t20])) (x_cons (a := ((((((dFld ["Channel"] "wide") (rd v_channel))).bind fun t15 => (itemsOf false t15))).bind fun t19 => ((lcV (fun t16 => (((dIx (rd t16) (D.int 0))).bind fun y => (chk y).bind fun y => Res.ok (some y))) t19).bind lstB))) (as := (Res.ok [])) (x_lc (ix := ((((dFld ["Channel"] "wide") (rd v_channel))).bind fun t15 => (itemsOf false t15))) (step := fun t16 => (((dIx (rd t16) (D.int 0))).bind fun y => (chk y).bind fun y => Res.ok (some y))) rfl rfl (fun t16 => t_lcb1 (fx := (dIx (rd t16) (D.int 0))) rfl)) rfl)) (f_assoc (f_drop (fx := ((((((((((dFld ["Channel"] "bends") (rd v_channel))).bind fun t22 => (itemsOf false t22))).bind fun t26 => ((lcV (fun t23 => (((dIx (rd t23) (D.int 0))).bind fun y => (chk y).bind fun y => Res.ok (some y))) t26).bind lstB))).bind fun t27 => Res.ok [t27])).bind fun t28 => (callD (lenIs 1 Ψ_look_rising_x) (t28 ++ [])))) (x_call (as := ((((((((dFld ["Channel"] "bends") (rd v_channel))).bind fun t22 => (itemsOf false t22))).bind fun t26 => ((lcV (fun t23 => (((dIx (rd t23) (D.int 0))).bind fun y => (chk y).bind fun y => Res.ok (some y))) t26).bind lstB))).bind fun t27 => Res.ok [t27])) (x_cons (a := ((((((dFld ["Channel"] "bends") (rd v_channel))).bind fun t22 => (itemsOf false t22))).bind fun t26 => ((lcV (fun t23 => (((dIx (rd t23) (D.int 0))).bind fun y => (chk y).bind fun y => Res.ok (some y))) t26).bind lstB))) (as := (Res.ok [])) (x_lc (ix := ((((dFld ["Channel"] "bends") (rd v_channel))).bind fun t22 => (itemsOf false t22))) (step := fun t23 => (((dIx (rd t23) (D.int 0))).bind fun y => (chk y).bind fun y => Res.ok (some y))) rfl rfl (fun t23 => t_lcb1 (fx := (dIx (rd t23) (D.int 0))) rfl)) rfl)) (f_assoc (f_for (fun s : Unit => [some v_channel, none, none, none]) (step := (fun d s => B_look_sizes_x_1 v_channel d)) (s0 := ()) (ix := ((((dFld ["Channel"] "wide") (rd v_channel))).bind fun t29 => (itemsOf true t29))) rfl rfl (fun d s => bo_B_look_sizes_x_1 v_channel d) fun t33 => (f_assoc (f_set (fx := ((((((((dFld ["Channel"] "left") (rd v_channel))).bind fun t34 => ((((dFld ["Channel"] "right") (rd v_channel))).bind fun t35 => (dAdd t34 t35)))).bind fun t41 => ((((((((dFld ["Channel"] "wide") (rd v_channel))).bind fun t36 => (itemsOf false t36))).bind fun t40 => ((lcV (fun t37 => (((dIx (rd t37) (D.int 0))).bind fun y => (chk y).bind fun y => Res.ok (some y))) t40).bind lstB))).bind fun t42 => (dAdd t41 t42)))).bind fun t48 => ((((((((dFld ["Channel"] "bends") (rd v_channel))).bind fun t43 => (itemsOf false t43))).bind fun t47 => ((lcV (fun t44 => (((dIx (rd t44) (D.int 1))).bind fun y => (chk y).bind fun y => Res.ok (some y))) t47).bind lstB))).bind fun t49 => (dAdd t48 t49)))) (en := fun v_names => [some v_channel, none, some v_names, none]) (x_e2 (a := ((((((dFld ["Channel"] "left") (rd v_channel))).bind fun t34 => ((((dFld ["Channel"] "right") (rd v_channel))).bind fun t35 => (dAdd t34 t35)))).bind fun t41 => ((((((((dFld ["Channel"] "wide") (rd v_channel))).bind fun t36 => (itemsOf false t36))).bind fun t40 => ((lcV (fun t37 => (((dIx (rd t37) (D.int 0))).bind fun y => (chk y).bind fun y => Res.ok (some y))) t40).bind lstB))).bind fun t42 => (dAdd t41 t42)))) (b := ((((((dFld ["Channel"] "bends") (rd v_channel))).bind fun t43 => (itemsOf false t43))).bind fun t47 => ((lcV (fun t44 => (((dIx (rd t44) (D.int 1))).bind fun y => (chk y).bind fun y => Res.ok (some y))) t47).bind lstB))) (x_e2 (a := ((((dFld ["Channel"] "left") (rd v_channel))).bind fun t34 => ((((dFld ["Channel"] "right") (rd v_channel))).bind fun t35 => (dAdd t34 t35)))) (b := ((((((dFld ["Channel"] "wide") (rd v_channel))).bind fun t36 => (itemsOf false t36))).bind fun t40 => ((lcV (fun t37 => (((dIx (rd t37) (D.int 0))).bind fun y => (chk y).bind fun y => Res.ok (some y))) t40).bind lstB))) rfl (x_lc (ix := ((((dFld ["Channel"] "wide") (rd v_channel))).bind fun t36 => (itemsOf false t36))) (step := fun t37 => (((dIx (rd t37) (D.int 0))).bind fun y => (chk y).bind fun y => Res.ok (some y))) rfl rfl (fun t37 => t_lcb1 (fx := (dIx (rd t37) (D.int 0))) rfl))) (x_lc (ix := ((((dFld ["Channel"] "bends") (rd v_channel))).bind fun t43 => (itemsOf false t43))) (step := fun t44 => (((dIx (rd t44) (D.int 1))).bind fun y => (chk y).bind fun y => Res.ok (some y))) rfl rfl (fun t44 => t_lcb1 (fx := (dIx (rd t44) (D.int 1))) rfl))) (fun _ => rfl) fun v_names => (f_assoc (f_set (fx := ((((((((((dFld ["Channel"] "top") (rd v_channel))).bind fun t50 => ((((dFld ["Channel"] "bottom") (rd v_channel))).bind fun t51 => (dAdd t50 t51)))).bind fun t52 => (itemsOf false t52))).bind fun t55 => ((lcV (fun t53 => (ifR ((dNotN (rd t53)).bind asB) ((chk (rd t53)).bind fun y => Res.ok (some y)) (Res.ok none))) t55).bind lstB))).bind fun t56 => (dAdd (rd v_names) t56))) (en := fun v_names => [some v_channel, none, some v_names, none]) (x_e2 (a := (Res.ok (rd v_names))) (b := ((((((((dFld ["Channel"] "top") (rd v_channel))).bind fun t50 => ((((dFld ["Channel"] "bottom") (rd v_channel))).bind fun t51 => (dAdd t50 t51)))).bind fun t52 => (itemsOf false t52))).bind fun t55 => ((lcV (fun t53 => (ifR ((dNotN (rd t53)).bind asB) ((chk (rd t53)).bind fun y => Res.ok (some y)) (Res.ok none))) t55).bind lstB))) rfl (x_lc (ix := ((((((dFld ["Channel"] "top") (rd v_channel))).bind fun t50 => ((((dFld ["Channel"] "bottom") (rd v_channel))).bind fun t51 => (dAdd t50 t51)))).bind fun t52 => (itemsOf false t52))) (step := fun t53 => (ifR ((dNotN (rd t53)).bind asB) ((chk (rd t53)).bind fun y => Res.ok (some y)) (Res.ok none))) rfl rfl (fun t53 => t_lcb (tt := ((dNotN (rd t53)).bind asB)) (fx := (Res.ok (rd t53))) rfl rfl))) (fun _ => rfl) fun v_names => (f_if (tx := (ifR (((((((((dFld ["Channel"] "keeps") (rd v_channel))).bind fun t57 => Res.ok [t57])).bind fun t58 => (dLen t58))).bind fun t59 => (dGt t59 (D.int 8))).bind asB) (Res.ok true) ((((dLenSetS (rd v_names))).bind fun t60 => (dGt t60 (D.int 24))).bind asB))) (x_bOr (pa := (((((((((dFld ["Channel"] "keeps") (rd v_channel))).bind fun t57 => Res.ok [t57])).bind fun t58 => (dLen t58))).bind fun t59 => (dGt t59 (D.int 8))).bind asB)) (qa := ((((dLenSetS (rd v_names))).bind fun t60 => (dGt t60 (D.int 24))).bind asB)) (x_B (a := ((((((((dFld ["Channel"] "keeps") (rd v_channel))).bind fun t57 => Res.ok [t57])).bind fun t58 => (dLen t58))).bind fun t59 => (dGt t59 (D.int 8)))) (x_e2 (a := ((((((dFld ["Channel"] "keeps") (rd v_channel))).bind fun t57 => Res.ok [t57])).bind fun t58 => (dLen t58))) (b := (Res.ok (D.int 8))) (x_eC (as := ((((dFld ["Channel"] "keeps") (rd v_channel))).bind fun t57 => Res.ok [t57])) (x_cons (a := ((dFld ["Channel"] "keeps") (rd v_channel))) (as := (Res.ok [])) rfl rfl)) rfl)) rfl) f_raise0 (f_nil r_nilF))))))))))))))))))))
def Ψ_look_sizes_x (ds : List D) : Res D := match ds with
  | [a0] => M_look_sizes_x a0
  | _ => Res.stuck
theorem ps_look_sizes_x (ds : List D) : Ψ_look_sizes_x ds = Res.stuck ∨ Φ_look_sizes_x ds = Ψ_look_sizes_x ds := by
  unfold Ψ_look_sizes_x
  split
  · exact phi_of rfl (me_look_sizes_x _)
  · exact .inl rfl
def q_read_channel_x_1 : PV.Env → Res D := eCall (lenIs 1 Ψ_name_read_x) [] (lCons (eVar 11) (lNil))
def q_read_channel_x_2 : PV.Env → Res D := eCall (lenIs 1 Ψ_name_read_x) [] (lCons (eVar 11) (lNil))
def q_read_channel_x_3 : PV.Env → Res D := eTup (lCons (eCall (lenIs 1 Ψ_name_read_x) [] (lCons (e2 dIx (eVar 9) (eC (.int 0))) (lNil))) (lCons (eCall (lenIs 1 Ψ_number_read_x) [] (lCons (e2 dIx (eVar 9) (eC (.int 1))) (lNil))) (lNil)))
def q_read_channel_x_4 : PV.Env → Res D := eTup (lCons (eCall (lenIs 1 Ψ_number_read_x) [] (lCons (e2 dIx (eVar 9) (eC (.int 0))) (lNil))) (lCons (eCall (lenIs 1 Ψ_name_read_x) [] (lCons (e2 dIx (eVar 9) (eC (.int 1))) (lNil))) (lNil)))
def b_read_channel_x_1 : PV.Env → SR := sApp 8 (eTup (lCons (eCall (lenIs 1 Ψ_number_read_x) [] (lCons (e2 dIx (eVar 9) (eC (.int 0))) (lNil))) (lCons (eCall (lenIs 1 Ψ_number_read_x) [] (lCons (e2 dIx (eVar 9) (eC (.int 1))) (lNil))) (lCons (eCall (lenIs 1 Ψ_number_read_x) [] (lCons (e2 dIx (eVar 9) (eC (.int 2))) (lNil))) (lNil)))))
def a_read_channel_x_1 : PV.Env → SR := sSet 1 (eC_ (dMakeIO "Rows" (lenIs 2 Ψ_Rows_init)) (lCons (eVar 0) (lNil)))
def a_read_channel_x_2 : PV.Env → SR := sSetS 2 (eCallS (lenIs 1 Ψ_pins_read_x) (eIOM "Rows" "taken" 1 (lenIs 2 Ψ_Rows_taken_x) (lCons (eC (.str "top")) (lNil))))
def a_read_channel_x_3 : PV.Env → SR := sSetS 3 (eCallS (lenIs 1 Ψ_pins_read_x) (eIOM "Rows" "taken" 1 (lenIs 2 Ψ_Rows_taken_x) (lCons (eC (.str "bottom")) (lNil))))
def a_read_channel_x_4 : PV.Env → SR := sSetS 4 (eLcS (eIOM "Rows" "taken" 1 (lenIs 2 Ψ_Rows_taken_x) (lCons (eC (.str "left")) (lNil))) (putb 11) (bYes) (q_read_channel_x_1) [11])
def a_read_channel_x_5 : PV.Env → SR := sSetS 5 (eLcS (eIOM "Rows" "taken" 1 (lenIs 2 Ψ_Rows_taken_x) (lCons (eC (.str "right")) (lNil))) (putb 11) (bYes) (q_read_channel_x_2) [11])
def a_read_channel_x_6 : PV.Env → SR := sSetS 6 (eLcS (eIOM "Rows" "several" 1 (lenIs 3 Ψ_Rows_several_x) (lCons (eC (.str "wide")) (lCons (eC (.int 2)) (lNil)))) (putb 9) (bYes) (q_read_channel_x_3) [9])
def a_read_channel_x_7 : PV.Env → SR := sSetS 7 (eLcS (eIOM "Rows" "several" 1 (lenIs 3 Ψ_Rows_several_x) (lCons (eC (.str "bend")) (lCons (eC (.int 2)) (lNil)))) (putb 9) (bYes) (q_read_channel_x_4) [9])
def a_read_channel_x_8 : PV.Env → SR := sSet 8 (eLst (lNil))
def a_read_channel_x_9 : PV.Env → SR := sForS (eIOM "Rows" "several" 1 (lenIs 3 Ψ_Rows_several_x) (lCons (eC (.str "keep")) (lCons (eC (.int 3)) (lNil)))) (put1 9) (b_read_channel_x_1) [9]
def a_read_channel_x_10 : PV.Env → SR := sIf (eB (e2 dNe (eMrd "Rows" "head" 1 (lenIs 1 Ψ_Rows_head)) (eC (.str "")))) (sRaise0 "BadText") (sNil)
def a_read_channel_x_11 : PV.Env → SR := sFrz 8 (sFrz 7 (sFrz 6 (sFrz 5 (sFrz 4 (sFrz 3 (sFrz 2 (sSet 10 (eC_ (dMake "Channel" ["top", "bottom", "left", "right", "wide", "bends", "keeps"]) (lCons (eVar 2) (lCons (eVar 3) (lCons (eVar 4) (lCons (eVar 5) (lCons (eVar 6) (lCons (eVar 7) (lCons (eVar 8) (lNil))))))))))))))))
def a_read_channel_x_12 : PV.Env → SR := sDrop (eCall (lenIs 1 Ψ_look_sizes_x) [] (lCons (eVar 10) (lNil)))
def a_read_channel_x_13 : PV.Env → SR := sRetV 10
def N_read_channel_x : List Str := ["text", "rows", "top", "bottom", "left", "right", "wide", "bends", "keeps", "row", "channel", "word"]
def g_read_channel_x : PV.Env → SR := sSeq (a_read_channel_x_1) (sSeq (a_read_channel_x_2) (sSeq (a_read_channel_x_3) (sSeq (a_read_channel_x_4) (sSeq (a_read_channel_x_5) (sSeq (a_read_channel_x_6) (sSeq (a_read_channel_x_7) (sSeq (a_read_channel_x_8) (sSeq (a_read_channel_x_9) (sSeq (a_read_channel_x_10) (sSeq (a_read_channel_x_11) (sSeq (a_read_channel_x_12) (a_read_channel_x_13))))))))))))
def Φ_read_channel_x : List D → Res D := runF N_read_channel_x.length g_read_channel_x
def B_read_channel_x_1 (v_rows : D) (v_top : D) (v_bottom : D) (v_left : D) (v_right : D) (v_wide : D) (v_bends : D) (t41 : D) (v_keeps : D) : Res (Fo D) :=
  ((chk t41).bind fun t42 => ((appV v_keeps (((((((((dIx (rd t42) (D.int 0))).bind fun t43 => Res.ok [t43])).bind fun t44 => (callD (lenIs 1 Ψ_number_read_x) (t44 ++ [])))).bind fun t52 => ((((((((dIx (rd t42) (D.int 1))).bind fun t45 => Res.ok [t45])).bind fun t46 => (callD (lenIs 1 Ψ_number_read_x) (t46 ++ [])))).bind fun t50 => ((((((((dIx (rd t42) (D.int 2))).bind fun t47 => Res.ok [t47])).bind fun t48 => (callD (lenIs 1 Ψ_number_read_x) (t48 ++ [])))).bind fun t49 => Res.ok [t49])).bind fun t51 => Res.ok (t50 :: t51))).bind fun t53 => Res.ok (t52 :: t53))).bind fun t54 => (tupA t54))).bind fun v_keeps =>
  (Res.ok (Fo.nx v_keeps))))
theorem bo_B_read_channel_x_1 (v_rows : D) (v_top : D) (v_bottom : D) (v_left : D) (v_right : D) (v_wide : D) (v_bends : D) (o_0 : Option D) (t41 : D) (v_keeps : D) : RB (fun s : D => [o_0, some v_rows, some v_top, some v_bottom, some v_left, some v_right, some v_wide, some v_bends, some s, none, none, none]) [9] (tgt (put1 9) b_read_channel_x_1 t41 [o_0, some v_rows, some v_top, some v_bottom, some v_left, some v_right, some v_wide, some v_bends, some v_keeps, none, none, none]) (B_read_channel_x_1 v_rows v_top v_bottom v_left v_right v_wide v_bends t41 v_keeps) := b_tgt (en := fun t42 => [o_0, some v_rows, some v_top, some v_bottom, some v_left, some v_right, some v_wide, some v_bends, some v_keeps, some t42, none, none]) t_1 (chk_nox t41) (fun _ => rfl) fun t42 => (b_last (b_app (fx := (((((((((dIx (rd t42) (D.int 0))).bind fun t43 => Res.ok [t43])).bind fun t44 => (callD (lenIs 1 Ψ_number_read_x) (t44 ++ [])))).bind fun t52 => ((((((((dIx (rd t42) (D.int 1))).bind fun t45 => Res.ok [t45])).bind fun t46 => (callD (lenIs 1 Ψ_number_read_x) (t46 ++ [])))).bind fun t50 => ((((((((dIx (rd t42) (D.int 2))).bind fun t47 => Res.ok [t47])).bind fun t48 => (callD (lenIs 1 Ψ_number_read_x) (t48 ++ [])))).bind fun t49 => Res.ok [t49])).bind fun t51 => Res.ok (t50 :: t51))).bind fun t53 => Res.ok (t52 :: t53))).bind fun t54 => (tupA t54))) (en := fun v_keeps => [o_0, some v_rows, some v_top, some v_bottom, some v_left, some v_right, some v_wide, some v_bends, some v_keeps, some t42, none, none]) rfl (x_tup (as := (((((((dIx (rd t42) (D.int 0))).bind fun t43 => Res.ok [t43])).bind fun t44 => (callD (lenIs 1 Ψ_number_read_x) (t44 ++ [])))).bind fun t52 => ((((((((dIx (rd t42) (D.int 1))).bind fun t45 => Res.ok [t45])).bind fun t46 => (callD (lenIs 1 Ψ_number_read_x) (t46 ++ [])))).bind fun t50 => ((((((((dIx (rd t42) (D.int 2))).bind fun t47 => Res.ok [t47])).bind fun t48 => (callD (lenIs 1 Ψ_number_read_x) (t48 ++ [])))).bind fun t49 => Res.ok [t49])).bind fun t51 => Res.ok (t50 :: t51))).bind fun t53 => Res.ok (t52 :: t53))) (x_cons (a := (((((dIx (rd t42) (D.int 0))).bind fun t43 => Res.ok [t43])).bind fun t44 => (callD (lenIs 1 Ψ_number_read_x) (t44 ++ [])))) (as := (((((((dIx (rd t42) (D.int 1))).bind fun t45 => Res.ok [t45])).bind fun t46 => (callD (lenIs 1 Ψ_number_read_x) (t46 ++ [])))).bind fun t50 => ((((((((dIx (rd t42) (D.int 2))).bind fun t47 => Res.ok [t47])).bind fun t48 => (callD (lenIs 1 Ψ_number_read_x) (t48 ++ [])))).bind fun t49 => Res.ok [t49])).bind fun t51 => Res.ok (t50 :: t51))) (x_call (as := (((dIx (rd t42) (D.int 0))).bind fun t43 => Res.ok [t43])) (x_cons (a := (dIx (rd t42) (D.int 0))) (as := (Res.ok [])) rfl rfl)) (x_cons (a := (((((dIx (rd t42) (D.int 1))).bind fun t45 => Res.ok [t45])).bind fun t46 => (callD (lenIs 1 Ψ_number_read_x) (t46 ++ [])))) (as := (((((((dIx (rd t42) (D.int 2))).bind fun t47 => Res.ok [t47])).bind fun t48 => (callD (lenIs 1 Ψ_number_read_x) (t48 ++ [])))).bind fun t49 => Res.ok [t49])) (x_call (as := (((dIx (rd t42) (D.int 1))).bind fun t45 => Res.ok [t45])) (x_cons (a := (dIx (rd t42) (D.int 1))) (as := (Res.ok [])) rfl rfl)) (x_cons (a := (((((dIx (rd t42) (D.int 2))).bind fun t47 => Res.ok [t47])).bind fun t48 => (callD (lenIs 1 Ψ_number_read_x) (t48 ++ [])))) (as := (Res.ok [])) (x_call (as := (((dIx (rd t42) (D.int 2))).bind fun t47 => Res.ok [t47])) (x_cons (a := (dIx (rd t42) (D.int 2))) (as := (Res.ok [])) rfl rfl)) rfl)))) (fun _ => rfl) fun v_keeps => (r_nilB rfl)))
def M_read_channel_x (v_text : D) : Res D :=
  ((((dMakeIO "Rows" (lenIs 2 Ψ_Rows_init)) [(rd v_text)]).bind chk).bind fun v_rows =>
  (((cmpC (lenIs 1 Ψ_pins_read_x) (callM "Rows" "taken" (lenIs 2 Ψ_Rows_taken_x) v_rows (Res.ok [(D.str "top")]))).bind chk1).bind fun t1 =>
  (((cmpC (lenIs 1 Ψ_pins_read_x) (callM "Rows" "taken" (lenIs 2 Ψ_Rows_taken_x) t1.2 (Res.ok [(D.str "bottom")]))).bind chk1).bind fun t2 =>
  (((lcC (callM "Rows" "taken" (lenIs 2 Ψ_Rows_taken_x) t2.2 (Res.ok [(D.str "left")])) (fun t4 => (((callD (lenIs 1 Ψ_name_read_x) [(rd t4)])).bind fun y => (chk y).bind fun y => Res.ok (some y)))).bind chk1).bind fun t7 =>
  (((lcC (callM "Rows" "taken" (lenIs 2 Ψ_Rows_taken_x) t7.2 (Res.ok [(D.str "right")])) (fun t9 => (((callD (lenIs 1 Ψ_name_read_x) [(rd t9)])).bind fun y => (chk y).bind fun y => Res.ok (some y)))).bind chk1).bind fun t12 =>
  (((lcC (callM "Rows" "several" (lenIs 3 Ψ_Rows_several_x) t12.2 (Res.ok [(D.str "wide"), (D.int 2)])) (fun t14 => (((((((((((dIx (rd t14) (D.int 0))).bind fun t16 => Res.ok [t16])).bind fun t17 => (callD (lenIs 1 Ψ_name_read_x) (t17 ++ [])))).bind fun t21 => ((((((((dIx (rd t14) (D.int 1))).bind fun t18 => Res.ok [t18])).bind fun t19 => (callD (lenIs 1 Ψ_number_read_x) (t19 ++ [])))).bind fun t20 => Res.ok [t20])).bind fun t22 => Res.ok (t21 :: t22))).bind fun t23 => (tupA t23))).bind fun y => (chk y).bind fun y => Res.ok (some y)))).bind chk1).bind fun t25 =>
  (((lcC (callM "Rows" "several" (lenIs 3 Ψ_Rows_several_x) t25.2 (Res.ok [(D.str "bend"), (D.int 2)])) (fun t27 => (((((((((((dIx (rd t27) (D.int 0))).bind fun t29 => Res.ok [t29])).bind fun t30 => (callD (lenIs 1 Ψ_number_read_x) (t30 ++ [])))).bind fun t34 => ((((((((dIx (rd t27) (D.int 1))).bind fun t31 => Res.ok [t31])).bind fun t32 => (callD (lenIs 1 Ψ_name_read_x) (t32 ++ [])))).bind fun t33 => Res.ok [t33])).bind fun t35 => Res.ok (t34 :: t35))).bind fun t36 => (tupA t36))).bind fun y => (chk y).bind fun y => Res.ok (some y)))).bind chk1).bind fun t38 =>
  ((callM "Rows" "several" (lenIs 3 Ψ_Rows_several_x) t38.2 (Res.ok [(D.str "keep"), (D.int 3)])).bind fun t40 => ((itemsL t40.1).bind fun t57 => (afterV (forV (fun d s => B_read_channel_x_1 t40.2 t1.1 t2.1 t7.1 t12.1 t25.1 t38.1 d s) t57 (D.lst Tag.own [])) (fun t55 =>
  (ifR ((((mrdV "Rows" "head" (lenIs 1 Ψ_Rows_head) t40.2)).bind fun t56 => (dNe t56 (D.str ""))).bind asB)
  (raise0 "BadText")
  ((((dMake "Channel" ["top" , "bottom" , "left" , "right" , "wide" , "bends" , "keeps"]) [(rd (fz t1.1)), (rd (fz t2.1)), (rd (fz t7.1)), (rd (fz t12.1)), (rd (fz t25.1)), (rd (fz t38.1)), (rd (fz t55))]).bind chk).bind fun v_channel =>
  (((callD (lenIs 1 Ψ_look_sizes_x) [(rd v_channel)])).bind fun _ => (okR v_channel))))) okR))))))))))
theorem me_read_channel_x (v_text : D) : RF (g_read_channel_x [some v_text, none, none, none, none, none, none, none, none, none, none, none]) (M_read_channel_x v_text) := (f_last (f_assoc (f_set (fx := ((dMakeIO "Rows" (lenIs 2 Ψ_Rows_init)) [(rd v_text)])) (en := fun v_rows => [some v_text, some v_rows, none, none, none, none, none, none, none, none, none, none]) (x_eC (as := (Res.ok [(rd v_text)])) (x_consP (a := (rd v_text)) (as := []) rfl rfl)) (fun _ => rfl) fun v_rows => (f_assoc (f_setS (e' := (fun d => [some v_text, some d, none, none, none, none, none, none, none, none, none, none])) (en := fun t1 => [some v_text, some t1.2, some t1.1, none, none, none, none, none, none, none, none, none]) (x_callS (e' := (fun d => [some v_text, some d, none, none, none, none, none, none, none, none, none, none])) (x_ioM (as := (Res.ok [(D.str "top")])) rfl (x_consP (a := (D.str "top")) (as := []) rfl rfl))) (fun _ => rfl) fun t1 => (f_assoc (f_setS (e' := (fun d => [some v_text, some d, some t1.1, none, none, none, none, none, none, none, none, none])) (en := fun t2 => [some v_text, some t2.2, some t1.1, some t2.1, none, none, none, none, none, none, none, none]) (x_callS (e' := (fun d => [some v_text, some d, some t1.1, none, none, none, none, none, none, none, none, none])) (x_ioM (as := (Res.ok [(D.str "bottom")])) rfl (x_consP (a := (D.str "bottom")) (as := []) rfl rfl))) (fun _ => rfl) fun t2 => (f_assoc (f_setS (e' := (fun d => [some v_text, some d, some t1.1, some t2.1, none, none, none, none, none, none, none, none])) (en := fun t7 => [some v_text, some t7.2, some t1.1, some t2.1, some t7.1, none, none, none, none, none, none, none]) (x_lcS (e' := (fun d => [some v_text, some d, some t1.1, some t2.1, none, none, none, none, none, none, none, none])) (step := fun t4 => (((callD (lenIs 1 Ψ_name_read_x) [(rd t4)])).bind fun y => (chk y).bind fun y => Res.ok (some y))) (x_ioM (as := (Res.ok [(D.str "left")])) rfl (x_consP (a := (D.str "left")) (as := []) rfl rfl)) (fun t3 => (fun t4 => t_lcb1 (fx := (callD (lenIs 1 Ψ_name_read_x) [(rd t4)])) (x_callP (as := [(rd t4)]) (x_consP (a := (rd t4)) (as := []) rfl rfl) rfl)))) (fun _ => rfl) fun t7 => (f_assoc (f_setS (e' := (fun d => [some v_text, some d, some t1.1, some t2.1, some t7.1, none, none, none, none, none, none, none])) (en := fun t12 => [some v_text, some t12.2, some t1.1, some t2.1, some t7.1, some t12.1, none, none, none, none, none, none]) (x_lcS (e' := (fun d => [some v_text, some d, some t1.1, some t2.1, some t7.1, none, none, none, none, none, none, none])) (step := fun t9 => (((callD (lenIs 1 Ψ_name_read_x) [(rd t9)])).bind fun y => (chk y).bind fun y => Res.ok (some y))) (x_ioM (as := (Res.ok [(D.str "right")])) rfl (x_consP (a := (D.str "right")) (as := []) rfl rfl)) (fun t8 => (fun t9 => t_lcb1 (fx := (callD (lenIs 1 Ψ_name_read_x) [(rd t9)])) (x_callP (as := [(rd t9)]) (x_consP (a := (rd t9)) (as := []) rfl rfl) rfl)))) (fun _ => rfl) fun t12 => (f_assoc (f_setS (e' := (fun d => [some v_text, some d, some t1.1, some t2.1, some t7.1, some t12.1, none, none, none, none, none, none])) (en := fun t25 => [some v_text, some t25.2, some t1.1, some t2.1, some t7.1, some t12.1, some t25.1, none, none, none, none, none]) (x_lcS (e' := (fun d => [some v_text, some d, some t1.1, some t2.1, some t7.1, some t12.1, none, none, none, none, none, none])) (step := fun t14 => (((((((((((dIx (rd t14) (D.int 0))).bind fun t16 => Res.ok [t16])).bind fun t17 => (callD (lenIs 1 Ψ_name_read_x) (t17 ++ [])))).bind fun t21 => ((((((((dIx (rd t14) (D.int 1))).bind fun t18 => Res.ok [t18])).bind fun t19 => (callD (lenIs 1 Ψ_number_read_x) (t19 ++ [])))).bind fun t20 => Res.ok [t20])).bind fun t22 => Res.ok (t21 :: t22))).bind fun t23 => (tupA t23))).bind fun y => (chk y).bind fun y => Res.ok (some y))) (x_ioM (as := (Res.ok [(D.str "wide"), (D.int 2)])) rfl (x_consP (a := (D.str "wide")) (as := [(D.int 2)]) rfl (x_consP (a := (D.int 2)) (as := []) rfl rfl))) (fun t13 => (fun t14 => t_lcb1 (fx := (((((((((dIx (rd t14) (D.int 0))).bind fun t16 => Res.ok [t16])).bind fun t17 => (callD (lenIs 1 Ψ_name_read_x) (t17 ++ [])))).bind fun t21 => ((((((((dIx (rd t14) (D.int 1))).bind fun t18 => Res.ok [t18])).bind fun t19 => (callD (lenIs 1 Ψ_number_read_x) (t19 ++ [])))).bind fun t20 => Res.ok [t20])).bind fun t22 => Res.ok (t21 :: t22))).bind fun t23 => (tupA t23))) (x_tup (as := (((((((dIx (rd t14) (D.int 0))).bind fun t16 => Res.ok [t16])).bind fun t17 => (callD (lenIs 1 Ψ_name_read_x) (t17 ++ [])))).bind fun t21 => ((((((((dIx (rd t14) (D.int 1))).bind fun t18 => Res.ok [t18])).bind fun t19 => (callD (lenIs 1 Ψ_number_read_x) (t19 ++ [])))).bind fun t20 => Res.ok [t20])).bind fun t22 => Res.ok (t21 :: t22))) (x_cons (a := (((((dIx (rd t14) (D.int 0))).bind fun t16 => Res.ok [t16])).bind fun t17 => (callD (lenIs 1 Ψ_name_read_x) (t17 ++ [])))) (as := (((((((dIx (rd t14) (D.int 1))).bind fun t18 => Res.ok [t18])).bind fun t19 => (callD (lenIs 1 Ψ_number_read_x) (t19 ++ [])))).bind fun t20 => Res.ok [t20])) (x_call (as := (((dIx (rd t14) (D.int 0))).bind fun t16 => Res.ok [t16])) (x_cons (a := (dIx (rd t14) (D.int 0))) (as := (Res.ok [])) rfl rfl)) (x_cons (a := (((((dIx (rd t14) (D.int 1))).bind fun t18 => Res.ok [t18])).bind fun t19 => (callD (lenIs 1 Ψ_number_read_x) (t19 ++ [])))) (as := (Res.ok [])) (x_call (as := (((dIx (rd t14) (D.int 1))).bind fun t18 => Res.ok [t18])) (x_cons (a := (dIx (rd t14) (D.int 1))) (as := (Res.ok [])) rfl rfl)) rfl)))))) (fun _ => rfl) fun t25 => (f_assoc (f_setS (e' := (fun d => [some v_text, some d, some t1.1, some t2.1, some t7.1, some t12.1, some t25.1, none, none, none, none, none])) (en := fun t38 => [some v_text, some t38.2, some t1.1, some t2.1, some t7.1, some t12.1, some t25.1, some t38.1, none, none, none, none]) (x_lcS (e' := (fun d => [some v_text, some d, some t1.1, some t2.1, some t7.1, some t12.1, some t25.1, none, none, none, none, none])) (step := fun t27 => (((((((((((dIx (rd t27) (D.int 0))).bind fun t29 => Res.ok [t29])).bind fun t30 => (callD (lenIs 1 Ψ_number_read_x) (t30 ++ [])))).bind fun t34 => ((((((((dIx (rd t27) (D.int 1))).bind fun t31 => Res.ok [t31])).bind fun t32 => (callD (lenIs 1 Ψ_name_read_x) (t32 ++ [])))).bind fun t33 => Res.ok [t33])).bind fun t35 => Res.ok (t34 :: t35))).bind fun t36 => (tupA t36))).bind fun y => (chk y).bind fun y => Res.ok (some y))) (x_ioM (as := (Res.ok [(D.str "bend"), (D.int 2)])) rfl (x_consP (a := (D.str "bend")) (as := [(D.int 2)]) rfl (x_consP (a := (D.int 2)) (as := []) rfl rfl))) (fun t26 => (fun t27 => t_lcb1 (fx := (((((((((dIx (rd t27) (D.int 0))).bind fun t29 => Res.ok [t29])).bind fun t30 => (callD (lenIs 1 Ψ_number_read_x) (t30 ++ [])))).bind fun t34 => ((((((((dIx (rd t27) (D.int 1))).bind fun t31 => Res.ok [t31])).bind fun t32 => (callD (lenIs 1 Ψ_name_read_x) (t32 ++ [])))).bind fun t33 => Res.ok [t33])).bind fun t35 => Res.ok (t34 :: t35))).bind fun t36 => (tupA t36))) (x_tup (as := (((((((dIx (rd t27) (D.int 0))).bind fun t29 => Res.ok [t29])).bind fun t30 => (callD (lenIs 1 Ψ_number_read_x) (t30 ++ [])))).bind fun t34 => ((((((((dIx (rd t27) (D.int 1))).bind fun t31 => Res.ok [t31])).bind fun t32 => (callD (lenIs 1 Ψ_name_read_x) (t32 ++ [])))).bind fun t33 => Res.ok [t33])).bind fun t35 => Res.ok (t34 :: t35))) (x_cons (a := (((((dIx (rd t27) (D.int 0))).bind fun t29 => Res.ok [t29])).bind fun t30 => (callD (lenIs 1 Ψ_number_read_x) (t30 ++ [])))) (as := (((((((dIx (rd t27) (D.int 1))).bind fun t31 => Res.ok [t31])).bind fun t32 => (callD (lenIs 1 Ψ_name_read_x) (t32 ++ [])))).bind fun t33 => Res.ok [t33])) (x_call (as := (((dIx (rd t27) (D.int 0))).bind fun t29 => Res.ok [t29])) (x_cons (a := (dIx (rd t27) (D.int 0))) (as := (Res.ok [])) rfl rfl)) (x_cons (a := (((((dIx (rd t27) (D.int 1))).bind fun t31 => Res.ok [t31])).bind fun t32 => (callD (lenIs 1 Ψ_name_read_x) (t32 ++ [])))) (as := (Res.ok [])) (x_call (as := (((dIx (rd t27) (D.int 1))).bind fun t31 => Res.ok [t31])) (x_cons (a := (dIx (rd t27) (D.int 1))) (as := (Res.ok [])) rfl rfl)) rfl)))))) (fun _ => rfl) fun t38 => (f_assoc (f_setV (x := (D.lst Tag.own [])) (en := [some v_text, some t38.2, some t1.1, some t2.1, some t7.1, some t12.1, some t25.1, some t38.1, some (D.lst Tag.own []), none, none, none]) (x_lstP (ds := []) rfl 0 rfl rfl) rfl rfl (f_assoc (f_forS (e' := (fun d => [some v_text, some d, some t1.1, some t2.1, some t7.1, some t12.1, some t25.1, some t38.1, some (D.lst Tag.own []), none, none, none])) (fun t39 (s : D) => [some v_text, some t39, some t1.1, some t2.1, some t7.1, some t12.1, some t25.1, some t38.1, some s, none, none, none]) (step := fun t39 => (fun d s => B_read_channel_x_1 t39 t1.1 t2.1 t7.1 t12.1 t25.1 t38.1 d s)) (s0 := fun t39 => (D.lst Tag.own [])) (x_ioM (as := (Res.ok [(D.str "keep"), (D.int 3)])) rfl (x_consP (a := (D.str "keep")) (as := [(D.int 3)]) rfl (x_consP (a := (D.int 3)) (as := []) rfl rfl))) (fun _ => rfl) (fun t39 d s => bo_B_read_channel_x_1 t39 t1.1 t2.1 t7.1 t12.1 t25.1 t38.1 (some v_text) d s) fun t40 t55 => (f_assoc (f_if (tx := ((((mrdV "Rows" "head" (lenIs 1 Ψ_Rows_head) t40.2)).bind fun t56 => (dNe t56 (D.str ""))).bind asB)) (x_B (a := (((mrdV "Rows" "head" (lenIs 1 Ψ_Rows_head) t40.2)).bind fun t56 => (dNe t56 (D.str "")))) (x_e2 (a := (mrdV "Rows" "head" (lenIs 1 Ψ_Rows_head) t40.2)) (b := (Res.ok (D.str ""))) (x_mrd rfl) rfl)) f_raise0 (f_nil (f_assoc (f_frz (en := [some v_text, some t40.2, some t1.1, some t2.1, some t7.1, some t12.1, some t25.1, some t38.1, some (fz t55), none, none, none]) rfl (f_frz (en := [some v_text, some t40.2, some t1.1, some t2.1, some t7.1, some t12.1, some t25.1, some (fz t38.1), some (fz t55), none, none, none]) rfl (f_frz (en := [some v_text, some t40.2, some t1.1, some t2.1, some t7.1, some t12.1, some (fz t25.1), some (fz t38.1), some (fz t55), none, none, none]) rfl (f_frz (en := [some v_text, some t40.2, some t1.1, some t2.1, some t7.1, some (fz t12.1), some (fz t25.1), some (fz t38.1), some (fz t55), none, none, none]) rfl (f_frz (en := [some v_text, some t40.2, some t1.1, some t2.1, some (fz t7.1), some (fz t12.1), some (fz t25.1), some (fz t38.1), some (fz t55), none, none, none]) rfl (f_frz (en := [some v_text, some t40.2, some t1.1, some (fz t2.1), some (fz t7.1), some (fz t12.1), some (fz t25.1), some (fz t38.1), some (fz t55), none, none, none]) rfl (f_frz (en := [some v_text, some t40.2, some (fz t1.1), some (fz t2.1), some (fz t7.1), some (fz t12.1), some (fz t25.1), some (fz t38.1), some (fz t55), none, none, none]) rfl (f_set (fx := ((dMake "Channel" ["top" , "bottom" , "left" , "right" , "wide" , "bends" , "keeps"]) [(rd (fz t1.1)), (rd (fz t2.1)), (rd (fz t7.1)), (rd (fz t12.1)), (rd (fz t25.1)), (rd (fz t38.1)), (rd (fz t55))])) (en := fun v_channel => [some v_text, some t40.2, some (fz t1.1), some (fz t2.1), some (fz t7.1), some (fz t12.1), some (fz t25.1), some (fz t38.1), some (fz t55), none, some v_channel, none]) (x_eC (as := (Res.ok [(rd (fz t1.1)), (rd (fz t2.1)), (rd (fz t7.1)), (rd (fz t12.1)), (rd (fz t25.1)), (rd (fz t38.1)), (rd (fz t55))])) (x_consP (a := (rd (fz t1.1))) (as := [(rd (fz t2.1)), (rd (fz t7.1)), (rd (fz t12.1)), (rd (fz t25.1)), (rd (fz t38.1)), (rd (fz t55))]) rfl (x_consP (a := (rd (fz t2.1))) (as := [(rd (fz t7.1)), (rd (fz t12.1)), (rd (fz t25.1)), (rd (fz t38.1)), (rd (fz t55))]) rfl (x_consP (a := (rd (fz t7.1))) (as := [(rd (fz t12.1)), (rd (fz t25.1)), (rd (fz t38.1)), (rd (fz t55))]) rfl (x_consP (a := (rd (fz t12.1))) (as := [(rd (fz t25.1)), (rd (fz t38.1)), (rd (fz t55))]) rfl (x_consP (a := (rd (fz t25.1))) (as := [(rd (fz t38.1)), (rd (fz t55))]) rfl (x_consP (a := (rd (fz t38.1))) (as := [(rd (fz t55))]) rfl (x_consP (a := (rd (fz t55))) (as := []) rfl rfl)))))))) (fun _ => rfl) fun v_channel => (f_assoc (f_drop (fx := (callD (lenIs 1 Ψ_look_sizes_x) [(rd v_channel)])) (x_callP (as := [(rd v_channel)]) (x_consP (a := (rd v_channel)) (as := []) rfl rfl) rfl) (f_retV rfl))))))))))))))))))))))))))))))))))
def Ψ_read_channel_x (ds : List D) : Res D := match ds with
  | [a0] => M_read_channel_x a0
  | _ => Res.stuck
theorem ps_read_channel_x (ds : List D) : Ψ_read_channel_x ds = Res.stuck ∨ Φ_read_channel_x ds = Ψ_read_channel_x ds := by
  unfold Ψ_read_channel_x
  split
  · exact phi_of rfl (me_read_channel_x _)
  · exact .inl rfl
def N__law_word : List Str := ["_law_k", "_law_seed", "_law_letters", "_law_rest", "_law_at"]
def g__law_word : PV.Env → SR := sSeq (sSet 2 (eC (.str "abcdefghijklmnopqrstuvwxyz"))) (sSeq (sSet 3 (e2 dAdd (e2 dIx (eVar 2) (e2 dMod (eVar 1) (eC (.int 26)))) (e2 dIx (eVar 2) (e2 dMod (e2 dDiv (eVar 1) (eC (.int 26))) (eC (.int 26)))))) (sSeq (sSet 4 (e2 dMod (e2 dDiv (eVar 1) (eC (.int 676))) (eC (.int 3)))) (sRet (e2 dAdd (e2 dAdd (eSl (eVar 3) (oNo) (oSome (eVar 4))) (e2 dIx (eVar 2) (e2 dMod (e2 dAdd (eVar 0) (e2 dDiv (eVar 1) (eC (.int 2048)))) (eC (.int 26))))) (eSl (eVar 3) (oSome (eVar 4)) (oNo))))))
def Φ__law_word : List D → Res D := runF N__law_word.length g__law_word
def M__law_word (y_k : D) (y_seed : D) : Res D :=
  (((((((dMod (rd y_seed) (D.int 26))).bind fun t1 => (dIx (rd (D.str "abcdefghijklmnopqrstuvwxyz")) t1))).bind fun t4 => (((((((dDiv (rd y_seed) (D.int 26))).bind fun t2 => (dMod t2 (D.int 26)))).bind fun t3 => (dIx (rd (D.str "abcdefghijklmnopqrstuvwxyz")) t3))).bind fun t5 => (dAdd t4 t5))).bind chk).bind fun y_rest =>
  (((((dDiv (rd y_seed) (D.int 676))).bind fun t6 => (dMod t6 (D.int 3))).bind chk).bind fun y_at =>
  (((((((((oInt (rd y_at))).bind fun t7 => (dSl (rd y_rest) none t7))).bind fun t11 => (((((((((dDiv (rd y_seed) (D.int 2048))).bind fun t8 => (dAdd (rd y_k) t8))).bind fun t9 => (dMod t9 (D.int 26)))).bind fun t10 => (dIx (rd (D.str "abcdefghijklmnopqrstuvwxyz")) t10))).bind fun t12 => (dAdd t11 t12)))).bind fun t14 => (((((oInt (rd y_at))).bind fun t13 => (dSl (rd y_rest) t13 none))).bind fun t15 => (dAdd t14 t15))).bind chk).bind okR)))
theorem me__law_word (y_k : D) (y_seed : D) : RF (g__law_word [some y_k, some y_seed, none, none, none]) (M__law_word y_k y_seed) := (f_last (f_assoc (f_setV (x := (D.str "abcdefghijklmnopqrstuvwxyz")) (en := [some y_k, some y_seed, some (D.str "abcdefghijklmnopqrstuvwxyz"), none, none]) rfl rfl rfl (f_assoc (f_set (fx := (((((dMod (rd y_seed) (D.int 26))).bind fun t1 => (dIx (rd (D.str "abcdefghijklmnopqrstuvwxyz")) t1))).bind fun t4 => (((((((dDiv (rd y_seed) (D.int 26))).bind fun t2 => (dMod t2 (D.int 26)))).bind fun t3 => (dIx (rd (D.str "abcdefghijklmnopqrstuvwxyz")) t3))).bind fun t5 => (dAdd t4 t5)))) (en := fun y_rest => [some y_k, some y_seed, some (D.str "abcdefghijklmnopqrstuvwxyz"), some y_rest, none]) rfl (fun _ => rfl) fun y_rest => (f_assoc (f_set (fx := (((dDiv (rd y_seed) (D.int 676))).bind fun t6 => (dMod t6 (D.int 3)))) (en := fun y_at => [some y_k, some y_seed, some (D.str "abcdefghijklmnopqrstuvwxyz"), some y_rest, some y_at]) rfl (fun _ => rfl) fun y_at => (f_ret (fx := (((((((oInt (rd y_at))).bind fun t7 => (dSl (rd y_rest) none t7))).bind fun t11 => (((((((((dDiv (rd y_seed) (D.int 2048))).bind fun t8 => (dAdd (rd y_k) t8))).bind fun t9 => (dMod t9 (D.int 26)))).bind fun t10 => (dIx (rd (D.str "abcdefghijklmnopqrstuvwxyz")) t10))).bind fun t12 => (dAdd t11 t12)))).bind fun t14 => (((((oInt (rd y_at))).bind fun t13 => (dSl (rd y_rest) t13 none))).bind fun t15 => (dAdd t14 t15)))) rfl))))))))
def Ψ__law_word (ds : List D) : Res D := match ds with
  | [a0, a1] => M__law_word a0 a1
  | _ => Res.stuck
theorem ps__law_word (ds : List D) : Ψ__law_word ds = Res.stuck ∨ Φ__law_word ds = Ψ__law_word ds := by
  unfold Ψ__law_word
  split
  · exact phi_of rfl (me__law_word _ _)
  · exact .inl rfl
def N__law_line : List Str := ["_law_head", "_law_words"]
def g__law_line : PV.Env → SR := sRet (e2 dAdd (e1 (dJoin " ") (e2 dAdd (eLst (lCons (eVar 0) (lNil))) (eVar 1))) (eC (.str "\n")))
def Φ__law_line : List D → Res D := runF N__law_line.length g__law_line
def M__law_line (y_head : D) (y_words : D) : Res D :=
  (((((((dAdd (D.lst Tag.own [(rd y_head)]) (rd y_words))).bind fun t1 => ((dJoin " ") t1))).bind fun t2 => (dAdd t2 (D.str "\n"))).bind chk).bind okR)
theorem me__law_line (y_head : D) (y_words : D) : RF (g__law_line [some y_head, some y_words]) (M__law_line y_head y_words) := (f_last (f_ret (fx := (((((dAdd (D.lst Tag.own [(rd y_head)]) (rd y_words))).bind fun t1 => ((dJoin " ") t1))).bind fun t2 => (dAdd t2 (D.str "\n")))) (x_e2 (a := (((dAdd (D.lst Tag.own [(rd y_head)]) (rd y_words))).bind fun t1 => ((dJoin " ") t1))) (b := (Res.ok (D.str "\n"))) (x_e1 (a := (dAdd (D.lst Tag.own [(rd y_head)]) (rd y_words))) (x_e2 (a := (Res.ok (D.lst Tag.own [(rd y_head)]))) (b := (Res.ok (rd y_words))) (x_lstP (ds := [(rd y_head)]) (x_consP (a := (rd y_head)) (as := []) rfl rfl) 1 rfl rfl) rfl)) rfl)))
def Ψ__law_line (ds : List D) : Res D := match ds with
  | [a0, a1] => M__law_line a0 a1
  | _ => Res.stuck
theorem ps__law_line (ds : List D) : Ψ__law_line ds = Res.stuck ∨ Φ__law_line ds = Ψ__law_line ds := by
  unfold Ψ__law_line
  split
  · exact phi_of rfl (me__law_line _ _)
  · exact .inl rfl
def q_law_k05_1 : PV.Env → Res D := eCall (lenIs 2 Ψ__law_word) [] (lCons (eVar 18) (lCons (eVar 1) (lNil)))
def q_law_k05_2 : PV.Env → Res D := eIf (eB (e2 dLt (eVar 18) (eVar 6))) (e2 dIx (eVar 8) (eVar 18)) (eC (.str "."))
def q_law_k05_3 : PV.Env → Res D := e2 dAdd (e2 dAdd (eC (.str "wide ")) (eVar 19)) (eC (.str " 2\n"))
def q_law_k05_4 : PV.Env → Res D := e2 dAdd (e2 dAdd (e2 dAdd (e2 dAdd (eC (.str "bend ")) (e1 dStrI (eVar 18))) (eC (.str " "))) (eVar 19)) (eC (.str "\n"))
def a_law_k05_1 : PV.Env → SR := sSet 1 (e2 dMod (e2 dMul (e2 dAdd (e2 dMod (eC_ dSum (lCons (eSl (eVar 0) (oNo) (oSome (eC (.int 1)))) (lNil))) (e2 dPow (eC (.int 10)) (eC (.int 30)))) (eC (.int 3))) (eC (.int 40014))) (eC (.int 2147483563)))
def a_law_k05_2 : PV.Env → SR := sSet 2 (eCall (lenIs 2 Φ__law_mix) [] (lCons (eC_ dSum (lCons (eSl (eVar 0) (oSome (eC (.int 1))) (oSome (eC (.int 2)))) (lNil))) (lCons (eC (.int 5)) (lNil))))
def a_law_k05_3 : PV.Env → SR := sSet 3 (e2 dIx (eLst (lCons (e2 dMod (e2 dDiv (eVar 2) (eC (.int 4))) (eC (.int 43))) (lCons (e2 dAdd (eC (.int 39)) (e2 dMod (e2 dDiv (eVar 2) (eC (.int 4))) (eC (.int 3)))) (lCons (e2 dMod (e2 dDiv (eVar 2) (eC (.int 4))) (eC (.int 3))) (lNil))))) (e2 dMod (eVar 2) (eC (.int 3))))
def a_law_k05_4 : PV.Env → SR := sSet 4 (e2 dAdd (eVar 3) (e2 dIx (eLst (lCons (eC (.int 0)) (lCons (eC (.int 0)) (lCons (eC (.int 0)) (lCons (eC (.int 1)) (lCons (e1 dNeg (eC (.int 1))) (lNil))))))) (e2 dMod (e2 dDiv (eVar 2) (eC (.int 256))) (eC (.int 5)))))
def a_law_k05_5 : PV.Env → SR := sSet 5 (eCall (lenIs 2 Φ__law_mix) [] (lCons (eC_ dSum (lCons (eSl (eVar 0) (oSome (eC (.int 2))) (oSome (eC (.int 3)))) (lNil))) (lCons (eC (.int 7)) (lNil))))
def a_law_k05_6 : PV.Env → SR := sSet 6 (e2 dIx (eLst (lCons (e2 dAdd (eC (.int 1)) (e2 dMod (e2 dDiv (eVar 5) (eC (.int 4))) (eC (.int 26)))) (lCons (e2 dAdd (eC (.int 23)) (e2 dMod (e2 dDiv (eVar 5) (eC (.int 4))) (eC (.int 3)))) (lNil)))) (e2 dMod (eVar 5) (eC (.int 2))))
def a_law_k05_7 : PV.Env → SR := sSet 7 (e2 dIx (eLst (lCons (e2 dMod (e2 dDiv (eVar 5) (eC (.int 128))) (eC (.int 11))) (lCons (e2 dAdd (eC (.int 7)) (e2 dMod (e2 dDiv (eVar 5) (eC (.int 128))) (eC (.int 3)))) (lNil)))) (e2 dMod (e2 dDiv (eVar 5) (eC (.int 2))) (eC (.int 2))))
def a_law_k05_8 : PV.Env → SR := sSet 8 (eLc (yL rng1 (lCons (eVar 6) (lNil))) (putb 18) (bYes) (q_law_k05_1) [18])
def a_law_k05_9 : PV.Env → SR := sSet 9 (eLc (yL rng1 (lCons (eVar 3) (lNil))) (putb 18) (bYes) (q_law_k05_2) [18])
def a_law_k05_10 : PV.Env → SR := sSet 10 (eSl (eVar 8) (oSome (eVar 3)) (oNo))
def a_law_k05_11 : PV.Env → SR := sSet 11 (eLst (lNil))
def a_law_k05_12 : PV.Env → SR := sSet 12 (eLst (lNil))
def a_law_k05_13 : PV.Env → SR := sIf (eB (e2 dEq (e2 dMod (e2 dDiv (eVar 2) (eC (.int 8192))) (eC (.int 2))) (eC (.int 1)))) (sPar3 10 11 12 (lCons (e1 (dStp 0 3) (eVar 10)) (lCons (e1 (dStp 1 3) (eVar 10)) (lCons (e1 (dStp 2 3) (eVar 10)) (lNil))))) (sNil)
def a_law_k05_14 : PV.Env → SR := sSet 13 (eSl (eVar 8) (oNo) (oSome (e2 dMod (e2 dDiv (eVar 2) (eC (.int 2048))) (eC (.int 4)))))
def a_law_k05_15 : PV.Env → SR := sFrz 9 (sSet 14 (e2 dAdd (eCall (lenIs 2 Ψ__law_line) [] (lCons (eC (.str "top")) (lCons (eVar 9) (lNil)))) (eCall (lenIs 2 Ψ__law_line) [] (lCons (eC (.str "bottom")) (lCons (e2 dMul (eLst (lCons (eC (.str ".")) (lNil))) (eC_ dMax (lCons (eC (.int 0)) (lCons (eVar 4) (lNil))))) (lNil))))))
def a_law_k05_16 : PV.Env → SR := sSet 14 (e2 dAdd (e2 dAdd (eVar 14) (eCall (lenIs 2 Ψ__law_line) [] (lCons (eC (.str "left")) (lCons (eC_ dSort (lCons (eVar 10) (lNil))) (lNil))))) (eCall (lenIs 2 Ψ__law_line) [] (lCons (eC (.str "right")) (lCons (eC_ dSort (lCons (eVar 13) (lNil))) (lNil)))))
def a_law_k05_17 : PV.Env → SR := sSet 14 (e2 dAdd (eVar 14) (e1 (dJoin "") (eLc (yVal false (eC_ dSort (lCons (eVar 11) (lNil)))) (putb 19) (bYes) (q_law_k05_3) [19])))
def a_law_k05_18 : PV.Env → SR := sFrz 12 (sSet 14 (e2 dAdd (eVar 14) (e1 (dJoin "") (eLc (yL (enum1 false) (lCons (eVar 12) (lNil))) (putT 2 (putD (putb 18) (putD (putb 19) (putN)))) (bYes) (q_law_k05_4) [18, 19]))))
def a_law_k05_19 : PV.Env → SR := sSet 14 (e2 dAdd (eVar 14) (e2 dMulT (eC (.str "keep 0 0 1\n")) (eVar 7)))
def a_law_k05_20 : PV.Env → SR := sSet 15 (eAnd (eChain dLe dLe (eC (.int 1)) (eVar 3) (eC (.int 40))) (eAnd (e2 dEq (eVar 4) (eVar 3)) (eAnd (e2 dLe (eVar 6) (eC (.int 24))) (e2 dLe (eVar 7) (eC (.int 8))))))
def a_law_k05_21 : PV.Env → SR := sSet 16 (eC .non)
def a_law_k05_22 : PV.Env → SR := sSet 17 (eC (.bl false))
def a_law_k05_23 : PV.Env → SR := sFrz 14 (sTryN (sSet 16 (eCall (lenIs 1 Ψ_read_channel_x) [] (lCons (eVar 14) (lNil)))) ["BadText"] (sSet 17 (eC (.bl true))))
def a_law_k05_24 : PV.Env → SR := sIf (bOr (eT (eVar 17)) (bNot (eT (eVar 15)))) (sRet (eAnd (eVar 17) (e1 dNot (eVar 15)))) (sNil)
def a_law_k05_25 : PV.Env → SR := sRet (e2 dEq (eLst (lCons (eC_ dLen (lCons (e1 (dFld ["Channel"] "top") (eVar 16)) (lNil))) (lCons (eC_ dLen (lCons (e1 (dFld ["Channel"] "bottom") (eVar 16)) (lNil))) (lCons (eC_ dLen (lCons (e1 (dFld ["Channel"] "keeps") (eVar 16)) (lNil))) (lNil))))) (eLst (lCons (eVar 3) (lCons (eVar 3) (lCons (eVar 7) (lNil))))))
def N_law_k05 : List Str := ["_law_script", "_law_seed", "_law_one", "_law_width", "_law_below", "_law_two", "_law_many", "_law_keeps", "_law_names", "_law_pins", "_law_left", "_law_wide", "_law_bends", "_law_right", "_law_text", "_law_good", "_law_found", "_law_refused", "_law_k", "_law_name"]
def g_law_k05 : PV.Env → SR := sSeq (a_law_k05_1) (sSeq (a_law_k05_2) (sSeq (a_law_k05_3) (sSeq (a_law_k05_4) (sSeq (a_law_k05_5) (sSeq (a_law_k05_6) (sSeq (a_law_k05_7) (sSeq (a_law_k05_8) (sSeq (a_law_k05_9) (sSeq (a_law_k05_10) (sSeq (a_law_k05_11) (sSeq (a_law_k05_12) (sSeq (a_law_k05_13) (sSeq (a_law_k05_14) (sSeq (a_law_k05_15) (sSeq (a_law_k05_16) (sSeq (a_law_k05_17) (sSeq (a_law_k05_18) (sSeq (a_law_k05_19) (sSeq (a_law_k05_20) (sSeq (a_law_k05_21) (sSeq (a_law_k05_22) (sSeq (a_law_k05_23) (sSeq (a_law_k05_24) (a_law_k05_25))))))))))))))))))))))))
def Φ_law_k05 : List D → Res D := runF N_law_k05.length g_law_k05
def J_law_k05_1 (y_one : D) (y_width : D) (y_below : D) (y_many : D) (y_keeps : D) (y_names : D) (y_pins : D) (y_left : D) (y_wide : D) (y_bends : D) : Res D :=
  (((((((((dDiv (rd y_one) (D.int 2048))).bind fun t62 => (dMod t62 (D.int 4)))).bind fun t63 => (oInt t63))).bind fun t64 => (dSl (rd y_names) none t64)).bind chk).bind fun y_right =>
  (((((callD (lenIs 2 Ψ__law_line) [(D.str "top"), (rd (fz y_pins))])).bind fun t69 => (((((((((((dMax [(D.int 0), (rd y_below)])).bind fun t65 => (dMul (D.lst Tag.own [(D.str ".")]) t65))).bind fun t66 => Res.ok [t66])).bind fun t67 => Res.ok ((D.str "bottom") :: t67))).bind fun t68 => (callD (lenIs 2 Ψ__law_line) (t68 ++ [])))).bind fun t70 => (dAdd t69 t70))).bind chk).bind fun y_text =>
  (((((((((((((dSort [(rd y_left)])).bind fun t71 => Res.ok [t71])).bind fun t72 => Res.ok ((D.str "left") :: t72))).bind fun t73 => (callD (lenIs 2 Ψ__law_line) (t73 ++ [])))).bind fun t74 => (dAdd (rd y_text) t74))).bind fun t78 => (((((((((dSort [(rd y_right)])).bind fun t75 => Res.ok [t75])).bind fun t76 => Res.ok ((D.str "right") :: t76))).bind fun t77 => (callD (lenIs 2 Ψ__law_line) (t77 ++ [])))).bind fun t79 => (dAdd t78 t79))).bind chk).bind fun y_text =>
  (((((((((((dSort [(rd y_wide)])).bind fun t80 => (itemsOf false t80))).bind fun t85 => ((lcV (fun t81 => (((((dAdd (D.str "wide ") (rd t81))).bind fun t83 => (dAdd t83 (D.str " 2\n")))).bind fun y => (chk y).bind fun y => Res.ok (some y))) t85).bind lstB))).bind fun t86 => ((dJoin "") t86))).bind fun t87 => (dAdd (rd y_text) t87)).bind chk).bind fun y_text =>
  ((((((((((enum1 false) [(rd (fz y_bends))])).bind fun t95 => ((lcV (fun t88 => ((ub2 t88).bind fun t89 => (((((((((((dStrI (rd t89.1))).bind fun t90 => (dAdd (D.str "bend ") t90))).bind fun t91 => (dAdd t91 (D.str " ")))).bind fun t92 => (dAdd t92 (rd t89.2)))).bind fun t93 => (dAdd t93 (D.str "\n")))).bind fun y => (chk y).bind fun y => Res.ok (some y)))) t95).bind lstB))).bind fun t96 => ((dJoin "") t96))).bind fun t97 => (dAdd (rd y_text) t97)).bind chk).bind fun y_text =>
  (((((dMulT (D.str "keep 0 0 1\n") (rd y_keeps))).bind fun t98 => (dAdd (rd y_text) t98)).bind chk).bind fun y_text =>
  (((andV (chV (dLe (D.int 1) (rd y_width)) (dLe (rd y_width) (D.int 40))) (andV (dEq (rd y_below) (rd y_width)) (andV (dLe (rd y_many) (D.int 24)) (dLe (rd y_keeps) (D.int 8))))).bind chk).bind fun y_good =>
  (tryN ((callD (lenIs 1 Ψ_read_channel_x) [(rd (fz y_text))]).bind chk) ["BadText"] (fun t99 =>
  (ifR (ifR (tru (rd (D.bl false))) (Res.ok true) ((tru (rd y_good)).bind fun t100 => Res.ok (!t100)))
  (((andV (Res.ok (rd (D.bl false))) (dNot (rd y_good))).bind chk).bind okR)
  ((((((((((((((dFld ["Channel"] "top") (rd t99))).bind fun t101 => Res.ok [t101])).bind fun t102 => (dLen t102))).bind fun t110 => (((((((((dFld ["Channel"] "bottom") (rd t99))).bind fun t103 => Res.ok [t103])).bind fun t104 => (dLen t104))).bind fun t108 => (((((((((dFld ["Channel"] "keeps") (rd t99))).bind fun t105 => Res.ok [t105])).bind fun t106 => (dLen t106))).bind fun t107 => Res.ok [t107])).bind fun t109 => Res.ok (t108 :: t109))).bind fun t111 => Res.ok (t110 :: t111))).bind fun t112 => (lstB t112))).bind fun t113 => (dEq t113 (D.lst Tag.own [(rd y_width), (rd y_width), (rd y_keeps)]))).bind chk).bind okR))) (
  (ifR (ifR (tru (rd (D.bl true))) (Res.ok true) ((tru (rd y_good)).bind fun t114 => Res.ok (!t114)))
  (((andV (Res.ok (rd (D.bl true))) (dNot (rd y_good))).bind chk).bind okR)
  ((((((((((((((dFld ["Channel"] "top") (rd D.non))).bind fun t115 => Res.ok [t115])).bind fun t116 => (dLen t116))).bind fun t124 => (((((((((dFld ["Channel"] "bottom") (rd D.non))).bind fun t117 => Res.ok [t117])).bind fun t118 => (dLen t118))).bind fun t122 => (((((((((dFld ["Channel"] "keeps") (rd D.non))).bind fun t119 => Res.ok [t119])).bind fun t120 => (dLen t120))).bind fun t121 => Res.ok [t121])).bind fun t123 => Res.ok (t122 :: t123))).bind fun t125 => Res.ok (t124 :: t125))).bind fun t126 => (lstB t126))).bind fun t127 => (dEq t127 (D.lst Tag.own [(rd y_width), (rd y_width), (rd y_keeps)]))).bind chk).bind okR)))))))))))
theorem jo_J_law_k05_1 (y_one : D) (y_width : D) (y_below : D) (y_many : D) (y_keeps : D) (y_names : D) (y_pins : D) (y_left : D) (y_wide : D) (y_bends : D) (o_0 o_1 o_5 : Option D) : RF ((sSeq (sSeq a_law_k05_14 (sSeq a_law_k05_15 (sSeq a_law_k05_16 (sSeq a_law_k05_17 (sSeq a_law_k05_18 (sSeq a_law_k05_19 (sSeq a_law_k05_20 (sSeq a_law_k05_21 (sSeq a_law_k05_22 (sSeq a_law_k05_23 (sSeq a_law_k05_24 a_law_k05_25))))))))))) sNil) [o_0, o_1, some y_one, some y_width, some y_below, o_5, some y_many, some y_keeps, some y_names, some y_pins, some y_left, some y_wide, some y_bends, none, none, none, none, none, none, none]) (J_law_k05_1 y_one y_width y_below y_many y_keeps y_names y_pins y_left y_wide y_bends) := (f_assoc (f_set (fx := (((((((dDiv (rd y_one) (D.int 2048))).bind fun t62 => (dMod t62 (D.int 4)))).bind fun t63 => (oInt t63))).bind fun t64 => (dSl (rd y_names) none t64))) (en := fun y_right => [o_0, o_1, some y_one, some y_width, some y_below, o_5, some y_many, some y_keeps, some y_names, some y_pins, some y_left, some y_wide, some y_bends, some y_right, none, none, none, none, none, none]) rfl (fun _ => rfl) fun y_right => (f_assoc (f_frz (en := [o_0, o_1, some y_one, some y_width, some y_below, o_5, some y_many, some y_keeps, some y_names, some (fz y_pins), some y_left, some y_wide, some y_bends, some y_right, none, none, none, none, none, none]) rfl (f_set (fx := (((callD (lenIs 2 Ψ__law_line) [(D.str "top"), (rd (fz y_pins))])).bind fun t69 => (((((((((((dMax [(D.int 0), (rd y_below)])).bind fun t65 => (dMul (D.lst Tag.own [(D.str ".")]) t65))).bind fun t66 => Res.ok [t66])).bind fun t67 => Res.ok ((D.str "bottom") :: t67))).bind fun t68 => (callD (lenIs 2 Ψ__law_line) (t68 ++ [])))).bind fun t70 => (dAdd t69 t70)))) (en := fun y_text => [o_0, o_1, some y_one, some y_width, some y_below, o_5, some y_many, some y_keeps, some y_names, some (fz y_pins), some y_left, some y_wide, some y_bends, some y_right, some y_text, none, none, none, none, none]) (x_e2 (a := (callD (lenIs 2 Ψ__law_line) [(D.str "top"), (rd (fz y_pins))])) (b := (((((((((dMax [(D.int 0), (rd y_below)])).bind fun t65 => (dMul (D.lst Tag.own [(D.str ".")]) t65))).bind fun t66 => Res.ok [t66])).bind fun t67 => Res.ok ((D.str "bottom") :: t67))).bind fun t68 => (callD (lenIs 2 Ψ__law_line) (t68 ++ [])))) (x_callP (as := [(D.str "top"), (rd (fz y_pins))]) (x_consP (a := (D.str "top")) (as := [(rd (fz y_pins))]) rfl (x_consP (a := (rd (fz y_pins))) (as := []) rfl rfl)) rfl) (x_call (as := (((((((dMax [(D.int 0), (rd y_below)])).bind fun t65 => (dMul (D.lst Tag.own [(D.str ".")]) t65))).bind fun t66 => Res.ok [t66])).bind fun t67 => Res.ok ((D.str "bottom") :: t67))) (x_cons (a := (Res.ok (D.str "bottom"))) (as := (((((dMax [(D.int 0), (rd y_below)])).bind fun t65 => (dMul (D.lst Tag.own [(D.str ".")]) t65))).bind fun t66 => Res.ok [t66])) rfl (x_cons (a := (((dMax [(D.int 0), (rd y_below)])).bind fun t65 => (dMul (D.lst Tag.own [(D.str ".")]) t65))) (as := (Res.ok [])) (x_e2 (a := (Res.ok (D.lst Tag.own [(D.str ".")]))) (b := (dMax [(D.int 0), (rd y_below)])) (x_lstP (ds := [(D.str ".")]) (x_consP (a := (D.str ".")) (as := []) rfl rfl) 1 rfl rfl) (x_eC (as := (Res.ok [(D.int 0), (rd y_below)])) (x_consP (a := (D.int 0)) (as := [(rd y_below)]) rfl (x_consP (a := (rd y_below)) (as := []) rfl rfl)))) rfl)))) (fun _ => rfl) fun y_text => (f_assoc (f_set (fx := (((((((((((dSort [(rd y_left)])).bind fun t71 => Res.ok [t71])).bind fun t72 => Res.ok ((D.str "left") :: t72))).bind fun t73 => (callD (lenIs 2 Ψ__law_line) (t73 ++ [])))).bind fun t74 => (dAdd (rd y_text) t74))).bind fun t78 => (((((((((dSort [(rd y_right)])).bind fun t75 => Res.ok [t75])).bind fun t76 => Res.ok ((D.str "right") :: t76))).bind fun t77 => (callD (lenIs 2 Ψ__law_line) (t77 ++ [])))).bind fun t79 => (dAdd t78 t79)))) (en := fun y_text => [o_0, o_1, some y_one, some y_width, some y_below, o_5, some y_many, some y_keeps, some y_names, some (fz y_pins), some y_left, some y_wide, some y_bends, some y_right, some y_text, none, none, none, none, none]) (x_e2 (a := (((((((((dSort [(rd y_left)])).bind fun t71 => Res.ok [t71])).bind fun t72 => Res.ok ((D.str "left") :: t72))).bind fun t73 => (callD (lenIs 2 Ψ__law_line) (t73 ++ [])))).bind fun t74 => (dAdd (rd y_text) t74))) (b := (((((((dSort [(rd y_right)])).bind fun t75 => Res.ok [t75])).bind fun t76 => Res.ok ((D.str "right") :: t76))).bind fun t77 => (callD (lenIs 2 Ψ__law_line) (t77 ++ [])))) (x_e2 (a := (Res.ok (rd y_text))) (b := (((((((dSort [(rd y_left)])).bind fun t71 => Res.ok [t71])).bind fun t72 => Res.ok ((D.str "left") :: t72))).bind fun t73 => (callD (lenIs 2 Ψ__law_line) (t73 ++ [])))) rfl (x_call (as := (((((dSort [(rd y_left)])).bind fun t71 => Res.ok [t71])).bind fun t72 => Res.ok ((D.str "left") :: t72))) (x_cons (a := (Res.ok (D.str "left"))) (as := (((dSort [(rd y_left)])).bind fun t71 => Res.ok [t71])) rfl (x_cons (a := (dSort [(rd y_left)])) (as := (Res.ok [])) (x_eC (as := (Res.ok [(rd y_left)])) (x_consP (a := (rd y_left)) (as := []) rfl rfl)) rfl)))) (x_call (as := (((((dSort [(rd y_right)])).bind fun t75 => Res.ok [t75])).bind fun t76 => Res.ok ((D.str "right") :: t76))) (x_cons (a := (Res.ok (D.str "right"))) (as := (((dSort [(rd y_right)])).bind fun t75 => Res.ok [t75])) rfl (x_cons (a := (dSort [(rd y_right)])) (as := (Res.ok [])) (x_eC (as := (Res.ok [(rd y_right)])) (x_consP (a := (rd y_right)) (as := []) rfl rfl)) rfl)))) (fun _ => rfl) fun y_text => (f_assoc (f_set (fx := (((((((((dSort [(rd y_wide)])).bind fun t80 => (itemsOf false t80))).bind fun t85 => ((lcV (fun t81 => (((((dAdd (D.str "wide ") (rd t81))).bind fun t83 => (dAdd t83 (D.str " 2\n")))).bind fun y => (chk y).bind fun y => Res.ok (some y))) t85).bind lstB))).bind fun t86 => ((dJoin "") t86))).bind fun t87 => (dAdd (rd y_text) t87))) (en := fun y_text => [o_0, o_1, some y_one, some y_width, some y_below, o_5, some y_many, some y_keeps, some y_names, some (fz y_pins), some y_left, some y_wide, some y_bends, some y_right, some y_text, none, none, none, none, none]) (x_e2 (a := (Res.ok (rd y_text))) (b := (((((((dSort [(rd y_wide)])).bind fun t80 => (itemsOf false t80))).bind fun t85 => ((lcV (fun t81 => (((((dAdd (D.str "wide ") (rd t81))).bind fun t83 => (dAdd t83 (D.str " 2\n")))).bind fun y => (chk y).bind fun y => Res.ok (some y))) t85).bind lstB))).bind fun t86 => ((dJoin "") t86))) rfl (x_e1 (a := (((((dSort [(rd y_wide)])).bind fun t80 => (itemsOf false t80))).bind fun t85 => ((lcV (fun t81 => (((((dAdd (D.str "wide ") (rd t81))).bind fun t83 => (dAdd t83 (D.str " 2\n")))).bind fun y => (chk y).bind fun y => Res.ok (some y))) t85).bind lstB))) (x_lc (ix := (((dSort [(rd y_wide)])).bind fun t80 => (itemsOf false t80))) (step := fun t81 => (((((dAdd (D.str "wide ") (rd t81))).bind fun t83 => (dAdd t83 (D.str " 2\n")))).bind fun y => (chk y).bind fun y => Res.ok (some y))) (x_yVal (a := (dSort [(rd y_wide)])) (x_eC (as := (Res.ok [(rd y_wide)])) (x_consP (a := (rd y_wide)) (as := []) rfl rfl))) rfl (fun t81 => t_lcb1 (fx := (((dAdd (D.str "wide ") (rd t81))).bind fun t83 => (dAdd t83 (D.str " 2\n")))) rfl)))) (fun _ => rfl) fun y_text => (f_assoc (f_frz (en := [o_0, o_1, some y_one, some y_width, some y_below, o_5, some y_many, some y_keeps, some y_names, some (fz y_pins), some y_left, some y_wide, some (fz y_bends), some y_right, some y_text, none, none, none, none, none]) rfl (f_set (fx := ((((((((enum1 false) [(rd (fz y_bends))])).bind fun t95 => ((lcV (fun t88 => ((ub2 t88).bind fun t89 => (((((((((((dStrI (rd t89.1))).bind fun t90 => (dAdd (D.str "bend ") t90))).bind fun t91 => (dAdd t91 (D.str " ")))).bind fun t92 => (dAdd t92 (rd t89.2)))).bind fun t93 => (dAdd t93 (D.str "\n")))).bind fun y => (chk y).bind fun y => Res.ok (some y)))) t95).bind lstB))).bind fun t96 => ((dJoin "") t96))).bind fun t97 => (dAdd (rd y_text) t97))) (en := fun y_text => [o_0, o_1, some y_one, some y_width, some y_below, o_5, some y_many, some y_keeps, some y_names, some (fz y_pins), some y_left, some y_wide, some (fz y_bends), some y_right, some y_text, none, none, none, none, none]) (x_e2 (a := (Res.ok (rd y_text))) (b := ((((((enum1 false) [(rd (fz y_bends))])).bind fun t95 => ((lcV (fun t88 => ((ub2 t88).bind fun t89 => (((((((((((dStrI (rd t89.1))).bind fun t90 => (dAdd (D.str "bend ") t90))).bind fun t91 => (dAdd t91 (D.str " ")))).bind fun t92 => (dAdd t92 (rd t89.2)))).bind fun t93 => (dAdd t93 (D.str "\n")))).bind fun y => (chk y).bind fun y => Res.ok (some y)))) t95).bind lstB))).bind fun t96 => ((dJoin "") t96))) rfl (x_e1 (a := ((((enum1 false) [(rd (fz y_bends))])).bind fun t95 => ((lcV (fun t88 => ((ub2 t88).bind fun t89 => (((((((((((dStrI (rd t89.1))).bind fun t90 => (dAdd (D.str "bend ") t90))).bind fun t91 => (dAdd t91 (D.str " ")))).bind fun t92 => (dAdd t92 (rd t89.2)))).bind fun t93 => (dAdd t93 (D.str "\n")))).bind fun y => (chk y).bind fun y => Res.ok (some y)))) t95).bind lstB))) (x_lc (ix := ((enum1 false) [(rd (fz y_bends))])) (step := fun t88 => ((ub2 t88).bind fun t89 => (((((((((((dStrI (rd t89.1))).bind fun t90 => (dAdd (D.str "bend ") t90))).bind fun t91 => (dAdd t91 (D.str " ")))).bind fun t92 => (dAdd t92 (rd t89.2)))).bind fun t93 => (dAdd t93 (D.str "\n")))).bind fun y => (chk y).bind fun y => Res.ok (some y)))) (x_yL (as := (Res.ok [(rd (fz y_bends))])) (x_consP (a := (rd (fz y_bends))) (as := []) rfl rfl)) rfl (fun t88 => t_lc1 (fx := fun t89 => (((((((((dStrI (rd t89.1))).bind fun t90 => (dAdd (D.str "bend ") t90))).bind fun t91 => (dAdd t91 (D.str " ")))).bind fun t92 => (dAdd t92 (rd t89.2)))).bind fun t93 => (dAdd t93 (D.str "\n")))) t_2b (fun t89 => rfl))))) (fun _ => rfl) fun y_text => (f_assoc (f_set (fx := (((dMulT (D.str "keep 0 0 1\n") (rd y_keeps))).bind fun t98 => (dAdd (rd y_text) t98))) (en := fun y_text => [o_0, o_1, some y_one, some y_width, some y_below, o_5, some y_many, some y_keeps, some y_names, some (fz y_pins), some y_left, some y_wide, some (fz y_bends), some y_right, some y_text, none, none, none, none, none]) rfl (fun _ => rfl) fun y_text => (f_assoc (f_set (fx := (andV (chV (dLe (D.int 1) (rd y_width)) (dLe (rd y_width) (D.int 40))) (andV (dEq (rd y_below) (rd y_width)) (andV (dLe (rd y_many) (D.int 24)) (dLe (rd y_keeps) (D.int 8)))))) (en := fun y_good => [o_0, o_1, some y_one, some y_width, some y_below, o_5, some y_many, some y_keeps, some y_names, some (fz y_pins), some y_left, some y_wide, some (fz y_bends), some y_right, some y_text, some y_good, none, none, none, none]) rfl (fun _ => rfl) fun y_good => (f_assoc (f_setV (x := D.non) (en := [o_0, o_1, some y_one, some y_width, some y_below, o_5, some y_many, some y_keeps, some y_names, some (fz y_pins), some y_left, some y_wide, some (fz y_bends), some y_right, some y_text, some y_good, some D.non, none, none, none]) rfl rfl rfl (f_assoc (f_setV (x := (D.bl false)) (en := [o_0, o_1, some y_one, some y_width, some y_below, o_5, some y_many, some y_keeps, some y_names, some (fz y_pins), some y_left, some y_wide, some (fz y_bends), some y_right, some y_text, some y_good, some D.non, some (D.bl false), none, none]) rfl rfl rfl (f_assoc (f_frz (en := [o_0, o_1, some y_one, some y_width, some y_below, o_5, some y_many, some y_keeps, some y_names, some (fz y_pins), some y_left, some y_wide, some (fz y_bends), some y_right, some (fz y_text), some y_good, some D.non, some (D.bl false), none, none]) rfl (f_tryN (rx := ((callD (lenIs 1 Ψ_read_channel_x) [(rd (fz y_text))]).bind chk)) (e1 := fun t99 => [o_0, o_1, some y_one, some y_width, some y_below, o_5, some y_many, some y_keeps, some y_names, some (fz y_pins), some y_left, some y_wide, some (fz y_bends), some y_right, some (fz y_text), some y_good, some t99, some (D.bl false), none, none]) (g_set (x_callP (as := [(rd (fz y_text))]) (x_consP (a := (rd (fz y_text))) (as := []) rfl rfl) rfl)) (fun t99 => (f_assoc (f_if (tx := (ifR (tru (rd (D.bl false))) (Res.ok true) ((tru (rd y_good)).bind fun t100 => Res.ok (!t100)))) rfl (f_ret (fx := (andV (Res.ok (rd (D.bl false))) (dNot (rd y_good)))) rfl) (f_nil (f_ret (fx := ((((((((((((dFld ["Channel"] "top") (rd t99))).bind fun t101 => Res.ok [t101])).bind fun t102 => (dLen t102))).bind fun t110 => (((((((((dFld ["Channel"] "bottom") (rd t99))).bind fun t103 => Res.ok [t103])).bind fun t104 => (dLen t104))).bind fun t108 => (((((((((dFld ["Channel"] "keeps") (rd t99))).bind fun t105 => Res.ok [t105])).bind fun t106 => (dLen t106))).bind fun t107 => Res.ok [t107])).bind fun t109 => Res.ok (t108 :: t109))).bind fun t111 => Res.ok (t110 :: t111))).bind fun t112 => (lstB t112))).bind fun t113 => (dEq t113 (D.lst Tag.own [(rd y_width), (rd y_width), (rd y_keeps)])))) (x_e2 (a := ((((((((((dFld ["Channel"] "top") (rd t99))).bind fun t101 => Res.ok [t101])).bind fun t102 => (dLen t102))).bind fun t110 => (((((((((dFld ["Channel"] "bottom") (rd t99))).bind fun t103 => Res.ok [t103])).bind fun t104 => (dLen t104))).bind fun t108 => (((((((((dFld ["Channel"] "keeps") (rd t99))).bind fun t105 => Res.ok [t105])).bind fun t106 => (dLen t106))).bind fun t107 => Res.ok [t107])).bind fun t109 => Res.ok (t108 :: t109))).bind fun t111 => Res.ok (t110 :: t111))).bind fun t112 => (lstB t112))) (b := (Res.ok (D.lst Tag.own [(rd y_width), (rd y_width), (rd y_keeps)]))) (x_lst (as := ((((((((dFld ["Channel"] "top") (rd t99))).bind fun t101 => Res.ok [t101])).bind fun t102 => (dLen t102))).bind fun t110 => (((((((((dFld ["Channel"] "bottom") (rd t99))).bind fun t103 => Res.ok [t103])).bind fun t104 => (dLen t104))).bind fun t108 => (((((((((dFld ["Channel"] "keeps") (rd t99))).bind fun t105 => Res.ok [t105])).bind fun t106 => (dLen t106))).bind fun t107 => Res.ok [t107])).bind fun t109 => Res.ok (t108 :: t109))).bind fun t111 => Res.ok (t110 :: t111))) (x_cons (a := ((((((dFld ["Channel"] "top") (rd t99))).bind fun t101 => Res.ok [t101])).bind fun t102 => (dLen t102))) (as := ((((((((dFld ["Channel"] "bottom") (rd t99))).bind fun t103 => Res.ok [t103])).bind fun t104 => (dLen t104))).bind fun t108 => (((((((((dFld ["Channel"] "keeps") (rd t99))).bind fun t105 => Res.ok [t105])).bind fun t106 => (dLen t106))).bind fun t107 => Res.ok [t107])).bind fun t109 => Res.ok (t108 :: t109))) (x_eC (as := ((((dFld ["Channel"] "top") (rd t99))).bind fun t101 => Res.ok [t101])) (x_cons (a := ((dFld ["Channel"] "top") (rd t99))) (as := (Res.ok [])) rfl rfl)) (x_cons (a := ((((((dFld ["Channel"] "bottom") (rd t99))).bind fun t103 => Res.ok [t103])).bind fun t104 => (dLen t104))) (as := ((((((((dFld ["Channel"] "keeps") (rd t99))).bind fun t105 => Res.ok [t105])).bind fun t106 => (dLen t106))).bind fun t107 => Res.ok [t107])) (x_eC (as := ((((dFld ["Channel"] "bottom") (rd t99))).bind fun t103 => Res.ok [t103])) (x_cons (a := ((dFld ["Channel"] "bottom") (rd t99))) (as := (Res.ok [])) rfl rfl)) (x_cons (a := ((((((dFld ["Channel"] "keeps") (rd t99))).bind fun t105 => Res.ok [t105])).bind fun t106 => (dLen t106))) (as := (Res.ok [])) (x_eC (as := ((((dFld ["Channel"] "keeps") (rd t99))).bind fun t105 => Res.ok [t105])) (x_cons (a := ((dFld ["Channel"] "keeps") (rd t99))) (as := (Res.ok [])) rfl rfl)) rfl)))) (x_lstP (ds := [(rd y_width), (rd y_width), (rd y_keeps)]) (x_consP (a := (rd y_width)) (as := [(rd y_width), (rd y_keeps)]) rfl (x_consP (a := (rd y_width)) (as := [(rd y_keeps)]) rfl (x_consP (a := (rd y_keeps)) (as := []) rfl rfl))) 3 rfl rfl))))))) ((f_setV (x := (D.bl true)) (en := [o_0, o_1, some y_one, some y_width, some y_below, o_5, some y_many, some y_keeps, some y_names, some (fz y_pins), some y_left, some y_wide, some (fz y_bends), some y_right, some (fz y_text), some y_good, some D.non, some (D.bl true), none, none]) rfl rfl rfl (f_assoc (f_if (tx := (ifR (tru (rd (D.bl true))) (Res.ok true) ((tru (rd y_good)).bind fun t114 => Res.ok (!t114)))) rfl (f_ret (fx := (andV (Res.ok (rd (D.bl true))) (dNot (rd y_good)))) rfl) (f_nil (f_ret (fx := ((((((((((((dFld ["Channel"] "top") (rd D.non))).bind fun t115 => Res.ok [t115])).bind fun t116 => (dLen t116))).bind fun t124 => (((((((((dFld ["Channel"] "bottom") (rd D.non))).bind fun t117 => Res.ok [t117])).bind fun t118 => (dLen t118))).bind fun t122 => (((((((((dFld ["Channel"] "keeps") (rd D.non))).bind fun t119 => Res.ok [t119])).bind fun t120 => (dLen t120))).bind fun t121 => Res.ok [t121])).bind fun t123 => Res.ok (t122 :: t123))).bind fun t125 => Res.ok (t124 :: t125))).bind fun t126 => (lstB t126))).bind fun t127 => (dEq t127 (D.lst Tag.own [(rd y_width), (rd y_width), (rd y_keeps)])))) (x_e2 (a := ((((((((((dFld ["Channel"] "top") (rd D.non))).bind fun t115 => Res.ok [t115])).bind fun t116 => (dLen t116))).bind fun t124 => (((((((((dFld ["Channel"] "bottom") (rd D.non))).bind fun t117 => Res.ok [t117])).bind fun t118 => (dLen t118))).bind fun t122 => (((((((((dFld ["Channel"] "keeps") (rd D.non))).bind fun t119 => Res.ok [t119])).bind fun t120 => (dLen t120))).bind fun t121 => Res.ok [t121])).bind fun t123 => Res.ok (t122 :: t123))).bind fun t125 => Res.ok (t124 :: t125))).bind fun t126 => (lstB t126))) (b := (Res.ok (D.lst Tag.own [(rd y_width), (rd y_width), (rd y_keeps)]))) (x_lst (as := ((((((((dFld ["Channel"] "top") (rd D.non))).bind fun t115 => Res.ok [t115])).bind fun t116 => (dLen t116))).bind fun t124 => (((((((((dFld ["Channel"] "bottom") (rd D.non))).bind fun t117 => Res.ok [t117])).bind fun t118 => (dLen t118))).bind fun t122 => (((((((((dFld ["Channel"] "keeps") (rd D.non))).bind fun t119 => Res.ok [t119])).bind fun t120 => (dLen t120))).bind fun t121 => Res.ok [t121])).bind fun t123 => Res.ok (t122 :: t123))).bind fun t125 => Res.ok (t124 :: t125))) (x_cons (a := ((((((dFld ["Channel"] "top") (rd D.non))).bind fun t115 => Res.ok [t115])).bind fun t116 => (dLen t116))) (as := ((((((((dFld ["Channel"] "bottom") (rd D.non))).bind fun t117 => Res.ok [t117])).bind fun t118 => (dLen t118))).bind fun t122 => (((((((((dFld ["Channel"] "keeps") (rd D.non))).bind fun t119 => Res.ok [t119])).bind fun t120 => (dLen t120))).bind fun t121 => Res.ok [t121])).bind fun t123 => Res.ok (t122 :: t123))) (x_eC (as := ((((dFld ["Channel"] "top") (rd D.non))).bind fun t115 => Res.ok [t115])) (x_cons (a := ((dFld ["Channel"] "top") (rd D.non))) (as := (Res.ok [])) rfl rfl)) (x_cons (a := ((((((dFld ["Channel"] "bottom") (rd D.non))).bind fun t117 => Res.ok [t117])).bind fun t118 => (dLen t118))) (as := ((((((((dFld ["Channel"] "keeps") (rd D.non))).bind fun t119 => Res.ok [t119])).bind fun t120 => (dLen t120))).bind fun t121 => Res.ok [t121])) (x_eC (as := ((((dFld ["Channel"] "bottom") (rd D.non))).bind fun t117 => Res.ok [t117])) (x_cons (a := ((dFld ["Channel"] "bottom") (rd D.non))) (as := (Res.ok [])) rfl rfl)) (x_cons (a := ((((((dFld ["Channel"] "keeps") (rd D.non))).bind fun t119 => Res.ok [t119])).bind fun t120 => (dLen t120))) (as := (Res.ok [])) (x_eC (as := ((((dFld ["Channel"] "keeps") (rd D.non))).bind fun t119 => Res.ok [t119])) (x_cons (a := ((dFld ["Channel"] "keeps") (rd D.non))) (as := (Res.ok [])) rfl rfl)) rfl)))) (x_lstP (ds := [(rd y_width), (rd y_width), (rd y_keeps)]) (x_consP (a := (rd y_width)) (as := [(rd y_width), (rd y_keeps)]) rfl (x_consP (a := (rd y_width)) (as := [(rd y_keeps)]) rfl (x_consP (a := (rd y_keeps)) (as := []) rfl rfl))) 3 rfl rfl)))))))))))))))))))))))))))))))
def M_law_k05 (y_script : D) : Res D :=
  (((((((((((((((dSl (rd y_script) none (some 1))).bind fun t1 => Res.ok [t1])).bind fun t2 => (dSum t2))).bind fun t3 => (((dPow (D.int 10) (D.int 30))).bind fun t4 => (dMod t3 t4)))).bind fun t5 => (dAdd t5 (D.int 3)))).bind fun t6 => (dMul t6 (D.int 40014)))).bind fun t7 => (dMod t7 (D.int 2147483563))).bind chk).bind fun y_seed =>
  (((((((((((dSl (rd y_script) (some 1) (some 2))).bind fun t8 => Res.ok [t8])).bind fun t9 => (dSum t9))).bind fun t10 => Res.ok [t10, (D.int 5)])).bind fun t11 => (callD (lenIs 2 Φ__law_mix) (t11 ++ []))).bind chk).bind fun y_one =>
  (((((((((((dDiv (rd y_one) (D.int 4))).bind fun t12 => (dMod t12 (D.int 43)))).bind fun t19 => ((((((((dDiv (rd y_one) (D.int 4))).bind fun t13 => (dMod t13 (D.int 3)))).bind fun t14 => (dAdd (D.int 39) t14))).bind fun t17 => ((((((dDiv (rd y_one) (D.int 4))).bind fun t15 => (dMod t15 (D.int 3)))).bind fun t16 => Res.ok [t16])).bind fun t18 => Res.ok (t17 :: t18))).bind fun t20 => Res.ok (t19 :: t20))).bind fun t21 => (lstB t21))).bind fun t22 => (((dMod (rd y_one) (D.int 3))).bind fun t23 => (dIx t22 t23))).bind chk).bind fun y_width =>
  (((((((((dDiv (rd y_one) (D.int 256))).bind fun t24 => (dMod t24 (D.int 5)))).bind fun t25 => (dIx (D.lst Tag.own [(D.int 0), (D.int 0), (D.int 0), (D.int 1), (D.int (-1))]) t25))).bind fun t26 => (dAdd (rd y_width) t26)).bind chk).bind fun y_below =>
  (((((((((((dSl (rd y_script) (some 2) (some 3))).bind fun t27 => Res.ok [t27])).bind fun t28 => (dSum t28))).bind fun t29 => Res.ok [t29, (D.int 7)])).bind fun t30 => (callD (lenIs 2 Φ__law_mix) (t30 ++ []))).bind chk).bind fun y_two =>
  (((((((((((((dDiv (rd y_two) (D.int 4))).bind fun t31 => (dMod t31 (D.int 26)))).bind fun t32 => (dAdd (D.int 1) t32))).bind fun t36 => ((((((((dDiv (rd y_two) (D.int 4))).bind fun t33 => (dMod t33 (D.int 3)))).bind fun t34 => (dAdd (D.int 23) t34))).bind fun t35 => Res.ok [t35])).bind fun t37 => Res.ok (t36 :: t37))).bind fun t38 => (lstB t38))).bind fun t39 => (((dMod (rd y_two) (D.int 2))).bind fun t40 => (dIx t39 t40))).bind chk).bind fun y_many =>
  (((((((((((dDiv (rd y_two) (D.int 128))).bind fun t41 => (dMod t41 (D.int 11)))).bind fun t45 => ((((((((dDiv (rd y_two) (D.int 128))).bind fun t42 => (dMod t42 (D.int 3)))).bind fun t43 => (dAdd (D.int 7) t43))).bind fun t44 => Res.ok [t44])).bind fun t46 => Res.ok (t45 :: t46))).bind fun t47 => (lstB t47))).bind fun t49 => (((((dDiv (rd y_two) (D.int 2))).bind fun t48 => (dMod t48 (D.int 2)))).bind fun t50 => (dIx t49 t50))).bind chk).bind fun y_keeps =>
  (((((rng1 [(rd y_many)])).bind fun t54 => ((lcV (fun t51 => (((callD (lenIs 2 Ψ__law_word) [(rd t51), (rd y_seed)])).bind fun y => (chk y).bind fun y => Res.ok (some y))) t54).bind lstB)).bind chk).bind fun y_names =>
  (((((rng1 [(rd y_width)])).bind fun t58 => ((lcV (fun t55 => (((ifR ((dLt (rd t55) (rd y_many)).bind asB) (dIx (rd y_names) (rd t55)) (Res.ok (D.str ".")))).bind fun y => (chk y).bind fun y => Res.ok (some y))) t58).bind lstB)).bind chk).bind fun y_pins =>
  (((((oInt (rd y_width))).bind fun t59 => (dSl (rd y_names) t59 none)).bind chk).bind fun y_left =>
  (ifR ((((((dDiv (rd y_one) (D.int 8192))).bind fun t60 => (dMod t60 (D.int 2)))).bind fun t61 => (dEq t61 (D.int 1))).bind asB)
  ((((((dStp 0 3) (rd y_left))).bind fun t131 => (((((dStp 1 3) (rd y_left))).bind fun t129 => (((((dStp 2 3) (rd y_left))).bind fun t128 => Res.ok [t128])).bind fun t130 => Res.ok (t129 :: t130))).bind fun t132 => Res.ok (t131 :: t132)).bind parV3).bind fun t133 =>
  (J_law_k05_1 y_one y_width y_below y_many y_keeps y_names y_pins t133.1 t133.2.1 t133.2.2))
  (J_law_k05_1 y_one y_width y_below y_many y_keeps y_names y_pins y_left (D.lst Tag.own []) (D.lst Tag.own [])))))))))))))
theorem me_law_k05 (y_script : D) : RF (g_law_k05 [some y_script, none, none, none, none, none, none, none, none, none, none, none, none, none, none, none, none, none, none, none]) (M_law_k05 y_script) := (f_last (f_assoc (f_set (fx := (((((((((((((dSl (rd y_script) none (some 1))).bind fun t1 => Res.ok [t1])).bind fun t2 => (dSum t2))).bind fun t3 => (((dPow (D.int 10) (D.int 30))).bind fun t4 => (dMod t3 t4)))).bind fun t5 => (dAdd t5 (D.int 3)))).bind fun t6 => (dMul t6 (D.int 40014)))).bind fun t7 => (dMod t7 (D.int 2147483563)))) (en := fun y_seed => [some y_script, some y_seed, none, none, none, none, none, none, none, none, none, none, none, none, none, none, none, none, none, none]) (x_e2 (a := (((((((((((dSl (rd y_script) none (some 1))).bind fun t1 => Res.ok [t1])).bind fun t2 => (dSum t2))).bind fun t3 => (((dPow (D.int 10) (D.int 30))).bind fun t4 => (dMod t3 t4)))).bind fun t5 => (dAdd t5 (D.int 3)))).bind fun t6 => (dMul t6 (D.int 40014)))) (b := (Res.ok (D.int 2147483563))) (x_e2 (a := (((((((((dSl (rd y_script) none (some 1))).bind fun t1 => Res.ok [t1])).bind fun t2 => (dSum t2))).bind fun t3 => (((dPow (D.int 10) (D.int 30))).bind fun t4 => (dMod t3 t4)))).bind fun t5 => (dAdd t5 (D.int 3)))) (b := (Res.ok (D.int 40014))) (x_e2 (a := (((((((dSl (rd y_script) none (some 1))).bind fun t1 => Res.ok [t1])).bind fun t2 => (dSum t2))).bind fun t3 => (((dPow (D.int 10) (D.int 30))).bind fun t4 => (dMod t3 t4)))) (b := (Res.ok (D.int 3))) (x_e2 (a := (((((dSl (rd y_script) none (some 1))).bind fun t1 => Res.ok [t1])).bind fun t2 => (dSum t2))) (b := (dPow (D.int 10) (D.int 30))) (x_eC (as := (((dSl (rd y_script) none (some 1))).bind fun t1 => Res.ok [t1])) (x_cons (a := (dSl (rd y_script) none (some 1))) (as := (Res.ok [])) rfl rfl)) rfl) rfl) rfl) rfl) (fun _ => rfl) fun y_seed => (f_assoc (f_set (fx := (((((((((dSl (rd y_script) (some 1) (some 2))).bind fun t8 => Res.ok [t8])).bind fun t9 => (dSum t9))).bind fun t10 => Res.ok [t10, (D.int 5)])).bind fun t11 => (callD (lenIs 2 Φ__law_mix) (t11 ++ [])))) (en := fun y_one => [some y_script, some y_seed, some y_one, none, none, none, none, none, none, none, none, none, none, none, none, none, none, none, none, none]) (x_call (as := (((((((dSl (rd y_script) (some 1) (some 2))).bind fun t8 => Res.ok [t8])).bind fun t9 => (dSum t9))).bind fun t10 => Res.ok [t10, (D.int 5)])) (x_cons (a := (((((dSl (rd y_script) (some 1) (some 2))).bind fun t8 => Res.ok [t8])).bind fun t9 => (dSum t9))) (as := (Res.ok [(D.int 5)])) (x_eC (as := (((dSl (rd y_script) (some 1) (some 2))).bind fun t8 => Res.ok [t8])) (x_cons (a := (dSl (rd y_script) (some 1) (some 2))) (as := (Res.ok [])) rfl rfl)) (x_consP (a := (D.int 5)) (as := []) rfl rfl))) (fun _ => rfl) fun y_one => (f_assoc (f_set (fx := (((((((((dDiv (rd y_one) (D.int 4))).bind fun t12 => (dMod t12 (D.int 43)))).bind fun t19 => ((((((((dDiv (rd y_one) (D.int 4))).bind fun t13 => (dMod t13 (D.int 3)))).bind fun t14 => (dAdd (D.int 39) t14))).bind fun t17 => ((((((dDiv (rd y_one) (D.int 4))).bind fun t15 => (dMod t15 (D.int 3)))).bind fun t16 => Res.ok [t16])).bind fun t18 => Res.ok (t17 :: t18))).bind fun t20 => Res.ok (t19 :: t20))).bind fun t21 => (lstB t21))).bind fun t22 => (((dMod (rd y_one) (D.int 3))).bind fun t23 => (dIx t22 t23)))) (en := fun y_width => [some y_script, some y_seed, some y_one, some y_width, none, none, none, none, none, none, none, none, none, none, none, none, none, none, none, none]) (x_e2 (a := (((((((dDiv (rd y_one) (D.int 4))).bind fun t12 => (dMod t12 (D.int 43)))).bind fun t19 => ((((((((dDiv (rd y_one) (D.int 4))).bind fun t13 => (dMod t13 (D.int 3)))).bind fun t14 => (dAdd (D.int 39) t14))).bind fun t17 => ((((((dDiv (rd y_one) (D.int 4))).bind fun t15 => (dMod t15 (D.int 3)))).bind fun t16 => Res.ok [t16])).bind fun t18 => Res.ok (t17 :: t18))).bind fun t20 => Res.ok (t19 :: t20))).bind fun t21 => (lstB t21))) (b := (dMod (rd y_one) (D.int 3))) (x_lst (as := (((((dDiv (rd y_one) (D.int 4))).bind fun t12 => (dMod t12 (D.int 43)))).bind fun t19 => ((((((((dDiv (rd y_one) (D.int 4))).bind fun t13 => (dMod t13 (D.int 3)))).bind fun t14 => (dAdd (D.int 39) t14))).bind fun t17 => ((((((dDiv (rd y_one) (D.int 4))).bind fun t15 => (dMod t15 (D.int 3)))).bind fun t16 => Res.ok [t16])).bind fun t18 => Res.ok (t17 :: t18))).bind fun t20 => Res.ok (t19 :: t20))) (x_cons (a := (((dDiv (rd y_one) (D.int 4))).bind fun t12 => (dMod t12 (D.int 43)))) (as := (((((((dDiv (rd y_one) (D.int 4))).bind fun t13 => (dMod t13 (D.int 3)))).bind fun t14 => (dAdd (D.int 39) t14))).bind fun t17 => ((((((dDiv (rd y_one) (D.int 4))).bind fun t15 => (dMod t15 (D.int 3)))).bind fun t16 => Res.ok [t16])).bind fun t18 => Res.ok (t17 :: t18))) rfl (x_cons (a := (((((dDiv (rd y_one) (D.int 4))).bind fun t13 => (dMod t13 (D.int 3)))).bind fun t14 => (dAdd (D.int 39) t14))) (as := (((((dDiv (rd y_one) (D.int 4))).bind fun t15 => (dMod t15 (D.int 3)))).bind fun t16 => Res.ok [t16])) rfl (x_cons (a := (((dDiv (rd y_one) (D.int 4))).bind fun t15 => (dMod t15 (D.int 3)))) (as := (Res.ok [])) rfl rfl)))) rfl) (fun _ => rfl) fun y_width => (f_assoc (f_set (fx := (((((((dDiv (rd y_one) (D.int 256))).bind fun t24 => (dMod t24 (D.int 5)))).bind fun t25 => (dIx (D.lst Tag.own [(D.int 0), (D.int 0), (D.int 0), (D.int 1), (D.int (-1))]) t25))).bind fun t26 => (dAdd (rd y_width) t26))) (en := fun y_below => [some y_script, some y_seed, some y_one, some y_width, some y_below, none, none, none, none, none, none, none, none, none, none, none, none, none, none, none]) (x_e2 (a := (Res.ok (rd y_width))) (b := (((((dDiv (rd y_one) (D.int 256))).bind fun t24 => (dMod t24 (D.int 5)))).bind fun t25 => (dIx (D.lst Tag.own [(D.int 0), (D.int 0), (D.int 0), (D.int 1), (D.int (-1))]) t25))) rfl (x_e2 (a := (Res.ok (D.lst Tag.own [(D.int 0), (D.int 0), (D.int 0), (D.int 1), (D.int (-1))]))) (b := (((dDiv (rd y_one) (D.int 256))).bind fun t24 => (dMod t24 (D.int 5)))) (x_lstP (ds := [(D.int 0), (D.int 0), (D.int 0), (D.int 1), (D.int (-1))]) (x_consP (a := (D.int 0)) (as := [(D.int 0), (D.int 0), (D.int 1), (D.int (-1))]) rfl (x_consP (a := (D.int 0)) (as := [(D.int 0), (D.int 1), (D.int (-1))]) rfl (x_consP (a := (D.int 0)) (as := [(D.int 1), (D.int (-1))]) rfl (x_consP (a := (D.int 1)) (as := [(D.int (-1))]) rfl (x_consP (a := (D.int (-1))) (as := []) rfl rfl))))) 5 rfl rfl) rfl)) (fun _ => rfl) fun y_below => (f_assoc (f_set (fx := (((((((((dSl (rd y_script) (some 2) (some 3))).bind fun t27 => Res.ok [t27])).bind fun t28 => (dSum t28))).bind fun t29 => Res.ok [t29, (D.int 7)])).bind fun t30 => (callD (lenIs 2 Φ__law_mix) (t30 ++ [])))) (en := fun y_two => [some y_script, some y_seed, some y_one, some y_width, some y_below, some y_two, none, none, none, none, none, none, none, none, none, none, none, none, none, none]) (x_call (as := (((((((dSl (rd y_script) (some 2) (some 3))).bind fun t27 => Res.ok [t27])).bind fun t28 => (dSum t28))).bind fun t29 => Res.ok [t29, (D.int 7)])) (x_cons (a := (((((dSl (rd y_script) (some 2) (some 3))).bind fun t27 => Res.ok [t27])).bind fun t28 => (dSum t28))) (as := (Res.ok [(D.int 7)])) (x_eC (as := (((dSl (rd y_script) (some 2) (some 3))).bind fun t27 => Res.ok [t27])) (x_cons (a := (dSl (rd y_script) (some 2) (some 3))) (as := (Res.ok [])) rfl rfl)) (x_consP (a := (D.int 7)) (as := []) rfl rfl))) (fun _ => rfl) fun y_two => (f_assoc (f_set (fx := (((((((((((dDiv (rd y_two) (D.int 4))).bind fun t31 => (dMod t31 (D.int 26)))).bind fun t32 => (dAdd (D.int 1) t32))).bind fun t36 => ((((((((dDiv (rd y_two) (D.int 4))).bind fun t33 => (dMod t33 (D.int 3)))).bind fun t34 => (dAdd (D.int 23) t34))).bind fun t35 => Res.ok [t35])).bind fun t37 => Res.ok (t36 :: t37))).bind fun t38 => (lstB t38))).bind fun t39 => (((dMod (rd y_two) (D.int 2))).bind fun t40 => (dIx t39 t40)))) (en := fun y_many => [some y_script, some y_seed, some y_one, some y_width, some y_below, some y_two, some y_many, none, none, none, none, none, none, none, none, none, none, none, none, none]) (x_e2 (a := (((((((((dDiv (rd y_two) (D.int 4))).bind fun t31 => (dMod t31 (D.int 26)))).bind fun t32 => (dAdd (D.int 1) t32))).bind fun t36 => ((((((((dDiv (rd y_two) (D.int 4))).bind fun t33 => (dMod t33 (D.int 3)))).bind fun t34 => (dAdd (D.int 23) t34))).bind fun t35 => Res.ok [t35])).bind fun t37 => Res.ok (t36 :: t37))).bind fun t38 => (lstB t38))) (b := (dMod (rd y_two) (D.int 2))) (x_lst (as := (((((((dDiv (rd y_two) (D.int 4))).bind fun t31 => (dMod t31 (D.int 26)))).bind fun t32 => (dAdd (D.int 1) t32))).bind fun t36 => ((((((((dDiv (rd y_two) (D.int 4))).bind fun t33 => (dMod t33 (D.int 3)))).bind fun t34 => (dAdd (D.int 23) t34))).bind fun t35 => Res.ok [t35])).bind fun t37 => Res.ok (t36 :: t37))) (x_cons (a := (((((dDiv (rd y_two) (D.int 4))).bind fun t31 => (dMod t31 (D.int 26)))).bind fun t32 => (dAdd (D.int 1) t32))) (as := (((((((dDiv (rd y_two) (D.int 4))).bind fun t33 => (dMod t33 (D.int 3)))).bind fun t34 => (dAdd (D.int 23) t34))).bind fun t35 => Res.ok [t35])) rfl (x_cons (a := (((((dDiv (rd y_two) (D.int 4))).bind fun t33 => (dMod t33 (D.int 3)))).bind fun t34 => (dAdd (D.int 23) t34))) (as := (Res.ok [])) rfl rfl))) rfl) (fun _ => rfl) fun y_many => (f_assoc (f_set (fx := (((((((((dDiv (rd y_two) (D.int 128))).bind fun t41 => (dMod t41 (D.int 11)))).bind fun t45 => ((((((((dDiv (rd y_two) (D.int 128))).bind fun t42 => (dMod t42 (D.int 3)))).bind fun t43 => (dAdd (D.int 7) t43))).bind fun t44 => Res.ok [t44])).bind fun t46 => Res.ok (t45 :: t46))).bind fun t47 => (lstB t47))).bind fun t49 => (((((dDiv (rd y_two) (D.int 2))).bind fun t48 => (dMod t48 (D.int 2)))).bind fun t50 => (dIx t49 t50)))) (en := fun y_keeps => [some y_script, some y_seed, some y_one, some y_width, some y_below, some y_two, some y_many, some y_keeps, none, none, none, none, none, none, none, none, none, none, none, none]) (x_e2 (a := (((((((dDiv (rd y_two) (D.int 128))).bind fun t41 => (dMod t41 (D.int 11)))).bind fun t45 => ((((((((dDiv (rd y_two) (D.int 128))).bind fun t42 => (dMod t42 (D.int 3)))).bind fun t43 => (dAdd (D.int 7) t43))).bind fun t44 => Res.ok [t44])).bind fun t46 => Res.ok (t45 :: t46))).bind fun t47 => (lstB t47))) (b := (((dDiv (rd y_two) (D.int 2))).bind fun t48 => (dMod t48 (D.int 2)))) (x_lst (as := (((((dDiv (rd y_two) (D.int 128))).bind fun t41 => (dMod t41 (D.int 11)))).bind fun t45 => ((((((((dDiv (rd y_two) (D.int 128))).bind fun t42 => (dMod t42 (D.int 3)))).bind fun t43 => (dAdd (D.int 7) t43))).bind fun t44 => Res.ok [t44])).bind fun t46 => Res.ok (t45 :: t46))) (x_cons (a := (((dDiv (rd y_two) (D.int 128))).bind fun t41 => (dMod t41 (D.int 11)))) (as := (((((((dDiv (rd y_two) (D.int 128))).bind fun t42 => (dMod t42 (D.int 3)))).bind fun t43 => (dAdd (D.int 7) t43))).bind fun t44 => Res.ok [t44])) rfl (x_cons (a := (((((dDiv (rd y_two) (D.int 128))).bind fun t42 => (dMod t42 (D.int 3)))).bind fun t43 => (dAdd (D.int 7) t43))) (as := (Res.ok [])) rfl rfl))) rfl) (fun _ => rfl) fun y_keeps => (f_assoc (f_set (fx := (((rng1 [(rd y_many)])).bind fun t54 => ((lcV (fun t51 => (((callD (lenIs 2 Ψ__law_word) [(rd t51), (rd y_seed)])).bind fun y => (chk y).bind fun y => Res.ok (some y))) t54).bind lstB))) (en := fun y_names => [some y_script, some y_seed, some y_one, some y_width, some y_below, some y_two, some y_many, some y_keeps, some y_names, none, none, none, none, none, none, none, none, none, none, none]) (x_lc (ix := (rng1 [(rd y_many)])) (step := fun t51 => (((callD (lenIs 2 Ψ__law_word) [(rd t51), (rd y_seed)])).bind fun y => (chk y).bind fun y => Res.ok (some y))) (x_yL (as := (Res.ok [(rd y_many)])) (x_consP (a := (rd y_many)) (as := []) rfl rfl)) rfl (fun t51 => t_lcb1 (fx := (callD (lenIs 2 Ψ__law_word) [(rd t51), (rd y_seed)])) (x_callP (as := [(rd t51), (rd y_seed)]) (x_consP (a := (rd t51)) (as := [(rd y_seed)]) rfl (x_consP (a := (rd y_seed)) (as := []) rfl rfl)) rfl))) (fun _ => rfl) fun y_names => (f_assoc (f_set (fx := (((rng1 [(rd y_width)])).bind fun t58 => ((lcV (fun t55 => (((ifR ((dLt (rd t55) (rd y_many)).bind asB) (dIx (rd y_names) (rd t55)) (Res.ok (D.str ".")))).bind fun y => (chk y).bind fun y => Res.ok (some y))) t58).bind lstB))) (en := fun y_pins => [some y_script, some y_seed, some y_one, some y_width, some y_below, some y_two, some y_many, some y_keeps, some y_names, some y_pins, none, none, none, none, none, none, none, none, none, none]) (x_lc (ix := (rng1 [(rd y_width)])) (step := fun t55 => (((ifR ((dLt (rd t55) (rd y_many)).bind asB) (dIx (rd y_names) (rd t55)) (Res.ok (D.str ".")))).bind fun y => (chk y).bind fun y => Res.ok (some y))) (x_yL (as := (Res.ok [(rd y_width)])) (x_consP (a := (rd y_width)) (as := []) rfl rfl)) rfl (fun t55 => t_lcb1 (fx := (ifR ((dLt (rd t55) (rd y_many)).bind asB) (dIx (rd y_names) (rd t55)) (Res.ok (D.str ".")))) rfl)) (fun _ => rfl) fun y_pins => (f_assoc (f_set (fx := (((oInt (rd y_width))).bind fun t59 => (dSl (rd y_names) t59 none))) (en := fun y_left => [some y_script, some y_seed, some y_one, some y_width, some y_below, some y_two, some y_many, some y_keeps, some y_names, some y_pins, some y_left, none, none, none, none, none, none, none, none, none]) rfl (fun _ => rfl) fun y_left => (f_assoc (f_setV (x := (D.lst Tag.own [])) (en := [some y_script, some y_seed, some y_one, some y_width, some y_below, some y_two, some y_many, some y_keeps, some y_names, some y_pins, some y_left, some (D.lst Tag.own []), none, none, none, none, none, none, none, none]) (x_lstP (ds := []) rfl 0 rfl rfl) rfl rfl (f_assoc (f_setV (x := (D.lst Tag.own [])) (en := [some y_script, some y_seed, some y_one, some y_width, some y_below, some y_two, some y_many, some y_keeps, some y_names, some y_pins, some y_left, some (D.lst Tag.own []), some (D.lst Tag.own []), none, none, none, none, none, none, none]) (x_lstP (ds := []) rfl 0 rfl rfl) rfl rfl (f_assoc (f_if (tx := ((((((dDiv (rd y_one) (D.int 8192))).bind fun t60 => (dMod t60 (D.int 2)))).bind fun t61 => (dEq t61 (D.int 1))).bind asB)) rfl (f_par3 (as := ((((dStp 0 3) (rd y_left))).bind fun t131 => (((((dStp 1 3) (rd y_left))).bind fun t129 => (((((dStp 2 3) (rd y_left))).bind fun t128 => Res.ok [t128])).bind fun t130 => Res.ok (t129 :: t130))).bind fun t132 => Res.ok (t131 :: t132))) (en := fun t133 => [some y_script, some y_seed, some y_one, some y_width, some y_below, some y_two, some y_many, some y_keeps, some y_names, some y_pins, some t133.1, some t133.2.1, some t133.2.2, none, none, none, none, none, none, none]) (x_cons (a := ((dStp 0 3) (rd y_left))) (as := ((((dStp 1 3) (rd y_left))).bind fun t129 => (((((dStp 2 3) (rd y_left))).bind fun t128 => Res.ok [t128])).bind fun t130 => Res.ok (t129 :: t130))) rfl (x_cons (a := ((dStp 1 3) (rd y_left))) (as := ((((dStp 2 3) (rd y_left))).bind fun t128 => Res.ok [t128])) rfl (x_cons (a := ((dStp 2 3) (rd y_left))) (as := (Res.ok [])) rfl rfl))) (fun _ => rfl) fun t133 => (jo_J_law_k05_1 y_one y_width y_below y_many y_keeps y_names y_pins t133.1 t133.2.1 t133.2.2 (some y_script) (some y_seed) (some y_two))) (f_nil (jo_J_law_k05_1 y_one y_width y_below y_many y_keeps y_names y_pins y_left (D.lst Tag.own []) (D.lst Tag.own []) (some y_script) (some y_seed) (some y_two))))))))))))))))))))))))))))))
def Ψ_law_k05 (ds : List D) : Res D := match ds with
  | [a0] => M_law_k05 a0
  | _ => Res.stuck
theorem ps_law_k05 (ds : List D) : Ψ_law_k05 ds = Res.stuck ∨ Φ_law_k05 ds = Ψ_law_k05 ds := by
  unfold Ψ_law_k05
  split
  · exact phi_of rfl (me_law_k05 _)
  · exact .inl rfl
theorem pe_law_k05 {y_script : D} : Ψ_law_k05 [y_script] = M_law_k05 y_script := rfl
end Gw
end
section
namespace Gw
open PySem PySem.Spec PyProof.Rows L2 PV
def mixZ (v k : Int) : Int := (v % 1000000000000000000000000000000 * (k * k + 48271) + 7919 * k * k * k + 11) % 2147483647 / 7
theorem mixZ_nonneg (v k : Int) : 0 ≤ mixZ v k := by
  unfold mixZ
  have := Int.emod_nonneg (v % 1000000000000000000000000000000 * (k * k + 48271) + 7919 * k * k * k + 11) (b := 2147483647) (by decide)
  omega
theorem mix_eq (v k : Int) (h0 : 0 ≤ k) (h1 : k < 1000000) : Φ__law_mix [.int v, .int k] = .ok (.int (mixZ v k)) := by
  have hk : k * k ≤ 1000000 * 1000000 := Int.mul_le_mul (by omega) (by omega) h0 (by decide)
  have hk0 : 0 ≤ k * k := Int.mul_nonneg h0 h0
  unfold Φ__law_mix g__law_mix N__law_mix mixZ
  have c0 : OkMul k k := OkMul_l (by omega)
  have c1 : OkMul (v % 1000000000000000000000000000000) (k * k + 48271) := OkMul_r (show (k * k + 48271).natAbs < _ by
    generalize k * k = z at hk hk0
    omega)
  have c2 : OkMul (7919 * k) k := OkMul_r (show k.natAbs < _ by omega)
  have c3 : OkMul (7919 * k * k) k := OkMul_r (show k.natAbs < _ by omega)
  simp [c0, c1, c2, c3]
def nmD : Option (List Nat) → D
  | none => .non
  | some l => .str (S l)
@[simp] theorem rd_nmD (x : Option (List Nat)) : rd (nmD x) = nmD x := by cases x <;> rfl
@[simp] theorem fz_nmD (x : Option (List Nat)) : fz (nmD x) = nmD x := by cases x <;> rfl
@[simp] theorem noT_nmD (x : Option (List Nat)) : noT (nmD x) = true := by cases x <;> rfl
@[simp] theorem fa_nmD (x : Option (List Nat)) : fa (nmD x) = nmD x := by cases x <;> simp [nmD]
theorem nm_eq (a b : Option (List Nat)) : dEq (nmD a) (nmD b) = .ok (.bl (decide (a = b))) := by
  cases a <;> cases b
  · rfl
  · rfl
  · rfl
  · rename_i x y
    show dEq (.str (S x)) (.str (S y)) = _
    rw [dEq_str]
    by_cases h : x = y
    · subst h; simp
    · simp [h]
@[simp high] theorem notN_nm (a : Option (List Nat)) : dNotN (nmD a) = .ok (.bl a.isSome) := by cases a <;> rfl
theorem strOk_let {l : List Nat} (h : ∀ k ∈ l, isLet k) : PyData.strOk (S l) = true := by
  unfold PyData.strOk S
  simp
  intro i hi
  have := h _ hi
  unfold isLet at this
  omega
def NmOk (x : Option (List Nat)) : Prop := ∀ l, x = some l → NameL l
abbrev Nm := List Nat
theorem callD_mix (v k : Int) (h0 : 0 ≤ k) (h1 : k < 1000000) : callD (lenIs 2 Φ__law_mix) [.int v, .int k] = .ok (.int (mixZ v k)) := by
  simp [mix_eq v k h0 h1]
theorem rd_nms {xs : List (Option Nm)} : rdL (xs.map nmD) = xs.map nmD := by rw [rdL_map]; simp
theorem eqD_nm (a b : Option Nm) : eqD (nmD a) (nmD b) = decide (a = b) := by
  have := nm_eq a b
  unfold dEq at this
  split at this
  · injection this with h; injection h
  · cases this
theorem flat_nm (a : Option Nm) : flatD (nmD a) = true := by cases a <;> rfl
theorem inL_nms (a : Option Nm) : ∀ xs : List (Option Nm), inL (nmD a) (xs.map nmD) = decide (a ∈ xs)
  | [] => rfl
  | x :: xs => by
    have ih := inL_nms a xs
    unfold inL at ih ⊢
    rw [List.map_cons, List.any_cons, ih, eqD_nm]
    by_cases h : x = a
    · subst h; simp
    · have : ¬ a = x := fun z => h z.symm
      simp [h, this]
theorem all_flat (xs : List (Option Nm)) : (xs.map nmD).all flatD = true := by simp [flat_nm]
@[simp] theorem nin_nms {t : Tag} (a : Option Nm) (xs : List (Option Nm)) : dIn0 (nmD a) (.nd t .lst (xs.map nmD)) = .ok (.bl (!decide (a ∈ xs))) := by
  rw [dIn0_lst (flat_nm a) (all_flat xs), inL_nms]
theorem strs_nms (ls : List Nm) : (ls.map fun w => D.str (S w)) = (ls.map some).map nmD := by rw [List.map_map]; rfl
@[simp] theorem nin_strs {t : Tag} (w : Nm) (ls : List Nm) : dIn0 (.str (S w)) (.nd t .lst (ls.map fun w => .str (S w))) = .ok (.bl (!decide (w ∈ ls))) := by
  rw [strs_nms, show D.str (S w) = nmD (some w) from rfl, nin_nms]
  simp
def bdD (b : Int × Nm) : D := .tup [.int b.1, .str (S b.2)]
@[simp] theorem rd_bdD (b : Int × Nm) : rd (bdD b) = bdD b := by simp [bdD]
@[simp] theorem fz_bdD (b : Int × Nm) : fz (bdD b) = bdD b := by simp [bdD]
@[simp] theorem fa_bdD (b : Int × Nm) : fa (bdD b) = bdD b := by simp [bdD]
@[simp] theorem noT_bdD (b : Int × Nm) : noT (bdD b) = true := by simp [bdD]
section
variable {ws : List Nm} {cs : List Int} {seed : Int} {top bottom : List (Option Nm)} {left right : List Nm}
def kpD (k : Int × Int × Int) : D := .tup [.int k.1, .int k.2.1, .int k.2.2]
@[simp] theorem rd_kpD (b : Int × Int × Int) : rd (kpD b) = kpD b := by simp [kpD]
@[simp] theorem fz_kpD (b : Int × Int × Int) : fz (kpD b) = kpD b := by simp [kpD]
@[simp] theorem fa_kpD (b : Int × Int × Int) : fa (kpD b) = kpD b := by simp [kpD]
@[simp] theorem noT_kpD (b : Int × Int × Int) : noT (kpD b) = true := by simp [kpD]
def sortN (ls : List Nm) : List Nm := ls.mergeSort fun a b => decide (a ≤ b)
theorem sort_nms {t : Tag} (ls : List Nm) (h : ∀ w ∈ ls, NameL w) : dSort [.nd t .lst (ls.map fun w => .str (S w))] = .ok (.lst .own ((sortN ls).map fun w => .str (S w))) := sort_strs S ls fun w hw => strOk_let (h w hw).2.2
end
theorem bstep {α β : Type} {a : Res α} {x : α} {k : α → Res β} {r : Res β} (h : a = .ok x) (h2 : k x = r) : a.bind k = r := by rw [h]; exact h2
structure Ch where
  top : List (Option Nm)
  bottom : List (Option Nm)
  left : List Nm
  right : List Nm
  wide : List (Nm × Int)
  bends : List (Int × Nm)
  keeps : List (Int × Int × Int)
def wdD (p : Nm × Int) : D := .tup [.str (S p.1), .int p.2]
@[simp] theorem rd_wdD (b : Nm × Int) : rd (wdD b) = wdD b := by simp [wdD]
@[simp] theorem fz_wdD (b : Nm × Int) : fz (wdD b) = wdD b := by simp [wdD]
@[simp] theorem fa_wdD (b : Nm × Int) : fa (wdD b) = wdD b := by simp [wdD]
@[simp] theorem noT_wdD (b : Nm × Int) : noT (wdD b) = true := by simp [wdD]
def chL (t : Tag) (h : Ch) : List D := [.nd t .lst (h.top.map nmD), .nd t .lst (h.bottom.map nmD), .nd t .lst (h.left.map fun w => .str (S w)), .nd t .lst (h.right.map fun w => .str (S w)), .nd t .lst (h.wide.map wdD), .nd t .lst (h.bends.map bdD), .nd t .lst (h.keeps.map kpD)]
theorem mem_sortN {ls : List Nm} {w : Nm} : w ∈ sortN ls ↔ w ∈ ls := (List.mergeSort_perm ls _).mem_iff
theorem len_sortN {ls : List Nm} : (sortN ls).length = ls.length := List.length_mergeSort ls
theorem rd_strs {ls : List Nm} : rdL (ls.map fun w => D.str (S w)) = ls.map fun w => .str (S w) := by rw [rdL_map]; simp
theorem fz_strs {ls : List Nm} : fzL (ls.map fun w => D.str (S w)) = ls.map fun w => .str (S w) := by rw [fzL_map]; simp
theorem fz_nms {xs : List (Option Nm)} : fzL (xs.map nmD) = xs.map nmD := by rw [fzL_map]; simp
theorem fa_strs {ls : List Nm} : faL (ls.map fun w => D.str (S w)) = ls.map fun w => .str (S w) := by rw [faL_map]; simp
theorem fa_nms {xs : List (Option Nm)} : faL (xs.map nmD) = xs.map nmD := by rw [faL_map]; simp
def chN : List Str := ["top", "bottom", "left", "right", "wide", "bends", "keeps"]
def chI (t : Tag) (h : Ch) : D := .nd t (.ins "Channel" chN) (chL .frz h)
section
variable {t : Tag} {h : Ch}
theorem chL_frz : rdL (chL .frz h) = chL .frz h ∧ fzL (chL .frz h) = chL .frz h ∧ faL (chL .frz h) = chL .frz h ∧ noTL (chL .frz h) = true := by
  unfold chL
  have bd1 : ∀ l : List (Int × Nm), fzL (l.map bdD) = l.map bdD := fun l => by rw [fzL_map]; simp
  have bd2 : ∀ l : List (Int × Nm), rdL (l.map bdD) = l.map bdD := fun l => by rw [rdL_map]; simp
  have bd3 : ∀ l : List (Int × Nm), faL (l.map bdD) = l.map bdD := fun l => by rw [faL_map]; simp
  have wd1 : ∀ l : List (Nm × Int), fzL (l.map wdD) = l.map wdD := fun l => by rw [fzL_map]; simp
  have wd2 : ∀ l : List (Nm × Int), rdL (l.map wdD) = l.map wdD := fun l => by rw [rdL_map]; simp
  have wd3 : ∀ l : List (Nm × Int), faL (l.map wdD) = l.map wdD := fun l => by rw [faL_map]; simp
  have kp1 : ∀ l : List (Int × Int × Int), fzL (l.map kpD) = l.map kpD := fun l => by rw [fzL_map]; simp
  have kp2 : ∀ l : List (Int × Int × Int), rdL (l.map kpD) = l.map kpD := fun l => by rw [rdL_map]; simp
  have kp3 : ∀ l : List (Int × Int × Int), faL (l.map kpD) = l.map kpD := fun l => by rw [faL_map]; simp
  refine ⟨?_, ?_, ?_, ?_⟩ <;> simp [rd_strs, fz_strs, fa_strs, rd_nms, fz_nms, fa_nms, bd1, bd2, bd3, wd1, wd2, wd3, kp1, kp2, kp3]
@[simp] theorem rdL_chL : rdL (chL .frz h) = chL .frz h := chL_frz.1
@[simp] theorem fzL_chL : fzL (chL .frz h) = chL .frz h := chL_frz.2.1
@[simp] theorem faL_chL : faL (chL .frz h) = chL .frz h := chL_frz.2.2.1
@[simp] theorem noTL_chL : noTL (chL .frz h) = true := chL_frz.2.2.2
@[simp] theorem rd_chO : rd (chI .own h) = chI .tmp h := by simp [chI]
@[simp] theorem rd_chF : rd (chI .frz h) = chI .frz h := by simp [chI]
@[simp] theorem fz_chO : fz (chI .own h) = chI .frz h := by simp [chI]
@[simp] theorem fz_chF : fz (chI .frz h) = chI .frz h := by simp [chI]
@[simp] theorem fa_ch : fa (chI t h) = chI .frz h := by simp [chI]
@[simp] theorem noT_chO : noT (chI .own h) = true := by simp [chI]
@[simp] theorem noT_chF : noT (chI .frz h) = true := by simp [chI]
@[simp] theorem noT_chT : noT (chI .tmp h) = false := by simp [chI]
theorem dFld_ch (f : Str) (v : D) (hl : (chN.zip (chL .frz h)).lookup f = some v) (hv : rd v = v) : dFld ["Channel"] f (chI t h) = .ok v := by
  unfold chI
  rw [dFld_e, if_pos (by decide), hl, ofO_some, rb_ok, hv]
@[simp] theorem fld_top : dFld ["Channel"] "top" (chI t h) = .ok (.nd .frz .lst (h.top.map nmD)) := dFld_ch _ _ rfl (by simp [rd_nms])
@[simp] theorem fld_bottom : dFld ["Channel"] "bottom" (chI t h) = .ok (.nd .frz .lst (h.bottom.map nmD)) := dFld_ch _ _ rfl (by simp [rd_nms])
@[simp] theorem fld_left : dFld ["Channel"] "left" (chI t h) = .ok (.nd .frz .lst (h.left.map fun w => .str (S w))) := dFld_ch _ _ rfl (by simp [rd_strs])
@[simp] theorem fld_right : dFld ["Channel"] "right" (chI t h) = .ok (.nd .frz .lst (h.right.map fun w => .str (S w))) := dFld_ch _ _ rfl (by simp [rd_strs])
@[simp] theorem fld_wide : dFld ["Channel"] "wide" (chI t h) = .ok (.nd .frz .lst (h.wide.map wdD)) := dFld_ch _ _ rfl (by rw [rd_frz, rdL_map]; simp)
@[simp] theorem fld_bends : dFld ["Channel"] "bends" (chI t h) = .ok (.nd .frz .lst (h.bends.map bdD)) := dFld_ch _ _ rfl (by rw [rd_frz, rdL_map]; simp)
@[simp] theorem fld_keeps : dFld ["Channel"] "keeps" (chI t h) = .ok (.nd .frz .lst (h.keeps.map kpD)) := dFld_ch _ _ rfl (by rw [rd_frz, rdL_map]; simp)
end
inductive En where
  | left | right | top (c : Nat) | bottom (c : Nat)
  deriving DecidableEq
theorem txt_join (a : Str) (xs : List Str) : Txt.join a xs = Str.join a xs := StrLaws.glued_eq_join a xs
def numT (i : Int) : Str := Str.ofString (toString i)
theorem small_len : ∀ n : Nat, n < 100 → (Str.ofString (toString (n : Int))).length ≤ 2 := by decide +kernel
theorem small_log : ∀ n : Nat, n < 100 → n.log2 < 1920 := by decide +kernel
theorem numT_ok {i : Int} (h : 0 ≤ i ∧ i < 100) : (numT i).length ≤ 2 ∧ i.natAbs.log2 < 1920 := by
  obtain ⟨n, rfl⟩ := Int.eq_ofNat_of_zero_le h.1
  exact ⟨small_len n (by omega), by rw [Int.natAbs_natCast]; exact small_log n (by omega)⟩
theorem join_len (a : Str) (n : Nat) : ∀ xs : List Str, (∀ x ∈ xs, x.length ≤ n) → (Str.join a xs).length ≤ xs.length * (n + a.length)
  | [], _ => by simp [Str.join, Str.empty, Str.length]
  | [x], h => by
    rw [Str.join, List.length_singleton]
    have := h x (by simp)
    omega
  | x :: y :: r, h => by
    have ih := join_len a n (y :: r) fun z hz => h z (List.mem_cons_of_mem _ hz)
    have := h x (by simp)
    rw [Str.join, Str.length_append, Str.length_append, List.length_cons, Nat.add_mul]
    · omega
    · simp
theorem strs_D (xs : List Str) : PV.strs? (xs.map D.str) = some xs := by
  induction xs with
  | nil => rfl
  | cons x xs ih => rw [List.map_cons, PV.strs?, ih]; rfl
theorem sum_len (n : Nat) : ∀ xs : List Str, (∀ x ∈ xs, x.length ≤ n) → (xs.map (·.length)).sum ≤ xs.length * n
  | [], _ => by simp
  | x :: xs, h => by
    have ih := sum_len n xs fun z hz => h z (List.mem_cons_of_mem _ hz)
    have := h x (by simp)
    rw [List.map_cons, List.sum_cons, List.length_cons, Nat.add_mul]
    omega
theorem dJoin_strs {t : Tag} (a : Str) (xs : List Str) (n : Nat) (hx : ∀ x ∈ xs, x.length ≤ n) (hn : xs.length * n + xs.length * a.length ≤ 16777216) : dJoin a (.nd t .lst (xs.map D.str)) = .ok (.str (Txt.join a xs)) := by
  unfold dJoin
  simp only [strs_D, ofO_some, rb_ok]
  have := sum_len n xs hx
  rw [if_pos (by omega)]
theorem rd_txs (xs : List Str) : rdL (xs.map D.str) = xs.map D.str := by rw [rdL_map]; simp
theorem fz_txs (xs : List Str) : fzL (xs.map D.str) = xs.map D.str := by rw [fzL_map]; simp
def pinT : Option Nm → Str
  | none => "."
  | some w => S w
theorem pinT_len {x : Option Nm} (h : NmOk x) : (pinT x).length ≤ 6 := by
  cases x with
  | none => decide +kernel
  | some w => rw [pinT, S_len]; exact (h w rfl).2.1
def linesZ (h : Ch) : List (List Str) := [("top" : Str) :: h.top.map pinT, ("bottom" : Str) :: h.bottom.map pinT, ("left" : Str) :: h.left.map S, ("right" : Str) :: h.right.map S] ++ h.wide.map (fun p => [("wide" : Str), S p.1, numT p.2]) ++
  h.bends.map (fun p => [("bend" : Str), numT p.1, S p.2]) ++ h.keeps.map (fun p => [("keep" : Str), numT p.1, numT p.2.1, numT p.2.2])
def rowT (l : List Str) : Str := Txt.join " " l
theorem nl_len : ("\n" : Str).length = 1 := by decide +kernel
theorem sp_len : (" " : Str).length = 1 := by decide +kernel
def textZ (h : Ch) : Str := Txt.join "" ((linesZ h).map fun l => rowT l ++ ("\n" : Str))
def jnC (c : Nat) : List (List Nat) → List Nat
  | [] => []
  | [a] => a
  | a :: b :: r => a ++ c :: jnC c (b :: r)
theorem app_inj {c : Nat} : ∀ {a b x y : List Nat}, c ∉ a → c ∉ b → a ++ c :: x = b ++ c :: y → a = b ∧ x = y
  | [], [], x, y, _, _, h => by injection h with _ h; exact ⟨rfl, h⟩
  | [], b :: bs, x, y, _, hb, h => by injection h with h _; exact absurd (h ▸ List.mem_cons_self) hb
  | a :: as, [], x, y, ha, _, h => by injection h with h _; exact absurd (h ▸ List.mem_cons_self) ha
  | a :: as, b :: bs, x, y, ha, hb, h => by
    injection h with h1 h2
    obtain ⟨e1, e2⟩ := app_inj (fun m => ha (List.mem_cons_of_mem _ m)) (fun m => hb (List.mem_cons_of_mem _ m)) h2
    exact ⟨by rw [h1, e1], e2⟩
theorem jnC_inj {c : Nat} : ∀ (as bs : List (List Nat)), as ≠ [] → bs ≠ [] → (∀ a ∈ as, c ∉ a) → (∀ b ∈ bs, c ∉ b) → jnC c as = jnC c bs → as = bs
  | [], _, h, _, _, _, _ => absurd rfl h
  | _, [], _, h, _, _, _ => absurd rfl h
  | [a], [b], _, _, _, _, h => by rw [show a = b from h]
  | [a], b :: b' :: r, _, _, ha, _, h => by
    have h : a = b ++ c :: jnC c (b' :: r) := h
    exact absurd (by rw [h]; simp) (ha a List.mem_cons_self)
  | a :: a' :: r, [b], _, _, _, hb, h => by
    have h : a ++ c :: jnC c (a' :: r) = b := h
    exact absurd (by rw [← h]; simp) (hb b List.mem_cons_self)
  | a :: a' :: r, b :: b' :: s, _, _, ha, hb, h => by
    have h : a ++ c :: jnC c (a' :: r) = b ++ c :: jnC c (b' :: s) := h
    obtain ⟨e1, e2⟩ := app_inj (ha a List.mem_cons_self) (hb b List.mem_cons_self) h
    have := jnC_inj (a' :: r) (b' :: s) (by simp) (by simp) (fun x hx => ha x (List.mem_cons_of_mem _ hx)) (fun x hx => hb x (List.mem_cons_of_mem _ hx)) e2
    rw [e1, this]
theorem jn_cps (c : Nat) : ∀ xs : List Str, (Str.join ⟨#[c]⟩ xs).cps.toList = jnC c (xs.map fun x => x.cps.toList)
  | [] => rfl
  | [x] => rfl
  | x :: y :: r => by
    have ih := jn_cps c (y :: r)
    rw [Str.join]
    · show ((x ++ ⟨#[c]⟩) ++ Str.join ⟨#[c]⟩ (y :: r)).cps.toList = _
      have e : ∀ a b : Str, (a ++ b).cps.toList = a.cps.toList ++ b.cps.toList := fun a b => by
        show (a.cps ++ b.cps).toList = _
        exact Array.toList_append
      rw [e, e, ih]
      simp [jnC]
    · simp
theorem cps_inj {x y : Str} (h : x.cps.toList = y.cps.toList) : x = y := Str.ext' (Array.toList_inj.mp h)
theorem split_join (c : Nat) (xs : List Str) (h0 : xs ≠ []) (hf : ∀ x ∈ xs, c ∉ x.cps.toList) : Txt.split (Txt.join ⟨#[c]⟩ xs) ⟨#[c]⟩ = xs := by
  rw [txt_join]
  have j := StrLaws.join_split (Str.join ⟨#[c]⟩ xs) ⟨#[c]⟩
  have fr := StrLaws.split_free (Str.join ⟨#[c]⟩ xs) c
  have p := split_pos (Str.join ⟨#[c]⟩ xs) ⟨#[c]⟩
  generalize Txt.split (Str.join ⟨#[c]⟩ xs) ⟨#[c]⟩ = ys at *
  have e : (Str.join ⟨#[c]⟩ ys).cps.toList = (Str.join ⟨#[c]⟩ xs).cps.toList := by rw [j]
  rw [jn_cps, jn_cps] at e
  have := jnC_inj _ _ (by intro z; rw [List.map_eq_nil_iff] at z; rw [z] at p; simp at p) (by intro z; rw [List.map_eq_nil_iff] at z; exact h0 z) (fun a ha => by
    obtain ⟨y, hy, rfl⟩ := List.mem_map.mp ha
    exact fr y hy) (fun a ha => by
    obtain ⟨y, hy, rfl⟩ := List.mem_map.mp ha
    exact hf y hy) e
  exact List.map_inj_right (fun x y h => cps_inj h) |>.mp this
theorem dSplit_nl (xs : List Str) (h0 : xs ≠ []) (hf : ∀ x ∈ xs, 10 ∉ x.cps.toList) (hl : (Txt.join "\n" xs).length ≤ 10000000) (hn : xs.length ≤ 1000000) : dSplit "\n" (.str (Txt.join "\n" xs)) = .ok (.lst .own (xs.map D.str)) := by
  have e : Txt.split (Txt.join "\n" xs) "\n" = xs := split_join 10 xs h0 hf
  unfold dSplit
  dsimp only
  rw [e, if_pos ⟨rfl, by omega, by unfold bigL; omega⟩]
theorem s6 : ("top" : Str).length ≤ 6 ∧ ("bottom" : Str).length ≤ 6 ∧ ("left" : Str).length ≤ 6 ∧ ("right" : Str).length ≤ 6 := by decide +kernel
def ownD (l : List Str) : D := .lst .own (l.map D.str)
def frD (l : List Str) : D := .nd .frz .lst (l.map D.str)
theorem fz_ownD (l : List Str) : fz (ownD l) = frD l := by unfold ownD frD; simp
theorem fz_frD (l : List Str) : fz (frD l) = frD l := by unfold frD; simp
theorem rd_frD (l : List Str) : rd (frD l) = frD l := by unfold frD; simp
theorem noT_ownD (l : List Str) : noT (ownD l) = true := by unfold ownD; simp
theorem noT_frD (l : List Str) : noT (frD l) = true := by unfold frD; simp
theorem fzL_fr (ls : List (List Str)) : fzL (ls.map frD) = ls.map frD := by rw [fzL_map]; simp [fz_frD]
theorem rdL_fr (ls : List (List Str)) : rdL (ls.map frD) = ls.map frD := by rw [rdL_map]; simp [rd_frD]
theorem noTL_fr (ls : List (List Str)) : noTL (ls.map frD) = true := by rw [noTL_map, List.all_eq_true]; intro x _; exact noT_frD x
theorem cps_app (a b : Str) : (a ++ b).cps.toList = a.cps.toList ++ b.cps.toList := by
  show (a.cps ++ b.cps).toList = _
  exact Array.toList_append
theorem join0_cps (xs : List Str) : (Txt.join "" xs).cps.toList = (xs.map fun x => x.cps.toList).flatten := by
  rw [txt_join]
  induction xs with
  | nil => rfl
  | cons x xs ih =>
    cases xs with
    | nil => show (Str.join "" [x]).cps.toList = _; rw [Str.join]; simp
    | cons y r =>
      rw [Str.join]
      · rw [cps_app, cps_app, ih]
        show (_ ++ ([] : List Nat)) ++ _ = _
        simp
      · simp
def textL (ls : List (List Str)) : Str := Txt.join "" (ls.map fun l => rowT l ++ ("\n" : Str))
theorem textL_cps (ls : List (List Str)) : (textL ls).cps.toList = (ls.map fun l => (rowT l).cps.toList ++ [10]).flatten := by
  unfold textL
  rw [join0_cps, List.map_map]
  congr 1
  refine List.map_congr_left fun l _ => ?_
  show (rowT l ++ ("\n" : Str)).cps.toList = _
  rw [cps_app]
  rfl
theorem textL_app (a b : List (List Str)) : textL (a ++ b) = textL a ++ textL b := by
  apply cps_inj
  rw [cps_app, textL_cps, textL_cps, textL_cps]
  simp
theorem textL_one (l : List Str) : textL [l] = rowT l ++ ("\n" : Str) := by
  apply cps_inj
  rw [cps_app, textL_cps]
  simp
  rfl
def WordOk (w : Str) : Prop := w ≠ "" ∧ 32 ∉ w.cps.toList ∧ 10 ∉ w.cps.toList
def RwOk (l : List Str) : Prop := l ≠ [] ∧ (∀ w ∈ l, WordOk w) ∧ (rowT l).length ≤ 1000 ∧ l.length ≤ 1000
theorem jnC_mem {c k : Nat} : ∀ xs : List (List Nat), k ∈ jnC c xs → k = c ∨ ∃ x ∈ xs, k ∈ x
  | [], h => by simp [jnC] at h
  | [a], h => .inr ⟨a, by simp, h⟩
  | a :: b :: r, h => by
    have h : k ∈ a ++ c :: jnC c (b :: r) := h
    rw [List.mem_append, List.mem_cons] at h
    rcases h with h | h | h
    · exact .inr ⟨a, by simp, h⟩
    · exact .inl h
    · rcases jnC_mem (b :: r) h with h | ⟨x, hx, hk⟩
      · exact .inl h
      · exact .inr ⟨x, List.mem_cons_of_mem _ hx, hk⟩
theorem rowT_no10 {l : List Str} (h : ∀ w ∈ l, WordOk w) : 10 ∉ (rowT l).cps.toList := by
  unfold rowT
  rw [txt_join]
  show 10 ∉ (Str.join ⟨#[32]⟩ l).cps.toList
  rw [jn_cps]
  intro m
  rcases jnC_mem _ m with m | ⟨x, hx, hk⟩
  · cases m
  · obtain ⟨w, hw, rfl⟩ := List.mem_map.mp hx
    exact (h w hw).2.2 hk
theorem split_row {l : List Str} (h : RwOk l) : dSplit " " (.str (rowT l)) = .ok (.lst .own (l.map D.str)) := by
  have e : Txt.split (rowT l) " " = l := split_join 32 l h.1 fun w hw => (h.2.1 w hw).2.1
  have b1 := h.2.2.1
  have b2 := h.2.2.2
  unfold dSplit
  dsimp only
  rw [e, if_pos ⟨rfl, by omega, by unfold bigL; omega⟩]
theorem jnC_end (c : Nat) : ∀ xs : List (List Nat), jnC c (xs ++ [[]]) = (xs.map fun x => x ++ [c]).flatten
  | [] => rfl
  | [x] => by simp [jnC]
  | x :: y :: r => by
    have ih := jnC_end c (y :: r)
    show x ++ c :: jnC c ((y :: r) ++ [[]]) = _
    rw [ih]
    simp
theorem textL_join (ls : List (List Str)) : textL ls = Txt.join "\n" (ls.map rowT ++ [("" : Str)]) := by
  apply cps_inj
  rw [textL_cps, txt_join]
  show _ = (Str.join ⟨#[10]⟩ (ls.map rowT ++ [("" : Str)])).cps.toList
  rw [jn_cps, List.map_append, List.map_map]
  show _ = jnC 10 (ls.map _ ++ [[]])
  rw [jnC_end, List.map_map]
  rfl
theorem textL_len : ∀ (ls : List (List Str)), (∀ l ∈ ls, RwOk l) → (textL ls).length ≤ ls.length * 1001
  | [], _ => by decide
  | l :: ls, h => by
    have ih := textL_len ls fun x hx => h x (List.mem_cons_of_mem _ hx)
    have b := (h l List.mem_cons_self).2.2.1
    have e : textL (l :: ls) = textL [l] ++ textL ls := textL_app [l] ls
    rw [e, Str.length_append, textL_one, Str.length_append, nl_len, List.length_cons]
    omega
theorem split_lines {ls : List (List Str)} (h : ∀ l ∈ ls, RwOk l) (hn : ls.length ≤ 1000) : dSplit "\n" (.str (textL ls)) = .ok (.lst .own ((ls.map rowT ++ [("" : Str)]).map D.str)) := by
  have b := textL_len ls h
  rw [textL_join] at b ⊢
  refine dSplit_nl _ (by simp) (fun x hx => ?_) (by omega) (by simp; omega)
  rw [List.mem_append, List.mem_map, List.mem_singleton] at hx
  rcases hx with ⟨l, hl, rfl⟩ | rfl
  · exact rowT_no10 (h l hl).2.1
  · exact fun z => by cases z
def rw0 (rows : List (List Str)) : D := .nd .own (.ins "Rows" ["rows"]) [.nd .own .lst (rows.map frD)]
def rwsD (rows : List (List Str)) (k : Nat) : D := .nd .own (.ins "Rows" ["rows", "front"]) [.nd .own .lst (rows.map frD), .int (k : Int)]
theorem keep_words : ∀ l : List Str, (∀ w ∈ l, w ≠ "") → lcV (fun t6 => ifR ((dNe (rd t6) (D.str "")).bind asB) ((chk (rd t6)).bind fun y => Res.ok (some y)) (Res.ok none)) (l.map D.str) = .ok (l.map D.str) := by
  intro l h
  have := lcV_map (f := fun t6 => ifR ((dNe (rd t6) (D.str "")).bind asB) ((chk (rd t6)).bind fun y => Res.ok (some y)) (Res.ok none)) (ei := D.str) D.str id l fun w hw => by
    have n := h w hw
    simp [n]
  rw [this]
  simp
theorem fapp_rw {rows : List (List Str)} {l : List Str} (hn : rows.length < 1000) : fappV ["Rows"] "rows" (rw0 rows) (.ok (frD l)) = .ok (rw0 (rows ++ [l])) := by
  unfold fappV insR insO rw0
  dsimp only [insK, ofO, Res.bind]
  have : fldL ["Rows"] "rows" ⟨.ins "Rows" ["rows"], "Rows", ["rows"], [.nd .own .lst (rows.map frD)]⟩ = some (0, rows.map frD) := rfl
  rw [this]
  dsimp only [fapp1]
  rw [if_pos ⟨noT_frD l, by rw [List.length_map]; show rows.length < 1000000; omega⟩, List.map_append]
  rfl
theorem row_turn {rows : List (List Str)} {l : List Str} (h : RwOk l) (hn : rows.length < 1000) : B_Rows_init_1 (.str (rowT l)) (.pin 0 (rw0 rows)) = .ok (.nx (.pin 0 (rw0 (rows ++ [l])))) := by
  have b2 := h.2.2.2
  have b1 : 0 < l.length := List.length_pos_iff.mpr h.1
  unfold B_Rows_init_1
  simp only [chk_e, noT_str, if_true, rb_ok, rd_str]
  rw [split_row h]
  simp only [rb_ok, itemsOf_lstF, rd_txs]
  have kw := keep_words l fun w hw => (h.2.1 w hw).1
  simp only [chk_e] at kw
  rw [kw]
  simp only [rb_ok, lstB_e, List.length_map]
  rw [if_pos (show l.length ≤ bigL by show l.length ≤ 1000000; omega)]
  simp only [rb_ok]
  rw [chk_e, if_pos (show noT (.lst .own (l.map D.str)) = true from noT_ownD l)]
  simp only [rb_ok, rd_own, dLen_lst, rdL_len, List.length_map]
  have g : dGt (.int (l.length : Int)) (.int 0) = .ok (.bl true) := by
    show Res.ok (D.bl (decide ((0 : Int) < (l.length : Int)))) = _
    rw [decide_eq_true (by omega)]
  rw [g]
  simp only [rb_ok, asB_bl, ifR_e, if_true]
  have e : rd (fz (.lst .own (l.map D.str))) = frD l := by
    rw [show fz (.lst .own (l.map D.str)) = frD l from fz_ownD l, rd_frD]
  rw [e]
  unfold pinOp
  dsimp only
  rw [fapp_rw hn]
  rfl
theorem rows_loop (tl : List D) : ∀ (ls rows : List (List Str)), (∀ l ∈ ls, RwOk l) → rows.length + ls.length ≤ 1000 →
    forV (fun d s => B_Rows_init_1 d s) (((ls.map rowT).map D.str) ++ tl) (.pin 0 (rw0 rows)) = forV (fun d s => B_Rows_init_1 d s) tl (.pin 0 (rw0 (rows ++ ls)))
  | [], rows, _, _ => by simp
  | l :: ls, rows, h, hn => by
    rw [List.length_cons] at hn
    rw [List.map_cons, List.map_cons, List.cons_append, forV_cons, row_turn (h l List.mem_cons_self) (by omega)]
    have ih := rows_loop tl ls (rows ++ [l]) (fun x hx => h x (List.mem_cons_of_mem _ hx)) (by rw [List.length_append, List.length_singleton]; omega)
    rw [List.append_assoc] at ih
    exact ih
theorem row_none (rows : List (List Str)) : B_Rows_init_1 (.str "") (.pin 0 (rw0 rows)) = .ok (.nx (.pin 0 (rw0 rows))) := by
  have e : dSplit " " (.str "") = .ok (.lst .own [.str ""]) := rfl
  unfold B_Rows_init_1
  simp only [chk_e, noT_str, if_true, rb_ok, rd_str]
  rw [e]
  rfl
theorem noP_fr (rows : List (List Str)) : noPL (rows.map frD) = true := by
  have s : ∀ l : List Str, noPL (l.map D.str) = true := fun l => by
    induction l with
    | nil => rfl
    | cons a l ih => rw [List.map_cons, noPL, ih]; rfl
  induction rows with
  | nil => rfl
  | cons a rows ih =>
    rw [List.map_cons, noPL, ih]
    unfold frD
    rw [noP, s]
    rfl
theorem noP_rws (rows : List (List Str)) (k : Nat) : noP (rwsD rows k) = true := by
  unfold rwsD
  rw [noP, noPL, noP, noP_fr]
  rfl
theorem noT_rws (rows : List (List Str)) (k : Nat) : noT (rwsD rows k) = true := by
  unfold rwsD
  rw [noT, noTL_cons, noT, noTL_fr]
  rfl
theorem init_rows {ls : List (List Str)} (h : ∀ l ∈ ls, RwOk l) (hn : ls.length ≤ 1000) : dMakeIO "Rows" (lenIs 2 Ψ_Rows_init) [.str (textL ls)] = .ok (rwsD ls 0) := by
  have e : M_Rows_init (.pin 0 (.nd .own (.ins "Rows" []) [])) (.str (textL ls)) = .ok (.pack .non [rwsD ls 0]) := by
    unfold M_Rows_init
    have e1 : (pinOp (fun t1 => (fputV ["Rows"] "rows" t1 (Res.ok (D.lst Tag.own [])))) (.pin 0 (.nd .own (.ins "Rows" []) []))) = .ok (.pin 0 (rw0 [])) := rfl
    rw [e1]
    simp only [rb_ok, rd_str]
    rw [split_lines h hn]
    simp only [rb_ok]
    have e2 : itemsOf true (.lst .own ((ls.map rowT ++ [("" : Str)]).map D.str)) = .ok ((ls.map rowT).map D.str ++ [.str ""]) := by
      show itemsOf true (.nd .own .lst _) = _
      rw [itemsOf_ownT, if_pos (by rw [noTL_map, List.all_eq_true]; exact fun _ _ => rfl), fz_txs, List.map_append]
      rfl
    rw [e2]
    simp only [rb_ok]
    rw [rows_loop _ ls [] h (by simpa using hn), forV_cons, List.nil_append, row_none]
    simp only [rb_ok, forV_nil, afterV_nx]
    have e3 : (pinOp (fun t12 => (fputV ["Rows"] "front" t12 (Res.ok (D.int 0)))) (.pin 0 (rw0 ls))) = .ok (.pin 0 (rwsD ls 0)) := rfl
    rw [e3]
    rfl
  unfold dMakeIO
  rw [if_pos (show noTL [.str (textL ls)] = true from rfl)]
  show mkIOr (M_Rows_init (.pin 0 (.nd .own (.ins "Rows" []) [])) (.str (textL ls))) = _
  rw [e]
  show (if noP (rwsD ls 0) = true ∧ noT (rwsD ls 0) = true then Res.ok (rwsD ls 0) else .stuck) = _
  rw [if_pos ⟨noP_rws ls 0, noT_rws ls 0⟩]
theorem cont_rws (rows : List (List Str)) (k : Nat) : contOf (some (some (rwsD rows k))) = some (rwsD rows k) := by
  have := noP_rws rows k
  unfold rwsD at this ⊢
  rw [noP] at this
  unfold contOf
  dsimp only
  rw [if_pos this]
theorem cont_rwp (rows : List (List Str)) (k j : Nat) : contOf (some (some (.pin j (rwsD rows k)))) = some (rwsD rows k) := by
  have := noP_rws rows k
  unfold rwsD at this ⊢
  rw [noP] at this
  unfold contOf
  dsimp only
  rw [if_pos this]
theorem recv_of {x : D} {m : Str} {rows : List (List Str)} {k : Nat} (hc : contOf (some (some x)) = some (rwsD rows k)) (hm : (ixK (["rows", "front"] : List Str) m).isNone = true) : recvOk "Rows" m (some (some x)) = true := by
  unfold recvOk
  rw [hc]
  have : insO (rwsD rows k) = some ⟨.ins "Rows" ["rows", "front"], "Rows", ["rows", "front"], [.nd .own .lst (rows.map frD), .int (k : Int)]⟩ := rfl
  dsimp only
  rw [this]
  dsimp only
  rw [hm]
  rfl
theorem callO_rws {x : D} {Φ : List D → Res D} {rows : List (List Str)} {k k' : Nat} {ds : List D} {d : D} (hc : contOf (some (some x)) = some (rwsD rows k)) (nt : noTL ds = true) (np : noP d = true) (h : Φ (.pin 0 (rwsD rows k) :: fzL ds) = .ok (.pack d [rwsD rows k'])) :
    callO1 Φ x (.ok ds) = .ok (d, wrapC (some (some x)) (rwsD rows k')) := by
  unfold callO1
  rw [hc]
  simp only [rb_ok]
  unfold callIO
  rw [if_pos nt]
  show ((Φ (.pin 0 (rwsD rows k) :: fzL ds)).bind _).bind _ = _
  rw [h]
  simp only [rb_ok]
  have : (noP d && noPL [rwsD rows k']) = true ∧ [rwsD rows k'].length = [rwsD rows k].length := by
    rw [np, noPL, noP_rws]
    exact ⟨rfl, rfl⟩
  rw [if_pos this]
  rfl
theorem callM_rws {m : Str} {Φ : List D → Res D} {rows : List (List Str)} {k k' : Nat} {ds : List D} {d : D} (hm : (ixK (["rows", "front"] : List Str) m).isNone = true) (nt : noTL ds = true) (np : noP d = true) (h : Φ (.pin 0 (rwsD rows k) :: fzL ds) = .ok (.pack d [rwsD rows k'])) :
    callM "Rows" m Φ (rwsD rows k) (.ok ds) = .ok (d, rwsD rows k') := by
  unfold callM
  rw [if_pos (recv_of (cont_rws rows k) hm)]
  exact callO_rws (cont_rws rows k) nt np h
theorem callM_rwp {m : Str} {Φ : List D → Res D} {rows : List (List Str)} {j k k' : Nat} {ds : List D} {d : D} (hm : (ixK (["rows", "front"] : List Str) m).isNone = true) (nt : noTL ds = true) (np : noP d = true) (h : Φ (.pin 0 (rwsD rows k) :: fzL ds) = .ok (.pack d [rwsD rows k'])) :
    callM "Rows" m Φ (.pin j (rwsD rows k)) (.ok ds) = .ok (d, .pin j (rwsD rows k')) := by
  unfold callM
  rw [if_pos (recv_of (cont_rwp rows k j) hm)]
  exact callO_rws (cont_rwp rows k j) nt np h
def rfD (rows : List (List Str)) (k : Nat) : D := .nd .frz (.ins "Rows" ["rows", "front"]) [.nd .frz .lst (rows.map frD), .int (k : Int)]
theorem fa_frs (rows : List (List Str)) : faL (rows.map frD) = rows.map frD := by
  have s : ∀ l : List Str, faL (l.map D.str) = l.map D.str := fun l => by
    induction l with
    | nil => rfl
    | cons a l ih => rw [List.map_cons, faL, ih]; rfl
  induction rows with
  | nil => rfl
  | cons a rows ih =>
    rw [List.map_cons, faL, ih]
    unfold frD
    rw [fa, s]
theorem rd_rws (rows : List (List Str)) (k : Nat) : rd (rwsD rows k) = .nd .tmp (.ins "Rows" ["rows", "front"]) [.nd .tmp .lst (rows.map frD), .int (k : Int)] := by
  unfold rwsD
  rw [rd_own, rdL_cons, rdL_cons, rd_own, rdL_fr]
  rfl
theorem fa_rws (rows : List (List Str)) (k : Nat) : fa (rd (rwsD rows k)) = rfD rows k := by
  rw [rd_rws, fa, faL, faL, fa, fa_frs]
  rfl
theorem rf_front (rows : List (List Str)) (k : Nat) : dFld ["Rows"] "front" (rd (rfD rows k)) = .ok (.int (k : Int)) := by
  unfold rfD
  rw [rd_frz, rdL_cons, rdL_cons, dFld_e, if_pos (by decide)]
  rfl
theorem rf_rows (rows : List (List Str)) (k : Nat) : dFld ["Rows"] "rows" (rd (rfD rows k)) = .ok (.nd .frz .lst (rows.map frD)) := by
  unfold rfD
  rw [rd_frz, rdL_cons, rdL_cons, rd_frz, rdL_fr, dFld_e, if_pos (by decide)]
  rw [List.zip_cons_cons, List.lookup_cons_self]
  simp only [ofO_some, rb_ok, rd_frz, rdL_fr]
theorem ix_rows {t : Tag} {rows : List (List Str)} {k : Nat} {l : List Str} (h : rows[k]? = some l) : dIx (.nd t .lst (rows.map frD)) (.int (k : Int)) = .ok (frD l) := by
  rw [dIx_lst, atI_nat (v := frD l) (by rw [List.getElem?_map, h]; rfl)]
  simp only [ofO_some, rb_ok, rd_frD]
theorem ix_fr0 (w : Str) (l : List Str) : dIx (frD (w :: l)) (.int 0) = .ok (.str w) := by
  unfold frD
  rw [List.map_cons, dIx_lst, at_0]
  rfl
theorem ix_fr1 (v w : Str) (l : List Str) : dIx (frD (v :: w :: l)) (.int 1) = .ok (.str w) := by
  unfold frD
  rw [List.map_cons, List.map_cons, dIx_lst, at_1]
  rfl
theorem ix_fr2 (u v w : Str) (l : List Str) : dIx (frD (u :: v :: w :: l)) (.int 2) = .ok (.str w) := by
  unfold frD
  rw [List.map_cons, List.map_cons, List.map_cons, dIx_lst, at_2]
  rfl
theorem lt_int (a b : Nat) : dLt (.int (a : Int)) (.int (b : Int)) = .ok (.bl (decide (a < b))) := by
  show Res.ok (D.bl (decide ((a : Int) < (b : Int)))) = _
  congr 2
  rw [decide_eq_decide]
  omega
theorem head_some {rows : List (List Str)} {k : Nat} {w : Str} {l : List Str} (h : rows[k]? = some (w :: l)) : M_Rows_head (rfD rows k) = .ok (.str w) := by
  have hk : k < rows.length := (List.getElem?_eq_some_iff.mp h).1
  unfold M_Rows_head
  rw [rf_front, rf_rows]
  simp only [rb_ok, dLen_lst, List.length_map]
  rw [lt_int, decide_eq_true hk]
  simp only [rb_ok, asB_bl, ifR_e, if_true]
  rw [ix_rows h]
  simp only [rb_ok]
  rw [ix_fr0]
  rfl
theorem head_none {rows : List (List Str)} {k : Nat} (h : rows.length ≤ k) : M_Rows_head (rfD rows k) = .ok (.str "") := by
  unfold M_Rows_head
  rw [rf_front, rf_rows]
  simp only [rb_ok, dLen_lst, List.length_map]
  rw [lt_int, decide_eq_false (by omega)]
  rfl
theorem mrd_of {x : D} {rows : List (List Str)} {k : Nat} {w : Str} (hc : contOf (some (some x)) = some (rwsD rows k)) (h : M_Rows_head (rfD rows k) = .ok (.str w)) : mrdV "Rows" "head" (lenIs 1 Ψ_Rows_head) x = .ok (.str w) := by
  unfold mrdV
  rw [if_pos (recv_of hc (by decide)), hc]
  dsimp only
  rw [callD_e, if_neg (by rw [rd_rws, noTL_cons, noT_tmp]; simp)]
  have : faL [rd (rwsD rows k)] = [rfD rows k] := by rw [faL, fa_rws]; rfl
  rw [this]
  show ((M_Rows_head (rfD rows k)).bind _) = _
  rw [h]
  rfl
theorem headp_s {rows : List (List Str)} {j k : Nat} {w : Str} {l : List Str} (h : rows[k]? = some (w :: l)) : mrdV "Rows" "head" (lenIs 1 Ψ_Rows_head) (.pin j (rwsD rows k)) = .ok (.str w) := mrd_of (cont_rwp rows k j) (head_some h)
theorem headr_n {rows : List (List Str)} {k : Nat} (h : rows.length ≤ k) : mrdV "Rows" "head" (lenIs 1 Ψ_Rows_head) (rwsD rows k) = .ok (.str "") := mrd_of (cont_rws rows k) (head_none h)
theorem rws_rows (rows : List (List Str)) (k j : Nat) : dFld ["Rows"] "rows" (rd (.pin j (rwsD rows k))) = .ok (.nd .tmp .lst (rows.map frD)) := by
  rw [rd, rd_rws, dFld_e, if_pos (by decide), List.zip_cons_cons, List.lookup_cons_self]
  simp only [ofO_some, rb_ok, rd_tmp, rdL_fr]
theorem rws_front (rows : List (List Str)) (k j : Nat) : dFld ["Rows"] "front" (rd (.pin j (rwsD rows k))) = .ok (.int (k : Int)) := by
  rw [rd, rd_rws, dFld_e, if_pos (by decide)]
  rfl
theorem sl_fr (w : Str) (l : List Str) : dSl (frD (w :: l)) (some 1) none = .ok (ownD l) := by
  unfold frD
  rw [dSl_lst, cutL_from (by decide), rdL_eq]
  show Res.ok (D.lst .own ((l.map D.str).map rd)) = _
  rw [← rdL_eq, rd_txs]
  rfl
theorem taken_p {rows : List (List Str)} {k : Nat} {w : Str} {l : List Str} (h : rows[k]? = some (w :: l)) : M_Rows_taken_x (.pin 0 (rwsD rows k)) (.str w) = .ok (.pack (ownD l) [rwsD rows (k + 1)]) := by
  unfold M_Rows_taken_x
  rw [headp_s h]
  simp only [rb_ok, rd_str, dNe_str, beq_self_eq_true, Bool.not_true, asB_bl, ifR_e, Bool.false_eq_true, if_false]
  have e1 : (pinOp (fun t2 => (faugV ["Rows"] "front" t2 (Res.ok (D.int 1)))) (.pin 0 (rwsD rows k))) = .ok (.pin 0 (rwsD rows (k + 1))) := rfl
  rw [e1]
  simp only [rb_ok]
  rw [rws_rows, rws_front]
  simp only [rb_ok]
  have e2 : dSub (.int ((k + 1 : Nat) : Int)) (.int 1) = .ok (.int (k : Int)) := by
    show Res.ok (D.int (((k + 1 : Nat) : Int) - 1)) = _
    congr 2
    omega
  rw [e2]
  simp only [rb_ok]
  rw [ix_rows h]
  simp only [rb_ok]
  rw [sl_fr]
  simp only [rb_ok, chk_e]
  rw [if_pos (noT_ownD l)]
  rfl
theorem noP_own (l : List Str) : noP (ownD l) = true := by
  have s : noPL (l.map D.str) = true := by
    induction l with
    | nil => rfl
    | cons a l ih => rw [List.map_cons, noPL, ih]; rfl
  unfold ownD
  show noP (.nd .own .lst _) = true
  rw [noP, s]
theorem taken_rws {rows : List (List Str)} {k : Nat} {w : Str} {l : List Str} (h : rows[k]? = some (w :: l)) : callM "Rows" "taken" (lenIs 2 Ψ_Rows_taken_x) (rwsD rows k) (.ok [.str w]) = .ok (ownD l, rwsD rows (k + 1)) :=
  callM_rws (by decide) rfl (noP_own l) (by
    show M_Rows_taken_x (.pin 0 (rwsD rows k)) (.str w) = _
    exact taken_p h)
theorem taken_rwp {rows : List (List Str)} {j k : Nat} {w : Str} {l : List Str} (h : rows[k]? = some (w :: l)) : callM "Rows" "taken" (lenIs 2 Ψ_Rows_taken_x) (.pin j (rwsD rows k)) (.ok [.str w]) = .ok (ownD l, .pin j (rwsD rows (k + 1))) :=
  callM_rwp (by decide) rfl (noP_own l) (by
    show M_Rows_taken_x (.pin 0 (rwsD rows k)) (.str w) = _
    exact taken_p h)
theorem len_int (n m : Nat) : dNe (.int (n : Int)) (.int (m : Int)) = .ok (.bl (!(n == m))) := by
  rw [dNe_int]
  congr 3
  rw [Bool.eq_iff_iff, beq_iff_eq, beq_iff_eq]
  omega
theorem several_loop {rows : List (List Str)} {h : Str} {n : Nat} : ∀ (ls acc : List (List Str)) (k fuel : Nat), ls.length < fuel → acc.length + ls.length ≤ 1000 →
    (∀ i l, ls[i]? = some l → rows[k + i]? = some (h :: l) ∧ l.length = n) → (∃ w, M_Rows_head (rfD rows (k + ls.length)) = .ok (.str w) ∧ w ≠ h) →
    whileV (fun s => TB_Rows_several_x_1 (.str h) (.int (n : Int)) s.1 s.2) (fun s => B_Rows_several_x_1 (.str h) (.int (n : Int)) s.1 s.2) fuel (.pin 0 (rwsD rows k), .lst .own (acc.map frD)) =
      .ok (.nx (.pin 0 (rwsD rows (k + ls.length)), .lst .own ((acc ++ ls).map frD)))
  | _, _, _, 0, hf, _, _, _ => absurd hf (Nat.not_lt_zero _)
  | [], acc, k, fuel + 1, _, _, _, ⟨w, h1, h2⟩ => by
    have t : TB_Rows_several_x_1 (.str h) (.int (n : Int)) (.pin 0 (rwsD rows k)) (.lst .own (acc.map frD)) = .ok false := by
      unfold TB_Rows_several_x_1
      rw [mrd_of (cont_rwp rows k 0) h1]
      simp only [rb_ok, rd_str, dEq_str, asB_bl]
      rw [beq_false_of_ne h2]
    rw [whileV]
    dsimp only
    rw [t, List.append_nil]
    rfl
  | l :: ls, acc, k, fuel + 1, hf, hn, hs, he => by
    rw [List.length_cons] at hf hn
    obtain ⟨r0, ln⟩ := hs 0 l rfl
    rw [Nat.add_zero] at r0
    have t : TB_Rows_several_x_1 (.str h) (.int (n : Int)) (.pin 0 (rwsD rows k)) (.lst .own (acc.map frD)) = .ok true := by
      unfold TB_Rows_several_x_1
      rw [headp_s r0]
      simp only [rb_ok, rd_str, dEq_str, asB_bl, beq_self_eq_true]
    have b : B_Rows_several_x_1 (.str h) (.int (n : Int)) (.pin 0 (rwsD rows k)) (.lst .own (acc.map frD)) = .ok (.nx (.pin 0 (rwsD rows (k + 1)), .lst .own ((acc ++ [l]).map frD))) := by
      unfold B_Rows_several_x_1
      rw [rd_str, taken_rwp r0]
      simp only [rb_ok, chk1]
      rw [if_pos (noT_ownD l)]
      simp only [rb_ok]
      have e1 : rd (ownD l) = .nd .tmp .lst (l.map D.str) := by
        unfold ownD
        show rd (.nd .own .lst _) = _
        rw [rd_own, rd_txs]
      rw [e1, dLen_lst, List.length_map, ln, rd_int]
      simp only [rb_ok]
      rw [len_int]
      simp only [rb_ok, asB_bl, beq_self_eq_true, Bool.not_true, ifR_e, Bool.false_eq_true, if_false]
      rw [fz_ownD, rd_frD]
      show ((appV (.nd .own .lst (acc.map frD)) (.ok (frD l))).bind _) = _
      rw [appV_e, if_pos ⟨noT_frD l, by rw [List.length_map]; show acc.length < 1000000; omega⟩, List.map_append]
      rfl
    rw [whileV]
    dsimp only
    rw [t, rb_ok, if_pos rfl, b]
    simp only [rb_ok]
    have ih := several_loop (rows := rows) (h := h) (n := n) ls (acc ++ [l]) (k + 1) fuel (by omega) (by rw [List.length_append, List.length_singleton]; omega) (fun i l' hl => by
      have := hs (i + 1) l' hl
      rw [show k + (i + 1) = k + 1 + i by omega] at this
      exact this) (by rw [List.length_cons, show k + (ls.length + 1) = k + 1 + ls.length by omega] at he; exact he)
    rw [ih, List.append_assoc, List.length_cons, show k + 1 + ls.length = k + (ls.length + 1) by omega]
    rfl
theorem noP_frs (ls : List (List Str)) : noP (.lst .own (ls.map frD)) = true := by
  show noP (.nd .own .lst _) = true
  rw [noP, noP_fr]
theorem several_rws {rows : List (List Str)} {h : Str} {n : Nat} (ls : List (List Str)) (k : Nat) (hn : ls.length ≤ 1000)
    (hs : ∀ i l, ls[i]? = some l → rows[k + i]? = some (h :: l) ∧ l.length = n) (he : ∃ w, M_Rows_head (rfD rows (k + ls.length)) = .ok (.str w) ∧ w ≠ h) :
    callM "Rows" "several" (lenIs 3 Ψ_Rows_several_x) (rwsD rows k) (.ok [.str h, .int (n : Int)]) = .ok (.lst .own (ls.map frD), rwsD rows (k + ls.length)) := by
  refine callM_rws (by decide) rfl (noP_frs ls) ?_
  show M_Rows_several_x (.pin 0 (rwsD rows k)) (.str h) (.int (n : Int)) = _
  unfold M_Rows_several_x
  have := several_loop (rows := rows) (h := h) (n := n) ls [] k 1000000 (by omega) (by simpa using hn) hs he
  rw [List.nil_append, List.map_nil] at this
  rw [this]
  rfl
theorem gt_int (a b : Nat) : dGt (.int (a : Int)) (.int (b : Int)) = .ok (.bl (decide (b < a))) := by
  show Res.ok (D.bl (decide ((b : Int) < (a : Int)))) = _
  congr 2
  rw [decide_eq_decide]
  omega
theorem name_ok {w : List Nat} (h : NameL w) : M_is_name (.str (S w)) = .ok (.bl true) := by
  have l1 := h.1
  have l2 := h.2.1
  have a : dEq (.int (w.length : Int)) (.int 0) = .ok (.bl false) := by
    rw [dEq_int, beq_false_of_ne (by omega)]
  have b : dGt (.int (w.length : Int)) (.int 6) = .ok (.bl false) := by
    rw [show (6 : Int) = ((6 : Nat) : Int) from rfl, gt_int, decide_eq_false (by omega)]
  unfold M_is_name
  simp only [rd_str, dLen_str, S_len]
  rw [if_pos (show w.length ≤ bigL by show w.length ≤ 1000000; omega)]
  simp only [rb_ok]
  rw [a, b]
  simp only [rb_ok, asB_bl, ifR_e, Bool.false_eq_true, if_false]
  rw [itemsOf_str]
  simp only [rb_ok, S_cps]
  rw [forV_same _ (fun k hk => by
    unfold B_is_name_1
    have m : k ∈ (Str.ofString "abcdefghijklmnopqrstuvwxyz").cps.toList := (abc_mem k).mpr (h.2.2 k hk)
    have e : dIn0 (.str ⟨#[k]⟩) (.str "abcdefghijklmnopqrstuvwxyz") = .ok (.bl false) := by
      rw [dIn0_one]
      rw [decide_eq_true (show k ∈ ("abcdefghijklmnopqrstuvwxyz" : Str).cps.toList from m)]
      rfl
    simp only [chk_e, noT_str, if_true, rb_ok, rd_str]
    rw [e]
    rfl)]
  rfl
theorem name_read {w : List Nat} (h : NameL w) : M_name_read_x (.str (S w)) = .ok (.str (S w)) := by
  unfold M_name_read_x
  have : callD (lenIs 1 Ψ_is_name) [rd (.str (S w))] = .ok (.bl true) := by
    show M_is_name (.str (S w)) = _
    exact name_ok h
  rw [this]
  rfl
theorem call_name {w : List Nat} (h : NameL w) : callD (lenIs 1 Ψ_name_read_x) [.str (S w)] = .ok (.str (S w)) := by
  show M_name_read_x (.str (S w)) = _
  exact name_read h
theorem num_txt : ∀ n : Nat, n < 100 → PySem.intText? (numT (n : Int)) = some (n : Int) := by decide +kernel
theorem num_dig : ∀ n : Nat, n < 100 → ∀ k ∈ (numT (n : Int)).cps.toList, 48 ≤ k ∧ k ≤ 57 := by decide +kernel
theorem num_lead : ∀ n : Nat, n < 100 → (numT (n : Int)).length = 2 → (atI (numT (n : Int)).cps.toList 0).getD 0 ≠ 48 ∧ (atI (numT (n : Int)).cps.toList 0).isSome = true := by decide +kernel
theorem dig_mem {k : Nat} (h : 48 ≤ k ∧ k ≤ 57) : k ∈ ("0123456789" : Str).cps.toList := by
  have : ("0123456789" : Str).cps.toList = List.range' 48 10 := by decide +kernel
  rw [this, List.mem_range'_1]
  omega
theorem number_read {n : Nat} (hn : n < 100) : M_number_read_x (.str (numT (n : Int))) = .ok (.int (n : Int)) := by
  have l2 := small_len n hn
  have a : dGt (.int ((numT (n : Int)).length : Int)) (.int 2) = .ok (.bl false) := by
    rw [show (2 : Int) = ((2 : Nat) : Int) from rfl, gt_int, decide_eq_false (by unfold numT; omega)]
  have b : (ifR ((dEq (.int ((numT (n : Int)).length : Int)) (.int 2)).bind asB) ((((dIx (.str (numT (n : Int))) (D.int 0))).bind fun t3 => (dEq t3 (D.str "0"))).bind asB) (Res.ok false)) = .ok false := by
    rw [dEq_int]
    by_cases q : (numT (n : Int)).length = 2
    · have ⟨p1, p2⟩ := num_lead n hn q
      rw [show (((numT (n : Int)).length : Int) == 2) = true by rw [q]; rfl]
      simp only [rb_ok, asB_bl, ifR_e, if_true, dIx_str]
      rw [if_pos (show (numT (n : Int)).length ≤ bigL by rw [q]; decide)]
      obtain ⟨k, hk⟩ := Option.isSome_iff_exists.mp p2
      rw [hk] at p1 ⊢
      simp only [ofO_some, rb_ok, dEq_str, asB_bl]
      congr 1
      refine beq_false_of_ne fun e => p1 ?_
      have : (⟨#[k]⟩ : Str).cps.toList = ("0" : Str).cps.toList := by rw [e]
      have z : ("0" : Str).cps.toList = [48] := by decide +kernel
      rw [z] at this
      simpa using this
    · rw [beq_false_of_ne (show ((numT (n : Int)).length : Int) ≠ 2 by omega)]
      rfl
  unfold M_number_read_x
  simp only [rd_str, dLen_str]
  rw [if_pos (show (numT (n : Int)).length ≤ bigL by show (numT (n : Int)).length ≤ 1000000; unfold numT; omega)]
  simp only [rb_ok]
  rw [a, b]
  simp only [rb_ok, asB_bl, ifR_e, Bool.false_eq_true, if_false]
  rw [itemsOf_str]
  simp only [rb_ok]
  rw [forV_same _ (fun k hk => by
    unfold B_number_read_x_1
    have e : dIn0 (.str ⟨#[k]⟩) (.str "0123456789") = .ok (.bl false) := by
      rw [dIn0_one, decide_eq_true (dig_mem (num_dig n hn k hk))]
      rfl
    simp only [chk_e, noT_str, if_true, rb_ok, rd_str]
    rw [e]
    rfl)]
  simp only [afterV_nx]
  have i : dInt [.str (numT (n : Int))] = .ok (.int (n : Int)) := by
    unfold dInt
    dsimp only
    rw [if_pos (by unfold numT; omega), num_txt n hn]
    rfl
  rw [i]
  rfl
theorem call_num {n : Nat} (hn : n < 100) : callD (lenIs 1 Ψ_number_read_x) [.str (numT (n : Int))] = .ok (.int (n : Int)) := by
  show M_number_read_x (.str (numT (n : Int))) = _
  exact number_read hn
theorem pin_turn {x : Option Nm} (h : NmOk x) {acc : List D} (hn : acc.length < 1000) : B_pins_read_x_1 (.str (pinT x)) (.nd .own .lst acc) = .ok (.nx (.lst .own (acc ++ [nmD x]))) := by
  have b : acc.length < 1000000 := by omega
  unfold B_pins_read_x_1
  cases x with
  | none =>
    simp only [pinT, chk_e, noT_str, if_true, rb_ok, rd_str, dEq_str, beq_self_eq_true, asB_bl, ifR_e]
    rw [appV_e, if_pos ⟨rfl, b⟩]
    rfl
  | some w =>
    have e : dEq (.str (S w)) (.str ".") = .ok (.bl false) := by
      rw [dEq_str]
      congr 2
      refine beq_false_of_ne fun e => ?_
      have z : w = [46] := by
        have : (S w).cps.toList = ("." : Str).cps.toList := by rw [e]
        have z : ("." : Str).cps.toList = [46] := by decide +kernel
        rw [z] at this
        exact this
      have := (h w rfl).2.2 46 (by rw [z]; simp)
      unfold isLet at this
      omega
    simp only [pinT, chk_e, noT_str, if_true, rb_ok, rd_str]
    rw [e, call_name (h w rfl)]
    simp only [rb_ok, asB_bl, ifR_e, Bool.false_eq_true, if_false]
    rw [appV_e, if_pos ⟨rfl, b⟩]
    rfl
theorem pins_loop : ∀ (ws : List (Option Nm)) (acc : List D), (∀ x ∈ ws, NmOk x) → acc.length + ws.length ≤ 1000 →
    forV (fun d s => B_pins_read_x_1 d s) ((ws.map pinT).map D.str) (.nd .own .lst acc) = .ok (.nx (.lst .own (acc ++ ws.map nmD)))
  | [], acc, _, _ => by simp
  | x :: ws, acc, h, hn => by
    rw [List.length_cons] at hn
    rw [List.map_cons, List.map_cons, forV_cons, pin_turn (h x List.mem_cons_self) (by omega)]
    have ih := pins_loop ws (acc ++ [nmD x]) (fun y hy => h y (List.mem_cons_of_mem _ hy)) (by rw [List.length_append, List.length_singleton]; omega)
    rw [List.append_assoc] at ih
    exact ih
theorem pins_read {ws : List (Option Nm)} (h : ∀ x ∈ ws, NmOk x) (hn : ws.length ≤ 1000) : M_pins_read_x (frD (ws.map pinT)) = .ok (.lst .own (ws.map nmD)) := by
  unfold M_pins_read_x
  rw [rd_frD]
  unfold frD
  rw [itemsOf_frzT, if_pos (by rw [noTL_map, List.all_eq_true]; exact fun _ _ => rfl), fz_txs]
  simp only [rb_ok]
  have := pins_loop ws [] h (by simpa using hn)
  rw [List.nil_append] at this
  show (afterV (forV _ _ (D.nd .own .lst [])) _ _) = _
  rw [this]
  rfl
def Sm99 (i : Int) : Prop := 0 ≤ i ∧ i < 100
structure RdOk (h : Ch) : Prop where
  lt : h.top.length ≤ 90
  lb : h.bottom.length ≤ 90
  ll : h.left.length ≤ 90
  lr : h.right.length ≤ 90
  lw : h.wide.length ≤ 90
  lbd : h.bends.length ≤ 90
  lk : h.keeps.length ≤ 90
  top : ∀ x ∈ h.top, NmOk x
  bottom : ∀ x ∈ h.bottom, NmOk x
  left : ∀ w ∈ h.left, NameL w
  right : ∀ w ∈ h.right, NameL w
  wide : ∀ p ∈ h.wide, NameL p.1 ∧ Sm99 p.2
  bends : ∀ p ∈ h.bends, Sm99 p.1 ∧ NameL p.2
  keeps : ∀ p ∈ h.keeps, Sm99 p.1 ∧ Sm99 p.2.1 ∧ Sm99 p.2.2
theorem wo_of {w : Str} (h : w.cps.toList ≠ [] ∧ ∀ k ∈ w.cps.toList, 33 ≤ k) : WordOk w := by
  refine ⟨fun e => h.1 (by rw [e]; rfl), fun m => ?_, fun m => ?_⟩
  · have := h.2 _ m; omega
  · have := h.2 _ m; omega
theorem wo_name {w : Nm} (h : NameL w) : WordOk (S w) := wo_of ⟨by
  intro e
  have : w = [] := e
  have := h.1
  subst w
  simp at this, fun k hk => by
  have := h.2.2 k hk
  unfold isLet at this
  omega⟩
theorem wo_dot : WordOk (".": Str) := wo_of (by decide +kernel)
theorem wo_pin {x : Option Nm} (h : NmOk x) : WordOk (pinT x) := by
  cases x with
  | none => exact wo_dot
  | some w => exact wo_name (h w rfl)
theorem num_ne : ∀ n : Nat, n < 100 → (numT (n : Int)).cps.toList ≠ [] := by decide +kernel
theorem wo_num {i : Int} (h : Sm99 i) : WordOk (numT i) := by
  obtain ⟨n, rfl⟩ := Int.eq_ofNat_of_zero_le h.1
  have hn : n < 100 := by have := h.2; omega
  exact wo_of ⟨num_ne n hn, fun k hk => by have := num_dig n hn k hk; omega⟩
theorem num_len6 {i : Int} (h : Sm99 i) : (numT i).length ≤ 6 := Nat.le_trans (numT_ok h).1 (by decide)
theorem row_ok {l : List Str} (h0 : l ≠ []) (h1 : l.length ≤ 91) (h2 : ∀ w ∈ l, WordOk w ∧ w.length ≤ 6) : RwOk l := by
  refine ⟨h0, fun w hw => (h2 w hw).1, ?_, by omega⟩
  unfold rowT
  rw [txt_join]
  have := join_len " " 6 l fun w hw => (h2 w hw).2
  rw [sp_len] at this
  have : l.length * 7 ≤ 91 * 7 := Nat.mul_le_mul_right _ h1
  omega
theorem rows_ok {h : Ch} (K : RdOk h) : ∀ l ∈ linesZ h, RwOk l := by
  have hd : ∀ s ∈ (["top", "bottom", "left", "right", "wide", "bend", "keep"] : List Str), WordOk s ∧ s.length ≤ 6 := by
    have : ∀ s ∈ (["top", "bottom", "left", "right", "wide", "bend", "keep"] : List Str), (s.cps.toList ≠ [] ∧ ∀ k ∈ s.cps.toList, 33 ≤ k) ∧ s.length ≤ 6 := by decide +kernel
    exact fun s hs => ⟨wo_of (this s hs).1, (this s hs).2⟩
  have nm : ∀ w : Nm, NameL w → WordOk (S w) ∧ (S w).length ≤ 6 := fun w hw => ⟨wo_name hw, by rw [S_len]; exact hw.2.1⟩
  have nu : ∀ i : Int, Sm99 i → WordOk (numT i) ∧ (numT i).length ≤ 6 := fun i hi => ⟨wo_num hi, num_len6 hi⟩
  have pn : ∀ x : Option Nm, NmOk x → WordOk (pinT x) ∧ (pinT x).length ≤ 6 := fun x hx => ⟨wo_pin hx, pinT_len hx⟩
  intro l hl
  unfold linesZ at hl
  simp only [List.mem_append, List.mem_cons, List.not_mem_nil, or_false, List.mem_map] at hl
  rcases hl with (((rfl | rfl | rfl | rfl) | ⟨p, hp, rfl⟩) | ⟨p, hp, rfl⟩) | ⟨p, hp, rfl⟩
  · refine row_ok (by simp) (by have := K.lt; simp; omega) fun w hw => ?_
    rcases List.mem_cons.mp hw with rfl | hw
    · exact hd _ (by simp)
    · obtain ⟨x, hx, rfl⟩ := List.mem_map.mp hw
      exact pn x (K.top x hx)
  · refine row_ok (by simp) (by have := K.lb; simp; omega) fun w hw => ?_
    rcases List.mem_cons.mp hw with rfl | hw
    · exact hd _ (by simp)
    · obtain ⟨x, hx, rfl⟩ := List.mem_map.mp hw
      exact pn x (K.bottom x hx)
  · refine row_ok (by simp) (by have := K.ll; simp; omega) fun w hw => ?_
    rcases List.mem_cons.mp hw with rfl | hw
    · exact hd _ (by simp)
    · obtain ⟨x, hx, rfl⟩ := List.mem_map.mp hw
      exact nm x (K.left x hx)
  · refine row_ok (by simp) (by have := K.lr; simp; omega) fun w hw => ?_
    rcases List.mem_cons.mp hw with rfl | hw
    · exact hd _ (by simp)
    · obtain ⟨x, hx, rfl⟩ := List.mem_map.mp hw
      exact nm x (K.right x hx)
  · refine row_ok (by simp) (by simp) fun w hw => ?_
    have k := K.wide p hp
    simp only [List.mem_cons, List.not_mem_nil, or_false] at hw
    rcases hw with rfl | rfl | rfl
    · exact hd _ (by simp)
    · exact nm _ k.1
    · exact nu _ k.2
  · refine row_ok (by simp) (by simp) fun w hw => ?_
    have k := K.bends p hp
    simp only [List.mem_cons, List.not_mem_nil, or_false] at hw
    rcases hw with rfl | rfl | rfl
    · exact hd _ (by simp)
    · exact nu _ k.1
    · exact nm _ k.2
  · refine row_ok (by simp) (by simp) fun w hw => ?_
    have k := K.keeps p hp
    simp only [List.mem_cons, List.not_mem_nil, or_false] at hw
    rcases hw with rfl | rfl | rfl | rfl
    · exact hd _ (by simp)
    · exact nu _ k.1
    · exact nu _ k.2.1
    · exact nu _ k.2.2
theorem lines_len {h : Ch} : (linesZ h).length = 4 + h.wide.length + h.bends.length + h.keeps.length := by
  simp [linesZ]
  omega
def wdW (p : Nm × Int) : List Str := [S p.1, numT p.2]
def bdW (p : Int × Nm) : List Str := [numT p.1, S p.2]
def kpW (p : Int × Int × Int) : List Str := [numT p.1, numT p.2.1, numT p.2.2]
theorem lines_split (h : Ch) : linesZ h = (("top" : Str) :: h.top.map pinT) :: (("bottom" : Str) :: h.bottom.map pinT) :: (("left" : Str) :: h.left.map S) :: (("right" : Str) :: h.right.map S) :: ((h.wide.map fun p => ("wide" : Str) :: wdW p) ++ ((h.bends.map fun p => ("bend" : Str) :: bdW p) ++ (h.keeps.map fun p => ("keep" : Str) :: kpW p))) := by
  unfold linesZ wdW bdW kpW
  simp [List.append_assoc]
theorem at4 (h : Ch) (i : Nat) : (linesZ h)[4 + i]? = ((h.wide.map fun p => ("wide" : Str) :: wdW p) ++ ((h.bends.map fun p => ("bend" : Str) :: bdW p) ++ (h.keeps.map fun p => ("keep" : Str) :: kpW p)))[i]? := by
  rw [lines_split, show 4 + i = i + 1 + 1 + 1 + 1 by omega]
  simp only [List.getElem?_cons_succ]
theorem at_bend (h : Ch) (i : Nat) : (linesZ h)[4 + h.wide.length + i]? = ((h.bends.map fun p => ("bend" : Str) :: bdW p) ++ (h.keeps.map fun p => ("keep" : Str) :: kpW p))[i]? := by
  rw [show 4 + h.wide.length + i = 4 + (h.wide.length + i) by omega, at4, List.getElem?_append_right (by rw [List.length_map]; omega), List.length_map]
  congr 1
  omega
theorem at_keep (h : Ch) (i : Nat) : (linesZ h)[4 + h.wide.length + h.bends.length + i]? = (h.keeps.map fun p => ("keep" : Str) :: kpW p)[i]? := by
  rw [show 4 + h.wide.length + h.bends.length + i = 4 + h.wide.length + (h.bends.length + i) by omega, at_bend, List.getElem?_append_right (by rw [List.length_map]; omega), List.length_map]
  congr 1
  omega
theorem head_keep (h : Ch) (i : Nat) (hi : h.keeps.length ≤ i) : M_Rows_head (rfD (linesZ h) (4 + h.wide.length + h.bends.length + i)) = .ok (.str "") := head_none (by rw [lines_len]; omega)
theorem head_bend (h : Ch) : ∃ w, M_Rows_head (rfD (linesZ h) (4 + h.wide.length + h.bends.length)) = .ok (.str w) ∧ w ≠ "bend" ∧ w ≠ "wide" := by
  cases e : h.keeps with
  | nil => exact ⟨"", head_none (by rw [lines_len, e]; simp), by decide, by decide⟩
  | cons p ps =>
    have := at_keep h 0
    rw [e] at this
    exact ⟨"keep", head_some this, by decide, by decide⟩
theorem head_wide (h : Ch) : ∃ w, M_Rows_head (rfD (linesZ h) (4 + h.wide.length)) = .ok (.str w) ∧ w ≠ "wide" := by
  cases e : h.bends with
  | nil =>
    obtain ⟨w, h1, _, h2⟩ := head_bend h
    rw [e] at h1
    exact ⟨w, h1, h2⟩
  | cons p ps =>
    have := at_bend h 0
    rw [e] at this
    exact ⟨"bend", head_some this, by decide⟩
theorem call_numI {i : Int} (h : Sm99 i) : callD (lenIs 1 Ψ_number_read_x) [.str (numT i)] = .ok (.int i) := by
  obtain ⟨n, rfl⟩ := Int.eq_ofNat_of_zero_le h.1
  exact call_num (by have := h.2; omega)
theorem noT_pins (ws : List (Option Nm)) : noT (.nd .own .lst (ws.map nmD)) = true := by
  rw [noT_own, noTL_map, List.all_eq_true]
  intro x _
  cases x <;> rfl
theorem step_pins {rows : List (List Str)} {k : Nat} {w : Str} {ws : List (Option Nm)} (hr : rows[k]? = some (w :: ws.map pinT)) (h : ∀ x ∈ ws, NmOk x) (hn : ws.length ≤ 1000) :
    ((cmpC (lenIs 1 Ψ_pins_read_x) (callM "Rows" "taken" (lenIs 2 Ψ_Rows_taken_x) (rwsD rows k) (Res.ok [(D.str w)]))).bind chk1) = .ok (.lst .own (ws.map nmD), rwsD rows (k + 1)) := by
  unfold cmpC
  rw [taken_rws hr]
  simp only [rb_ok]
  have : callN (lenIs 1 Ψ_pins_read_x) (ownD (ws.map pinT)) = .ok (.lst .own (ws.map nmD)) := by
    unfold callN
    rw [if_pos (noT_ownD _), fz_ownD]
    show M_pins_read_x (frD (ws.map pinT)) = _
    exact pins_read h hn
  rw [this]
  simp only [rb_ok]
  unfold chk1
  rw [if_pos (noT_pins ws)]
def strS (w : Nm) : D := .str (S w)
theorem items_own (l : List Str) : itemsL (ownD l) = .ok (l.map D.str) := by
  unfold ownD
  show itemsL (.nd .own .lst _) = _
  unfold itemsL
  dsimp only
  rw [if_pos (show noT (.nd .own .lst (l.map D.str)) = true from noT_ownD l), fz_txs]
theorem items_frs (ls : List (List Str)) : itemsL (.lst .own (ls.map frD)) = .ok (ls.map frD) := by
  show itemsL (.nd .own .lst _) = _
  unfold itemsL
  dsimp only
  rw [if_pos (by rw [noT_own, noTL_fr]), fzL_fr]
theorem step_names {rows : List (List Str)} {k : Nat} {w : Str} {ws : List Nm} (hr : rows[k]? = some (w :: ws.map S)) (h : ∀ x ∈ ws, NameL x) (hn : ws.length ≤ 1000) :
    ((lcC (callM "Rows" "taken" (lenIs 2 Ψ_Rows_taken_x) (rwsD rows k) (Res.ok [(D.str w)])) (fun t4 => (((callD (lenIs 1 Ψ_name_read_x) [(rd t4)])).bind fun y => (chk y).bind fun y => Res.ok (some y)))).bind chk1) = .ok (.lst .own (ws.map strS), rwsD rows (k + 1)) := by
  unfold lcC
  rw [taken_rws hr]
  simp only [rb_ok]
  rw [items_own]
  simp only [rb_ok]
  have := lcV_map (f := fun t4 => (((callD (lenIs 1 Ψ_name_read_x) [(rd t4)])).bind fun y => (chk y).bind fun y => Res.ok (some y))) (ei := fun w : Nm => D.str (S w)) strS id ws fun x hx => by
    rw [rd_str, call_name (h x hx)]
    rfl
  rw [List.map_map]
  show ((lcV _ (ws.map fun w : Nm => D.str (S w))).bind _).bind _ = _
  rw [this, List.map_id]
  simp only [rb_ok, lstB_e, List.length_map]
  rw [if_pos (by show _ ≤ 1000000; omega)]
  simp only [rb_ok]
  unfold chk1
  rw [if_pos]
  show noT (.nd .own .lst _) = true
  rw [noT_own, noTL_map, List.all_eq_true]
  exact fun _ _ => rfl
theorem noTs_of {α : Type} {f : α → D} (h : ∀ x, noT (f x) = true) (xs : List α) : noT (.lst .own (xs.map f)) = true := by
  show noT (.nd .own .lst _) = true
  rw [noT_own, noTL_map, List.all_eq_true]
  exact fun x _ => h x
theorem step_rows {α : Type} {rows : List (List Str)} {k n : Nat} {w : Str} {ws : List α} {f : α → List Str} {e : α → D} {step : D → Res (Option D)} (hn : ws.length ≤ 1000)
    (hs : ∀ i l, (ws.map f)[i]? = some l → rows[k + i]? = some (w :: l) ∧ l.length = n) (he : ∃ v, M_Rows_head (rfD rows (k + ws.length)) = .ok (.str v) ∧ v ≠ w)
    (hst : ∀ x ∈ ws, step (frD (f x)) = .ok (some (e x))) (hno : ∀ x, noT (e x) = true) :
    ((lcC (callM "Rows" "several" (lenIs 3 Ψ_Rows_several_x) (rwsD rows k) (Res.ok [(D.str w), (D.int (n : Int))])) step).bind chk1) = .ok (.lst .own (ws.map e), rwsD rows (k + ws.length)) := by
  have e1 := several_rws (rows := rows) (h := w) (n := n) (ws.map f) k (by rw [List.length_map]; omega) hs (by rw [List.length_map]; exact he)
  unfold lcC
  rw [e1]
  simp only [rb_ok]
  rw [items_frs]
  simp only [rb_ok]
  have := lcV_map (f := step) (ei := fun x : α => frD (f x)) e id ws hst
  rw [List.map_map]
  show ((lcV _ (ws.map fun x : α => frD (f x))).bind _).bind _ = _
  rw [this, List.map_id]
  simp only [rb_ok, lstB_e, List.length_map]
  rw [if_pos (by show _ ≤ 1000000; omega)]
  simp only [rb_ok]
  unfold chk1
  rw [if_pos (noTs_of hno ws)]
theorem keep_turn {h : Ch} {a b c d e f g : D} {p : Int × Int × Int} (k : Sm99 p.1 ∧ Sm99 p.2.1 ∧ Sm99 p.2.2) {acc : List D} (hn : acc.length < 1000) :
    B_read_channel_x_1 a b c d e f g (frD (kpW p)) (.nd .own .lst acc) = .ok (.nx (.lst .own (acc ++ [kpD p]))) := by
  unfold B_read_channel_x_1 kpW
  rw [chk_e, if_pos (noT_frD _)]
  simp only [rb_ok, rd_frD]
  rw [ix_fr0, ix_fr1, ix_fr2]
  simp only [rb_ok, List.append_nil]
  rw [call_numI k.1, call_numI k.2.1, call_numI k.2.2]
  simp only [rb_ok]
  have : tupA [.int p.1, .int p.2.1, .int p.2.2] = .ok (kpD p) := rfl
  rw [this, appV_e, if_pos ⟨rfl, by show acc.length < 1000000; omega⟩]
  rfl
theorem keep_loop {h : Ch} {a b c d e f g : D} : ∀ (ps : List (Int × Int × Int)) (acc : List D), (∀ p ∈ ps, Sm99 p.1 ∧ Sm99 p.2.1 ∧ Sm99 p.2.2) → acc.length + ps.length ≤ 1000 →
    forV (fun x s => B_read_channel_x_1 a b c d e f g x s) ((ps.map kpW).map frD) (.nd .own .lst acc) = .ok (.nx (.lst .own (acc ++ ps.map kpD)))
  | [], acc, _, _ => by simp
  | p :: ps, acc, k, hn => by
    rw [List.length_cons] at hn
    rw [List.map_cons, List.map_cons, forV_cons, keep_turn (h := h) (k p List.mem_cons_self) (by omega)]
    have ih := keep_loop (h := h) (a := a) (b := b) (c := c) (d := d) (e := e) (f := f) (g := g) ps (acc ++ [kpD p]) (fun y hy => k y (List.mem_cons_of_mem _ hy)) (by rw [List.length_append, List.length_singleton]; omega)
    rw [List.append_assoc] at ih
    exact ih
theorem textZ_eq (h : Ch) : textZ h = textL (linesZ h) := rfl
theorem fzs_of {α : Type} {f : α → D} (h1 : ∀ x, fz (f x) = f x) (h2 : ∀ x, rd (f x) = f x) (xs : List α) : rd (fz (.lst .own (xs.map f))) = .nd .frz .lst (xs.map f) := by
  show rd (fz (.nd .own .lst _)) = _
  rw [fz_own, rd_frz, fzL_map, rdL_map]
  congr 1
  exact List.map_congr_left fun x _ => by rw [h1, h2]
theorem read_raw {h : Ch} (K : RdOk h) : M_read_channel_x (.str (textZ h)) = (M_look_sizes_x (chI .frz h)).bind fun d => if imO d = true then .ok (chI .own h) else .stuck := by
  have ro := rows_ok K
  have rl := lines_len (h := h)
  have k1 := K.lt; have k2 := K.lb; have k3 := K.ll; have k4 := K.lr; have k5 := K.lw; have k6 := K.lbd; have k7 := K.lk
  have g : ∀ (i : Nat) (l : List Str), (linesZ h)[i]? = some l → True := fun _ _ _ => trivial
  have r0 : (linesZ h)[0]? = some (("top" : Str) :: h.top.map pinT) := by rw [lines_split]; rfl
  have r1 : (linesZ h)[1]? = some (("bottom" : Str) :: h.bottom.map pinT) := by rw [lines_split]; rfl
  have r2 : (linesZ h)[2]? = some (("left" : Str) :: h.left.map S) := by rw [lines_split]; rfl
  have r3 : (linesZ h)[3]? = some (("right" : Str) :: h.right.map S) := by rw [lines_split]; rfl
  have s1 := step_pins r0 K.top (by omega)
  have s2 := step_pins r1 K.bottom (by omega)
  have s3 := step_names r2 K.left (by omega)
  have s4 := step_names r3 K.right (by omega)
  have hw := head_wide h
  obtain ⟨v, hb1, hb2, _⟩ := head_bend h
  have s5 := step_rows (rows := linesZ h) (k := 4) (n := 2) (w := "wide") (ws := h.wide) (f := wdW) (e := wdD)
    (step := fun t14 => (((((((((((dIx (rd t14) (D.int 0))).bind fun t16 => Res.ok [t16])).bind fun t17 => (callD (lenIs 1 Ψ_name_read_x) (t17 ++ [])))).bind fun t21 => ((((((((dIx (rd t14) (D.int 1))).bind fun t18 => Res.ok [t18])).bind fun t19 => (callD (lenIs 1 Ψ_number_read_x) (t19 ++ [])))).bind fun t20 => Res.ok [t20])).bind fun t22 => Res.ok (t21 :: t22))).bind fun t23 => (tupA t23))).bind fun y => (chk y).bind fun y => Res.ok (some y)))
    (by omega) (fun i l hl => by
      have e := at4 h i
      rw [List.getElem?_map] at hl
      cases q : h.wide[i]? with
      | none => rw [q] at hl; cases hl
      | some p =>
        rw [q] at hl
        have hi : i < h.wide.length := (List.getElem?_eq_some_iff.mp q).1
        cases hl
        rw [e, List.getElem?_append_left (by rw [List.length_map]; exact hi), List.getElem?_map, q]
        exact ⟨rfl, rfl⟩) hw (fun p hp => by
      have k := K.wide p hp
      rw [rd_frD]
      unfold wdW
      rw [ix_fr0, ix_fr1]
      simp only [rb_ok, List.append_nil]
      rw [call_name k.1, call_numI k.2]
      rfl) noT_wdD
  have s6 := step_rows (rows := linesZ h) (k := 4 + h.wide.length) (n := 2) (w := "bend") (ws := h.bends) (f := bdW) (e := bdD)
    (step := fun t27 => (((((((((((dIx (rd t27) (D.int 0))).bind fun t29 => Res.ok [t29])).bind fun t30 => (callD (lenIs 1 Ψ_number_read_x) (t30 ++ [])))).bind fun t34 => ((((((((dIx (rd t27) (D.int 1))).bind fun t31 => Res.ok [t31])).bind fun t32 => (callD (lenIs 1 Ψ_name_read_x) (t32 ++ [])))).bind fun t33 => Res.ok [t33])).bind fun t35 => Res.ok (t34 :: t35))).bind fun t36 => (tupA t36))).bind fun y => (chk y).bind fun y => Res.ok (some y)))
    (by omega) (fun i l hl => by
      have e := at_bend h i
      rw [List.getElem?_map] at hl
      cases q : h.bends[i]? with
      | none => rw [q] at hl; cases hl
      | some p =>
        rw [q] at hl
        have hi : i < h.bends.length := (List.getElem?_eq_some_iff.mp q).1
        cases hl
        rw [e, List.getElem?_append_left (by rw [List.length_map]; exact hi), List.getElem?_map, q]
        exact ⟨rfl, rfl⟩) ⟨v, hb1, hb2⟩ (fun p hp => by
      have k := K.bends p hp
      rw [rd_frD]
      unfold bdW
      rw [ix_fr0, ix_fr1]
      simp only [rb_ok, List.append_nil]
      rw [call_name k.2, call_numI k.1]
      rfl) (fun x => by simp)
  have s7 := several_rws (rows := linesZ h) (h := "keep") (n := 3) (h.keeps.map kpW) (4 + h.wide.length + h.bends.length) (by rw [List.length_map]; omega) (fun i l hl => by
      have e := at_keep h i
      rw [List.getElem?_map] at hl
      cases q : h.keeps[i]? with
      | none => rw [q] at hl; cases hl
      | some p =>
        rw [q] at hl
        cases hl
        rw [e, List.getElem?_map, q]
        exact ⟨rfl, rfl⟩) ⟨"", by rw [List.length_map]; exact head_keep h _ (Nat.le_refl _), by decide⟩
  rw [List.length_map] at s7
  have hd : mrdV "Rows" "head" (lenIs 1 Ψ_Rows_head) (rwsD (linesZ h) (4 + h.wide.length + h.bends.length + h.keeps.length)) = .ok (.str "") := headr_n (by omega)
  have ini : ((dMakeIO "Rows" (lenIs 2 Ψ_Rows_init)) [(rd (.str (textZ h)))]).bind chk = .ok (rwsD (linesZ h) 0) := by
    rw [rd_str, textZ_eq, init_rows ro (by omega)]
    simp only [rb_ok, chk_e]
    rw [if_pos (noT_rws _ _)]
  unfold M_read_channel_x
  rw [ini]
  simp only [rb_ok]
  rw [s1]
  simp only [rb_ok]
  rw [s2]
  simp only [rb_ok]
  rw [s3]
  simp only [rb_ok]
  rw [s4]
  simp only [rb_ok]
  rw [show ((3 : Nat) + 1) = 4 from rfl, show (D.int 2) = D.int ((2 : Nat) : Int) from rfl, s5]
  simp only [rb_ok]
  rw [show (D.int ((2 : Nat) : Int)) = D.int ((2 : Nat) : Int) from rfl, s6]
  simp only [rb_ok]
  rw [show (D.int 3) = D.int ((3 : Nat) : Int) from rfl, s7]
  simp only [rb_ok]
  rw [items_frs]
  simp only [rb_ok]
  have kl := fun a b c d e f g => keep_loop (h := h) (a := a) (b := b) (c := c) (d := d) (e := e) (f := f) (g := g) h.keeps [] K.keeps (by simpa using (show h.keeps.length ≤ 1000 by omega))
  show (afterV (forV _ _ (D.nd .own .lst [])) _ _) = _
  rw [kl, List.nil_append]
  simp only [afterV_nx]
  rw [hd]
  simp only [rb_ok, dNe_str, beq_self_eq_true, Bool.not_true, asB_bl, ifR_e, Bool.false_eq_true, if_false]
  have f1 : ∀ ws : List (Option Nm), rd (fz (.lst .own (ws.map nmD))) = .nd .frz .lst (ws.map nmD) := fun ws => fzs_of (fun x => by cases x <;> rfl) (fun x => by cases x <;> rfl) ws
  have f2 : ∀ ws : List Nm, rd (fz (.lst .own (ws.map strS))) = .nd .frz .lst (ws.map fun w => .str (S w)) := fun ws => fzs_of (fun _ => rfl) (fun _ => rfl) ws
  rw [f1, f1, f2, f2, fzs_of fz_wdD rd_wdD, fzs_of (fun x => by simp) (fun x => by simp) h.bends, fzs_of (fun x => by simp) (fun x => by simp) h.keeps]
  have mk : dMake "Channel" ["top" , "bottom" , "left" , "right" , "wide" , "bends" , "keeps"] [.nd .frz .lst (h.top.map nmD), .nd .frz .lst (h.bottom.map nmD), .nd .frz .lst (h.left.map fun w => .str (S w)), .nd .frz .lst (h.right.map fun w => .str (S w)), .nd .frz .lst (h.wide.map wdD), .nd .frz .lst (h.bends.map bdD), .nd .frz .lst (h.keeps.map kpD)] = .ok (chI .own h) := rfl
  rw [mk]
  simp only [rb_ok, chk_e]
  rw [if_pos noT_chO]
  simp only [rb_ok, rd_chO, callD_e]
  rw [if_neg (by rw [noTL_cons, noT_chT]; simp)]
  have fl : faL [chI .tmp h] = [chI .frz h] := by rw [faL, fa_ch]; rfl
  rw [fl]
  show ((M_look_sizes_x (chI .frz h)).bind _).bind _ = _
  cases M_look_sizes_x (chI .frz h) with
  | ok d =>
    simp only [rb_ok]
    by_cases q : imO d = true
    · rw [if_pos q, if_pos q]; rfl
    · rw [if_neg q, if_neg q]; rfl
  | exc x => rfl
  | stuck => rfl
def Rises {α : Type} (lt : α → α → Prop) (ls : List α) : Prop := ∀ i a b, ls[i]? = some a → ls[i + 1]? = some b → lt a b
theorem rising_ok {α : Type} (f : α → D) (ls : List α) (hrd : ∀ x, rd (f x) = f x) (hlt : Rises (fun a b => dLtG (f a) (f b) = .ok (.bl true)) ls) (hn : ls.length ≤ 1000) : M_look_rising_x (.nd .frz .lst (ls.map f)) = .ok .non := by
  have e0 : rd (.nd .frz .lst (ls.map f)) = .nd .frz .lst (ls.map f) := by
    rw [rd_frz, rdL_map]
    congr 1
    exact List.map_congr_left fun x _ => hrd x
  unfold M_look_rising_x
  rw [e0, dLen_lst, List.length_map]
  simp only [rb_ok]
  rw [rng2_e, if_pos ⟨R62_1, R62_of (by rw [Int.natAbs_natCast]; omega)⟩]
  simp only [rb_ok]
  have er : rngD 1 ((ls.length : Int) - 1).toNat = (List.range (ls.length - 1)).map fun i : Nat => D.int (1 + (i : Int)) := by
    rw [rngD_map, show ((ls.length : Int) - 1).toNat = ls.length - 1 by omega]
  rw [er, forV_same _ (fun i hi => by
    have hi := List.mem_range.mp hi
    have q1 : ls[i]? = some ls[i] := List.getElem?_eq_getElem (by omega)
    have q2 : ls[i + 1]? = some ls[i + 1] := List.getElem?_eq_getElem (by omega)
    have a1 : dIx (.nd .frz .lst (ls.map f)) (.int (i : Int)) = .ok (f ls[i]) := by
      rw [dIx_lst, atI_nat (v := f ls[i]) (by rw [List.getElem?_map, q1]; rfl), ofO_some, rb_ok, hrd]
    have a2 : dIx (.nd .frz .lst (ls.map f)) (.int ((i + 1 : Nat) : Int)) = .ok (f ls[i + 1]) := by
      rw [dIx_lst, atI_nat (v := f ls[i + 1]) (by rw [List.getElem?_map, q2]; rfl), ofO_some, rb_ok, hrd]
    have s1 : dSub (.int (1 + (i : Int))) (.int 1) = .ok (.int (i : Int)) := by
      show Res.ok (D.int (1 + (i : Int) - 1)) = _
      congr 2
      omega
    have s2 : (1 + (i : Int)) = ((i + 1 : Nat) : Int) := by omega
    unfold B_look_rising_x_1
    simp only [chk_e, noT_int, if_true, rb_ok, rd_int]
    rw [e0, s1, s2]
    simp only [rb_ok]
    rw [a1, a2]
    simp only [rb_ok]
    rw [hlt i _ _ q1 q2]
    rfl)]
  rfl
theorem call_rise {α : Type} {t : Tag} (ht : t ≠ .tmp) (f : α → D) (ls : List α) (hrd : ∀ x, rd (f x) = f x) (hfz : ∀ x, fz (f x) = f x) (hno : ∀ x, noT (f x) = true) (hlt : Rises (fun a b => dLtG (f a) (f b) = .ok (.bl true)) ls) (hn : ls.length ≤ 1000) :
    callD (lenIs 1 Ψ_look_rising_x) ([.nd t .lst (ls.map f)] ++ []) = .ok .non := by
  have e : fzL (ls.map f) = ls.map f := by
    rw [fzL_map]
    exact List.map_congr_left fun x _ => hfz x
  have z : noTL ([D.nd t .lst (ls.map f)] ++ []) = true := by
    rw [List.append_nil, noTL_cons]
    have : noT (.nd t .lst (ls.map f)) = true := by
      cases t with
      | tmp => exact absurd rfl ht
      | own => rw [noT_own, noTL_map, List.all_eq_true]; exact fun x _ => hno x
      | frz => rw [noT_frz, noTL_map, List.all_eq_true]; exact fun x _ => hno x
    rw [this]
    rfl
  have y : fzL ([D.nd t .lst (ls.map f)] ++ []) = [.nd .frz .lst (ls.map f)] := by
    rw [List.append_nil, fzL_cons]
    have : fz (.nd t .lst (ls.map f)) = .nd .frz .lst (ls.map f) := by
      cases t with
      | tmp => exact absurd rfl ht
      | own => rw [fz_own, e]
      | frz => rw [fz_frz, e]
    rw [this]
    rfl
  rw [callD_e, if_pos z, y]
  exact rising_ok f ls hrd hlt hn
def namesT (h : Ch) : List Nm := h.left ++ h.right ++ h.wide.map (·.1) ++ h.bends.map (·.2) ++ (h.top ++ h.bottom).filterMap id
def Fits (h : Ch) : Prop := (1 ≤ h.top.length ∧ h.top.length ≤ 40 ∧ h.bottom.length = h.top.length) ∧ h.keeps.length ≤ 8 ∧ (onceL ((namesT h).map S)).length ≤ 24
instance (h : Ch) : Decidable (Fits h) := by unfold Fits; infer_instance
structure Srt (h : Ch) : Prop where
  left : Rises (· < ·) h.left
  right : Rises (· < ·) h.right
  wide : Rises (· < ·) (h.wide.map (·.1))
  bends : Rises (· < ·) (h.bends.map (·.1))
  two : ∀ p ∈ h.wide, p.2 = 2 ∨ p.2 = 3
theorem add_txs {t u : Tag} (xs ys : List Str) (hn : xs.length + ys.length ≤ 10000) : dAdd (.nd t .lst (xs.map D.str)) (.nd u .lst (ys.map D.str)) = .ok (.lst .own ((xs ++ ys).map D.str)) := by
  rw [dAdd_lst, if_pos (by rw [List.length_map, List.length_map]; show xs.length + ys.length ≤ 1000000; omega), ← List.map_append, rd_txs]
theorem strS_map (ws : List Nm) : ws.map strS = (ws.map S).map D.str := by rw [List.map_map]; rfl
theorem lt_strS {a b : Nm} (h : a < b) : dLtG (strS a) (strS b) = .ok (.bl true) := by
  show Res.ok (D.bl (decide (a < b))) = _
  rw [decide_eq_true h]
theorem rise_strS {ws : List Nm} (h : Rises (· < ·) ws) : Rises (fun a b => dLtG (strS a) (strS b) = .ok (.bl true)) ws := fun i a b ha hb => lt_strS (h i a b ha hb)
theorem lt_intG {a b : Int} (h : a < b) : dLtG (.int a) (.int b) = .ok (.bl true) := by
  show Res.ok (D.bl (decide (a < b))) = _
  rw [decide_eq_true h]
theorem sizes_eq {h : Ch} (K : RdOk h) (Z : Srt h) : M_look_sizes_x (chI .frz h) = if Fits h then .ok .non else .exc ⟨"BadText", [], []⟩ := by
  have k1 := K.lt; have k2 := K.lb; have k3 := K.ll; have k4 := K.lr; have k5 := K.lw; have k6 := K.lbd; have k7 := K.lk
  have e1 : (ifR (((chV (dLe (.int 1) (.int (h.top.length : Int))) (dLe (.int (h.top.length : Int)) (.int 40))).bind asB).bind fun t4 => Res.ok (!t4)) (Res.ok true) ((dNe (.int (h.bottom.length : Int)) (.int (h.top.length : Int))).bind asB)) = .ok (!decide (1 ≤ h.top.length ∧ h.top.length ≤ 40 ∧ h.bottom.length = h.top.length)) := by
    have a1 : dLe (.int 1) (.int (h.top.length : Int)) = .ok (.bl (decide (1 ≤ h.top.length))) := by
      show Res.ok (D.bl (decide ((1 : Int) ≤ (h.top.length : Int)))) = _
      congr 2
      rw [decide_eq_decide]
      omega
    have a2 : dLe (.int (h.top.length : Int)) (.int 40) = .ok (.bl (decide (h.top.length ≤ 40))) := by
      show Res.ok (D.bl (decide ((h.top.length : Int) ≤ 40))) = _
      congr 2
      rw [decide_eq_decide]
      omega
    rw [a1, a2, len_int]
    by_cases q1 : 1 ≤ h.top.length <;> by_cases q2 : h.top.length ≤ 40 <;> by_cases q3 : h.bottom.length = h.top.length <;> simp [q1, q2, q3]
  have e2 : callD (lenIs 1 Ψ_look_rising_x) ([.nd .frz .lst (h.left.map fun w => .str (S w))] ++ []) = .ok .non := call_rise (by decide) strS h.left (fun _ => rfl) (fun _ => rfl) (fun _ => rfl) (rise_strS Z.left) (by omega)
  have e3 : callD (lenIs 1 Ψ_look_rising_x) ([.nd .frz .lst (h.right.map fun w => .str (S w))] ++ []) = .ok .non := call_rise (by decide) strS h.right (fun _ => rfl) (fun _ => rfl) (fun _ => rfl) (rise_strS Z.right) (by omega)
  have iw : itemsOf false (.nd .frz .lst (h.wide.map wdD)) = .ok (h.wide.map wdD) := by
    rw [itemsOf_lstF, rdL_map]
    simp
  have iwT : itemsOf true (.nd .frz .lst (h.wide.map wdD)) = .ok (h.wide.map wdD) := by
    rw [itemsOf_frzT, if_pos (by rw [noTL_map, List.all_eq_true]; exact fun _ _ => noT_wdD _), fzL_map]
    simp
  have ib : itemsOf false (.nd .frz .lst (h.bends.map bdD)) = .ok (h.bends.map bdD) := by
    rw [itemsOf_lstF, rdL_map]
    simp
  have lw : (lcV (fun t16 => (((dIx (rd t16) (D.int 0))).bind fun y => (chk y).bind fun y => Res.ok (some y))) (h.wide.map wdD)).bind lstB = .ok (.lst .own ((h.wide.map (·.1)).map strS)) := by
    rw [lcV_map strS (·.1) h.wide fun p _ => by
      rw [rd_wdD]
      unfold wdD
      rw [dIx_tup, at_0]
      rfl]
    simp only [rb_ok, lstB_e, List.length_map]
    rw [if_pos (by show _ ≤ 1000000; omega)]
  have lb0 : (lcV (fun t16 => (((dIx (rd t16) (D.int 0))).bind fun y => (chk y).bind fun y => Res.ok (some y))) (h.bends.map bdD)).bind lstB = .ok (.lst .own ((h.bends.map (·.1)).map D.int)) := by
    rw [lcV_map D.int (·.1) h.bends fun p _ => by
      unfold bdD
      rw [rd_tup, rdL_cons, dIx_tup, at_0]
      rfl]
    simp only [rb_ok, lstB_e, List.length_map]
    rw [if_pos (by show _ ≤ 1000000; omega)]
  have lb1 : (lcV (fun t16 => (((dIx (rd t16) (D.int 1))).bind fun y => (chk y).bind fun y => Res.ok (some y))) (h.bends.map bdD)).bind lstB = .ok (.lst .own ((h.bends.map (·.2)).map strS)) := by
    rw [lcV_map strS (·.2) h.bends fun p _ => by
      unfold bdD
      rw [rd_tup, rdL_cons, rdL_cons, dIx_tup, at_1]
      rfl]
    simp only [rb_ok, lstB_e, List.length_map]
    rw [if_pos (by show _ ≤ 1000000; omega)]
  have e4 : callD (lenIs 1 Ψ_look_rising_x) ([D.lst .own ((h.wide.map (·.1)).map strS)] ++ []) = .ok .non := call_rise (by decide) strS (h.wide.map (·.1)) (fun _ => rfl) (fun _ => rfl) (fun _ => rfl) (rise_strS Z.wide) (by rw [List.length_map]; omega)
  have e5 : callD (lenIs 1 Ψ_look_rising_x) ([D.lst .own ((h.bends.map (·.1)).map D.int)] ++ []) = .ok .non := call_rise (by decide) D.int (h.bends.map (·.1)) (fun _ => rfl) (fun _ => rfl) (fun _ => rfl) (fun i a b ha hb => lt_intG (Z.bends i a b ha hb)) (by rw [List.length_map]; omega)
  have e6 : forV (fun d s => B_look_sizes_x_1 (chI .frz h) d) (h.wide.map wdD) () = .ok (.nx ()) := forV_same _ fun p hp => by
    unfold B_look_sizes_x_1
    rw [chk_e, if_pos (noT_wdD p)]
    simp only [rb_ok, rd_wdD]
    have : dIx (wdD p) (.int 1) = .ok (.int p.2) := by
      unfold wdD
      rw [dIx_tup, at_1]
      rfl
    rw [this]
    simp only [rb_ok]
    rcases Z.two p hp with q | q <;> rw [q] <;> rfl
  have tb : dAdd (.nd .frz .lst (h.top.map nmD)) (.nd .frz .lst (h.bottom.map nmD)) = .ok (.lst .own ((h.top ++ h.bottom).map nmD)) := by
    rw [dAdd_lst, if_pos (by rw [List.length_map, List.length_map]; show _ ≤ 1000000; omega), ← List.map_append, rdL_map]
    congr 3
    funext x
    cases x <;> rfl
  have itb : itemsOf false (.lst .own ((h.top ++ h.bottom).map nmD)) = .ok ((h.top ++ h.bottom).map nmD) := by
    show itemsOf false (.nd .own .lst _) = _
    rw [itemsOf_lstF, rdL_map]
    congr 1
    exact List.map_congr_left fun x _ => by cases x <;> rfl
  have ltb : (lcV (fun t53 => (ifR ((dNotN (rd t53)).bind asB) ((chk (rd t53)).bind fun y => Res.ok (some y)) (Res.ok none))) ((h.top ++ h.bottom).map nmD)).bind lstB = .ok (.lst .own (((h.top ++ h.bottom).filterMap id).map strS)) := by
    have ll : ((h.top ++ h.bottom).filterMap id).length ≤ (h.top ++ h.bottom).length := List.length_filterMap_le _ _
    rw [List.length_append] at ll
    rw [lcV_eq strS id (h.top ++ h.bottom) fun x _ => by cases x <;> rfl]
    simp only [rb_ok, lstB_e, List.length_map]
    rw [if_pos (by show _ ≤ 1000000; omega)]
  have ll : ((h.top ++ h.bottom).filterMap id).length ≤ (h.top ++ h.bottom).length := List.length_filterMap_le _ _
  rw [List.length_append] at ll
  have ds : dLenSetS (.nd .tmp .lst (((namesT h).map S).map D.str)) = .ok (.int ((onceL ((namesT h).map S)).length : Nat)) := by
    unfold dLenSetS
    dsimp only
    rw [strs_D]
    simp only [ofO_some, rb_ok]
    rw [if_pos (by unfold namesT; simp only [List.length_map, List.length_append]; omega)]
  have a1 : dAdd (.nd .frz .lst (h.left.map fun w => .str (S w))) (.nd .frz .lst (h.right.map fun w => .str (S w))) = .ok (.lst .own ((h.left.map S ++ h.right.map S).map D.str)) := by
    have := add_txs (t := .frz) (u := .frz) (h.left.map S) (h.right.map S) (by simp only [List.length_map]; omega)
    rw [← strS_map, ← strS_map] at this
    exact this
  have a2 : dAdd (.lst .own ((h.left.map S ++ h.right.map S).map D.str)) (.lst .own ((h.wide.map (·.1)).map strS)) = .ok (.lst .own ((h.left.map S ++ h.right.map S ++ (h.wide.map (·.1)).map S).map D.str)) := by
    rw [strS_map]
    exact add_txs _ _ (by simp only [List.length_map, List.length_append]; omega)
  have a3 : dAdd (.lst .own ((h.left.map S ++ h.right.map S ++ (h.wide.map (·.1)).map S).map D.str)) (.lst .own ((h.bends.map (·.2)).map strS)) = .ok (.lst .own ((h.left.map S ++ h.right.map S ++ (h.wide.map (·.1)).map S ++ (h.bends.map (·.2)).map S).map D.str)) := by
    rw [strS_map]
    exact add_txs _ _ (by simp only [List.length_map, List.length_append]; omega)
  have nt : ∀ l : List Str, noT (.lst .own (l.map D.str)) = true := fun l => noT_ownD l
  have rt : ∀ l : List Str, rd (.lst .own (l.map D.str)) = .nd .tmp .lst (l.map D.str) := fun l => by
    show rd (.nd .own .lst _) = _
    rw [rd_own, rd_txs]
  have a4 : dAdd (.nd .tmp .lst ((h.left.map S ++ h.right.map S ++ (h.wide.map (·.1)).map S ++ (h.bends.map (·.2)).map S).map D.str)) (.lst .own (((h.top ++ h.bottom).filterMap id).map strS)) = .ok (.lst .own (((namesT h).map S).map D.str)) := by
    rw [strS_map]
    have := add_txs (t := .tmp) (u := .own) (h.left.map S ++ h.right.map S ++ (h.wide.map (·.1)).map S ++ (h.bends.map (·.2)).map S) (((h.top ++ h.bottom).filterMap id).map S) (by simp only [List.length_map, List.length_append]; omega)
    unfold namesT
    simp only [List.map_append] at this ⊢
    exact this
  unfold M_look_sizes_x
  simp only [rd_chF, fld_top, fld_bottom, fld_left, fld_right, fld_wide, fld_bends, fld_keeps, rb_ok, dLen_lst, List.length_map]
  rw [e1]
  by_cases c1 : 1 ≤ h.top.length ∧ h.top.length ≤ 40 ∧ h.bottom.length = h.top.length
  · rw [decide_eq_true c1]
    simp only [Bool.not_true, ifR_e, Bool.false_eq_true, if_false]
    rw [e2, e3]
    simp only [rb_ok]
    rw [iw, ib, iwT]
    simp only [rb_ok]
    rw [lw, lb0]
    simp only [rb_ok]
    rw [e4, e5]
    simp only [rb_ok]
    rw [e6]
    simp only [afterV_nx]
    rw [a1]
    simp only [rb_ok]
    rw [a2]
    simp only [rb_ok]
    rw [lb1]
    simp only [rb_ok]
    rw [a3]
    simp only [rb_ok, chk_e]
    rw [if_pos (nt _)]
    simp only [rb_ok]
    rw [tb]
    simp only [rb_ok]
    rw [itb]
    simp only [rb_ok]
    simp only [chk_e] at ltb
    rw [ltb]
    simp only [rb_ok]
    rw [rt, a4]
    simp only [rb_ok]
    rw [chk_e, if_pos (nt _)]
    simp only [rb_ok]
    rw [rt, ds, show (8 : Int) = ((8 : Nat) : Int) from rfl, show (24 : Int) = ((24 : Nat) : Int) from rfl]
    simp only [rb_ok]
    rw [gt_int, gt_int]
    simp only [rb_ok, asB_bl, ifR_e]
    by_cases c2 : h.keeps.length ≤ 8
    · by_cases c3 : (onceL ((namesT h).map S)).length ≤ 24
      · rw [decide_eq_false (show ¬ 8 < h.keeps.length by omega), decide_eq_false (show ¬ 24 < (onceL ((namesT h).map S)).length by omega), if_pos (show Fits h from ⟨c1, c2, c3⟩)]
        rfl
      · rw [decide_eq_false (show ¬ 8 < h.keeps.length by omega), decide_eq_true (show 24 < (onceL ((namesT h).map S)).length by omega), if_neg (fun z : Fits h => c3 z.2.2)]
        rfl
    · rw [decide_eq_true (show 8 < h.keeps.length by omega), if_neg (fun z : Fits h => c2 z.2.1)]
      rfl
  · rw [decide_eq_false c1, if_neg (fun z : Fits h => c1 z.1)]
    rfl
theorem read_eq {h : Ch} (K : RdOk h) (Z : Srt h) : M_read_channel_x (.str (textZ h)) = if Fits h then .ok (chI .own h) else .exc ⟨"BadText", [], []⟩ := by
  rw [read_raw K, sizes_eq K Z]
  split <;> rfl
theorem S_inj {a b : Nm} (h : S a = S b) : a = b := by
  unfold S at h
  injection h with h
  exact Array.toList_inj.mpr h |> fun e => by simpa using e
theorem sortN_sorted (ls : List Nm) : (sortN ls).Pairwise fun a b => decide (a ≤ b) = true := by
  refine List.pairwise_mergeSort (fun a b c h1 h2 => ?_) (fun a b => ?_) ls
  · rw [decide_eq_true_eq] at h1 h2 ⊢
    exact List.le_trans h1 h2
  · rw [Bool.or_eq_true, decide_eq_true_eq, decide_eq_true_eq]
    exact List.le_total _ _
def wordZ (seed k : Int) : Nm :=
  ([97 + (seed % 26).toNat, 97 + (seed / 26 % 26).toNat].take (seed / 676 % 3).toNat) ++ ([97 + ((k + seed / 2048) % 26).toNat] ++ ([97 + (seed % 26).toNat, 97 + (seed / 26 % 26).toNat].drop (seed / 676 % 3).toNat))
theorem wordZ_len (seed k : Int) : (wordZ seed k).length = 3 := by
  unfold wordZ
  simp only [List.length_append, List.length_take, List.length_drop, List.length_cons, List.length_nil]
  omega
theorem wordZ_name (seed k : Int) : NameL (wordZ seed k) := by
  refine ⟨by rw [wordZ_len]; decide, by rw [wordZ_len]; decide, fun c hc => ?_⟩
  have rest : ∀ c ∈ ([97 + (seed % 26).toNat, 97 + (seed / 26 % 26).toNat] : List Nat), isLet c := fun c hc => by
    simp only [List.mem_cons, List.not_mem_nil, or_false] at hc
    unfold isLet
    rcases hc with rfl | rfl <;> omega
  unfold wordZ at hc
  rw [List.mem_append, List.mem_append] at hc
  rcases hc with hc | hc | hc
  · exact rest c (List.mem_of_mem_take hc)
  · simp only [List.mem_cons, List.not_mem_nil, or_false] at hc
    unfold isLet
    omega
  · exact rest c (List.mem_of_mem_drop hc)
theorem wordZ_inj {seed k j : Int} (hk : 0 ≤ k ∧ k < 26) (hj : 0 ≤ j ∧ j < 26) (h : wordZ seed k = wordZ seed j) : k = j := by
  unfold wordZ at h
  have h := List.append_cancel_left h
  have h := List.append_cancel_right h
  simp only [List.cons.injEq, and_true] at h
  omega
theorem abc_code {i : Int} (h0 : 0 ≤ i) (h1 : i < 26) : atI ("abcdefghijklmnopqrstuvwxyz" : Str).cps.toList i = some (97 + i.toNat) := by
  have e : ("abcdefghijklmnopqrstuvwxyz" : Str).cps.toList = List.range' 97 26 := abc_cps
  rw [e]
  obtain ⟨n, rfl⟩ := Int.eq_ofNat_of_zero_le h0
  refine atI_nat ?_
  rw [List.getElem?_range' (by omega)]
  simp
theorem abc_ix {i : Int} (h0 : 0 ≤ i) (h1 : i < 26) : dIx (.str "abcdefghijklmnopqrstuvwxyz") (.int i) = .ok (.str (S [97 + i.toNat])) := by
  have l : ("abcdefghijklmnopqrstuvwxyz" : Str).length ≤ bigL := by
    show (Str.ofString "abcdefghijklmnopqrstuvwxyz").length ≤ 1000000
    rw [abc_len]
    decide
  rw [dIx_str, if_pos l, abc_code h0 h1]
  rfl
theorem word_eq (seed k : Int) : M__law_word (.int k) (.int seed) = .ok (.str (S (wordZ seed k))) := by
  have a1 : 0 ≤ seed % 26 ∧ seed % 26 < 26 := by omega
  have a2 : 0 ≤ seed / 26 % 26 ∧ seed / 26 % 26 < 26 := by omega
  have a3 : 0 ≤ (k + seed / 2048) % 26 ∧ (k + seed / 2048) % 26 < 26 := by omega
  have a4 : 0 ≤ seed / 676 % 3 ∧ seed / 676 % 3 < 3 := by omega
  have m1 : dMod (.int seed) (.int 26) = .ok (.int (seed % 26)) := by simp
  have m2 : dDiv (.int seed) (.int 26) = .ok (.int (seed / 26)) := by simp
  have m3 : dMod (.int (seed / 26)) (.int 26) = .ok (.int (seed / 26 % 26)) := by simp
  have m4 : dDiv (.int seed) (.int 676) = .ok (.int (seed / 676)) := by simp
  have m5 : dMod (.int (seed / 676)) (.int 3) = .ok (.int (seed / 676 % 3)) := by simp
  have m6 : dDiv (.int seed) (.int 2048) = .ok (.int (seed / 2048)) := by simp
  have m7 : dMod (.int (k + seed / 2048)) (.int 26) = .ok (.int ((k + seed / 2048) % 26)) := by simp
  unfold M__law_word
  simp only [rd_int, rd_str]
  rw [m1, m2]
  simp only [rb_ok]
  rw [m3]
  simp only [rb_ok]
  rw [abc_ix a1.1 a1.2, abc_ix a2.1 a2.2]
  simp only [rb_ok, dAdd_str, S_len, List.length_cons, List.length_nil]
  rw [if_pos (by decide)]
  simp only [rb_ok, chk_e, noT_str, if_true]
  rw [m4]
  simp only [rb_ok]
  rw [m5]
  simp only [rb_ok, chk_e, noT_int, if_true, rd_int, oInt_e, rd_str, S_app, dSl_str, S_len, List.length_append, List.length_cons, List.length_nil]
  rw [m6]
  simp only [rb_ok, dAdd_int]
  rw [m7]
  simp only [rb_ok]
  rw [abc_ix a3.1 a3.2]
  have z : 0 + 1 + (0 + 1) ≤ bigL := by decide
  simp only [z, if_true, rb_ok, S_cut]
  rw [cutL_to a4.1, cutL_from a4.1]
  simp only [dAdd_str, S_len, List.length_take, List.length_append, List.length_cons, List.length_nil, List.length_drop]
  rw [if_pos (show _ ≤ bigL by show _ ≤ 1000000; omega)]
  simp only [rb_ok, S_app, dAdd_str, S_len, List.length_take, List.length_append, List.length_cons, List.length_nil, List.length_drop]
  rw [if_pos (show _ ≤ bigL by show _ ≤ 1000000; omega)]
  simp only [rb_ok, S_app, noT_str, if_true, okR_e]
  unfold wordZ
  simp only [List.append_assoc, List.cons_append, List.nil_append]
  rfl
theorem line_eq {t : Tag} (w : Str) (ws : List Str) (hn : ws.length ≤ 90) (hw : w.length ≤ 6) (h : ∀ x ∈ ws, x.length ≤ 6) : M__law_line (.str w) (.nd t .lst (ws.map D.str)) = .ok (.str (textL [w :: ws])) := by
  have hl : (rowT (w :: ws)).length ≤ 1000 := by
    unfold rowT
    rw [txt_join]
    have := join_len " " 6 (w :: ws) (fun x hx => by
      rcases List.mem_cons.mp hx with rfl | hx
      · exact hw
      · exact h x hx)
    rw [sp_len, List.length_cons] at this
    have : (ws.length + 1) * 7 ≤ 91 * 7 := Nat.mul_le_mul_right _ (by omega)
    omega
  have rt : ∀ t : Tag, ∃ u, rd (.nd t .lst (ws.map D.str)) = .nd u .lst (ws.map D.str) := fun t => by
    cases t with
    | own => exact ⟨.tmp, by rw [rd_own, rd_txs]⟩
    | frz => exact ⟨.frz, by rw [rd_frz, rd_txs]⟩
    | tmp => exact ⟨.tmp, by rw [rd_tmp, rd_txs]⟩
  obtain ⟨u, e⟩ := rt t
  unfold M__law_line
  rw [e, rd_str]
  have a : dAdd (D.lst Tag.own [.str w]) (.nd u .lst (ws.map D.str)) = .ok (.lst .own ((w :: ws).map D.str)) := add_txs [w] ws (by simp only [List.length_cons, List.length_nil]; omega)
  rw [a]
  simp only [rb_ok]
  have j := dJoin_strs (t := .own) " " (w :: ws) 6 (fun x hx => by
      rcases List.mem_cons.mp hx with rfl | hx
      · exact hw
      · exact h x hx) (by rw [sp_len, List.length_cons]; omega)
  have j : dJoin " " (.lst .own ((w :: ws).map D.str)) = .ok (.str (rowT (w :: ws))) := j
  rw [j]
  simp only [rb_ok, dAdd_str]
  rw [if_pos (by rw [nl_len]; show _ ≤ 1000000; omega), textL_one]
  rfl
structure Split3 (xs a b c : List Nm) : Prop where
  mem : ∀ w, w ∈ xs ↔ w ∈ a ∨ w ∈ b ∨ w ∈ c
  na : a.Nodup
  nb : b.Nodup
  la : a.length ≤ 26
  lb : b.length ≤ 26
  lc : c.length ≤ 26
theorem Split3.plain {xs : List Nm} (n : xs.Nodup) (h : xs.length ≤ 26) : Split3 xs xs [] [] := ⟨fun w => by simp, n, List.nodup_nil, h, by simp, by simp⟩
def idx3 (a : Int) (n : Nat) : List Nat := sliceRange (sliceBounds (some a) none (some 3) n).1 (sliceBounds (some a) none (some 3) n).2.1 (sliceBounds (some a) none (some 3) n).2.2
theorem idx3_ok : ∀ n ≤ 26, (∀ i < n, i ∈ idx3 0 n ∨ i ∈ idx3 1 n ∨ i ∈ idx3 2 n) ∧ (idx3 0 n).Nodup ∧ (idx3 1 n).Nodup ∧ (idx3 2 n).Nodup ∧ (idx3 0 n).length ≤ 26 ∧ (idx3 1 n).length ≤ 26 ∧ (idx3 2 n).length ≤ 26 := by decide +kernel
theorem pick_idx (xs : List Nm) (a : Int) : pickS xs a 3 = (idx3 a xs.length).filterMap (xs[·]?) := rfl
theorem pick_nodup {xs : List Nm} (n : xs.Nodup) : ∀ l : List Nat, l.Nodup → (l.filterMap (xs[·]?)).Nodup
  | [], _ => List.nodup_nil
  | i :: l, h => by
    obtain ⟨h1, h2⟩ := List.nodup_cons.mp h
    have ih := pick_nodup n l h2
    cases q : xs[i]? with
    | none => rw [List.filterMap_cons_none q]; exact ih
    | some w =>
      rw [List.filterMap_cons_some q]
      refine List.nodup_cons.mpr ⟨fun m => ?_, ih⟩
      obtain ⟨j, hj, ej⟩ := List.mem_filterMap.mp m
      have hi : i < xs.length := (List.getElem?_eq_some_iff.mp q).1
      have := (List.getElem?_inj hi n).mp (q.trans ej.symm)
      exact h1 (this ▸ hj)
theorem Split3.pick {xs : List Nm} (n : xs.Nodup) (h : xs.length ≤ 26) : Split3 xs (pickS xs 0 3) (pickS xs 1 3) (pickS xs 2 3) := by
  obtain ⟨h0, h1, h2, h3, h4, h5, h6⟩ := idx3_ok xs.length h
  refine ⟨fun w => ?_, ?_, ?_, ?_, ?_, ?_⟩
  · rw [pick_idx, pick_idx, pick_idx, List.mem_filterMap, List.mem_filterMap, List.mem_filterMap]
    constructor
    · intro m
      obtain ⟨i, hi, e⟩ := List.mem_iff_getElem.mp m
      have q : xs[i]? = some w := by rw [List.getElem?_eq_getElem hi, e]
      rcases h0 i hi with z | z | z
      · exact .inl ⟨i, z, q⟩
      · exact .inr (.inl ⟨i, z, q⟩)
      · exact .inr (.inr ⟨i, z, q⟩)
    · rintro (⟨i, _, q⟩ | ⟨i, _, q⟩ | ⟨i, _, q⟩) <;> exact List.mem_of_getElem? q
  · exact pick_nodup n _ h1
  · exact pick_nodup n _ h2
  · exact Nat.le_trans (List.length_filterMap_le _ _) h4
  · exact Nat.le_trans (List.length_filterMap_le _ _) h5
  · exact Nat.le_trans (List.length_filterMap_le _ _) h6
def chZ (ns : List Nm) (W B R K : Nat) (L Wd Bn : List Nm) : Ch :=
  { top := (List.range W).map fun k => ns[k]?, bottom := List.replicate B none, left := sortN L, right := sortN (ns.take R), wide := (sortN Wd).map fun w => (w, 2), bends := Bn.zipIdx.map fun p => ((p.2 : Int), p.1), keeps := List.replicate K (0, 0, 1) }
structure In5 (ns : List Nm) (W B R K : Nat) (L Wd Bn : List Nm) : Prop where
  nd : ns.Nodup
  ok : ∀ w ∈ ns, NameL w
  len : ns.length ≤ 26
  hW : W ≤ 45
  hB : B ≤ 45
  hR : R ≤ 5
  hK : K ≤ 12
  sp : Split3 (ns.drop W) L Wd Bn
section
variable {ns : List Nm} {W B R K : Nat} {L Wd Bn : List Nm}
theorem In5.rd (I : In5 ns W B R K L Wd Bn) : RdOk (chZ ns W B R K L Wd Bn) := by
  have nm : ∀ w, (w ∈ L ∨ w ∈ Wd ∨ w ∈ Bn) → NameL w := fun w hw => I.ok w (List.mem_of_mem_drop ((I.sp.mem w).mpr hw))
  refine ⟨?_, ?_, ?_, ?_, ?_, ?_, ?_, ?_, ?_, ?_, ?_, ?_, ?_, ?_⟩
  · show ((List.range W).map _).length ≤ 90
    rw [List.length_map, List.length_range]
    have := I.hW
    omega
  · show (List.replicate B none).length ≤ 90
    rw [List.length_replicate]
    have := I.hB
    omega
  · show (sortN L).length ≤ 90
    rw [len_sortN]
    have := I.sp.la
    omega
  · show (sortN (ns.take R)).length ≤ 90
    rw [len_sortN, List.length_take]
    have := I.hR
    omega
  · show ((sortN Wd).map _).length ≤ 90
    rw [List.length_map, len_sortN]
    have := I.sp.lb
    omega
  · show (Bn.zipIdx.map _).length ≤ 90
    rw [List.length_map, List.length_zipIdx]
    have := I.sp.lc
    omega
  · show (List.replicate K _).length ≤ 90
    rw [List.length_replicate]
    have := I.hK
    omega
  · intro x hx w e
    obtain ⟨k, _, rfl⟩ := List.mem_map.mp hx
    exact I.ok w (List.mem_of_getElem? e)
  · intro x hx w e
    have := List.eq_of_mem_replicate hx
    rw [this] at e
    cases e
  · exact fun w hw => nm w (.inl (mem_sortN.mp hw))
  · exact fun w hw => I.ok w (List.mem_of_mem_take (mem_sortN.mp hw))
  · intro p hp
    obtain ⟨w, hw, rfl⟩ := List.mem_map.mp hp
    exact ⟨nm w (.inr (.inl (mem_sortN.mp hw))), ⟨by show (0 : Int) ≤ 2; decide, by show (2 : Int) < 100; decide⟩⟩
  · intro p hp
    obtain ⟨q, hq, rfl⟩ := List.mem_map.mp hp
    obtain ⟨w, i⟩ := q
    have hm := List.mem_zipIdx_iff_getElem?.mp hq
    have hi : i < Bn.length := (List.getElem?_eq_some_iff.mp hm).1
    have := I.sp.lc
    refine ⟨?_, nm w (.inr (.inr (List.mem_of_getElem? hm)))⟩
    show 0 ≤ (i : Int) ∧ (i : Int) < 100
    omega
  · intro p hp
    rw [List.eq_of_mem_replicate hp]
    unfold Sm99
    decide
theorem rises_sort {ls : List Nm} (n : ls.Nodup) : Rises (· < ·) (sortN ls) := by
  intro i a b ha hb
  obtain ⟨h1, e1⟩ := List.getElem?_eq_some_iff.mp ha
  obtain ⟨h2, e2⟩ := List.getElem?_eq_some_iff.mp hb
  have s := (List.pairwise_iff_getElem.mp (sortN_sorted ls)) i (i + 1) h1 h2 (by omega)
  have nd : (sortN ls).Nodup := (List.mergeSort_perm ls _).nodup_iff.mpr n
  have ne := (List.pairwise_iff_getElem.mp nd) i (i + 1) h1 h2 (by omega)
  rw [e1, e2] at s ne
  by_cases q : a < b
  · exact q
  · exact absurd (List.le_antisymm (of_decide_eq_true s) (List.not_lt.mp q)) ne
theorem In5.srt (I : In5 ns W B R K L Wd Bn) : Srt (chZ ns W B R K L Wd Bn) := by
  refine ⟨rises_sort I.sp.na, rises_sort (I.nd.sublist (List.take_sublist R ns)), ?_, ?_, ?_⟩
  · show Rises (· < ·) (((sortN Wd).map fun w => ((w, (2 : Int)) : Nm × Int)).map (·.1))
    rw [List.map_map]
    have : (((fun x : Nm × Int => x.1) ∘ fun w : Nm => ((w, (2 : Int)) : Nm × Int))) = id := rfl
    rw [this, List.map_id]
    exact rises_sort I.sp.nb
  · show Rises (· < ·) ((Bn.zipIdx.map fun p => (((p.2 : Int), p.1) : Int × Nm)).map (·.1))
    intro i a b ha hb
    rw [List.map_map, List.getElem?_map, List.getElem?_zipIdx] at ha hb
    cases q : Bn[i]? with
    | none => rw [q] at ha; cases ha
    | some u =>
      cases q2 : Bn[i + 1]? with
      | none => rw [q2] at hb; cases hb
      | some v =>
        rw [q] at ha
        rw [q2] at hb
        cases ha
        cases hb
        show ((0 + i : Nat) : Int) < ((0 + (i + 1) : Nat) : Int)
        omega
  · intro p hp
    obtain ⟨w, _, rfl⟩ := List.mem_map.mp hp
    exact .inl rfl
theorem In5.names (I : In5 ns W B R K L Wd Bn) (w : Nm) : w ∈ namesT (chZ ns W B R K L Wd Bn) ↔ w ∈ ns := by
  unfold namesT
  rw [List.mem_append, List.mem_append, List.mem_append, List.mem_append]
  have m1 : w ∈ (chZ ns W B R K L Wd Bn).left ↔ w ∈ L := mem_sortN
  have m2 : w ∈ (chZ ns W B R K L Wd Bn).right ↔ w ∈ ns.take R := mem_sortN
  have m3 : w ∈ (chZ ns W B R K L Wd Bn).wide.map (·.1) ↔ w ∈ Wd := by
    show w ∈ ((sortN Wd).map fun w => ((w, (2 : Int)) : Nm × Int)).map (·.1) ↔ _
    rw [List.map_map]
    have : (((fun x : Nm × Int => x.1) ∘ fun w : Nm => ((w, (2 : Int)) : Nm × Int))) = id := rfl
    rw [this, List.map_id]
    exact mem_sortN
  have m4 : w ∈ (chZ ns W B R K L Wd Bn).bends.map (·.2) ↔ w ∈ Bn := by
    show w ∈ (Bn.zipIdx.map fun p => (((p.2 : Int), p.1) : Int × Nm)).map (·.2) ↔ _
    rw [List.map_map]
    constructor
    · intro m
      obtain ⟨q, hq, rfl⟩ := List.mem_map.mp m
      obtain ⟨u, i⟩ := q
      exact List.mem_of_getElem? (List.mem_zipIdx_iff_getElem?.mp hq)
    · intro m
      obtain ⟨i, hi, e⟩ := List.mem_iff_getElem.mp m
      refine List.mem_map.mpr ⟨(w, i), List.mem_zipIdx_iff_getElem?.mpr ?_, rfl⟩
      show Bn[i]? = some w
      rw [List.getElem?_eq_getElem hi, e]
  have m5 : w ∈ ((chZ ns W B R K L Wd Bn).top ++ (chZ ns W B R K L Wd Bn).bottom).filterMap id ↔ ∃ k < W, ns[k]? = some w := by
    rw [List.mem_filterMap]
    constructor
    · rintro ⟨x, hx, e⟩
      rcases List.mem_append.mp hx with hx | hx
      · obtain ⟨k, hk, rfl⟩ := List.mem_map.mp hx
        exact ⟨k, List.mem_range.mp hk, e⟩
      · have := List.eq_of_mem_replicate hx
        rw [this] at e
        cases e
    · rintro ⟨k, hk, e⟩
      exact ⟨some w, List.mem_append_left _ (List.mem_map.mpr ⟨k, List.mem_range.mpr hk, e⟩), rfl⟩
  rw [m1, m2, m3, m4, m5]
  have sp := I.sp.mem w
  constructor
  · rintro ((((h | h) | h) | h) | ⟨k, _, e⟩)
    · exact List.mem_of_mem_drop (sp.mpr (.inl h))
    · exact List.mem_of_mem_take h
    · exact List.mem_of_mem_drop (sp.mpr (.inr (.inl h)))
    · exact List.mem_of_mem_drop (sp.mpr (.inr (.inr h)))
    · exact List.mem_of_getElem? e
  · intro m
    obtain ⟨i, hi, e⟩ := List.mem_iff_getElem.mp m
    by_cases q : i < W
    · exact .inr ⟨i, q, by rw [List.getElem?_eq_getElem hi, e]⟩
    · have : w ∈ ns.drop W := List.mem_iff_getElem?.mpr ⟨i - W, by rw [List.getElem?_drop, show W + (i - W) = i by omega, List.getElem?_eq_getElem hi, e]⟩
      rcases sp.mp this with z | z | z
      · exact .inl (.inl (.inl (.inl z)))
      · exact .inl (.inl (.inr z))
      · exact .inl (.inr z)
theorem In5.many (I : In5 ns W B R K L Wd Bn) : (onceL ((namesT (chZ ns W B R K L Wd Bn)).map S)).length = ns.length := by
  have p := perm_once (xs := (namesT (chZ ns W B R K L Wd Bn)).map S) (ys := ns.map S) (nodup_map (fun a b h => PV.S_inj.mp h) I.nd) fun y => by
    rw [List.mem_map, List.mem_map]
    constructor
    · rintro ⟨w, hw, rfl⟩
      exact ⟨w, (I.names w).mpr hw, rfl⟩
    · rintro ⟨w, hw, rfl⟩
      exact ⟨w, (I.names w).mp hw, rfl⟩
  rw [← p.length_eq, List.length_map]
theorem In5.fits (I : In5 ns W B R K L Wd Bn) : Fits (chZ ns W B R K L Wd Bn) ↔ (1 ≤ W ∧ W ≤ 40 ∧ B = W) ∧ K ≤ 8 ∧ ns.length ≤ 24 := by
  unfold Fits
  rw [I.many]
  show (1 ≤ ((List.range W).map _).length ∧ ((List.range W).map _).length ≤ 40 ∧ (List.replicate B none).length = ((List.range W).map _).length) ∧ (List.replicate K _).length ≤ 8 ∧ _ ↔ _
  rw [List.length_map, List.length_range, List.length_replicate, List.length_replicate]
end
theorem call_line {t : Tag} (ht : t ≠ .tmp) (w : Str) (ws : List Str) (hn : ws.length ≤ 90) (hw : w.length ≤ 6) (h : ∀ x ∈ ws, x.length ≤ 6) : callD (lenIs 2 Ψ__law_line) [.str w, .nd t .lst (ws.map D.str)] = .ok (.str (textL [w :: ws])) := by
  have z : noTL [D.str w, .nd t .lst (ws.map D.str)] = true := by
    rw [noTL_cons, noTL_cons]
    have : noT (.nd t .lst (ws.map D.str)) = true := by
      cases t with
      | tmp => exact absurd rfl ht
      | own => exact noT_ownD ws
      | frz => exact noT_frD ws
    rw [this]
    rfl
  have y : fzL [D.str w, .nd t .lst (ws.map D.str)] = [.str w, .nd .frz .lst (ws.map D.str)] := by
    rw [fzL_cons, fzL_cons]
    have : fz (.nd t .lst (ws.map D.str)) = .nd .frz .lst (ws.map D.str) := by
      cases t with
      | tmp => exact absurd rfl ht
      | own => exact fz_ownD ws
      | frz => exact fz_frD ws
    rw [this]
    rfl
  rw [callD_e, if_pos z, y]
  show M__law_line (.str w) (.nd .frz .lst (ws.map D.str)) = _
  exact line_eq w ws hn hw h
theorem add_text {a b : List (List Str)} (h : ∀ l ∈ a ++ b, RwOk l) (hn : (a ++ b).length ≤ 900) : dAdd (.str (textL a)) (.str (textL b)) = .ok (.str (textL (a ++ b))) := by
  have l := textL_len (a ++ b) h
  have e : textL (a ++ b) = textL a ++ textL b := textL_app a b
  rw [e, Str.length_append] at l
  rw [dAdd_str, if_pos (show _ ≤ bigL by show _ ≤ 1000000; omega), e]
theorem rowT_cps (l : List Str) : (rowT l).cps.toList = jnC 32 (l.map fun x => x.cps.toList) := by
  unfold rowT
  rw [txt_join]
  exact jn_cps 32 l
theorem wide_row (w : Nm) : (("wide " : Str) ++ S w) ++ (" 2\n" : Str) = rowT [("wide" : Str), S w, numT 2] ++ ("\n" : Str) := by
  apply cps_inj
  rw [cps_app, cps_app, cps_app, rowT_cps]
  have e1 : ("wide " : Str).cps.toList = ("wide" : Str).cps.toList ++ [32] := by decide +kernel
  have e2 : (" 2\n" : Str).cps.toList = [32] ++ (numT 2).cps.toList ++ ("\n" : Str).cps.toList := by decide +kernel
  rw [e1, e2]
  simp [jnC]
theorem bend_row (k : Nat) (w : Nm) : (((("bend " : Str) ++ numT (k : Int)) ++ (" " : Str)) ++ S w) ++ ("\n" : Str) = rowT [("bend" : Str), numT (k : Int), S w] ++ ("\n" : Str) := by
  apply cps_inj
  rw [cps_app, cps_app, cps_app, cps_app, cps_app, rowT_cps]
  have e1 : ("bend " : Str).cps.toList = ("bend" : Str).cps.toList ++ [32] := by decide +kernel
  have e2 : (" " : Str).cps.toList = [32] := by decide +kernel
  rw [e1, e2]
  simp [jnC]
theorem keep_rows (K : Nat) : Txt.mul ("keep 0 0 1\n" : Str) (K : Int) = textL (List.replicate K [("keep" : Str), numT 0, numT 0, numT 1]) := by
  apply cps_inj
  rw [mul_cps, textL_cps, List.map_replicate]
  have : ("keep 0 0 1\n" : Str).cps.toList = (rowT [("keep" : Str), numT 0, numT 0, numT 1]).cps.toList ++ [10] := by decide +kernel
  rw [this]
theorem keep_mul {K : Nat} (h : K ≤ 12) : dMulT (.str "keep 0 0 1\n") (.int (K : Int)) = .ok (.str (textL (List.replicate K [("keep" : Str), numT 0, numT 0, numT 1]))) := by
  rw [dMulT_str (by decide +kernel) (by decide +kernel) (by omega), keep_rows]
theorem wide_join {t : Tag} (ws : List Nm) (hn : ws.length ≤ 26) (hw : ∀ w ∈ ws, NameL w) :
    ((((itemsOf false (.nd t .lst (ws.map fun w => .str (S w))))).bind fun t85 => ((lcV (fun t81 => (((((dAdd (D.str "wide ") (rd t81))).bind fun t83 => (dAdd t83 (D.str " 2\n")))).bind fun y => (chk y).bind fun y => Res.ok (some y))) t85).bind lstB))).bind (dJoin "") = .ok (.str (textL (ws.map fun w => [("wide" : Str), S w, numT 2]))) := by
  have r : rdL (ws.map fun w => D.str (S w)) = ws.map fun w => D.str (S w) := by rw [rdL_map]; rfl
  have l1 : ("wide " : Str).length = 5 := by decide +kernel
  have l2 : (" 2\n" : Str).length = 3 := by decide +kernel
  rw [itemsOf_lstF, r]
  simp only [rb_ok]
  rw [lcV_map D.str (fun w : Nm => (("wide " : Str) ++ S w) ++ (" 2\n" : Str)) ws fun w hm => by
    have := (hw w hm).2.1
    rw [rd_str, dAdd_str, if_pos (show _ ≤ bigL by show _ ≤ 1000000; rw [l1, S_len]; omega), rb_ok, dAdd_str, if_pos (show _ ≤ bigL by show _ ≤ 1000000; rw [Str.length_append, l1, S_len, l2]; omega)]
    rfl]
  simp only [rb_ok, lstB_e, List.length_map]
  rw [if_pos (show _ ≤ bigL by show _ ≤ 1000000; omega)]
  simp only [rb_ok]
  have j := dJoin_strs (t := .own) "" (ws.map fun w : Nm => (("wide " : Str) ++ S w) ++ (" 2\n" : Str)) 20 (fun x hx => by
    obtain ⟨w, hm, rfl⟩ := List.mem_map.mp hx
    have := (hw w hm).2.1
    rw [Str.length_append, Str.length_append, l1, S_len, l2]
    omega) (by
      have z : ("" : Str).length = 0 := rfl
      rw [z, List.length_map]
      omega)
  have e : (ws.map fun w : Nm => (("wide " : Str) ++ S w) ++ (" 2\n" : Str)) = (ws.map fun w => [("wide" : Str), S w, numT 2]).map fun l => rowT l ++ ("\n" : Str) := by
    rw [List.map_map]
    exact List.map_congr_left fun w _ => wide_row w
  rw [e] at j
  rw [e]
  exact j
theorem bend_join (ws : List Nm) (hn : ws.length ≤ 26) (hw : ∀ w ∈ ws, NameL w) :
    ((((enum1 false) [.nd .frz .lst (ws.map strS)])).bind fun t95 => ((lcV (fun t88 => ((ub2 t88).bind fun t89 => (((((((((((dStrI (rd t89.1))).bind fun t90 => (dAdd (D.str "bend ") t90))).bind fun t91 => (dAdd t91 (D.str " ")))).bind fun t92 => (dAdd t92 (rd t89.2)))).bind fun t93 => (dAdd t93 (D.str "\n")))).bind fun y => (chk y).bind fun y => Res.ok (some y)))) t95).bind lstB)).bind (dJoin "") =
      .ok (.str (textL (ws.zipIdx.map fun p => [("bend" : Str), numT (p.2 : Int), S p.1]))) := by
  have r : rdL (ws.map strS) = ws.map strS := by rw [rdL_map]; rfl
  have en : enum1 false [.nd .frz .lst (ws.map strS)] = .ok (ws.zipIdx.map fun p : Nm × Nat => D.tup [.int (p.2 : Int), strS p.1]) := by
    unfold enum1
    dsimp only
    rw [itemsOf_lstF, r, rb_ok]
    have := PV.enumD_map (ei := strS) ws 0
    exact congrArg Res.ok this
  have l1 : ("bend " : Str).length = 5 := by decide +kernel
  have l2 : (" " : Str).length = 1 := by decide +kernel
  have l3 : ("\n" : Str).length = 1 := by decide +kernel
  have hz : ∀ p ∈ ws.zipIdx, NameL p.1 ∧ p.2 < 26 := fun p hp => by
    obtain ⟨w, i⟩ := p
    have hm := List.mem_zipIdx_iff_getElem?.mp hp
    have hi : i < ws.length := (List.getElem?_eq_some_iff.mp hm).1
    exact ⟨hw w (List.mem_of_getElem? hm), by show i < 26; omega⟩
  rw [en]
  simp only [rb_ok]
  rw [lcV_map D.str (fun p : Nm × Nat => (((("bend " : Str) ++ numT (p.2 : Int)) ++ (" " : Str)) ++ S p.1) ++ ("\n" : Str)) ws.zipIdx fun p hp => by
    obtain ⟨h1, h2⟩ := hz p hp
    have h3 := h1.2.1
    obtain ⟨n1, n2⟩ := numT_ok (i := (p.2 : Int)) ⟨by omega, by omega⟩
    have ds : dStrI (.int (p.2 : Int)) = .ok (.str (numT (p.2 : Int))) := by
      show (if ((p.2 : Int)).natAbs.log2 < 1920 then _ else _) = _
      rw [if_pos n2]
      rfl
    rw [ub2_e, rb_ok]
    dsimp only
    rw [rd_int, ds, rb_ok, dAdd_str, if_pos (show _ ≤ bigL by show _ ≤ 1000000; rw [l1]; omega), rb_ok, dAdd_str, if_pos (show _ ≤ bigL by show _ ≤ 1000000; rw [Str.length_append, l1, l2]; omega), rb_ok]
    show ((dAdd _ (.str (S p.1))).bind _).bind _ = _
    rw [dAdd_str, if_pos (show _ ≤ bigL by show _ ≤ 1000000; rw [Str.length_append, Str.length_append, l1, l2, S_len]; omega), rb_ok, dAdd_str, if_pos (show _ ≤ bigL by show _ ≤ 1000000; rw [Str.length_append, Str.length_append, Str.length_append, l1, l2, l3, S_len]; omega)]
    rfl]
  simp only [rb_ok, lstB_e, List.length_map, List.length_zipIdx]
  rw [if_pos (show _ ≤ bigL by show _ ≤ 1000000; omega)]
  simp only [rb_ok]
  have j := dJoin_strs (t := .own) "" (ws.zipIdx.map fun p : Nm × Nat => (((("bend " : Str) ++ numT (p.2 : Int)) ++ (" " : Str)) ++ S p.1) ++ ("\n" : Str)) 20 (fun x hx => by
    obtain ⟨p, hp, rfl⟩ := List.mem_map.mp hx
    obtain ⟨h1, h2⟩ := hz p hp
    have h3 := h1.2.1
    obtain ⟨n1, n2⟩ := numT_ok (i := (p.2 : Int)) ⟨by omega, by omega⟩
    rw [Str.length_append, Str.length_append, Str.length_append, Str.length_append, l1, l2, l3, S_len]
    omega) (by
      have z : ("" : Str).length = 0 := rfl
      rw [z, List.length_map, List.length_zipIdx]
      omega)
  have e : (ws.zipIdx.map fun p : Nm × Nat => (((("bend " : Str) ++ numT (p.2 : Int)) ++ (" " : Str)) ++ S p.1) ++ ("\n" : Str)) = (ws.zipIdx.map fun p => [("bend" : Str), numT (p.2 : Int), S p.1]).map fun l => rowT l ++ ("\n" : Str) := by
    rw [List.map_map]
    exact List.map_congr_left fun p _ => bend_row p.2 p.1
  rw [e] at j
  rw [e]
  exact j
theorem le_int (a b : Nat) : dLe (.int (a : Int)) (.int (b : Int)) = .ok (.bl (decide (a ≤ b))) := by
  show Res.ok (D.bl (decide ((a : Int) ≤ (b : Int)))) = _
  congr 2
  rw [decide_eq_decide]
  omega
theorem rd_strs2 (ws : List Nm) : rd (.lst .own (ws.map strS)) = .nd .tmp .lst (ws.map fun w => .str (S w)) := by
  show rd (.nd .own .lst _) = _
  rw [rd_own, rdL_map]
  rfl
theorem J_k05 {ns : List Nm} {W B R K : Nat} {L Wd Bn : List Nm} (I : In5 ns W B R K L Wd Bn) (one below : Int) (hr : one / 2048 % 4 = (R : Int)) (hb : B = (max 0 below).toNat) :
    J_law_k05_1 (.int one) (.int (W : Int)) (.int below) (.int (ns.length : Int)) (.int (K : Int)) (.lst .own (ns.map strS)) (.lst .own (((chZ ns W B R K L Wd Bn).top.map pinT).map D.str)) (.lst .own (L.map strS)) (.lst .own (Wd.map strS)) (.lst .own (Bn.map strS)) = .ok (.bl true) := by
  have RK := I.rd
  have RS := I.srt
  have FT := I.fits
  have i1 := I.hW; have i2 := I.hB; have i3 := I.hR; have i4 := I.hK; have i5 := I.len; have i6 := I.sp.la; have i7 := I.sp.lb; have i8 := I.sp.lc
  have nm : ∀ w, (w ∈ L ∨ w ∈ Wd ∨ w ∈ Bn) → NameL w := fun w hw => I.ok w (List.mem_of_mem_drop ((I.sp.mem w).mpr hw))
  have h6 : ∀ ws : List Nm, (∀ w ∈ ws, NameL w) → ∀ x ∈ ws.map S, x.length ≤ 6 := fun ws hw x hx => by
    obtain ⟨w, hm, rfl⟩ := List.mem_map.mp hx
    rw [S_len]
    exact (hw w hm).2.1
  have ro := rows_ok RK
  have re := read_eq RK RS
  have lsplit : linesZ (chZ ns W B R K L Wd Bn) = [("top" : Str) :: (chZ ns W B R K L Wd Bn).top.map pinT, ("bottom" : Str) :: (chZ ns W B R K L Wd Bn).bottom.map pinT, ("left" : Str) :: (sortN L).map S, ("right" : Str) :: (sortN (ns.take R)).map S] ++ ((sortN Wd).map fun w => [("wide" : Str), S w, numT 2]) ++ (Bn.zipIdx.map fun p => [("bend" : Str), numT (p.2 : Int), S p.1]) ++ List.replicate K [("keep" : Str), numT 0, numT 0, numT 1] := by
    unfold linesZ
    show _ ++ ((sortN Wd).map fun w => ((w, (2 : Int)) : Nm × Int)).map _ ++ (Bn.zipIdx.map fun p => (((p.2 : Int), p.1) : Int × Nm)).map _ ++ (List.replicate K ((0, 0, 1) : Int × Int × Int)).map _ = _
    rw [List.map_map, List.map_map, List.map_replicate]
    rfl
  have ll := lines_len (h := chZ ns W B R K L Wd Bn)
  have l1 : (chZ ns W B R K L Wd Bn).wide.length = Wd.length := by
    show ((sortN Wd).map _).length = _
    rw [List.length_map, len_sortN]
  have l2 : (chZ ns W B R K L Wd Bn).bends.length = Bn.length := by
    show (Bn.zipIdx.map _).length = _
    rw [List.length_map, List.length_zipIdx]
  have l3 : (chZ ns W B R K L Wd Bn).keeps.length = K := by
    show (List.replicate K _).length = _
    rw [List.length_replicate]
  have l4 : (chZ ns W B R K L Wd Bn).top.length = W := by
    show ((List.range W).map _).length = _
    rw [List.length_map, List.length_range]
  have l5 : (chZ ns W B R K L Wd Bn).bottom.length = B := by
    show (List.replicate B _).length = _
    rw [List.length_replicate]
  rw [lsplit] at ro
  have tz : textZ (chZ ns W B R K L Wd Bn) = textL (linesZ (chZ ns W B R K L Wd Bn)) := rfl
  rw [tz, lsplit] at re
  have tb : (chZ ns W B R K L Wd Bn).bottom.map pinT = List.replicate B ("." : Str) := by
    show (List.replicate B none).map pinT = _
    rw [List.map_replicate]
    rfl
  have pt : ∀ x ∈ (chZ ns W B R K L Wd Bn).top.map pinT, x.length ≤ 6 := fun x hx => by
    obtain ⟨y, hy, rfl⟩ := List.mem_map.mp hx
    exact pinT_len (RK.top y hy)
  have pb : ∀ x ∈ (chZ ns W B R K L Wd Bn).bottom.map pinT, x.length ≤ 6 := fun x hx => by
    obtain ⟨y, hy, rfl⟩ := List.mem_map.mp hx
    exact pinT_len (RK.bottom y hy)
  generalize hT : ("top" : Str) :: (chZ ns W B R K L Wd Bn).top.map pinT = T at *
  generalize hBt : ("bottom" : Str) :: (chZ ns W B R K L Wd Bn).bottom.map pinT = Bt at *
  generalize hLf : ("left" : Str) :: (sortN L).map S = Lf at *
  generalize hRt : ("right" : Str) :: (sortN (ns.take R)).map S = Rt at *
  generalize hWs : ((sortN Wd).map fun w => [("wide" : Str), S w, numT 2]) = Ws at *
  generalize hBs : (Bn.zipIdx.map fun p => [("bend" : Str), numT (p.2 : Int), S p.1]) = Bs at *
  generalize hKs : List.replicate K [("keep" : Str), numT 0, numT 0, numT 1] = Ks at *
  have n1 : Ws.length = Wd.length := by rw [← hWs, List.length_map, len_sortN]
  have n2 : Bs.length = Bn.length := by rw [← hBs, List.length_map, List.length_zipIdx]
  have n3 : Ks.length = K := by rw [← hKs, List.length_replicate]
  have at1 : dAdd (.str (textL [T])) (.str (textL [Bt])) = .ok (.str (textL [T, Bt])) := add_text (fun l hl => ro l (by simp at hl ⊢; rcases hl with h | h <;> simp [h])) (by simp)
  have at2 : dAdd (.str (textL [T, Bt])) (.str (textL [Lf])) = .ok (.str (textL [T, Bt, Lf])) := add_text (fun l hl => ro l (by simp at hl ⊢; rcases hl with h | h | h <;> simp [h])) (by simp)
  have at3 : dAdd (.str (textL [T, Bt, Lf])) (.str (textL [Rt])) = .ok (.str (textL [T, Bt, Lf, Rt])) := add_text (fun l hl => ro l (by simp at hl ⊢; rcases hl with h | h | h | h <;> simp [h])) (by simp)
  have at4 : dAdd (.str (textL [T, Bt, Lf, Rt])) (.str (textL Ws)) = .ok (.str (textL ([T, Bt, Lf, Rt] ++ Ws))) := add_text (fun l hl => ro l (List.mem_append_left _ (List.mem_append_left _ hl))) (by simp; omega)
  have at5 : dAdd (.str (textL ([T, Bt, Lf, Rt] ++ Ws))) (.str (textL Bs)) = .ok (.str (textL ([T, Bt, Lf, Rt] ++ Ws ++ Bs))) := add_text (fun l hl => ro l (List.mem_append_left _ hl)) (by simp; omega)
  have at6 : dAdd (.str (textL ([T, Bt, Lf, Rt] ++ Ws ++ Bs))) (.str (textL Ks)) = .ok (.str (textL ([T, Bt, Lf, Rt] ++ Ws ++ Bs ++ Ks))) := add_text (fun l hl => ro l hl) (by simp; omega)
  generalize hX : textL ([T, Bt, Lf, Rt] ++ Ws ++ Bs ++ Ks) = X at *
  have w1 : ("top" : Str).length ≤ 6 := by decide +kernel
  have w2 : ("bottom" : Str).length ≤ 6 := by decide +kernel
  have w3 : ("left" : Str).length ≤ 6 := by decide +kernel
  have w4 : ("right" : Str).length ≤ 6 := by decide +kernel
  have c1 : callD (lenIs 2 Ψ__law_line) [(D.str "top"), (rd (fz (.lst .own (((chZ ns W B R K L Wd Bn).top.map pinT).map D.str))))] = .ok (.str (textL [T])) := by
    have e : rd (fz (.lst .own (((chZ ns W B R K L Wd Bn).top.map pinT).map D.str))) = .nd .frz .lst (((chZ ns W B R K L Wd Bn).top.map pinT).map D.str) := by
      have := fz_ownD ((chZ ns W B R K L Wd Bn).top.map pinT)
      unfold ownD at this
      rw [this, rd_frD]
      rfl
    rw [e, ← hT]
    exact call_line (by decide) "top" _ (by rw [List.length_map, l4]; omega) w1 pt
  have c2 : callD (lenIs 2 Ψ__law_line) ([D.str "bottom", .lst .own (((chZ ns W B R K L Wd Bn).bottom.map pinT).map D.str)] ++ []) = .ok (.str (textL [Bt])) := by
    rw [← hBt]
    exact call_line (t := .own) (by decide) "bottom" _ (by rw [List.length_map, l5]; omega) w2 pb
  have nr : ∀ w ∈ ns.take R, NameL w := fun w hw => I.ok w (List.mem_of_mem_take hw)
  have c3 : callD (lenIs 2 Ψ__law_line) ([D.str "left", .lst .own ((sortN L).map fun w => .str (S w))] ++ []) = .ok (.str (textL [Lf])) := by
    rw [← hLf]
    have := call_line (t := .own) (by decide) "left" ((sortN L).map S) (by rw [List.length_map, len_sortN]; omega) w3 (h6 _ fun w hw => nm w (.inl (mem_sortN.mp hw)))
    rw [List.map_map] at this
    exact this
  have c4 : callD (lenIs 2 Ψ__law_line) ([D.str "right", .lst .own ((sortN (ns.take R)).map fun w => .str (S w))] ++ []) = .ok (.str (textL [Rt])) := by
    rw [← hRt]
    have := call_line (t := .own) (by decide) "right" ((sortN (ns.take R)).map S) (by rw [List.length_map, len_sortN, List.length_take]; omega) w4 (h6 _ fun w hw => nr w (mem_sortN.mp hw))
    rw [List.map_map] at this
    exact this
  have s1 := sort_nms (t := .tmp) L fun w hw => nm w (.inl hw)
  have s2 := sort_nms (t := .tmp) (ns.take R) nr
  have s3 := sort_nms (t := .tmp) Wd fun w hw => nm w (.inr (.inl hw))
  have j1 := wide_join (t := .own) (sortN Wd) (by rw [len_sortN]; omega) fun w hw => nm w (.inr (.inl (mem_sortN.mp hw)))
  rw [hWs] at j1
  have j2 := bend_join Bn i8 fun w hw => nm w (.inr (.inr hw))
  rw [hBs] at j2
  have j3 := keep_mul i4
  rw [hKs] at j3
  unfold J_law_k05_1
  refine bstep (x := .lst .own ((ns.take R).map strS)) ?_ ?_
  · have d1 : dDiv (.int one) (.int 2048) = .ok (.int (one / 2048)) := by simp
    have d2 : dMod (.int (one / 2048)) (.int 4) = .ok (.int (one / 2048 % 4)) := by simp
    simp only [rd_int]
    rw [d1]
    simp only [rb_ok]
    rw [d2]
    simp only [rb_ok, oInt_e]
    rw [rd_strs2, dSl_lst, hr, cutL_to (by omega), Int.toNat_natCast]
    have e : rdL ((ns.map fun w => D.str (S w)).take R) = (ns.take R).map strS := by
      rw [← List.map_take, rdL_map]
      rfl
    rw [e]
    show chk _ = _
    rw [chk_e, if_pos (noTs_of (fun _ => rfl) _)]
  refine bstep (x := .str (textL [T, Bt])) ?_ ?_
  · rw [c1]
    simp only [rb_ok, rd_int, dMax_2]
    have dm : dMul (D.lst Tag.own [(D.str ".")]) (.int (max 0 below)) = .ok (.lst .own (((chZ ns W B R K L Wd Bn).bottom.map pinT).map D.str)) := by
      show (if 0 ≤ max 0 below ∧ max 0 below ≤ 1000000 ∧ [D.str "."].length * (max 0 below).toNat ≤ bigL then Res.ok (D.lst .own (List.replicate (max 0 below).toNat (rdL [D.str "."])).flatten) else .stuck) = _
      rw [if_pos ⟨by omega, by omega, by rw [← hb]; show 1 * B ≤ 1000000; omega⟩, ← hb, tb, List.map_replicate]
      have : rdL [D.str "."] = [D.str "."] := rfl
      rw [this, List.flatten_replicate_singleton]
    rw [dm]
    simp only [rb_ok]
    rw [c2]
    simp only [rb_ok]
    rw [at1]
    rfl
  refine bstep (x := .str (textL [T, Bt, Lf, Rt])) ?_ ?_
  · rw [rd_strs2, rd_strs2, s1, s2]
    simp only [rb_ok]
    rw [c3, c4]
    simp only [rb_ok, rd_str]
    rw [at2]
    simp only [rb_ok]
    rw [at3]
    rfl
  refine bstep (x := .str (textL ([T, Bt, Lf, Rt] ++ Ws))) ?_ ?_
  · rw [rd_strs2, s3]
    simp only [rb_ok]
    rw [j1]
    simp only [rb_ok, rd_str]
    rw [at4]
    rfl
  refine bstep (x := .str (textL ([T, Bt, Lf, Rt] ++ Ws ++ Bs))) ?_ ?_
  · have e : rd (fz (.lst .own (Bn.map strS))) = .nd .frz .lst (Bn.map strS) := fzs_of (fun _ => rfl) (fun _ => rfl) Bn
    rw [e, j2]
    simp only [rb_ok, rd_str]
    rw [at5]
    rfl
  refine bstep (x := .str X) ?_ ?_
  · simp only [rd_int, rd_str]
    rw [j3]
    simp only [rb_ok]
    rw [at6]
    rfl
  refine bstep (x := .bl (decide ((1 ≤ W ∧ W ≤ 40 ∧ below = (W : Int)) ∧ ns.length ≤ 24 ∧ K ≤ 8))) ?_ ?_
  · simp only [rd_int]
    rw [show (D.int 1) = D.int ((1 : Nat) : Int) from rfl, show (D.int 40) = D.int ((40 : Nat) : Int) from rfl, show (D.int 24) = D.int ((24 : Nat) : Int) from rfl, show (D.int 8) = D.int ((8 : Nat) : Int) from rfl]
    rw [le_int, le_int, le_int, le_int, dEq_int]
    by_cases q1 : 1 ≤ W <;> by_cases q2 : W ≤ 40 <;> by_cases q3 : below = (W : Int) <;> by_cases q4 : ns.length ≤ 24 <;> by_cases q5 : K ≤ 8 <;> simp [q1, q2, q3, q4, q5]
  have rdz : (callD (lenIs 1 Ψ_read_channel_x) [(rd (fz (.str X)))]).bind chk = if Fits (chZ ns W B R K L Wd Bn) then .ok (chI .own (chZ ns W B R K L Wd Bn)) else .exc ⟨"BadText", [], []⟩ := by
    have : callD (lenIs 1 Ψ_read_channel_x) [(rd (fz (.str X)))] = M_read_channel_x (.str X) := rfl
    rw [this, re]
    split
    · rw [rb_ok, chk_e, if_pos noT_chO]
    · rfl
  rw [rdz]
  by_cases q : Fits (chZ ns W B R K L Wd Bn)
  · have g := FT.mp q
    rw [if_pos q, tryN_ok, decide_eq_true (by omega)]
    simp only [rd_bl, tru_bl, rb_ok, Bool.not_true, ifR_e, Bool.false_eq_true, if_false, rd_chO, fld_top, fld_bottom, fld_keeps, dLen_lst, List.length_map, l4, l5, l3, lstB_e, List.length_cons, List.length_nil]
    rw [if_pos (show _ ≤ bigL by decide)]
    simp only [rb_ok, rd_int]
    have : B = W := g.1.2.2
    rw [this]
    have e : dEq (D.lst Tag.own [D.int (W : Int), .int (W : Int), .int (K : Int)]) (D.lst Tag.own [D.int (W : Int), .int (W : Int), .int (K : Int)]) = .ok (.bl true) := (dNe_same (n := 50) rfl (by decide) rfl).2
    rw [e]
    rfl
  · rw [if_neg q, tryN_exc (by simp), decide_eq_false (fun z => q (FT.mpr ⟨⟨z.1.1, z.1.2.1, by omega⟩, z.2.2, z.2.1⟩))]
    rfl
theorem pick_map {α β : Type} (f : α → β) (xs : List α) (i k : Int) : pickS (xs.map f) i k = (pickS xs i k).map f := by
  unfold pickS
  rw [List.length_map, List.map_filterMap]
  congr 1
  funext j
  rw [List.getElem?_map]
theorem stp_eq (i : Int) (ws : List Nm) : dStp i 3 (.nd .tmp .lst (ws.map fun w => .str (S w))) = .ok (.lst .own ((pickS ws i 3).map strS)) := by
  show (if (3 : Int) ≠ 0 then Res.ok (D.lst .own (pickS (rdL (ws.map fun w => D.str (S w))) i 3)) else .stuck) = _
  rw [if_pos (by decide), rdL_map]
  show Res.ok (D.lst .own (pickS (ws.map strS) i 3)) = _
  rw [pick_map]
theorem width_ex (one : Int) (h : 0 ≤ one) : ∃ W : Nat, W ≤ 42 ∧ ((((((((((dDiv (rd (D.int one)) (D.int 4))).bind fun t12 => (dMod t12 (D.int 43)))).bind fun t19 => ((((((((dDiv (rd (D.int one)) (D.int 4))).bind fun t13 => (dMod t13 (D.int 3)))).bind fun t14 => (dAdd (D.int 39) t14))).bind fun t17 => ((((((dDiv (rd (D.int one)) (D.int 4))).bind fun t15 => (dMod t15 (D.int 3)))).bind fun t16 => Res.ok [t16])).bind fun t18 => Res.ok (t17 :: t18))).bind fun t20 => Res.ok (t19 :: t20))).bind fun t21 => (lstB t21))).bind fun t22 => (((dMod (rd (D.int one)) (D.int 3))).bind fun t23 => (dIx t22 t23))).bind chk) = .ok (.int (W : Int)) := by
  have c : one % 3 = 0 ∨ one % 3 = 1 ∨ one % 3 = 2 := by omega
  rcases c with c | c | c
  · refine ⟨(one / 4 % 43).toNat, by omega, ?_⟩
    simp [c]
    omega
  · refine ⟨(39 + one / 4 % 3).toNat, by omega, ?_⟩
    simp [c]
    omega
  · refine ⟨(one / 4 % 3).toNat, by omega, ?_⟩
    simp [c]
    omega
theorem below_ex (one : Int) (W : Int) : ∃ b : Int, W - 1 ≤ b ∧ b ≤ W + 1 ∧ ((((((((dDiv (rd (D.int one)) (D.int 256))).bind fun t24 => (dMod t24 (D.int 5)))).bind fun t25 => (dIx (D.lst Tag.own [(D.int 0), (D.int 0), (D.int 0), (D.int 1), (D.int (-1))]) t25))).bind fun t26 => (dAdd (rd (D.int W)) t26)).bind chk) = .ok (.int b) := by
  have c : one / 256 % 5 = 0 ∨ one / 256 % 5 = 1 ∨ one / 256 % 5 = 2 ∨ one / 256 % 5 = 3 ∨ one / 256 % 5 = 4 := by omega
  rcases c with c | c | c | c | c
  · exact ⟨W, by omega, by omega, by simp [c]⟩
  · exact ⟨W, by omega, by omega, by simp [c]⟩
  · exact ⟨W, by omega, by omega, by simp [c]⟩
  · exact ⟨W + 1, by omega, by omega, by simp [c]⟩
  · exact ⟨W + -1, by omega, by omega, by simp [c]⟩
theorem many_ex (two : Int) (h : 0 ≤ two) : ∃ n : Nat, n ≤ 26 ∧ ((((((((((((dDiv (rd (D.int two)) (D.int 4))).bind fun t31 => (dMod t31 (D.int 26)))).bind fun t32 => (dAdd (D.int 1) t32))).bind fun t36 => ((((((((dDiv (rd (D.int two)) (D.int 4))).bind fun t33 => (dMod t33 (D.int 3)))).bind fun t34 => (dAdd (D.int 23) t34))).bind fun t35 => Res.ok [t35])).bind fun t37 => Res.ok (t36 :: t37))).bind fun t38 => (lstB t38))).bind fun t39 => (((dMod (rd (D.int two)) (D.int 2))).bind fun t40 => (dIx t39 t40))).bind chk) = .ok (.int (n : Int)) := by
  have c : two % 2 = 0 ∨ two % 2 = 1 := by omega
  rcases c with c | c
  · refine ⟨(1 + two / 4 % 26).toNat, by omega, ?_⟩
    simp [c]
    omega
  · refine ⟨(23 + two / 4 % 3).toNat, by omega, ?_⟩
    simp [c]
    omega
theorem keeps_ex (two : Int) (h : 0 ≤ two) : ∃ n : Nat, n ≤ 10 ∧ ((((((((((dDiv (rd (D.int two)) (D.int 128))).bind fun t41 => (dMod t41 (D.int 11)))).bind fun t45 => ((((((((dDiv (rd (D.int two)) (D.int 128))).bind fun t42 => (dMod t42 (D.int 3)))).bind fun t43 => (dAdd (D.int 7) t43))).bind fun t44 => Res.ok [t44])).bind fun t46 => Res.ok (t45 :: t46))).bind fun t47 => (lstB t47))).bind fun t49 => (((((dDiv (rd (D.int two)) (D.int 2))).bind fun t48 => (dMod t48 (D.int 2)))).bind fun t50 => (dIx t49 t50))).bind chk) = .ok (.int (n : Int)) := by
  have c : two / 2 % 2 = 0 ∨ two / 2 % 2 = 1 := by omega
  rcases c with c | c
  · refine ⟨(two / 128 % 11).toNat, by omega, ?_⟩
    simp [c]
    omega
  · refine ⟨(7 + two / 128 % 3).toNat, by omega, ?_⟩
    simp [c]
    omega
def nmsZ (seed : Int) (n : Nat) : List Nm := (List.range n).map fun k : Nat => wordZ seed (k : Int)
theorem nmsZ_nodup (seed : Int) {n : Nat} (h : n ≤ 26) : (nmsZ seed n).Nodup := by
  unfold nmsZ
  rw [List.nodup_iff_pairwise_ne, List.pairwise_map]
  refine List.Pairwise.imp_of_mem (fun {a b} ha hb ne e => ?_) (List.nodup_range (n := n))
  have ha := List.mem_range.mp ha
  have hb := List.mem_range.mp hb
  have := wordZ_inj ⟨by omega, by omega⟩ ⟨by omega, by omega⟩ e
  exact ne (by omega)
theorem law_true_k05 (xs : List Int) (hn : xs.length ≤ 63) : Ψ_law_k05 [scriptD xs] = .ok (.bl true) := by
  rw [pe_law_k05]
  unfold M_law_k05 scriptD
  obtain ⟨m, hm⟩ : ∃ m, (cutL xs none (some 1)).sum = m := ⟨_, rfl⟩
  obtain ⟨m1, hm1⟩ : ∃ m, (cutL xs (some 1) (some 2)).sum = m := ⟨_, rfl⟩
  obtain ⟨m2, hm2⟩ : ∃ m, (cutL xs (some 2) (some 3)).sum = m := ⟨_, rfl⟩
  refine bstep (x := .int ((m % 1000000000000000000000000000000 + 3) * 40014 % 2147483563)) (by simp [hm]) ?_
  generalize (m % 1000000000000000000000000000000 + 3) * 40014 % 2147483563 = seed
  have x1 := callD_mix m1 5 (by decide) (by decide)
  have x2 := callD_mix m2 7 (by decide) (by decide)
  have p1 := mixZ_nonneg m1 5
  have p2 := mixZ_nonneg m2 7
  refine bstep (x := .int (mixZ m1 5)) ?_ ?_
  · simp only [rd_frz, rdL_ints, dSl_ints, rb_ok, dSum_ints, hm1, List.append_nil]
    show ((callD (lenIs 2 Φ__law_mix) [.int m1, .int 5]).bind chk) = _
    rw [x1]
    rfl
  generalize mixZ m1 5 = one at *
  obtain ⟨W, hW, eW⟩ := width_ex one p1
  refine bstep eW ?_
  obtain ⟨b, b1, b2, eb⟩ := below_ex one W
  refine bstep eb ?_
  refine bstep (x := .int (mixZ m2 7)) ?_ ?_
  · simp only [rd_frz, rdL_ints, dSl_ints, rb_ok, dSum_ints, hm2, List.append_nil]
    show ((callD (lenIs 2 Φ__law_mix) [.int m2, .int 7]).bind chk) = _
    rw [x2]
    rfl
  generalize mixZ m2 7 = two at *
  obtain ⟨n, hN, en⟩ := many_ex two p2
  refine bstep en ?_
  obtain ⟨K, hK, ek⟩ := keeps_ex two p2
  refine bstep ek ?_
  have nl : (nmsZ seed n).length = n := by unfold nmsZ; rw [List.length_map, List.length_range]
  refine bstep (x := .lst .own ((nmsZ seed n).map strS)) ?_ ?_
  · rw [rd_int, rng1_nat (by omega), rng0]
    simp only [rb_ok]
    rw [lcV_map strS (fun k : Nat => wordZ seed (k : Int)) (List.range n) fun k _ => by
      have : callD (lenIs 2 Ψ__law_word) [rd (.int (k : Int)), rd (.int seed)] = .ok (.str (S (wordZ seed k))) := by
        show M__law_word (.int (k : Int)) (.int seed) = _
        exact word_eq seed k
      rw [this]
      rfl]
    simp only [rb_ok, lstB_e, List.length_map, List.length_range]
    rw [if_pos (show _ ≤ bigL by show _ ≤ 1000000; omega)]
    simp only [rb_ok]
    rw [chk_e, if_pos (noTs_of (fun _ => rfl) _)]
    rfl
  have nat : ∀ k : Nat, atI ((nmsZ seed n).map fun w => D.str (S w)) (k : Int) = ((nmsZ seed n)[k]?).map fun w => D.str (S w) := fun k => by
    rw [atI_map]
    congr 1
    by_cases q : k < (nmsZ seed n).length
    · rw [List.getElem?_eq_getElem q]
      exact atI_nat (List.getElem?_eq_getElem q)
    · rw [List.getElem?_eq_none (by omega)]
      unfold atI
      rw [show ixN (nmsZ seed n).length (k : Int) = none from by unfold ixN; simp; omega]
      rfl
  refine bstep (x := .lst .own ((((List.range W).map fun k => (nmsZ seed n)[k]?).map pinT).map D.str)) ?_ ?_
  · rw [rd_int, rng1_nat (by omega), rng0, rd_strs2]
    simp only [rb_ok]
    rw [lcV_map D.str (fun k : Nat => pinT ((nmsZ seed n)[k]?)) (List.range W) fun k _ => by
      rw [rd_int, rd_int, lt_int]
      by_cases q : k < n
      · rw [decide_eq_true q]
        simp only [rb_ok, asB_bl, ifR_e, if_true, dIx_lst]
        rw [nat k, List.getElem?_eq_getElem (by omega)]
        rfl
      · rw [decide_eq_false q, List.getElem?_eq_none (by omega)]
        rfl]
    simp only [rb_ok, lstB_e, List.length_map, List.length_range]
    rw [if_pos (show _ ≤ bigL by show _ ≤ 1000000; omega)]
    simp only [rb_ok]
    rw [chk_e, if_pos (noTs_of (fun _ => rfl) _), List.map_map, List.map_map, List.map_map]
    rfl
  refine bstep (x := .lst .own (((nmsZ seed n).drop W).map strS)) ?_ ?_
  · rw [rd_int, oInt_e, rd_strs2]
    simp only [rb_ok, dSl_lst]
    rw [cutL_from (by omega), Int.toNat_natCast, ← List.map_drop, rdL_map]
    show chk _ = _
    rw [chk_e, if_pos]
    · rfl
    · exact noTs_of (f := fun w : Nm => rd (.str (S w))) (fun _ => rfl) _
  have nd := nmsZ_nodup seed hN
  have dd : ((nmsZ seed n).drop W).Nodup := nd.sublist (List.drop_sublist W _)
  have dl : ((nmsZ seed n).drop W).length ≤ 26 := by rw [List.length_drop]; omega
  have ok : ∀ w ∈ nmsZ seed n, NameL w := fun w hw => by
    obtain ⟨k, _, rfl⟩ := List.mem_map.mp hw
    exact wordZ_name seed k
  obtain ⟨R, hR⟩ : ∃ R : Nat, one / 2048 % 4 = (R : Int) := ⟨(one / 2048 % 4).toNat, by omega⟩
  have go : ∀ L Wd Bn, Split3 ((nmsZ seed n).drop W) L Wd Bn → In5 (nmsZ seed n) W (max 0 b).toNat R K L Wd Bn := fun L Wd Bn sp => ⟨nd, ok, by omega, by omega, by omega, by omega, by omega, sp⟩
  have fin : ∀ L Wd Bn, Split3 ((nmsZ seed n).drop W) L Wd Bn → J_law_k05_1 (.int one) (.int (W : Int)) (.int b) (.int (n : Int)) (.int (K : Int)) (.lst .own ((nmsZ seed n).map strS)) (.lst .own ((((List.range W).map fun k => (nmsZ seed n)[k]?).map pinT).map D.str)) (.lst .own (L.map strS)) (.lst .own (Wd.map strS)) (.lst .own (Bn.map strS)) = .ok (.bl true) := fun L Wd Bn sp => by
    have := J_k05 (go L Wd Bn sp) one b hR rfl
    rw [nl] at this
    exact this
  have d1 : dDiv (.int one) (.int 8192) = .ok (.int (one / 8192)) := by simp
  have d2 : dMod (.int (one / 8192)) (.int 2) = .ok (.int (one / 8192 % 2)) := by simp
  rw [rd_int, d1]
  simp only [rb_ok]
  rw [d2]
  simp only [rb_ok, dEq_int, asB_bl, ifR_e]
  by_cases q : one / 8192 % 2 = 1
  · rw [if_pos (by rw [q]; rfl), rd_strs2, stp_eq, stp_eq, stp_eq]
    simp only [rb_ok]
    have pv : parV3 [.lst .own ((pickS ((nmsZ seed n).drop W) 0 3).map strS), .lst .own ((pickS ((nmsZ seed n).drop W) 1 3).map strS), .lst .own ((pickS ((nmsZ seed n).drop W) 2 3).map strS)] = .ok (.lst .own ((pickS ((nmsZ seed n).drop W) 0 3).map strS), .lst .own ((pickS ((nmsZ seed n).drop W) 1 3).map strS), .lst .own ((pickS ((nmsZ seed n).drop W) 2 3).map strS)) := by
      unfold parV3
      dsimp only
      rw [noTs_of (fun _ => rfl), noTs_of (fun _ => rfl), noTs_of (fun _ => rfl)]
      rfl
    rw [pv]
    exact fin _ _ _ (Split3.pick dd dl)
  · rw [if_neg (by rw [beq_iff_eq]; exact q)]
    exact fin _ [] [] (Split3.plain dd dl)
end Gw
end
section
set_option maxHeartbeats 8000000
namespace Gk05
open PySem PySem.Spec PyProof.Rows L2 PV Gw
structure Gx {K : PySem.W.Frag} (κ : Kap K) (mg : Str → Option Value) : Prop where
  a_bends : ClsOk κ ["Channel"] "bends"
  a_bottom : ClsOk κ ["Channel"] "bottom"
  a_front : ClsOk κ ["Rows"] "front"
  a_keeps : ClsOk κ ["Channel"] "keeps"
  a_left : ClsOk κ ["Channel"] "left"
  a_right : ClsOk κ ["Channel"] "right"
  a_rows : ClsOk κ ["Rows"] "rows"
  a_top : ClsOk κ ["Channel"] "top"
  a_wide : ClsOk κ ["Channel"] "wide"
  c_FIGURES : ∃ t, mg "FIGURES" = some (.str "0123456789" t)
  c_LETTERS : ∃ t, mg "LETTERS" = some (.str "abcdefghijklmnopqrstuvwxyz" t)
  f_enumerate : mg "enumerate" = none
  f_int : mg "int" = none
  f_len : mg "len" = none
  f_max : mg "max" = none
  f_range : mg "range" = none
  f_set : mg "set" = none
  f_sorted : mg "sorted" = none
  f_str : mg "str" = none
  f_sum : mg "sum" = none
  g_BadText : mg "BadText" = some (.ref (κ.cls "BadText"))
  x_0 : PySem.W.exmOne K (.ref (κ.cls "BadText")) (.ref (κ.cls "BadText")) = some true
  x_1 : xc0B K (κ.cls "BadText") = true
  x_2 : excB K (κ.cls "BadText") = true
theorem clsRe {M : PySem.W.Frag} {κ κ2 : Kap M} (e : κ.cls = κ2.cls) {f : Str} : ∀ {cs : List Str}, ClsOk κ cs f → ClsOk κ2 cs f := fun h => ⟨fun x hx => by rw [← e]; exact h.1 x hx⟩
theorem sci_Channel : FnScope ["self", "top", "bottom", "left", "right", "wide", "bends", "keeps"] ["self", "top", "bottom", "left", "right", "wide", "bends", "keeps"] (defScope si_Channel) := ⟨rfl, rfl, rfl, by decide +kernel, rfl, by decide +kernel, by decide +kernel⟩
theorem mk_Channel {P : Program} {w : World} {K : PySem.W.Frag} {mg : Str → Option Value} {base : Heap} {c : Cfg K} {f : Addr} {fd : FuncData} (F : FunD K "__init__" "Channel.__init__" (defArgs si_Channel) (defBody si_Channel) (defScope si_Channel) [] [] f fd) (mk : Mk K (c.κ.cls "Channel") f) (hc : Cls K (c.κ.cls "Channel")) (n_top : NoAttr K (c.κ.cls "Channel") "top") (n_bottom : NoAttr K (c.κ.cls "Channel") "bottom") (n_left : NoAttr K (c.κ.cls "Channel") "left") (n_right : NoAttr K (c.κ.cls "Channel") "right") (n_wide : NoAttr K (c.κ.cls "Channel") "wide") (n_bends : NoAttr K (c.κ.cls "Channel") "bends") (n_keeps : NoAttr K (c.κ.cls "Channel") "keeps") (hm : mg "Channel" = some (.ref (c.κ.cls "Channel"))) : MkC P w K mg base c.κ "Channel" ["top", "bottom", "left", "right", "wide", "bends", "keeps"] := by
  refine ⟨f, fd, ["self", "top", "bottom", "left", "right", "wide", "bends", "keeps"], mk, ?_, hm, F.bindsN fun _ _ _ _ _ _ us hl => match us, hl with | [_, _, _, _, _, _, _, _], _ => rfl⟩
  refine init_ok (l := [("top", 1), ("bottom", 2), ("left", 3), ("right", 4), ("wide", 5), ("bends", 6), ("keeps", 7)]) F sci_Channel hc (fun p hp => by
    simp only [List.mem_cons, List.not_mem_nil, or_false] at hp
    rcases hp with rfl | rfl | rfl | rfl | rfl | rfl | rfl
    · exact n_top
    · exact n_bottom
    · exact n_left
    · exact n_right
    · exact n_wide
    · exact n_bends
    · exact n_keeps
    ) rfl (by simp) (by decide) (by decide) ?_ ?_
  · intro j p h
    have : j < 7 := (List.getElem?_eq_some_iff.mp h).1
    match j, this, h with
    | 0, _, h => exact (congrArg Prod.snd (Option.some.inj h)).symm
    | 1, _, h => exact (congrArg Prod.snd (Option.some.inj h)).symm
    | 2, _, h => exact (congrArg Prod.snd (Option.some.inj h)).symm
    | 3, _, h => exact (congrArg Prod.snd (Option.some.inj h)).symm
    | 4, _, h => exact (congrArg Prod.snd (Option.some.inj h)).symm
    | 5, _, h => exact (congrArg Prod.snd (Option.some.inj h)).symm
    | 6, _, h => exact (congrArg Prod.snd (Option.some.inj h)).symm
  · intro cdv A outer s H E
    exact (init_cons rfl rfl (.inl rfl) (.inl rfl) (by decide) (by decide) (by decide) (by decide) (by rfl) (init_cons rfl rfl (.inl rfl) (.inl rfl) (by decide) (by decide) (by decide) (by decide) (by rfl) (init_cons rfl rfl (.inl rfl) (.inl rfl) (by decide) (by decide) (by decide) (by decide) (by rfl) (init_cons rfl rfl (.inl rfl) (.inl rfl) (by decide) (by decide) (by decide) (by decide) (by rfl) (init_cons rfl rfl (.inl rfl) (.inl rfl) (by decide) (by decide) (by decide) (by decide) (by rfl) (init_cons rfl rfl (.inl rfl) (.inl rfl) (by decide) (by decide) (by decide) (by decide) (by rfl) (init_cons rfl rfl (.inl rfl) (.inl rfl) (by decide) (by decide) (by decide) (by decide) (by rfl) init_nil)))))))
section
variable {P : Program} {w : World} {K : PySem.W.Frag} {mg : Str → Option Value} {base : Heap} {c : Cfg K}
theorem sc_is_name : FnScope N_is_name ["word"] (defScope s_is_name) := ⟨rfl, rfl, rfl, by decide +kernel, rfl, by decide +kernel, by decide +kernel⟩
set_option maxHeartbeats 4000000 in
theorem eb_is_name (G : Gx c.κ mg) (f : Addr) (cdv : Value) (A : Around) (outer : List PySem.Env) (s : Shared) (H : Hp) (E : XK) (hr : Room 0 (A.deeper (envOfC "is_name" (defScope s_is_name) s.heap.objs.size f cdv))) :
    EB (cxOf (L2.CX P w) P w K mg base N_is_name "is_name" (defScope s_is_name) f cdv A outer s H E) c E (defBody s_is_name) g_is_name := by
  have hx : Passes (L2.CX P w) (cxOf (L2.CX P w) P w K mg base N_is_name "is_name" (defScope s_is_name) f cdv A outer s H E) E := passes_call (takes_of rfl rfl rfl rfl) (fun _ _ _ _ z => z)
  exact (eb_cons (es_if (et_w (ew_or (et_eq (hu64 hr) (ev_len rfl G.f_len (l_cons (ev_var 0) l_nil)) ev_int) (ew_or1 (et_gt (ev_len rfl G.f_len (l_cons (ev_var 0) l_nil)) ev_int)))) (eb_one (es_ret ev_bl)) eb_nil) (eb_cons (es_for [1] (passes_of rfl) rfl (eys_of (ey_val (ev_var 0))) (eg_name 1 sc_is_name.nd) (eb_one (es_if (et_in0 (ev_var 1) (ev_gS rfl G.c_LETTERS)) (eb_one (es_ret ev_bl)) eb_nil))) (eb_one (es_ret ev_bl))))
theorem ok_is_name (G : Gx c.κ mg) {f : Addr} {fd : FuncData} (F : FunD K "is_name" "is_name" (defArgs s_is_name) (defBody s_is_name) (defScope s_is_name) [] [] f fd) : FnOk P w K mg base (L2.CX P w) 1 f fd ["word"] (SpD c 1 Ψ_is_name) :=
  FnOk.eqv (Φ := Φ_is_name) (fnd_ok F sc_is_name fun cdv A outer s H E hr => eb_is_name G  f cdv A outer s H E hr) ps_is_name
theorem cal_is_name (G : Gx c.κ mg) {f : Addr} {fd : FuncData} (F : FunD K "is_name" "is_name" (defArgs s_is_name) (defBody s_is_name) (defScope s_is_name) [] [] f fd) (hm : mg "is_name" = some (.ref f)) : Cal P w K mg base c "is_name" 1 1 Ψ_is_name [] :=
  cal_mk (ps := ["word"]) F hm (ok_is_name G  F) fun _ _ _ _ _ _ us hl => match us, hl with | [_], _ => rfl
theorem sc_name_read : FnScope N_name_read_x ["word"] (defScope s_name_read) := ⟨rfl, rfl, rfl, by decide +kernel, rfl, by decide +kernel, by decide +kernel⟩
set_option maxHeartbeats 4000000 in
theorem eb_name_read (G : Gx c.κ mg) (K_BadText : MkX0 K mg c "BadText") (C_is_name : Cal P w K mg base c "is_name" 1 1 Ψ_is_name []) (f : Addr) (cdv : Value) (A : Around) (outer : List PySem.Env) (s : Shared) (H : Hp) (E : XK) (hr : Room 1 (A.deeper (envOfC "name_read" (defScope s_name_read) s.heap.objs.size f cdv))) :
    EB (cxOf (L2.CX P w) P w K mg base N_name_read_x "name_read" (defScope s_name_read) f cdv A outer s H E) c E (defBody s_name_read) g_name_read_x := by
  have hx : Passes (L2.CX P w) (cxOf (L2.CX P w) P w K mg base N_name_read_x "name_read" (defScope s_name_read) f cdv A outer s H E) E := passes_call (takes_of rfl rfl rfl rfl) (fun _ _ _ _ z => z)
  exact (eb_cons (es_if (et_not (et_tru (ev_callC C_is_name (hr.mono (by decide)) rfl hx (l_cons (ev_var 0) l_nil)))) (eb_one (es_raise0 K_BadText rfl rfl (takes_of rfl rfl rfl rfl))) eb_nil) (eb_one (es_retV 0)))
theorem ok_name_read (G : Gx c.κ mg) (K_BadText : MkX0 K mg c "BadText") (C_is_name : Cal P w K mg base c "is_name" 1 1 Ψ_is_name []) {f : Addr} {fd : FuncData} (F : FunD K "name_read" "name_read" (defArgs s_name_read) (defBody s_name_read) (defScope s_name_read) [] [] f fd) : FnOk P w K mg base (L2.CX P w) 2 f fd ["word"] (SpD c 1 Ψ_name_read_x) :=
  FnOk.eqv (Φ := Φ_name_read_x) (fnd_ok F sc_name_read fun cdv A outer s H E hr => eb_name_read G K_BadText C_is_name f cdv A outer s H E hr) ps_name_read_x
theorem cal_name_read (G : Gx c.κ mg) (K_BadText : MkX0 K mg c "BadText") (C_is_name : Cal P w K mg base c "is_name" 1 1 Ψ_is_name []) {f : Addr} {fd : FuncData} (F : FunD K "name_read" "name_read" (defArgs s_name_read) (defBody s_name_read) (defScope s_name_read) [] [] f fd) (hm : mg "name_read" = some (.ref f)) : Cal P w K mg base c "name_read" 2 1 Ψ_name_read_x [] :=
  cal_mk (ps := ["word"]) F hm (ok_name_read G K_BadText C_is_name F) fun _ _ _ _ _ _ us hl => match us, hl with | [_], _ => rfl
theorem sc_number_read : FnScope N_number_read_x ["word"] (defScope s_number_read) := ⟨rfl, rfl, rfl, by decide +kernel, rfl, by decide +kernel, by decide +kernel⟩
set_option maxHeartbeats 4000000 in
theorem eb_number_read (G : Gx c.κ mg) (K_BadText : MkX0 K mg c "BadText") (f : Addr) (cdv : Value) (A : Around) (outer : List PySem.Env) (s : Shared) (H : Hp) (E : XK) (hr : Room 0 (A.deeper (envOfC "number_read" (defScope s_number_read) s.heap.objs.size f cdv))) :
    EB (cxOf (L2.CX P w) P w K mg base N_number_read_x "number_read" (defScope s_number_read) f cdv A outer s H E) c E (defBody s_number_read) g_number_read_x := by
  have hx : Passes (L2.CX P w) (cxOf (L2.CX P w) P w K mg base N_number_read_x "number_read" (defScope s_number_read) f cdv A outer s H E) E := passes_call (takes_of rfl rfl rfl rfl) (fun _ _ _ _ z => z)
  exact (eb_cons (es_if (et_w (ew_or (et_gt (ev_len rfl G.f_len (l_cons (ev_var 0) l_nil)) ev_int) (ew_or1 (et_w (ew_and (et_eq (hu64 hr) (ev_len rfl G.f_len (l_cons (ev_var 0) l_nil)) ev_int) (ew_and1 (et_eq (hu64 hr) (ev_sub_ (ev_var 0) ev_int) ev_str))))))) (eb_one (es_raise0 K_BadText rfl rfl (takes_of rfl rfl rfl rfl))) eb_nil) (eb_cons (es_for [1] (passes_of rfl) rfl (eys_of (ey_val (ev_var 0))) (eg_name 1 sc_number_read.nd) (eb_one (es_if (et_in0 (ev_var 1) (ev_gS rfl G.c_FIGURES)) (eb_one (es_raise0 K_BadText rfl rfl (takes_of rfl rfl rfl rfl))) eb_nil))) (eb_one (es_ret (ev_int_ rfl G.f_int (l_cons (ev_var 0) l_nil))))))
theorem ok_number_read (G : Gx c.κ mg) (K_BadText : MkX0 K mg c "BadText") {f : Addr} {fd : FuncData} (F : FunD K "number_read" "number_read" (defArgs s_number_read) (defBody s_number_read) (defScope s_number_read) [] [] f fd) : FnOk P w K mg base (L2.CX P w) 1 f fd ["word"] (SpD c 1 Ψ_number_read_x) :=
  FnOk.eqv (Φ := Φ_number_read_x) (fnd_ok F sc_number_read fun cdv A outer s H E hr => eb_number_read G K_BadText f cdv A outer s H E hr) ps_number_read_x
theorem cal_number_read (G : Gx c.κ mg) (K_BadText : MkX0 K mg c "BadText") {f : Addr} {fd : FuncData} (F : FunD K "number_read" "number_read" (defArgs s_number_read) (defBody s_number_read) (defScope s_number_read) [] [] f fd) (hm : mg "number_read" = some (.ref f)) : Cal P w K mg base c "number_read" 1 1 Ψ_number_read_x [] :=
  cal_mk (ps := ["word"]) F hm (ok_number_read G K_BadText F) fun _ _ _ _ _ _ us hl => match us, hl with | [_], _ => rfl
theorem sc_Rows_init : FnScope N_Rows_init ["self", "text"] (defScope s_Rows_init) := ⟨rfl, rfl, rfl, by decide +kernel, rfl, by decide +kernel, by decide +kernel⟩
set_option maxHeartbeats 4000000 in
theorem eb_Rows_init (as : List Addr) (has : ([0] : List Nat).length = as.length) (G : Gx (c.pin as).κ mg) (f : Addr) (cdv : Value) (A : Around) (outer : List PySem.Env) (s : Shared) (H : Hp) (E : XK) (hr : Room 0 (A.deeper (envOfC "Rows.__init__" (defScope s_Rows_init) s.heap.objs.size f cdv))) :
    EB (cxOf (L2.CX P w) P w K mg base N_Rows_init "Rows.__init__" (defScope s_Rows_init) f cdv A outer s H E) (c.pin as) E (defBody s_Rows_init) (sSeq (sPin 0 (sFPut 0 ["Rows"] "rows" (eLst (lNil)))) (sSeq (sFor (yLift (yVal true (e1 (dSplit "\n") (eVar 1)))) (put1 2) (b_Rows_init_1) [2, 3]) (sPin 0 (sFPut 0 ["Rows"] "front" (eC (.int 0)))))) := by
  have hx : Passes (L2.CX P w) (cxOf (L2.CX P w) P w K mg base N_Rows_init "Rows.__init__" (defScope s_Rows_init) f cdv A outer s H E) E := passes_call (takes_of rfl rfl rfl rfl) (fun _ _ _ _ z => z)
  exact (eb_cons (ESk.toES (esk_pin 0 (esk_fput 0 ["Rows"] G.a_rows (ev_lst l_nil)))) (eb_cons (es_for [2, 3] (passes_of rfl) rfl (eys_of (ey_val (ev_split (ev_var 1)))) (eg_name 2 sc_Rows_init.nd) (eb_cons (es_lc 3 (own := [("word", 4)]) rfl sc_Rows_init.nd rfl (sw_true rfl rfl rfl (by decide +kernel)) (ey_val (ev_split (ev_var 2))) (blkOk_by (own := [("word", 4)]) (N := N_Rows_init) (sc := defScope s_Rows_init) (by decide +kernel)) (fun _ _ _ _ _ => (eg_nameC 4 sc_Rows_init.nd)) (fun _ _ _ _ _ => (ets_one (et_ne (hu64 hr) (ev_var 4) ev_str))) (fun _ _ _ _ _ => (ev_var 4))) (eb_one (es_if (et_gt (ev_len rfl G.f_len (l_cons (ev_var 3) l_nil)) ev_int) (eb_one (es_frz 3 (ESk.toES (esk_pin 0 (esk_fapp 0 ["Rows"] G.a_rows (ev_var 3)))))) eb_nil)))) (eb_one (ESk.toES (esk_pin 0 (esk_fput 0 ["Rows"] G.a_front ev_int))))))
theorem ok_Rows_init (h0 : c.κ.pv = []) (G : Gx c.κ mg) {f : Addr} {fd : FuncData} (F : FunD K "__init__" "Rows.__init__" (defArgs s_Rows_init) (defBody s_Rows_init) (defScope s_Rows_init) [] [] f fd) : FnOk P w K mg base (L2.CX P w) 1 f fd ["self", "text"] (SpIO c 2 1 Ψ_Rows_init) :=
  FnOk.eqvIO (Φ := Φ_Rows_init) (fnd_okIO (is := [0]) F sc_Rows_init (by decide) (by simp) rfl fun as has cdv A outer s H E hr => eb_Rows_init (c := c) as has ⟨clsRe (κ := c.κ) (κ2 := (Cfg.pin c as).κ) rfl G.a_bends, clsRe (κ := c.κ) (κ2 := (Cfg.pin c as).κ) rfl G.a_bottom, clsRe (κ := c.κ) (κ2 := (Cfg.pin c as).κ) rfl G.a_front, clsRe (κ := c.κ) (κ2 := (Cfg.pin c as).κ) rfl G.a_keeps, clsRe (κ := c.κ) (κ2 := (Cfg.pin c as).κ) rfl G.a_left, clsRe (κ := c.κ) (κ2 := (Cfg.pin c as).κ) rfl G.a_right, clsRe (κ := c.κ) (κ2 := (Cfg.pin c as).κ) rfl G.a_rows, clsRe (κ := c.κ) (κ2 := (Cfg.pin c as).κ) rfl G.a_top, clsRe (κ := c.κ) (κ2 := (Cfg.pin c as).κ) rfl G.a_wide, G.c_FIGURES, G.c_LETTERS, G.f_enumerate, G.f_int, G.f_len, G.f_max, G.f_range, G.f_set, G.f_sorted, G.f_str, G.f_sum, G.g_BadText, G.x_0, G.x_1, G.x_2⟩  f cdv A outer s H E hr) ps_Rows_init
theorem cal_Rows_init (h0 : c.κ.pv = []) (G : Gx c.κ mg) {f : Addr} {fd : FuncData} (F : FunD K "__init__" "Rows.__init__" (defArgs s_Rows_init) (defBody s_Rows_init) (defScope s_Rows_init) [] [] f fd) (mk : Mk K (c.κ.cls "Rows") f) (hm : mg "Rows" = some (.ref (c.κ.cls "Rows"))) : MkIO P w K mg base c "Rows" 1 2 Ψ_Rows_init :=
  ⟨f, fd, ["self", "text"], mk, FnOk.lenIO (ok_Rows_init h0 G  F), hm, F.bindsN fun _ _ _ _ _ _ us hl => match us, hl with | [_, _], _ => rfl⟩
theorem sc_Rows_head : FnScope N_Rows_head ["self"] (defScope s_Rows_head) := ⟨rfl, rfl, rfl, by decide +kernel, rfl, by decide +kernel, by decide +kernel⟩
set_option maxHeartbeats 4000000 in
theorem eb_Rows_head (G : Gx c.κ mg) (f : Addr) (cdv : Value) (A : Around) (outer : List PySem.Env) (s : Shared) (H : Hp) (E : XK) (hr : Room 0 (A.deeper (envOfC "Rows.head" (defScope s_Rows_head) s.heap.objs.size f cdv))) :
    EB (cxOf (L2.CX P w) P w K mg base N_Rows_head "Rows.head" (defScope s_Rows_head) f cdv A outer s H E) c E (defBody s_Rows_head) g_Rows_head := by
  have hx : Passes (L2.CX P w) (cxOf (L2.CX P w) P w K mg base N_Rows_head "Rows.head" (defScope s_Rows_head) f cdv A outer s H E) E := passes_call (takes_of rfl rfl rfl rfl) (fun _ _ _ _ z => z)
  exact (eb_cons (es_if (et_lt (ev_fld ["Rows"] G.a_front (ev_var 0)) (ev_len rfl G.f_len (l_cons (ev_fld ["Rows"] G.a_rows (ev_var 0)) l_nil))) (eb_one (es_ret (ev_sub_ (ev_sub_ (ev_fld ["Rows"] G.a_rows (ev_var 0)) (ev_fld ["Rows"] G.a_front (ev_var 0))) ev_int))) eb_nil) (eb_one (es_ret ev_str)))
theorem ok_Rows_head (G : Gx c.κ mg) {f : Addr} {fd : FuncData} (F : FunD K "head" "Rows.head" (defArgs s_Rows_head) (defBody s_Rows_head) (defScope s_Rows_head) [] [] f fd) : FnOk P w K mg base (L2.CX P w) 1 f fd ["self"] (SpD c 1 Ψ_Rows_head) :=
  FnOk.eqv (Φ := Φ_Rows_head) (fnd_ok F sc_Rows_head fun cdv A outer s H E hr => eb_Rows_head G  f cdv A outer s H E hr) ps_Rows_head
theorem cal_Rows_head (G : Gx c.κ mg) {f : Addr} {fd : FuncData} (F : FunD K "head" "Rows.head" (defArgs s_Rows_head) (defBody s_Rows_head) (defScope s_Rows_head) [] [] f fd) (hC : Cls K (c.κ.cls "Rows")) (hM : Meth K (c.κ.cls "Rows") "head" f) : CalR P w K mg base c "Rows" "head" 1 Ψ_Rows_head :=
  ⟨f, fd, ["self"], hC, hM, FnOk.len (ok_Rows_head G  F), F.bindsN fun _ _ _ _ _ _ us hl => match us, hl with | [_], _ => rfl⟩
theorem sc_Rows_taken : FnScope N_Rows_taken_x ["self", "head"] (defScope s_Rows_taken) := ⟨rfl, rfl, rfl, by decide +kernel, rfl, by decide +kernel, by decide +kernel⟩
set_option maxHeartbeats 4000000 in
theorem eb_Rows_taken (as : List Addr) (has : ([0] : List Nat).length = as.length) (G : Gx (c.pin as).κ mg) (K_BadText : MkX0 K mg c "BadText") (C_Rows_head : CalR P w K mg base (c.pin as) "Rows" "head" 1 Ψ_Rows_head) (f : Addr) (cdv : Value) (A : Around) (outer : List PySem.Env) (s : Shared) (H : Hp) (E : XK) (hr : Room 1 (A.deeper (envOfC "Rows.taken" (defScope s_Rows_taken) s.heap.objs.size f cdv))) :
    EB (cxOf (L2.CX P w) P w K mg base N_Rows_taken_x "Rows.taken" (defScope s_Rows_taken) f cdv A outer s H E) (c.pin as) E (defBody s_Rows_taken) (sSeq (sIf (eB (e2 dNe (eMrd "Rows" "head" 0 (lenIs 1 Ψ_Rows_head)) (eVar 1))) (sRaise0 "BadText") (sNil)) (sSeq (sPin 0 (sFAug 0 ["Rows"] "front" (eC (.int 1)))) (sRetIO [0] (eSl (e2 dIx (e1 (dFld ["Rows"] "rows") (eVar 0)) (e2 dSub (e1 (dFld ["Rows"] "front") (eVar 0)) (eC (.int 1)))) (oSome (eC (.int 1))) (oNo))))) := by
  have hx : Passes (L2.CX P w) (cxOf (L2.CX P w) P w K mg base N_Rows_taken_x "Rows.taken" (defScope s_Rows_taken) f cdv A outer s H E) E := passes_call (takes_of rfl rfl rfl rfl) (fun _ _ _ _ z => z)
  exact (eb_cons (es_if (et_ne (hu64 hr) (ev_mrd0 C_Rows_head (hr.mono (by decide)) hx 0) (ev_var 1)) (eb_one (es_raise0P as K_BadText rfl rfl (takes_of rfl rfl rfl rfl))) eb_nil) (eb_cons (ESk.toES (esk_pin 0 (esk_faug 0 ["Rows"] G.a_front ev_int))) (eb_one (es_retIO has (by decide) (by decide) (ev_slice (ev_sub_ (ev_fld ["Rows"] G.a_rows (ev_var 0)) (ev_sub (ev_fld ["Rows"] G.a_front (ev_var 0)) ev_int)) (eo_some ev_int) eo_none)))))
theorem ok_Rows_taken (h0 : c.κ.pv = []) (G : Gx c.κ mg) (K_BadText : MkX0 K mg c "BadText") (C_Rows_head : CalR P w K mg base c "Rows" "head" 1 Ψ_Rows_head) {f : Addr} {fd : FuncData} (F : FunD K "taken" "Rows.taken" (defArgs s_Rows_taken) (defBody s_Rows_taken) (defScope s_Rows_taken) [] [] f fd) : FnOk P w K mg base (L2.CX P w) 2 f fd ["self", "head"] (SpIO c 2 1 Ψ_Rows_taken_x) :=
  FnOk.eqvIO (Φ := Φ_Rows_taken_x) (fnd_okIO (is := [0]) F sc_Rows_taken (by decide) (by simp) rfl fun as has cdv A outer s H E hr => eb_Rows_taken (c := c) as has ⟨clsRe (κ := c.κ) (κ2 := (Cfg.pin c as).κ) rfl G.a_bends, clsRe (κ := c.κ) (κ2 := (Cfg.pin c as).κ) rfl G.a_bottom, clsRe (κ := c.κ) (κ2 := (Cfg.pin c as).κ) rfl G.a_front, clsRe (κ := c.κ) (κ2 := (Cfg.pin c as).κ) rfl G.a_keeps, clsRe (κ := c.κ) (κ2 := (Cfg.pin c as).κ) rfl G.a_left, clsRe (κ := c.κ) (κ2 := (Cfg.pin c as).κ) rfl G.a_right, clsRe (κ := c.κ) (κ2 := (Cfg.pin c as).κ) rfl G.a_rows, clsRe (κ := c.κ) (κ2 := (Cfg.pin c as).κ) rfl G.a_top, clsRe (κ := c.κ) (κ2 := (Cfg.pin c as).κ) rfl G.a_wide, G.c_FIGURES, G.c_LETTERS, G.f_enumerate, G.f_int, G.f_len, G.f_max, G.f_range, G.f_set, G.f_sorted, G.f_str, G.f_sum, G.g_BadText, G.x_0, G.x_1, G.x_2⟩ K_BadText (C_Rows_head.pin h0 as) f cdv A outer s H E hr) ps_Rows_taken_x
theorem cal_Rows_taken (h0 : c.κ.pv = []) (G : Gx c.κ mg) (K_BadText : MkX0 K mg c "BadText") (C_Rows_head : CalR P w K mg base c "Rows" "head" 1 Ψ_Rows_head) {f : Addr} {fd : FuncData} (F : FunD K "taken" "Rows.taken" (defArgs s_Rows_taken) (defBody s_Rows_taken) (defScope s_Rows_taken) [] [] f fd) (hC : Cls K (c.κ.cls "Rows")) (hM : Meth K (c.κ.cls "Rows") "taken" f) : CalM P w K mg base c "Rows" "taken" 2 2 Ψ_Rows_taken_x :=
  ⟨f, fd, ["self", "head"], hC, hM, FnOk.lenIO (ok_Rows_taken h0 G K_BadText C_Rows_head F), F.bindsN fun _ _ _ _ _ _ us hl => match us, hl with | [_, _], _ => rfl⟩
theorem sc_Rows_several : FnScope N_Rows_several_x ["self", "head", "many"] (defScope s_Rows_several) := ⟨rfl, rfl, rfl, by decide +kernel, rfl, by decide +kernel, by decide +kernel⟩
set_option maxHeartbeats 4000000 in
theorem eb_Rows_several (as : List Addr) (has : ([0] : List Nat).length = as.length) (G : Gx (c.pin as).κ mg) (K_BadText : MkX0 K mg c "BadText") (C_Rows_taken : CalM P w K mg base (c.pin as) "Rows" "taken" 2 2 Ψ_Rows_taken_x) (C_Rows_head : CalR P w K mg base (c.pin as) "Rows" "head" 1 Ψ_Rows_head) (f : Addr) (cdv : Value) (A : Around) (outer : List PySem.Env) (s : Shared) (H : Hp) (E : XK) (hr : Room 2 (A.deeper (envOfC "Rows.several" (defScope s_Rows_several) s.heap.objs.size f cdv))) :
    EB (cxOf (L2.CX P w) P w K mg base N_Rows_several_x "Rows.several" (defScope s_Rows_several) f cdv A outer s H E) (c.pin as) E (defBody s_Rows_several) (sSeq (sSet 3 (eLst (lNil))) (sSeq (sWhile m_Rows_several_x_1 (t_Rows_several_x_1) (b_Rows_several_x_1) [4]) (sRetVIO [0] 3))) := by
  have hx : Passes (L2.CX P w) (cxOf (L2.CX P w) P w K mg base N_Rows_several_x "Rows.several" (defScope s_Rows_several) f cdv A outer s H E) E := passes_call (takes_of rfl rfl rfl rfl) (fun _ _ _ _ z => z)
  exact (eb_cons (es_set 3 (ev_lst l_nil) sc_Rows_several.nd) (eb_cons (es_while m_Rows_several_x_1 [4] (passes_of rfl) (et_eq (hu64 hr) (ev_mrd0 C_Rows_head (hr.mono (by decide)) hx 0) (ev_var 1)) (eb_cons (es_setS 4 (ev_ioM C_Rows_taken (hr.mono (by decide)) hx 0 (l_cons (ev_var 1) l_nil)) sc_Rows_several.nd) (eb_cons (es_if (et_ne (hu64 hr) (ev_len rfl G.f_len (l_cons (ev_var 4) l_nil)) (ev_var 2)) (eb_one (es_raise0P as K_BadText rfl rfl (takes_of rfl rfl rfl rfl))) eb_nil) (eb_one (es_frz 4 (es_app 3 (ev_var 4))))))) (eb_one (es_retVIO 3 has (by decide) (by decide)))))
theorem ok_Rows_several (h0 : c.κ.pv = []) (G : Gx c.κ mg) (K_BadText : MkX0 K mg c "BadText") (C_Rows_taken : CalM P w K mg base c "Rows" "taken" 2 2 Ψ_Rows_taken_x) (C_Rows_head : CalR P w K mg base c "Rows" "head" 1 Ψ_Rows_head) {f : Addr} {fd : FuncData} (F : FunD K "several" "Rows.several" (defArgs s_Rows_several) (defBody s_Rows_several) (defScope s_Rows_several) [] [] f fd) : FnOk P w K mg base (L2.CX P w) 3 f fd ["self", "head", "many"] (SpIO c 3 1 Ψ_Rows_several_x) :=
  FnOk.eqvIO (Φ := Φ_Rows_several_x) (fnd_okIO (is := [0]) F sc_Rows_several (by decide) (by simp) rfl fun as has cdv A outer s H E hr => eb_Rows_several (c := c) as has ⟨clsRe (κ := c.κ) (κ2 := (Cfg.pin c as).κ) rfl G.a_bends, clsRe (κ := c.κ) (κ2 := (Cfg.pin c as).κ) rfl G.a_bottom, clsRe (κ := c.κ) (κ2 := (Cfg.pin c as).κ) rfl G.a_front, clsRe (κ := c.κ) (κ2 := (Cfg.pin c as).κ) rfl G.a_keeps, clsRe (κ := c.κ) (κ2 := (Cfg.pin c as).κ) rfl G.a_left, clsRe (κ := c.κ) (κ2 := (Cfg.pin c as).κ) rfl G.a_right, clsRe (κ := c.κ) (κ2 := (Cfg.pin c as).κ) rfl G.a_rows, clsRe (κ := c.κ) (κ2 := (Cfg.pin c as).κ) rfl G.a_top, clsRe (κ := c.κ) (κ2 := (Cfg.pin c as).κ) rfl G.a_wide, G.c_FIGURES, G.c_LETTERS, G.f_enumerate, G.f_int, G.f_len, G.f_max, G.f_range, G.f_set, G.f_sorted, G.f_str, G.f_sum, G.g_BadText, G.x_0, G.x_1, G.x_2⟩ K_BadText (C_Rows_taken.pin as) (C_Rows_head.pin h0 as) f cdv A outer s H E hr) ps_Rows_several_x
theorem cal_Rows_several (h0 : c.κ.pv = []) (G : Gx c.κ mg) (K_BadText : MkX0 K mg c "BadText") (C_Rows_taken : CalM P w K mg base c "Rows" "taken" 2 2 Ψ_Rows_taken_x) (C_Rows_head : CalR P w K mg base c "Rows" "head" 1 Ψ_Rows_head) {f : Addr} {fd : FuncData} (F : FunD K "several" "Rows.several" (defArgs s_Rows_several) (defBody s_Rows_several) (defScope s_Rows_several) [] [] f fd) (hC : Cls K (c.κ.cls "Rows")) (hM : Meth K (c.κ.cls "Rows") "several" f) : CalM P w K mg base c "Rows" "several" 3 3 Ψ_Rows_several_x :=
  ⟨f, fd, ["self", "head", "many"], hC, hM, FnOk.lenIO (ok_Rows_several h0 G K_BadText C_Rows_taken C_Rows_head F), F.bindsN fun _ _ _ _ _ _ us hl => match us, hl with | [_, _, _], _ => rfl⟩
theorem sc_pins_read : FnScope N_pins_read_x ["words"] (defScope s_pins_read) := ⟨rfl, rfl, rfl, by decide +kernel, rfl, by decide +kernel, by decide +kernel⟩
set_option maxHeartbeats 4000000 in
theorem eb_pins_read (G : Gx c.κ mg) (C_name_read : Cal P w K mg base c "name_read" 2 1 Ψ_name_read_x []) (f : Addr) (cdv : Value) (A : Around) (outer : List PySem.Env) (s : Shared) (H : Hp) (E : XK) (hr : Room 2 (A.deeper (envOfC "pins_read" (defScope s_pins_read) s.heap.objs.size f cdv))) :
    EB (cxOf (L2.CX P w) P w K mg base N_pins_read_x "pins_read" (defScope s_pins_read) f cdv A outer s H E) c E (defBody s_pins_read) g_pins_read_x := by
  have hx : Passes (L2.CX P w) (cxOf (L2.CX P w) P w K mg base N_pins_read_x "pins_read" (defScope s_pins_read) f cdv A outer s H E) E := passes_call (takes_of rfl rfl rfl rfl) (fun _ _ _ _ z => z)
  exact (eb_cons (es_set 1 (ev_lst l_nil) sc_pins_read.nd) (eb_cons (es_for [2] (passes_of rfl) rfl (eys_of (ey_val (ev_var 0))) (eg_name 2 sc_pins_read.nd) (eb_one (es_if (et_eq (hu64 hr) (ev_var 2) ev_str) (eb_one (es_app 1 ev_non)) (eb_one (es_app 1 (ev_callC C_name_read (hr.mono (by decide)) rfl hx (l_cons (ev_var 2) l_nil))))))) (eb_one (es_retV 1))))
theorem ok_pins_read (G : Gx c.κ mg) (C_name_read : Cal P w K mg base c "name_read" 2 1 Ψ_name_read_x []) {f : Addr} {fd : FuncData} (F : FunD K "pins_read" "pins_read" (defArgs s_pins_read) (defBody s_pins_read) (defScope s_pins_read) [] [] f fd) : FnOk P w K mg base (L2.CX P w) 3 f fd ["words"] (SpD c 1 Ψ_pins_read_x) :=
  FnOk.eqv (Φ := Φ_pins_read_x) (fnd_ok F sc_pins_read fun cdv A outer s H E hr => eb_pins_read G C_name_read f cdv A outer s H E hr) ps_pins_read_x
theorem cal_pins_read (G : Gx c.κ mg) (C_name_read : Cal P w K mg base c "name_read" 2 1 Ψ_name_read_x []) {f : Addr} {fd : FuncData} (F : FunD K "pins_read" "pins_read" (defArgs s_pins_read) (defBody s_pins_read) (defScope s_pins_read) [] [] f fd) (hm : mg "pins_read" = some (.ref f)) : Cal P w K mg base c "pins_read" 3 1 Ψ_pins_read_x [] :=
  cal_mk (ps := ["words"]) F hm (ok_pins_read G C_name_read F) fun _ _ _ _ _ _ us hl => match us, hl with | [_], _ => rfl
theorem sc_look_rising : FnScope N_look_rising_x ["things"] (defScope s_look_rising) := ⟨rfl, rfl, rfl, by decide +kernel, rfl, by decide +kernel, by decide +kernel⟩
set_option maxHeartbeats 4000000 in
theorem eb_look_rising (G : Gx c.κ mg) (K_BadText : MkX0 K mg c "BadText") (f : Addr) (cdv : Value) (A : Around) (outer : List PySem.Env) (s : Shared) (H : Hp) (E : XK) (hr : Room 0 (A.deeper (envOfC "look_rising" (defScope s_look_rising) s.heap.objs.size f cdv))) :
    EB (cxOf (L2.CX P w) P w K mg base N_look_rising_x "look_rising" (defScope s_look_rising) f cdv A outer s H E) c E (defBody s_look_rising) g_look_rising_x := by
  have hx : Passes (L2.CX P w) (cxOf (L2.CX P w) P w K mg base N_look_rising_x "look_rising" (defScope s_look_rising) f cdv A outer s H E) E := passes_call (takes_of rfl rfl rfl rfl) (fun _ _ _ _ z => z)
  exact (eb_one (es_for [1] (passes_of rfl) rfl (eys_of (ey_range2 rfl G.f_range (l_cons ev_int (l_cons (ev_len rfl G.f_len (l_cons (ev_var 0) l_nil)) l_nil)))) (eg_name 1 sc_look_rising.nd) (eb_one (es_if (et_not (et_ltG (hu64 hr) (ev_sub_ (ev_var 0) (ev_sub (ev_var 1) ev_int)) (ev_sub_ (ev_var 0) (ev_var 1)))) (eb_one (es_raise0 K_BadText rfl rfl (takes_of rfl rfl rfl rfl))) eb_nil))))
theorem ok_look_rising (G : Gx c.κ mg) (K_BadText : MkX0 K mg c "BadText") {f : Addr} {fd : FuncData} (F : FunD K "look_rising" "look_rising" (defArgs s_look_rising) (defBody s_look_rising) (defScope s_look_rising) [] [] f fd) : FnOk P w K mg base (L2.CX P w) 1 f fd ["things"] (SpD c 1 Ψ_look_rising_x) :=
  FnOk.eqv (Φ := Φ_look_rising_x) (fnd_ok F sc_look_rising fun cdv A outer s H E hr => eb_look_rising G K_BadText f cdv A outer s H E hr) ps_look_rising_x
theorem cal_look_rising (G : Gx c.κ mg) (K_BadText : MkX0 K mg c "BadText") {f : Addr} {fd : FuncData} (F : FunD K "look_rising" "look_rising" (defArgs s_look_rising) (defBody s_look_rising) (defScope s_look_rising) [] [] f fd) (hm : mg "look_rising" = some (.ref f)) : Cal P w K mg base c "look_rising" 1 1 Ψ_look_rising_x [] :=
  cal_mk (ps := ["things"]) F hm (ok_look_rising G K_BadText F) fun _ _ _ _ _ _ us hl => match us, hl with | [_], _ => rfl
theorem sc_look_sizes : FnScope N_look_sizes_x ["channel"] (defScope s_look_sizes) := ⟨rfl, rfl, rfl, by decide +kernel, rfl, by decide +kernel, by decide +kernel⟩
set_option maxHeartbeats 4000000 in
theorem eb_look_sizes (G : Gx c.κ mg) (K_BadText : MkX0 K mg c "BadText") (C_look_rising : Cal P w K mg base c "look_rising" 1 1 Ψ_look_rising_x []) (f : Addr) (cdv : Value) (A : Around) (outer : List PySem.Env) (s : Shared) (H : Hp) (E : XK) (hr : Room 1 (A.deeper (envOfC "look_sizes" (defScope s_look_sizes) s.heap.objs.size f cdv))) :
    EB (cxOf (L2.CX P w) P w K mg base N_look_sizes_x "look_sizes" (defScope s_look_sizes) f cdv A outer s H E) c E (defBody s_look_sizes) g_look_sizes_x := by
  have hx : Passes (L2.CX P w) (cxOf (L2.CX P w) P w K mg base N_look_sizes_x "look_sizes" (defScope s_look_sizes) f cdv A outer s H E) E := passes_call (takes_of rfl rfl rfl rfl) (fun _ _ _ _ z => z)
  exact (eb_cons (es_if (et_w (ew_or (et_not (et_chain op2_B0 op2_B0 op_le op_le ev_int (ev_len rfl G.f_len (l_cons (ev_fld ["Channel"] G.a_top (ev_var 0)) l_nil)) ev_int)) (ew_or1 (et_ne (hu64 hr) (ev_len rfl G.f_len (l_cons (ev_fld ["Channel"] G.a_bottom (ev_var 0)) l_nil)) (ev_len rfl G.f_len (l_cons (ev_fld ["Channel"] G.a_top (ev_var 0)) l_nil)))))) (eb_one (es_raise0 K_BadText rfl rfl (takes_of rfl rfl rfl rfl))) eb_nil) (eb_cons (es_expr (ev_callC C_look_rising (hr.mono (by decide)) rfl hx (l_cons (ev_fld ["Channel"] G.a_left (ev_var 0)) l_nil))) (eb_cons (es_expr (ev_callC C_look_rising (hr.mono (by decide)) rfl hx (l_cons (ev_fld ["Channel"] G.a_right (ev_var 0)) l_nil))) (eb_cons (es_expr (ev_callC C_look_rising (hr.mono (by decide)) rfl hx (l_cons (ev_lc (own := [("pair", 1)]) rfl sc_look_sizes.nd (ey_val (ev_fld ["Channel"] G.a_wide (ev_var 0))) (blkOk_by (own := [("pair", 1)]) (N := N_look_sizes_x) (sc := defScope s_look_sizes) (by decide +kernel)) (fun _ _ _ _ _ => (eg_nameC 1 sc_look_sizes.nd)) (fun _ _ _ _ _ => ets_nil) (fun _ _ _ _ _ => (ev_sub_ (ev_var 1) ev_int))) l_nil))) (eb_cons (es_expr (ev_callC C_look_rising (hr.mono (by decide)) rfl hx (l_cons (ev_lc (own := [("pair", 1)]) rfl sc_look_sizes.nd (ey_val (ev_fld ["Channel"] G.a_bends (ev_var 0))) (blkOk_by (own := [("pair", 1)]) (N := N_look_sizes_x) (sc := defScope s_look_sizes) (by decide +kernel)) (fun _ _ _ _ _ => (eg_nameC 1 sc_look_sizes.nd)) (fun _ _ _ _ _ => ets_nil) (fun _ _ _ _ _ => (ev_sub_ (ev_var 1) ev_int))) l_nil))) (eb_cons (es_for [1] (passes_of rfl) rfl (eys_of (ey_val (ev_fld ["Channel"] G.a_wide (ev_var 0)))) (eg_name 1 sc_look_sizes.nd) (eb_one (es_if (et_in0 (ev_sub_ (ev_var 1) ev_int) (ev_tup (l_cons ev_int (l_cons ev_int l_nil)))) (eb_one (es_raise0 K_BadText rfl rfl (takes_of rfl rfl rfl rfl))) eb_nil))) (eb_cons (es_set 2 (ev_add (ev_add (ev_add (ev_fld ["Channel"] G.a_left (ev_var 0)) (ev_fld ["Channel"] G.a_right (ev_var 0))) (ev_lc (own := [("pair", 1)]) rfl sc_look_sizes.nd (ey_val (ev_fld ["Channel"] G.a_wide (ev_var 0))) (blkOk_by (own := [("pair", 1)]) (N := N_look_sizes_x) (sc := defScope s_look_sizes) (by decide +kernel)) (fun _ _ _ _ _ => (eg_nameC 1 sc_look_sizes.nd)) (fun _ _ _ _ _ => ets_nil) (fun _ _ _ _ _ => (ev_sub_ (ev_var 1) ev_int)))) (ev_lc (own := [("pair", 1)]) rfl sc_look_sizes.nd (ey_val (ev_fld ["Channel"] G.a_bends (ev_var 0))) (blkOk_by (own := [("pair", 1)]) (N := N_look_sizes_x) (sc := defScope s_look_sizes) (by decide +kernel)) (fun _ _ _ _ _ => (eg_nameC 1 sc_look_sizes.nd)) (fun _ _ _ _ _ => ets_nil) (fun _ _ _ _ _ => (ev_sub_ (ev_var 1) ev_int)))) sc_look_sizes.nd) (eb_cons (es_set 2 (ev_add (ev_var 2) (ev_lc (own := [("name", 3)]) rfl sc_look_sizes.nd (ey_val (ev_add (ev_fld ["Channel"] G.a_top (ev_var 0)) (ev_fld ["Channel"] G.a_bottom (ev_var 0)))) (blkOk_by (own := [("name", 3)]) (N := N_look_sizes_x) (sc := defScope s_look_sizes) (by decide +kernel)) (fun _ _ _ _ _ => (eg_nameC 3 sc_look_sizes.nd)) (fun _ _ _ _ _ => (ets_one (et_notN (ev_var 3)))) (fun _ _ _ _ _ => (ev_var 3)))) sc_look_sizes.nd) (eb_one (es_if (et_w (ew_or (et_gt (ev_len rfl G.f_len (l_cons (ev_fld ["Channel"] G.a_keeps (ev_var 0)) l_nil)) ev_int) (ew_or1 (et_gt (ev_lenSetS rfl rfl G.f_len rfl G.f_set (ev_var 2)) ev_int)))) (eb_one (es_raise0 K_BadText rfl rfl (takes_of rfl rfl rfl rfl))) eb_nil))))))))))
theorem ok_look_sizes (G : Gx c.κ mg) (K_BadText : MkX0 K mg c "BadText") (C_look_rising : Cal P w K mg base c "look_rising" 1 1 Ψ_look_rising_x []) {f : Addr} {fd : FuncData} (F : FunD K "look_sizes" "look_sizes" (defArgs s_look_sizes) (defBody s_look_sizes) (defScope s_look_sizes) [] [] f fd) : FnOk P w K mg base (L2.CX P w) 2 f fd ["channel"] (SpD c 1 Ψ_look_sizes_x) :=
  FnOk.eqv (Φ := Φ_look_sizes_x) (fnd_ok F sc_look_sizes fun cdv A outer s H E hr => eb_look_sizes G K_BadText C_look_rising f cdv A outer s H E hr) ps_look_sizes_x
theorem cal_look_sizes (G : Gx c.κ mg) (K_BadText : MkX0 K mg c "BadText") (C_look_rising : Cal P w K mg base c "look_rising" 1 1 Ψ_look_rising_x []) {f : Addr} {fd : FuncData} (F : FunD K "look_sizes" "look_sizes" (defArgs s_look_sizes) (defBody s_look_sizes) (defScope s_look_sizes) [] [] f fd) (hm : mg "look_sizes" = some (.ref f)) : Cal P w K mg base c "look_sizes" 2 1 Ψ_look_sizes_x [] :=
  cal_mk (ps := ["channel"]) F hm (ok_look_sizes G K_BadText C_look_rising F) fun _ _ _ _ _ _ us hl => match us, hl with | [_], _ => rfl
theorem sc_read_channel : FnScope N_read_channel_x ["text"] (defScope s_read_channel) := ⟨rfl, rfl, rfl, by decide +kernel, rfl, by decide +kernel, by decide +kernel⟩
set_option maxHeartbeats 4000000 in
theorem eb_read_channel (G : Gx c.κ mg) (K_Channel : MkC P w K mg base c.κ "Channel" ["top", "bottom", "left", "right", "wide", "bends", "keeps"]) (K_BadText : MkX0 K mg c "BadText") (C_look_sizes : Cal P w K mg base c "look_sizes" 2 1 Ψ_look_sizes_x []) (C_name_read : Cal P w K mg base c "name_read" 2 1 Ψ_name_read_x []) (C_number_read : Cal P w K mg base c "number_read" 1 1 Ψ_number_read_x []) (C_pins_read : Cal P w K mg base c "pins_read" 3 1 Ψ_pins_read_x []) (C_Rows_several : CalM P w K mg base c "Rows" "several" 3 3 Ψ_Rows_several_x) (C_Rows_taken : CalM P w K mg base c "Rows" "taken" 2 2 Ψ_Rows_taken_x) (C_Rows_head : CalR P w K mg base c "Rows" "head" 1 Ψ_Rows_head) (K_Rows : MkIO P w K mg base c "Rows" 1 2 Ψ_Rows_init) (f : Addr) (cdv : Value) (A : Around) (outer : List PySem.Env) (s : Shared) (H : Hp) (E : XK) (hr : Room 3 (A.deeper (envOfC "read_channel" (defScope s_read_channel) s.heap.objs.size f cdv))) :
    EB (cxOf (L2.CX P w) P w K mg base N_read_channel_x "read_channel" (defScope s_read_channel) f cdv A outer s H E) c E (defBody s_read_channel) g_read_channel_x := by
  have hx : Passes (L2.CX P w) (cxOf (L2.CX P w) P w K mg base N_read_channel_x "read_channel" (defScope s_read_channel) f cdv A outer s H E) E := passes_call (takes_of rfl rfl rfl rfl) (fun _ _ _ _ z => z)
  exact (eb_cons (es_set 1 (ev_makeIO K_Rows (hr.mono (by decide)) (by rfl) hx (l_cons (ev_var 0) l_nil)) sc_read_channel.nd) (eb_cons (es_setS 2 (ev_callS C_pins_read (hr.mono (by decide)) (by rfl) hx (ev_ioM C_Rows_taken (hr.mono (by decide)) hx 1 (l_cons ev_str l_nil))) sc_read_channel.nd) (eb_cons (es_setS 3 (ev_callS C_pins_read (hr.mono (by decide)) (by rfl) hx (ev_ioM C_Rows_taken (hr.mono (by decide)) hx 1 (l_cons ev_str l_nil))) sc_read_channel.nd) (eb_cons (es_lcS 4 [("word", 11)] rfl sc_read_channel.nd rfl (sw_true rfl rfl rfl (by decide +kernel)) (ev_ioM C_Rows_taken (hr.mono (by decide)) hx 1 (l_cons ev_str l_nil)) (blkOk_by (own := [("word", 11)]) (N := N_read_channel_x) (sc := defScope s_read_channel) (by decide +kernel)) (fun _ _ _ _ _ => (eg_nameC 11 sc_read_channel.nd)) (fun _ _ _ _ _ => ets_nil) (fun _ _ _ _ _ => (ev_callC C_name_read (hr.mono (by decide)) rfl passL (l_cons (ev_var 11) l_nil)))) (eb_cons (es_lcS 5 [("word", 11)] rfl sc_read_channel.nd rfl (sw_true rfl rfl rfl (by decide +kernel)) (ev_ioM C_Rows_taken (hr.mono (by decide)) hx 1 (l_cons ev_str l_nil)) (blkOk_by (own := [("word", 11)]) (N := N_read_channel_x) (sc := defScope s_read_channel) (by decide +kernel)) (fun _ _ _ _ _ => (eg_nameC 11 sc_read_channel.nd)) (fun _ _ _ _ _ => ets_nil) (fun _ _ _ _ _ => (ev_callC C_name_read (hr.mono (by decide)) rfl passL (l_cons (ev_var 11) l_nil)))) (eb_cons (es_lcS 6 [("row", 9)] rfl sc_read_channel.nd rfl (sw_true rfl rfl rfl (by decide +kernel)) (ev_ioM C_Rows_several (hr.mono (by decide)) hx 1 (l_cons ev_str (l_cons ev_int l_nil))) (blkOk_by (own := [("row", 9)]) (N := N_read_channel_x) (sc := defScope s_read_channel) (by decide +kernel)) (fun _ _ _ _ _ => (eg_nameC 9 sc_read_channel.nd)) (fun _ _ _ _ _ => ets_nil) (fun _ _ _ _ _ => (ev_tup (l_cons (ev_callC C_name_read (hr.mono (by decide)) rfl passL (l_cons (ev_sub_ (ev_var 9) ev_int) l_nil)) (l_cons (ev_callC C_number_read (hr.mono (by decide)) rfl passL (l_cons (ev_sub_ (ev_var 9) ev_int) l_nil)) l_nil))))) (eb_cons (es_lcS 7 [("row", 9)] rfl sc_read_channel.nd rfl (sw_true rfl rfl rfl (by decide +kernel)) (ev_ioM C_Rows_several (hr.mono (by decide)) hx 1 (l_cons ev_str (l_cons ev_int l_nil))) (blkOk_by (own := [("row", 9)]) (N := N_read_channel_x) (sc := defScope s_read_channel) (by decide +kernel)) (fun _ _ _ _ _ => (eg_nameC 9 sc_read_channel.nd)) (fun _ _ _ _ _ => ets_nil) (fun _ _ _ _ _ => (ev_tup (l_cons (ev_callC C_number_read (hr.mono (by decide)) rfl passL (l_cons (ev_sub_ (ev_var 9) ev_int) l_nil)) (l_cons (ev_callC C_name_read (hr.mono (by decide)) rfl passL (l_cons (ev_sub_ (ev_var 9) ev_int) l_nil)) l_nil))))) (eb_cons (es_set 8 (ev_lst l_nil) sc_read_channel.nd) (eb_cons (es_forS [9] (passes_of rfl) rfl (ev_ioM C_Rows_several (hr.mono (by decide)) hx 1 (l_cons ev_str (l_cons ev_int l_nil))) (eg_name 9 sc_read_channel.nd) (eb_one (es_app 8 (ev_tup (l_cons (ev_callC C_number_read (hr.mono (by decide)) rfl hx (l_cons (ev_sub_ (ev_var 9) ev_int) l_nil)) (l_cons (ev_callC C_number_read (hr.mono (by decide)) rfl hx (l_cons (ev_sub_ (ev_var 9) ev_int) l_nil)) (l_cons (ev_callC C_number_read (hr.mono (by decide)) rfl hx (l_cons (ev_sub_ (ev_var 9) ev_int) l_nil)) l_nil))))))) (eb_cons (es_if (et_ne (hu64 hr) (ev_mrd0 C_Rows_head (hr.mono (by decide)) hx 1) ev_str) (eb_one (es_raise0 K_BadText rfl rfl (takes_of rfl rfl rfl rfl))) eb_nil) (eb_cons (es_frz 8 (es_frz 7 (es_frz 6 (es_frz 5 (es_frz 4 (es_frz 3 (es_frz 2 (es_set 10 (ev_make K_Channel (hr.mono (by decide)) rfl hx (l_cons (ev_var 2) (l_cons (ev_var 3) (l_cons (ev_var 4) (l_cons (ev_var 5) (l_cons (ev_var 6) (l_cons (ev_var 7) (l_cons (ev_var 8) l_nil)))))))) sc_read_channel.nd)))))))) (eb_cons (es_expr (ev_callC C_look_sizes (hr.mono (by decide)) rfl hx (l_cons (ev_var 10) l_nil))) (eb_one (es_retV 10))))))))))))))
theorem ok_read_channel (G : Gx c.κ mg) (K_Channel : MkC P w K mg base c.κ "Channel" ["top", "bottom", "left", "right", "wide", "bends", "keeps"]) (K_BadText : MkX0 K mg c "BadText") (C_look_sizes : Cal P w K mg base c "look_sizes" 2 1 Ψ_look_sizes_x []) (C_name_read : Cal P w K mg base c "name_read" 2 1 Ψ_name_read_x []) (C_number_read : Cal P w K mg base c "number_read" 1 1 Ψ_number_read_x []) (C_pins_read : Cal P w K mg base c "pins_read" 3 1 Ψ_pins_read_x []) (C_Rows_several : CalM P w K mg base c "Rows" "several" 3 3 Ψ_Rows_several_x) (C_Rows_taken : CalM P w K mg base c "Rows" "taken" 2 2 Ψ_Rows_taken_x) (C_Rows_head : CalR P w K mg base c "Rows" "head" 1 Ψ_Rows_head) (K_Rows : MkIO P w K mg base c "Rows" 1 2 Ψ_Rows_init) {f : Addr} {fd : FuncData} (F : FunD K "read_channel" "read_channel" (defArgs s_read_channel) (defBody s_read_channel) (defScope s_read_channel) [] [] f fd) : FnOk P w K mg base (L2.CX P w) 4 f fd ["text"] (SpD c 1 Ψ_read_channel_x) :=
  FnOk.eqv (Φ := Φ_read_channel_x) (fnd_ok F sc_read_channel fun cdv A outer s H E hr => eb_read_channel G K_Channel K_BadText C_look_sizes C_name_read C_number_read C_pins_read C_Rows_several C_Rows_taken C_Rows_head K_Rows f cdv A outer s H E hr) ps_read_channel_x
theorem cal_read_channel (G : Gx c.κ mg) (K_Channel : MkC P w K mg base c.κ "Channel" ["top", "bottom", "left", "right", "wide", "bends", "keeps"]) (K_BadText : MkX0 K mg c "BadText") (C_look_sizes : Cal P w K mg base c "look_sizes" 2 1 Ψ_look_sizes_x []) (C_name_read : Cal P w K mg base c "name_read" 2 1 Ψ_name_read_x []) (C_number_read : Cal P w K mg base c "number_read" 1 1 Ψ_number_read_x []) (C_pins_read : Cal P w K mg base c "pins_read" 3 1 Ψ_pins_read_x []) (C_Rows_several : CalM P w K mg base c "Rows" "several" 3 3 Ψ_Rows_several_x) (C_Rows_taken : CalM P w K mg base c "Rows" "taken" 2 2 Ψ_Rows_taken_x) (C_Rows_head : CalR P w K mg base c "Rows" "head" 1 Ψ_Rows_head) (K_Rows : MkIO P w K mg base c "Rows" 1 2 Ψ_Rows_init) {f : Addr} {fd : FuncData} (F : FunD K "read_channel" "read_channel" (defArgs s_read_channel) (defBody s_read_channel) (defScope s_read_channel) [] [] f fd) (hm : mg "read_channel" = some (.ref f)) : Cal P w K mg base c "read_channel" 4 1 Ψ_read_channel_x [] :=
  cal_mk (ps := ["text"]) F hm (ok_read_channel G K_Channel K_BadText C_look_sizes C_name_read C_number_read C_pins_read C_Rows_several C_Rows_taken C_Rows_head K_Rows F) fun _ _ _ _ _ _ us hl => match us, hl with | [_], _ => rfl
theorem sc__law_mix : FnScope N__law_mix ["_law_cell", "_law_k"] (defScope s__law_mix) := ⟨rfl, rfl, rfl, by decide +kernel, rfl, by decide +kernel, by decide +kernel⟩
set_option maxHeartbeats 4000000 in
theorem eb__law_mix (G : Gx c.κ mg) (f : Addr) (cdv : Value) (A : Around) (outer : List PySem.Env) (s : Shared) (H : Hp) (E : XK) (hr : Room 0 (A.deeper (envOfC "_law_mix" (defScope s__law_mix) s.heap.objs.size f cdv))) :
    EB (cxOf (L2.CX P w) P w K mg base N__law_mix "_law_mix" (defScope s__law_mix) f cdv A outer s H E) c E (defBody s__law_mix) g__law_mix := by
  have hx : Passes (L2.CX P w) (cxOf (L2.CX P w) P w K mg base N__law_mix "_law_mix" (defScope s__law_mix) f cdv A outer s H E) E := passes_call (takes_of rfl rfl rfl rfl) (fun _ _ _ _ z => z)
  exact (eb_one (es_ret (ev_div (ev_mod (ev_add (ev_add (ev_mul (ev_mod (ev_var 0) (ev_pow ev_int ev_int)) (ev_add (ev_mul (ev_var 1) (ev_var 1)) ev_int)) (ev_mul (ev_mul (ev_mul ev_int (ev_var 1)) (ev_var 1)) (ev_var 1))) ev_int) ev_int) ev_int)))
theorem ok__law_mix (G : Gx c.κ mg) {f : Addr} {fd : FuncData} (F : FunD K "_law_mix" "_law_mix" (defArgs s__law_mix) (defBody s__law_mix) (defScope s__law_mix) [] [] f fd) : FnOk P w K mg base (L2.CX P w) 1 f fd ["_law_cell", "_law_k"] (SpD c 2 Φ__law_mix) :=
  fnd_ok F sc__law_mix fun cdv A outer s H E hr => eb__law_mix G  f cdv A outer s H E hr
theorem cal__law_mix (G : Gx c.κ mg) {f : Addr} {fd : FuncData} (F : FunD K "_law_mix" "_law_mix" (defArgs s__law_mix) (defBody s__law_mix) (defScope s__law_mix) [] [] f fd) (hm : mg "_law_mix" = some (.ref f)) : Cal P w K mg base c "_law_mix" 1 2 Φ__law_mix [] :=
  cal_mk (ps := ["_law_cell", "_law_k"]) F hm (ok__law_mix G  F) fun _ _ _ _ _ _ us hl => match us, hl with | [_, _], _ => rfl
theorem sc__law_word : FnScope N__law_word ["_law_k", "_law_seed"] (defScope s__law_word) := ⟨rfl, rfl, rfl, by decide +kernel, rfl, by decide +kernel, by decide +kernel⟩
set_option maxHeartbeats 4000000 in
theorem eb__law_word (G : Gx c.κ mg) (f : Addr) (cdv : Value) (A : Around) (outer : List PySem.Env) (s : Shared) (H : Hp) (E : XK) (hr : Room 0 (A.deeper (envOfC "_law_word" (defScope s__law_word) s.heap.objs.size f cdv))) :
    EB (cxOf (L2.CX P w) P w K mg base N__law_word "_law_word" (defScope s__law_word) f cdv A outer s H E) c E (defBody s__law_word) g__law_word := by
  have hx : Passes (L2.CX P w) (cxOf (L2.CX P w) P w K mg base N__law_word "_law_word" (defScope s__law_word) f cdv A outer s H E) E := passes_call (takes_of rfl rfl rfl rfl) (fun _ _ _ _ z => z)
  exact (eb_cons (es_set 2 ev_str sc__law_word.nd) (eb_cons (es_set 3 (ev_add (ev_sub_ (ev_var 2) (ev_mod (ev_var 1) ev_int)) (ev_sub_ (ev_var 2) (ev_mod (ev_div (ev_var 1) ev_int) ev_int))) sc__law_word.nd) (eb_cons (es_set 4 (ev_mod (ev_div (ev_var 1) ev_int) ev_int) sc__law_word.nd) (eb_one (es_ret (ev_add (ev_add (ev_slice (ev_var 3) eo_none (eo_some (ev_var 4))) (ev_sub_ (ev_var 2) (ev_mod (ev_add (ev_var 0) (ev_div (ev_var 1) ev_int)) ev_int))) (ev_slice (ev_var 3) (eo_some (ev_var 4)) eo_none)))))))
theorem ok__law_word (G : Gx c.κ mg) {f : Addr} {fd : FuncData} (F : FunD K "_law_word" "_law_word" (defArgs s__law_word) (defBody s__law_word) (defScope s__law_word) [] [] f fd) : FnOk P w K mg base (L2.CX P w) 1 f fd ["_law_k", "_law_seed"] (SpD c 2 Ψ__law_word) :=
  FnOk.eqv (Φ := Φ__law_word) (fnd_ok F sc__law_word fun cdv A outer s H E hr => eb__law_word G  f cdv A outer s H E hr) ps__law_word
theorem cal__law_word (G : Gx c.κ mg) {f : Addr} {fd : FuncData} (F : FunD K "_law_word" "_law_word" (defArgs s__law_word) (defBody s__law_word) (defScope s__law_word) [] [] f fd) (hm : mg "_law_word" = some (.ref f)) : Cal P w K mg base c "_law_word" 1 2 Ψ__law_word [] :=
  cal_mk (ps := ["_law_k", "_law_seed"]) F hm (ok__law_word G  F) fun _ _ _ _ _ _ us hl => match us, hl with | [_, _], _ => rfl
theorem sc__law_line : FnScope N__law_line ["_law_head", "_law_words"] (defScope s__law_line) := ⟨rfl, rfl, rfl, by decide +kernel, rfl, by decide +kernel, by decide +kernel⟩
set_option maxHeartbeats 4000000 in
theorem eb__law_line (G : Gx c.κ mg) (f : Addr) (cdv : Value) (A : Around) (outer : List PySem.Env) (s : Shared) (H : Hp) (E : XK) (hr : Room 0 (A.deeper (envOfC "_law_line" (defScope s__law_line) s.heap.objs.size f cdv))) :
    EB (cxOf (L2.CX P w) P w K mg base N__law_line "_law_line" (defScope s__law_line) f cdv A outer s H E) c E (defBody s__law_line) g__law_line := by
  have hx : Passes (L2.CX P w) (cxOf (L2.CX P w) P w K mg base N__law_line "_law_line" (defScope s__law_line) f cdv A outer s H E) E := passes_call (takes_of rfl rfl rfl rfl) (fun _ _ _ _ z => z)
  exact (eb_one (es_ret (ev_add (ev_join (ev_add (ev_lst (l_cons (ev_var 0) l_nil)) (ev_var 1))) ev_str)))
theorem ok__law_line (G : Gx c.κ mg) {f : Addr} {fd : FuncData} (F : FunD K "_law_line" "_law_line" (defArgs s__law_line) (defBody s__law_line) (defScope s__law_line) [] [] f fd) : FnOk P w K mg base (L2.CX P w) 1 f fd ["_law_head", "_law_words"] (SpD c 2 Ψ__law_line) :=
  FnOk.eqv (Φ := Φ__law_line) (fnd_ok F sc__law_line fun cdv A outer s H E hr => eb__law_line G  f cdv A outer s H E hr) ps__law_line
theorem cal__law_line (G : Gx c.κ mg) {f : Addr} {fd : FuncData} (F : FunD K "_law_line" "_law_line" (defArgs s__law_line) (defBody s__law_line) (defScope s__law_line) [] [] f fd) (hm : mg "_law_line" = some (.ref f)) : Cal P w K mg base c "_law_line" 1 2 Ψ__law_line [] :=
  cal_mk (ps := ["_law_head", "_law_words"]) F hm (ok__law_line G  F) fun _ _ _ _ _ _ us hl => match us, hl with | [_, _], _ => rfl
theorem sc_law : FnScope N_law_k05 ["_law_script"] (defScope s_law) := ⟨rfl, rfl, rfl, by decide +kernel, rfl, by decide +kernel, by decide +kernel⟩
set_option maxHeartbeats 4000000 in
theorem eb_law (G : Gx c.κ mg) (K_BadText : MkX0 K mg c "BadText") (C__law_line : Cal P w K mg base c "_law_line" 1 2 Ψ__law_line []) (C__law_mix : Cal P w K mg base c "_law_mix" 1 2 Φ__law_mix []) (C__law_word : Cal P w K mg base c "_law_word" 1 2 Ψ__law_word []) (C_read_channel : Cal P w K mg base c "read_channel" 4 1 Ψ_read_channel_x []) (f : Addr) (cdv : Value) (A : Around) (outer : List PySem.Env) (s : Shared) (H : Hp) (E : XK) (hr : Room 4 (A.deeper (envOfC "law" (defScope s_law) s.heap.objs.size f cdv))) :
    EB (cxOf (L2.CX P w) P w K mg base N_law_k05 "law" (defScope s_law) f cdv A outer s H E) c E (defBody s_law) g_law_k05 := by
  have hx : Passes (L2.CX P w) (cxOf (L2.CX P w) P w K mg base N_law_k05 "law" (defScope s_law) f cdv A outer s H E) E := passes_call (takes_of rfl rfl rfl rfl) (fun _ _ _ _ z => z)
  exact (eb_cons (es_set 1 (ev_mod (ev_mul (ev_add (ev_mod (ev_sum rfl rfl G.f_sum (l_cons (ev_slice (ev_var 0) eo_none (eo_some ev_int)) l_nil)) (ev_pow ev_int ev_int)) ev_int) ev_int) ev_int) sc_law.nd) (eb_cons (es_set 2 (ev_callC C__law_mix (hr.mono (by decide)) rfl hx (l_cons (ev_sum rfl rfl G.f_sum (l_cons (ev_slice (ev_var 0) (eo_some ev_int) (eo_some ev_int)) l_nil)) (l_cons ev_int l_nil))) sc_law.nd) (eb_cons (es_set 3 (ev_sub_ (ev_lst (l_cons (ev_mod (ev_div (ev_var 2) ev_int) ev_int) (l_cons (ev_add ev_int (ev_mod (ev_div (ev_var 2) ev_int) ev_int)) (l_cons (ev_mod (ev_div (ev_var 2) ev_int) ev_int) l_nil)))) (ev_mod (ev_var 2) ev_int)) sc_law.nd) (eb_cons (es_set 4 (ev_add (ev_var 3) (ev_sub_ (ev_lst (l_cons ev_int (l_cons ev_int (l_cons ev_int (l_cons ev_int (l_cons (ev_neg ev_int) l_nil)))))) (ev_mod (ev_div (ev_var 2) ev_int) ev_int))) sc_law.nd) (eb_cons (es_set 5 (ev_callC C__law_mix (hr.mono (by decide)) rfl hx (l_cons (ev_sum rfl rfl G.f_sum (l_cons (ev_slice (ev_var 0) (eo_some ev_int) (eo_some ev_int)) l_nil)) (l_cons ev_int l_nil))) sc_law.nd) (eb_cons (es_set 6 (ev_sub_ (ev_lst (l_cons (ev_add ev_int (ev_mod (ev_div (ev_var 5) ev_int) ev_int)) (l_cons (ev_add ev_int (ev_mod (ev_div (ev_var 5) ev_int) ev_int)) l_nil))) (ev_mod (ev_var 5) ev_int)) sc_law.nd) (eb_cons (es_set 7 (ev_sub_ (ev_lst (l_cons (ev_mod (ev_div (ev_var 5) ev_int) ev_int) (l_cons (ev_add ev_int (ev_mod (ev_div (ev_var 5) ev_int) ev_int)) l_nil))) (ev_mod (ev_div (ev_var 5) ev_int) ev_int)) sc_law.nd) (eb_cons (es_set 8 (ev_lc (own := [("_law_k", 18)]) rfl sc_law.nd (ey_range1 rfl G.f_range (l_cons (ev_var 6) l_nil)) (blkOk_by (own := [("_law_k", 18)]) (N := N_law_k05) (sc := defScope s_law) (by decide +kernel)) (fun _ _ _ _ _ => (eg_nameC 18 sc_law.nd)) (fun _ _ _ _ _ => ets_nil) (fun _ _ _ _ _ => (ev_callC C__law_word (hr.mono (by decide)) rfl passL (l_cons (ev_var 18) (l_cons (ev_var 1) l_nil))))) sc_law.nd) (eb_cons (es_lc 9 (own := [("_law_k", 18)]) rfl sc_law.nd rfl (sw_true rfl rfl rfl (by decide +kernel)) (ey_range1 rfl G.f_range (l_cons (ev_var 3) l_nil)) (blkOk_by (own := [("_law_k", 18)]) (N := N_law_k05) (sc := defScope s_law) (by decide +kernel)) (fun _ _ _ _ _ => (eg_nameC 18 sc_law.nd)) (fun _ _ _ _ _ => ets_nil) (fun _ _ _ _ _ => (ev_if (et_lt (ev_var 18) (ev_var 6)) (ev_sub_ (ev_var 8) (ev_var 18)) ev_str))) (eb_cons (es_set 10 (ev_slice (ev_var 8) (eo_some (ev_var 3)) eo_none) sc_law.nd) (eb_cons (es_set 11 (ev_lst l_nil) sc_law.nd) (eb_cons (es_set 12 (ev_lst l_nil) sc_law.nd) (eb_cons (es_if (et_eq (hu64 hr) (ev_mod (ev_div (ev_var 2) ev_int) ev_int) ev_int) (eb_one (es_par3 10 11 12 rfl sc_law.nd (l_cons (ev_stp (by decide) (ev_var 10)) (l_cons (ev_stp (by decide) (ev_var 10)) (l_cons (ev_stp (by decide) (ev_var 10)) l_nil))) (by decide) (by decide) (by decide) rfl rfl rfl rfl)) eb_nil) (eb_cons (es_set 13 (ev_slice (ev_var 8) eo_none (eo_some (ev_mod (ev_div (ev_var 2) ev_int) ev_int))) sc_law.nd) (eb_cons (es_frz 9 (es_set 14 (ev_add (ev_callC C__law_line (hr.mono (by decide)) rfl hx (l_cons ev_str (l_cons (ev_var 9) l_nil))) (ev_callC C__law_line (hr.mono (by decide)) rfl hx (l_cons ev_str (l_cons (ev_mul (ev_lst (l_cons ev_str l_nil)) (ev_max rfl rfl G.f_max (l_cons ev_int (l_cons (ev_var 4) l_nil)))) l_nil)))) sc_law.nd)) (eb_cons (es_set 14 (ev_add (ev_add (ev_var 14) (ev_callC C__law_line (hr.mono (by decide)) rfl hx (l_cons ev_str (l_cons (ev_sorted (hu64 hr) rfl G.f_sorted (l_cons (ev_var 10) l_nil)) l_nil)))) (ev_callC C__law_line (hr.mono (by decide)) rfl hx (l_cons ev_str (l_cons (ev_sorted (hu64 hr) rfl G.f_sorted (l_cons (ev_var 13) l_nil)) l_nil)))) sc_law.nd) (eb_cons (es_set 14 (ev_add (ev_var 14) (ev_join (ev_lc (own := [("_law_name", 19)]) rfl sc_law.nd (ey_val (ev_sorted (hu64 hr) rfl G.f_sorted (l_cons (ev_var 11) l_nil))) (blkOk_by (own := [("_law_name", 19)]) (N := N_law_k05) (sc := defScope s_law) (by decide +kernel)) (fun _ _ _ _ _ => (eg_nameC 19 sc_law.nd)) (fun _ _ _ _ _ => ets_nil) (fun _ _ _ _ _ => (ev_add (ev_add ev_str (ev_var 19)) ev_str))))) sc_law.nd) (eb_cons (es_frz 12 (es_set 14 (ev_add (ev_var 14) (ev_join (ev_lc (own := [("_law_k", 18), ("_law_name", 19)]) rfl sc_law.nd (ey_enum rfl G.f_enumerate (l_cons (ev_var 12) l_nil)) (blkOk_by (own := [("_law_k", 18), ("_law_name", 19)]) (N := N_law_k05) (sc := defScope s_law) (by decide +kernel)) (fun _ _ _ _ _ => (eg_tup rfl (egs_consC (eg_nameC 18 sc_law.nd) (egs_consC (eg_nameC 19 sc_law.nd) egs_nil)))) (fun _ _ _ _ _ => ets_nil) (fun _ _ _ _ _ => (ev_add (ev_add (ev_add (ev_add ev_str (ev_strI rfl G.f_str (ev_var 18))) ev_str) (ev_var 19)) ev_str))))) sc_law.nd)) (eb_cons (es_set 14 (ev_add (ev_var 14) (ev_mulT ev_str (ev_var 7))) sc_law.nd) (eb_cons (es_set 15 (ev_and (ev_chain op2_B0 op2_B0 op_le op_le ev_int (ev_var 3) ev_int) (ev_and (ev_eq (hu64 hr) (ev_var 4) (ev_var 3)) (ev_and (ev_le (ev_var 6) ev_int) (ev_one (ev_le (ev_var 7) ev_int))))) sc_law.nd) (eb_cons (es_set 16 ev_non sc_law.nd) (eb_cons (es_set 17 ev_bl sc_law.nd) (eb_cons (es_frz 14 (es_tryN rfl rfl ⟨rfl, by decide, .inl G.g_BadText⟩ (takes_of rfl rfl rfl rfl) K_BadText.xr (body_set (i := 16) (by exact ew_call C_read_channel (hr.mono (by decide)) (by rfl) (fun E pn xe => (l_cons (ev_var 14) l_nil))) sc_law.nd) (fun _ _ _ => (eb_one (es_set 17 ev_bl sc_law.nd))) nox_set (by intro q hq; simp only [List.mem_cons, List.not_mem_nil, or_false] at hq; rcases hq with rfl <;> first | exact G.x_0))) (eb_cons (es_if (et_w (ew_or (et_tru (ev_var 17)) (ew_or1 (et_not (et_tru (ev_var 15)))))) (eb_one (es_ret (ev_and (ev_var 17) (ev_one (ev_not (ev_var 15)))))) eb_nil) (eb_one (es_ret (ev_eq (hu64 hr) (ev_lst (l_cons (ev_len rfl G.f_len (l_cons (ev_fld ["Channel"] G.a_top (ev_var 16)) l_nil)) (l_cons (ev_len rfl G.f_len (l_cons (ev_fld ["Channel"] G.a_bottom (ev_var 16)) l_nil)) (l_cons (ev_len rfl G.f_len (l_cons (ev_fld ["Channel"] G.a_keeps (ev_var 16)) l_nil)) l_nil)))) (ev_lst (l_cons (ev_var 3) (l_cons (ev_var 3) (l_cons (ev_var 7) l_nil)))))))))))))))))))))))))))))))
theorem ok_law (G : Gx c.κ mg) (K_BadText : MkX0 K mg c "BadText") (C__law_line : Cal P w K mg base c "_law_line" 1 2 Ψ__law_line []) (C__law_mix : Cal P w K mg base c "_law_mix" 1 2 Φ__law_mix []) (C__law_word : Cal P w K mg base c "_law_word" 1 2 Ψ__law_word []) (C_read_channel : Cal P w K mg base c "read_channel" 4 1 Ψ_read_channel_x []) {f : Addr} {fd : FuncData} (F : FunD K "law" "law" (defArgs s_law) (defBody s_law) (defScope s_law) [] [] f fd) : FnOk P w K mg base (L2.CX P w) 5 f fd ["_law_script"] (SpD c 1 Ψ_law_k05) :=
  FnOk.eqv (Φ := Φ_law_k05) (fnd_ok F sc_law fun cdv A outer s H E hr => eb_law G K_BadText C__law_line C__law_mix C__law_word C_read_channel f cdv A outer s H E hr) ps_law_k05
end
end Gk05
end
section
set_option maxHeartbeats 8000000
namespace Gk05
open PySem PySem.Spec PyProof.Rows L2 PV Gw
def c0 (K : PySem.W.Frag) : Cfg K := ⟨⟨fun x => He.ga K x, tn.map fun p => ((He.cT K p.1).2, p.2), []⟩, xrC (M := K) ⟨fun x => He.ga K x, tn.map fun p => ((He.cT K p.1).2, p.2), []⟩, fun h q => xrC_mono (M := K) h q⟩
theorem facts {P : Program} {w : World} {K : PySem.W.Frag} {h : Heap} {mg : Str → Option Value} {f : Addr} (X : K.In h) (GN : h.Ns mainGlobals mg) (hfa : mg ("law" : Str) = some (.ref f)) (cc : He.SaysD fa fn K) (mr : ex K = true) :
    ∃ fd : FuncData, (∀ (s : Shared) (v : Value), BindsTo s fd ⟨[v], []⟩ [("_law_script", v)]) ∧ ∀ base : Heap, K.In base → base.Ns mainGlobals mg → (∀ p ∈ tf.map (He.cT K), LamX.TabB base mg p.1 p.2) → FnOk P w K mg base (L2.CX P w) 5 f fd ["_law_script"] (SpD (c0 K) 1 Ψ_law_k05) := by
  obtain ⟨_, mr⟩ := mr_cons mr
  obtain ⟨e0, mr⟩ := mr_cons mr
  obtain ⟨e1, mr⟩ := mr_cons mr
  obtain ⟨e2, mr⟩ := mr_cons mr
  have G : Gx (c0 K).κ mg := ⟨(.cons (He.cls_ok (cc.fact 19 (f := .cls "Channel") rfl)) (He.noat_ok (cc.fact 25 (f := .noat "Channel" "bends") rfl)) ClsOk.nil), (.cons (He.cls_ok (cc.fact 19 (f := .cls "Channel") rfl)) (He.noat_ok (cc.fact 21 (f := .noat "Channel" "bottom") rfl)) ClsOk.nil), (.cons (He.cls_ok (cc.fact 13 (f := .cls "Rows") rfl)) (He.noat_ok (cc.fact 28 (f := .noat "Rows" "front") rfl)) ClsOk.nil), (.cons (He.cls_ok (cc.fact 19 (f := .cls "Channel") rfl)) (He.noat_ok (cc.fact 26 (f := .noat "Channel" "keeps") rfl)) ClsOk.nil), (.cons (He.cls_ok (cc.fact 19 (f := .cls "Channel") rfl)) (He.noat_ok (cc.fact 22 (f := .noat "Channel" "left") rfl)) ClsOk.nil), (.cons (He.cls_ok (cc.fact 19 (f := .cls "Channel") rfl)) (He.noat_ok (cc.fact 23 (f := .noat "Channel" "right") rfl)) ClsOk.nil), (.cons (He.cls_ok (cc.fact 13 (f := .cls "Rows") rfl)) (He.noat_ok (cc.fact 29 (f := .noat "Rows" "rows") rfl)) ClsOk.nil), (.cons (He.cls_ok (cc.fact 19 (f := .cls "Channel") rfl)) (He.noat_ok (cc.fact 20 (f := .noat "Channel" "top") rfl)) ClsOk.nil), (.cons (He.cls_ok (cc.fact 19 (f := .cls "Channel") rfl)) (He.noat_ok (cc.fact 24 (f := .noat "Channel" "wide") rfl)) ClsOk.nil), He.str_ok X GN (cc.fact 30 (f := .str "FIGURES" "0123456789") rfl), He.str_ok X GN (cc.fact 31 (f := .str "LETTERS" "abcdefghijklmnopqrstuvwxyz") rfl), He.free_ok X GN (cc.fact 32 (f := .free "enumerate") rfl), He.free_ok X GN (cc.fact 33 (f := .free "int") rfl), He.free_ok X GN (cc.fact 34 (f := .free "len") rfl), He.free_ok X GN (cc.fact 35 (f := .free "max") rfl), He.free_ok X GN (cc.fact 36 (f := .free "range") rfl), He.free_ok X GN (cc.fact 37 (f := .free "set") rfl), He.free_ok X GN (cc.fact 38 (f := .free "sorted") rfl), He.free_ok X GN (cc.fact 39 (f := .free "str") rfl), He.free_ok X GN (cc.fact 40 (f := .free "sum") rfl), He.glo_ok X GN (cc.fact 27 (f := .glo "BadText") rfl), of_decide_eq_true e0, of_decide_eq_true e1, of_decide_eq_true e2⟩
  obtain ⟨fd_is_name, F_is_name⟩ := cc.def_ 0 (d := d_is_name) rfl
  obtain ⟨fd_name_read, F_name_read⟩ := cc.def_ 1 (d := d_name_read) rfl
  obtain ⟨fd_number_read, F_number_read⟩ := cc.def_ 2 (d := d_number_read) rfl
  obtain ⟨fd_Rows_init, F_Rows_init⟩ := cc.def_ 3 (d := d_Rows_init) rfl
  obtain ⟨fd_Rows_head, F_Rows_head⟩ := cc.def_ 4 (d := d_Rows_head) rfl
  obtain ⟨fd_Rows_taken, F_Rows_taken⟩ := cc.def_ 5 (d := d_Rows_taken) rfl
  obtain ⟨fd_Rows_several, F_Rows_several⟩ := cc.def_ 6 (d := d_Rows_several) rfl
  obtain ⟨fd_pins_read, F_pins_read⟩ := cc.def_ 7 (d := d_pins_read) rfl
  obtain ⟨fd_look_rising, F_look_rising⟩ := cc.def_ 8 (d := d_look_rising) rfl
  obtain ⟨fd_look_sizes, F_look_sizes⟩ := cc.def_ 9 (d := d_look_sizes) rfl
  obtain ⟨fd_read_channel, F_read_channel⟩ := cc.def_ 10 (d := d_read_channel) rfl
  obtain ⟨fd__law_mix, F__law_mix⟩ := cc.def_ 11 (d := d__law_mix) rfl
  obtain ⟨fd__law_word, F__law_word⟩ := cc.def_ 12 (d := d__law_word) rfl
  obtain ⟨fd__law_line, F__law_line⟩ := cc.def_ 13 (d := d__law_line) rfl
  obtain ⟨fd_law, F_law⟩ := cc.def_ 14 (d := d_law) rfl
  obtain ⟨fdi_Channel, FI_Channel⟩ := cc.def_ 15 (d := di_Channel) rfl
  have e := hfa.symm.trans (He.glo_ok X GN (cc.fact 10 (f := .glo "law") rfl))
  cases e
  have b := FunD.bindsA (ps := ["_law_script"]) F_law fun _ _ _ _ _ _ us hl => match us, hl with | [_], _ => rfl
  refine ⟨fd_law, fun s v => b s [v] rfl, fun base _ _ TBs => ?_⟩
  have K_Channel := mk_Channel (P := P) (w := w) (base := base) (c := c0 K) FI_Channel (He.mkr_ok (cc.fact 18 (f := .mkr "Channel") rfl)) (He.cls_ok (cc.fact 19 (f := .cls "Channel") rfl)) (He.noat_ok (cc.fact 20 (f := .noat "Channel" "top") rfl)) (He.noat_ok (cc.fact 21 (f := .noat "Channel" "bottom") rfl)) (He.noat_ok (cc.fact 22 (f := .noat "Channel" "left") rfl)) (He.noat_ok (cc.fact 23 (f := .noat "Channel" "right") rfl)) (He.noat_ok (cc.fact 24 (f := .noat "Channel" "wide") rfl)) (He.noat_ok (cc.fact 25 (f := .noat "Channel" "bends") rfl)) (He.noat_ok (cc.fact 26 (f := .noat "Channel" "keeps") rfl)) (He.glo_ok X GN (cc.fact 17 (f := .glo "Channel") rfl))
  have K_BadText : MkX0 K mg (c0 K) "BadText" := ⟨rfl, G.x_1, G.g_BadText, exc_ok G.x_2⟩
  have C_is_name := cal_is_name (P := P) (w := w) (base := base) (c := c0 K) G  F_is_name (He.glo_ok X GN (cc.fact 0 (f := .glo "is_name") rfl))
  have C_name_read := cal_name_read (P := P) (w := w) (base := base) (c := c0 K) G K_BadText C_is_name F_name_read (He.glo_ok X GN (cc.fact 1 (f := .glo "name_read") rfl))
  have C_number_read := cal_number_read (P := P) (w := w) (base := base) (c := c0 K) G K_BadText F_number_read (He.glo_ok X GN (cc.fact 2 (f := .glo "number_read") rfl))
  have K_Rows := cal_Rows_init (P := P) (w := w) (base := base) (c := c0 K) rfl G  F_Rows_init (He.mkr_ok (cc.fact 12 (f := .mkr "Rows") rfl)) (He.glo_ok X GN (cc.fact 11 (f := .glo "Rows") rfl))
  have C_Rows_head := cal_Rows_head (P := P) (w := w) (base := base) (c := c0 K) G  F_Rows_head (He.cls_ok (cc.fact 13 (f := .cls "Rows") rfl)) (He.meth_ok (cc.fact 14 (f := .meth "Rows" "head") rfl))
  have C_Rows_taken := cal_Rows_taken (P := P) (w := w) (base := base) (c := c0 K) rfl G K_BadText C_Rows_head F_Rows_taken (He.cls_ok (cc.fact 13 (f := .cls "Rows") rfl)) (He.meth_ok (cc.fact 15 (f := .meth "Rows" "taken") rfl))
  have C_Rows_several := cal_Rows_several (P := P) (w := w) (base := base) (c := c0 K) rfl G K_BadText C_Rows_taken C_Rows_head F_Rows_several (He.cls_ok (cc.fact 13 (f := .cls "Rows") rfl)) (He.meth_ok (cc.fact 16 (f := .meth "Rows" "several") rfl))
  have C_pins_read := cal_pins_read (P := P) (w := w) (base := base) (c := c0 K) G C_name_read F_pins_read (He.glo_ok X GN (cc.fact 3 (f := .glo "pins_read") rfl))
  have C_look_rising := cal_look_rising (P := P) (w := w) (base := base) (c := c0 K) G K_BadText F_look_rising (He.glo_ok X GN (cc.fact 4 (f := .glo "look_rising") rfl))
  have C_look_sizes := cal_look_sizes (P := P) (w := w) (base := base) (c := c0 K) G K_BadText C_look_rising F_look_sizes (He.glo_ok X GN (cc.fact 5 (f := .glo "look_sizes") rfl))
  have C_read_channel := cal_read_channel (P := P) (w := w) (base := base) (c := c0 K) G K_Channel K_BadText C_look_sizes C_name_read C_number_read C_pins_read C_Rows_several C_Rows_taken C_Rows_head K_Rows F_read_channel (He.glo_ok X GN (cc.fact 6 (f := .glo "read_channel") rfl))
  have C__law_mix := cal__law_mix (P := P) (w := w) (base := base) (c := c0 K) G  F__law_mix (He.glo_ok X GN (cc.fact 7 (f := .glo "_law_mix") rfl))
  have C__law_word := cal__law_word (P := P) (w := w) (base := base) (c := c0 K) G  F__law_word (He.glo_ok X GN (cc.fact 8 (f := .glo "_law_word") rfl))
  have C__law_line := cal__law_line (P := P) (w := w) (base := base) (c := c0 K) G  F__law_line (He.glo_ok X GN (cc.fact 9 (f := .glo "_law_line") rfl))
  exact ok_law G K_BadText C__law_line C__law_mix C__law_word C_read_channel F_law
end Gk05
end
set_option maxHeartbeats 8000000
open PySem PySem.W PySem.Calls PyProof.Rows
set_option maxRecDepth 100000 in
set_option maxHeartbeats 0 in
theorem PySem.Challenge.cw_wirechannel_k05_bounds_holds : PySem.Challenge.rw_wirechannel_k05_bounds.Holds := by
  w_on; o_law
  refine HandSHeadRun.head_any (r := OpenLaw.row PySem.Challenge.rw_wirechannel_k05_bounds) (q := view (OpenLaw.row PySem.Challenge.rw_wirechannel_k05_bounds).prog [20]) (H := Gk05.hk) (ob := Gk05.ob) (M := 9000) (loose := Gk05.loose) (d := HandSHeadRun.topDef (OpenLaw.row PySem.Challenge.rw_wirechannel_k05_bounds).prog 20) (kwd := []) Gk05.ob_eq
    (by kernel_rfl) (fun s => by kernel_rfl) Gk05.run (by kernel_rfl) (by kernel_rfl) (by kernel_rfl) (by rfl) (by first | assumption | decide +kernel) (by decide +kernel) ⟨rfl, rfl, rfl, rfl, rfl, by decide +kernel⟩ ?hw ?hc
  case hw => w_witness2
  case hc =>
    refine PV.walkW (l := PySem.Challenge.rw_wirechannel_k05_bounds) (n := 63) (k := 5) (x := "_law_script") rfl (by decide) (by kernel_rfl) ⟨rfl, by decide, by decide⟩ ?F
    intro w mg fa h Y G hmg0
    obtain ⟨K, KX, cc⟩ := Y
    have hmg : mg ("law" : PySem.Str) = some (.ref fa) := by
      have e : (HandSHeadRun.topDef (OpenLaw.row PySem.Challenge.rw_wirechannel_k05_bounds).prog 20).name = ("law" : PySem.Str) := by kernel_rfl
      rw [← e]
      exact hmg0
    obtain ⟨fd, hb, hF⟩ := Gk05.facts (P := (PySem.Challenge.rw_wirechannel_k05_bounds).prog) (w := w) KX G hmg cc.t.d cc.more
    refine ⟨K, fd, Gk05.tf.map (He.cT K), _, ⟨KX, hb⟩, ⟨fun p hp => ?_, fun p hp => ?_, fun p hp => ?_⟩, fun H a ns hl hH hS => PV.law_sp Gw.law_true_k05 H a ns hl (fun p hp => ?_) ?_ hS, hF⟩
    · obtain ⟨q, hq, rfl⟩ := List.mem_map.mp hp; exact cc.empty q hq
    · obtain ⟨q, hq, rfl⟩ := List.mem_map.mp hp; exact cc.out q hq
    · obtain ⟨q, hq, rfl⟩ := List.mem_map.mp hp; exact PySem.W.codeHd_of_K KX (cc.hd q hq)
    · obtain ⟨q, hq, rfl⟩ := List.mem_map.mp hp
      exact LamX.TabS.nil (hH (He.cT K q.1) (List.mem_map.mpr ⟨q.1, List.mem_map.mpr ⟨q, hq, rfl⟩, rfl⟩))
    · show ((Gk05.tn.map fun p => ((He.cT K p.1).2, p.2)).map (·.1)).Nodup
      rw [List.map_map]
      exact of_decide_eq_true (PV.mr_cons cc.more).1
