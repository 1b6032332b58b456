/-
  What is proved: lemmas on the way to the laws of this seat. No condition.
-/
import Derived.Test.YtgckmfadalhddaaGreatRc
import Derived.IntWalk
import Derived.Test.YtgckmfadalhddaaGreatRd
set_option linter.unusedVariables false
set_option linter.unusedSimpArgs false
namespace Go.Wr
abbrev iT (n : Int) : T := .i .i64 n
abbrev iB (n : UInt8) : T := .i .u8 n.toNat
abbrev ints (o : Ob) (l : List Int) : T := .l o 1 (l.map iT)
abbrev bytes (o : Ob) (l : List UInt8) : T := .l o 1 (l.map iB)
abbrev GInt.lss (o : Ob) (l : List (List Int)) : T := .l o 1 (l.map (ints o))
theorem fz_map {α : Type} (f : α -> T) (l : List α) : fzs (l.map f) = l.map fun x => (f x).fz := by rw [fzs_map, List.map_map]; rfl
theorem fz_ints : (fun x => (iT x).fz) = iT := rfl
theorem fz_bytes : (fun x => (iB x).fz) = iB := rfl
theorem fz_intss (o : Ob) : (fun l => (ints o l).fz) = ints .n := by funext x; simp only [ints, T.fz, fz_map]
def bulks {α : Type} (f : α -> Nat) (l : List α) : Nat := l.length + (l.map f).sum
def fits {α : Type} (p : α -> Prop) (l : List α) : Prop := l.length <= maxLen /\ ∀ x ∈ l, p x
theorem bulks_len {α : Type} (f : α -> Nat) (l : List α) : l.length <= bulks f l := by unfold bulks; omega
theorem bulks_mem {α : Type} {f : α -> Nat} {l : List α} {i : Nat} {x : α} (h : l[i]? = some x) : f x <= bulks f l := by
 have : ∀ {l : List α} {i : Nat}, l[i]? = some x -> f x <= (l.map f).sum := by
  intro l
  induction l with
  | nil => intro i h; simp at h
  | cons a l ih =>
   intro i h
   cases i with
   | zero => simp at h; subst h; simp
   | succ i => have := ih (i := i) (by simpa using h); simp; omega
 have := this h
 unfold bulks; omega
theorem hasTy_st {fs : List Ty} {ts : List T} (h : HasTy (.st fs) ts) : HasTys fs ts := by simpa only [HasTy] using h
theorem hasTys_cons {f : Ty} {fs : List Ty} {ts : List T} (h : HasTys (f :: fs) ts) : ∃ a b, ts = a ++ b /\ HasTy f a /\ HasTys fs b := by simpa only [HasTys] using h
theorem hasTys_nil {ts : List T} (h : HasTys [] ts) : ts = [] := by simpa only [HasTys] using h
theorem hasTy_i {ts : List T} (h : HasTy (.i .i64) ts) : ∃ n, ts = [iT n] := by
 simp only [HasTy] at h
 obtain ⟨n, rfl, _⟩ := h
 exact ⟨n, rfl⟩
theorem hasTy_b {ts : List T} (h : HasTy .b ts) : ∃ n, ts = [.b n] := by
 simp only [HasTy] at h
 exact h
theorem map_of {α β : Type} {f : α -> β} {p : α -> Prop} : ∀ {es : List β}, (∀ x ∈ es, ∃ a, x = f a /\ p a) -> ∃ l : List α, es = l.map f /\ ∀ x ∈ l, p x
 | [], _ => ⟨[], rfl, by simp⟩
 | x :: es, h => by
  obtain ⟨a, rfl, ha⟩ := h x List.mem_cons_self
  obtain ⟨l, rfl, hl⟩ := map_of fun y hy => h y (List.mem_cons_of_mem _ hy)
  exact ⟨a :: l, rfl, by simpa using ⟨ha, hl⟩⟩
theorem lists_of {α : Type} {e : Ty} {el : α -> T} {p : α -> Prop} {ts : List T} (h : HasTy (.l e) ts) (he : ∀ cs, HasTy e cs -> ∃ x, elemT e.agg cs = el x /\ p x) : ∃ l : List α, ts = [.l .n e.size (l.map el)] /\ fits p l := by
 simp only [HasTy] at h
 obtain ⟨es, rfl, hl, hes⟩ := h
 obtain ⟨l, rfl, hp⟩ := map_of (f := el) (p := p) fun x hx => by
  obtain ⟨cs, hc, rfl⟩ := hes x hx
  exact he cs hc
 exact ⟨l, rfl, by simpa using hl, hp⟩
theorem ints_of {ts : List T} (h : HasTy (.l (.i .i64)) ts) : ∃ l : List Int, ts = [ints .n l] /\ l.length <= maxLen := by
 obtain ⟨l, rfl, h1, _⟩ := lists_of (el := iT) (p := fun _ => True) h fun cs hc => by
  obtain ⟨n, rfl⟩ := hasTy_i hc
  exact ⟨n, rfl, trivial⟩
 exact ⟨l, rfl, h1⟩
theorem bytes_of {ts : List T} (h : HasTy (.l (.i .u8)) ts) : ∃ l : List UInt8, ts = [bytes .n l] /\ l.length <= maxLen := by
 obtain ⟨l, rfl, h1, _⟩ := lists_of (el := iB) (p := fun _ => True) h fun cs hc => by
  simp only [HasTy] at hc
  obtain ⟨n, rfl, h0, h1⟩ := hc
  have : IntKind.min .u8 = 0 := by decide
  have : IntKind.max .u8 = 255 := by decide
  refine ⟨UInt8.ofNat n.toNat, ?_, trivial⟩
  simp only [elemT, Ty.agg, List.headD_cons, Bool.false_eq_true, if_false, T.i.injEq, true_and]
  rw [UInt8.toNat_ofNat_of_lt' (by simp [UInt8.size]; omega)]
  omega
 exact ⟨l, rfl, h1⟩
theorem intss_of {ts : List T} (h : HasTy (.l (.l (.i .i64))) ts) : ∃ l : List (List Int), ts = [GInt.lss .n l] /\ fits (fun l => l.length <= maxLen) l := lists_of (el := ints .n) h fun cs hc => by
 obtain ⟨n, rfl, hn⟩ := ints_of hc
 exact ⟨n, rfl, hn⟩
structure GSketch where
 Count : Int
 Sum : Int
 Min : Int
 Max : Int
 Hist : List Int
 Regs : List Int
 Rows : List (List Int)
 deriving DecidableEq, Inhabited
def GSketch.cs (o : Ob) (x : GSketch) : List T := [iT x.Count, iT x.Sum, iT x.Min, iT x.Max, ints o x.Hist, ints o x.Regs, GInt.lss o x.Rows]
def GSketch.el (o : Ob) (x : GSketch) : T := .a (x.cs o)
abbrev GSketch.ls (o : Ob) (l : List GSketch) : T := .l o 7 (l.map (GSketch.el o))
def GSketch.bulk (x : GSketch) : Nat := x.Hist.length + x.Regs.length + bulks List.length x.Rows
def GSketch.fit (x : GSketch) : Prop := x.Hist.length <= maxLen /\ x.Regs.length <= maxLen /\ fits (fun l => l.length <= maxLen) x.Rows
abbrev GSketch.ty : Ty := .st [.i .i64, .i .i64, .i .i64, .i .i64, .l (.i .i64), .l (.i .i64), .l (.l (.i .i64))]
theorem GSketch.fz (o : Ob) (x : GSketch) : fzs (x.cs o) = x.cs .n := by simp only [GSketch.cs, fzs, T.fz, fz_map, fz_ints, fz_bytes, fz_intss]
theorem GSketch.fze (o : Ob) : (fun x => ((GSketch.el o) x).fz) = GSketch.el .n := by funext x; simp only [GSketch.el, T.fz, GSketch.fz]
theorem GSketch.of {ts : List T} (h : HasTy GSketch.ty ts) : ∃ x : GSketch, ts = x.cs .n /\ x.fit := by
 have h := hasTy_st h
 obtain ⟨_, _, rfl, h0, h⟩ := hasTys_cons h
 obtain ⟨_, _, rfl, h1, h⟩ := hasTys_cons h
 obtain ⟨_, _, rfl, h2, h⟩ := hasTys_cons h
 obtain ⟨_, _, rfl, h3, h⟩ := hasTys_cons h
 obtain ⟨_, _, rfl, h4, h⟩ := hasTys_cons h
 obtain ⟨_, _, rfl, h5, h⟩ := hasTys_cons h
 obtain ⟨_, _, rfl, h6, h⟩ := hasTys_cons h
 obtain rfl := hasTys_nil h
 obtain ⟨x0, rfl⟩ := hasTy_i h0
 obtain ⟨x1, rfl⟩ := hasTy_i h1
 obtain ⟨x2, rfl⟩ := hasTy_i h2
 obtain ⟨x3, rfl⟩ := hasTy_i h3
 obtain ⟨x4, rfl, f4⟩ := ints_of h4
 obtain ⟨x5, rfl, f5⟩ := ints_of h5
 obtain ⟨x6, rfl, f6⟩ := intss_of h6
 exact ⟨⟨x0, x1, x2, x3, x4, x5, x6⟩, rfl, ⟨f4, f5, f6⟩⟩
theorem GSketch.ofL {ts : List T} (h : HasTy (.l GSketch.ty) ts) : ∃ l : List GSketch, ts = [GSketch.ls .n l] /\ fits GSketch.fit l := lists_of (el := GSketch.el .n) h fun cs hc => by
 obtain ⟨x, rfl, hx⟩ := GSketch.of hc
 exact ⟨x, rfl, hx⟩
structure GSpan where
 Lo : Int
 Hi : Int
 deriving DecidableEq, Inhabited
def GSpan.cs (o : Ob) (x : GSpan) : List T := [iT x.Lo, iT x.Hi]
def GSpan.el (o : Ob) (x : GSpan) : T := .a (x.cs o)
abbrev GSpan.ls (o : Ob) (l : List GSpan) : T := .l o 2 (l.map (GSpan.el o))
def GSpan.bulk (x : GSpan) : Nat := 0
def GSpan.fit (x : GSpan) : Prop := True
abbrev GSpan.ty : Ty := .st [.i .i64, .i .i64]
theorem GSpan.fz (o : Ob) (x : GSpan) : fzs (x.cs o) = x.cs .n := by simp only [GSpan.cs, fzs, T.fz, fz_map, fz_ints, fz_bytes, fz_intss]
theorem GSpan.fze (o : Ob) : (fun x => ((GSpan.el o) x).fz) = GSpan.el .n := by funext x; simp only [GSpan.el, T.fz, GSpan.fz]
theorem GSpan.of {ts : List T} (h : HasTy GSpan.ty ts) : ∃ x : GSpan, ts = x.cs .n /\ x.fit := by
 have h := hasTy_st h
 obtain ⟨_, _, rfl, h0, h⟩ := hasTys_cons h
 obtain ⟨_, _, rfl, h1, h⟩ := hasTys_cons h
 obtain rfl := hasTys_nil h
 obtain ⟨x0, rfl⟩ := hasTy_i h0
 obtain ⟨x1, rfl⟩ := hasTy_i h1
 exact ⟨⟨x0, x1⟩, rfl, trivial⟩
theorem GSpan.ofL {ts : List T} (h : HasTy (.l GSpan.ty) ts) : ∃ l : List GSpan, ts = [GSpan.ls .n l] /\ fits GSpan.fit l := lists_of (el := GSpan.el .n) h fun cs hc => by
 obtain ⟨x, rfl, hx⟩ := GSpan.of hc
 exact ⟨x, rfl, hx⟩
structure GItem where
 Seq : Int
 Class : Int
 Key : Int
 Window : Int
 Sketch : GSketch
 deriving DecidableEq, Inhabited
def GItem.cs (o : Ob) (x : GItem) : List T := [iT x.Seq, iT x.Class, iT x.Key, iT x.Window, iT x.Sketch.Count, iT x.Sketch.Sum, iT x.Sketch.Min, iT x.Sketch.Max, ints o x.Sketch.Hist, ints o x.Sketch.Regs, GInt.lss o x.Sketch.Rows]
def GItem.el (o : Ob) (x : GItem) : T := .a (x.cs o)
abbrev GItem.ls (o : Ob) (l : List GItem) : T := .l o 11 (l.map (GItem.el o))
def GItem.bulk (x : GItem) : Nat := x.Sketch.bulk
def GItem.fit (x : GItem) : Prop := x.Sketch.fit
abbrev GItem.ty : Ty := .st [.i .i64, .i .i64, .i .i64, .i .i64, GSketch.ty]
theorem GItem.fz (o : Ob) (x : GItem) : fzs (x.cs o) = x.cs .n := by simp only [GItem.cs, fzs, T.fz, fz_map, fz_ints, fz_bytes, fz_intss]
theorem GItem.fze (o : Ob) : (fun x => ((GItem.el o) x).fz) = GItem.el .n := by funext x; simp only [GItem.el, T.fz, GItem.fz]
theorem GItem.of {ts : List T} (h : HasTy GItem.ty ts) : ∃ x : GItem, ts = x.cs .n /\ x.fit := by
 have h := hasTy_st h
 obtain ⟨_, _, rfl, h0, h⟩ := hasTys_cons h
 obtain ⟨_, _, rfl, h1, h⟩ := hasTys_cons h
 obtain ⟨_, _, rfl, h2, h⟩ := hasTys_cons h
 obtain ⟨_, _, rfl, h3, h⟩ := hasTys_cons h
 obtain ⟨_, _, rfl, h4, h⟩ := hasTys_cons h
 obtain rfl := hasTys_nil h
 obtain ⟨x0, rfl⟩ := hasTy_i h0
 obtain ⟨x1, rfl⟩ := hasTy_i h1
 obtain ⟨x2, rfl⟩ := hasTy_i h2
 obtain ⟨x3, rfl⟩ := hasTy_i h3
 obtain ⟨x4, rfl, f4⟩ := GSketch.of h4
 exact ⟨⟨x0, x1, x2, x3, x4⟩, rfl, f4⟩
theorem GItem.ofL {ts : List T} (h : HasTy (.l GItem.ty) ts) : ∃ l : List GItem, ts = [GItem.ls .n l] /\ fits GItem.fit l := lists_of (el := GItem.el .n) h fun cs hc => by
 obtain ⟨x, rfl, hx⟩ := GItem.of hc
 exact ⟨x, rfl, hx⟩
structure GEntry where
 Key : Int
 Window : Int
 Ids : List GSpan
 Sketch : GSketch
 deriving DecidableEq, Inhabited
def GEntry.cs (o : Ob) (x : GEntry) : List T := [iT x.Key, iT x.Window, GSpan.ls o x.Ids, iT x.Sketch.Count, iT x.Sketch.Sum, iT x.Sketch.Min, iT x.Sketch.Max, ints o x.Sketch.Hist, ints o x.Sketch.Regs, GInt.lss o x.Sketch.Rows]
def GEntry.el (o : Ob) (x : GEntry) : T := .a (x.cs o)
abbrev GEntry.ls (o : Ob) (l : List GEntry) : T := .l o 10 (l.map (GEntry.el o))
def GEntry.bulk (x : GEntry) : Nat := x.Ids.length + x.Sketch.bulk
def GEntry.fit (x : GEntry) : Prop := fits GSpan.fit x.Ids /\ x.Sketch.fit
abbrev GEntry.ty : Ty := .st [.i .i64, .i .i64, .l (GSpan.ty), GSketch.ty]
theorem GEntry.fz (o : Ob) (x : GEntry) : fzs (x.cs o) = x.cs .n := by simp only [GEntry.cs, fzs, T.fz, fz_map, GSpan.fze, fz_ints, fz_bytes, fz_intss]
theorem GEntry.fze (o : Ob) : (fun x => ((GEntry.el o) x).fz) = GEntry.el .n := by funext x; simp only [GEntry.el, T.fz, GEntry.fz]
theorem GEntry.of {ts : List T} (h : HasTy GEntry.ty ts) : ∃ x : GEntry, ts = x.cs .n /\ x.fit := by
 have h := hasTy_st h
 obtain ⟨_, _, rfl, h0, h⟩ := hasTys_cons h
 obtain ⟨_, _, rfl, h1, h⟩ := hasTys_cons h
 obtain ⟨_, _, rfl, h2, h⟩ := hasTys_cons h
 obtain ⟨_, _, rfl, h3, h⟩ := hasTys_cons h
 obtain rfl := hasTys_nil h
 obtain ⟨x0, rfl⟩ := hasTy_i h0
 obtain ⟨x1, rfl⟩ := hasTy_i h1
 obtain ⟨x2, rfl, f2⟩ := GSpan.ofL h2
 obtain ⟨x3, rfl, f3⟩ := GSketch.of h3
 exact ⟨⟨x0, x1, x2, x3⟩, rfl, ⟨f2, f3⟩⟩
theorem GEntry.ofL {ts : List T} (h : HasTy (.l GEntry.ty) ts) : ∃ l : List GEntry, ts = [GEntry.ls .n l] /\ fits GEntry.fit l := lists_of (el := GEntry.el .n) h fun cs hc => by
 obtain ⟨x, rfl, hx⟩ := GEntry.of hc
 exact ⟨x, rfl, hx⟩
structure GFrame where
 Kind : Int
 Agent : Int
 Epoch : Int
 Granted : Int
 Taken : List GSpan
 Item : GItem
 deriving DecidableEq, Inhabited
def GFrame.cs (o : Ob) (x : GFrame) : List T := [iT x.Kind, iT x.Agent, iT x.Epoch, iT x.Granted, GSpan.ls o x.Taken, iT x.Item.Seq, iT x.Item.Class, iT x.Item.Key, iT x.Item.Window, iT x.Item.Sketch.Count, iT x.Item.Sketch.Sum, iT x.Item.Sketch.Min, iT x.Item.Sketch.Max, ints o x.Item.Sketch.Hist, ints o x.Item.Sketch.Regs, GInt.lss o x.Item.Sketch.Rows]
def GFrame.el (o : Ob) (x : GFrame) : T := .a (x.cs o)
abbrev GFrame.ls (o : Ob) (l : List GFrame) : T := .l o 16 (l.map (GFrame.el o))
def GFrame.bulk (x : GFrame) : Nat := x.Taken.length + x.Item.bulk
def GFrame.fit (x : GFrame) : Prop := fits GSpan.fit x.Taken /\ x.Item.fit
abbrev GFrame.ty : Ty := .st [.i .i64, .i .i64, .i .i64, .i .i64, .l (GSpan.ty), GItem.ty]
theorem GFrame.fz (o : Ob) (x : GFrame) : fzs (x.cs o) = x.cs .n := by simp only [GFrame.cs, fzs, T.fz, fz_map, GSpan.fze, fz_ints, fz_bytes, fz_intss]
theorem GFrame.fze (o : Ob) : (fun x => ((GFrame.el o) x).fz) = GFrame.el .n := by funext x; simp only [GFrame.el, T.fz, GFrame.fz]
theorem GFrame.of {ts : List T} (h : HasTy GFrame.ty ts) : ∃ x : GFrame, ts = x.cs .n /\ x.fit := by
 have h := hasTy_st h
 obtain ⟨_, _, rfl, h0, h⟩ := hasTys_cons h
 obtain ⟨_, _, rfl, h1, h⟩ := hasTys_cons h
 obtain ⟨_, _, rfl, h2, h⟩ := hasTys_cons h
 obtain ⟨_, _, rfl, h3, h⟩ := hasTys_cons h
 obtain ⟨_, _, rfl, h4, h⟩ := hasTys_cons h
 obtain ⟨_, _, rfl, h5, h⟩ := hasTys_cons h
 obtain rfl := hasTys_nil h
 obtain ⟨x0, rfl⟩ := hasTy_i h0
 obtain ⟨x1, rfl⟩ := hasTy_i h1
 obtain ⟨x2, rfl⟩ := hasTy_i h2
 obtain ⟨x3, rfl⟩ := hasTy_i h3
 obtain ⟨x4, rfl, f4⟩ := GSpan.ofL h4
 obtain ⟨x5, rfl, f5⟩ := GItem.of h5
 exact ⟨⟨x0, x1, x2, x3, x4, x5⟩, rfl, ⟨f4, f5⟩⟩
theorem GFrame.ofL {ts : List T} (h : HasTy (.l GFrame.ty) ts) : ∃ l : List GFrame, ts = [GFrame.ls .n l] /\ fits GFrame.fit l := lists_of (el := GFrame.el .n) h fun cs hc => by
 obtain ⟨x, rfl, hx⟩ := GFrame.of hc
 exact ⟨x, rfl, hx⟩
structure GAgent where
 Id : Int
 Epoch : Int
 Live : Bool
 Granted : Int
 Sealed : List GItem
 Taken : List GSpan
 Next : Int
 deriving DecidableEq, Inhabited
def GAgent.cs (o : Ob) (x : GAgent) : List T := [iT x.Id, iT x.Epoch, .b x.Live, iT x.Granted, GItem.ls o x.Sealed, GSpan.ls o x.Taken, iT x.Next]
def GAgent.el (o : Ob) (x : GAgent) : T := .a (x.cs o)
abbrev GAgent.ls (o : Ob) (l : List GAgent) : T := .l o 7 (l.map (GAgent.el o))
def GAgent.bulk (x : GAgent) : Nat := bulks GItem.bulk x.Sealed + x.Taken.length
def GAgent.fit (x : GAgent) : Prop := fits GItem.fit x.Sealed /\ fits GSpan.fit x.Taken
abbrev GAgent.ty : Ty := .st [.i .i64, .i .i64, .b, .i .i64, .l (GItem.ty), .l (GSpan.ty), .i .i64]
theorem GAgent.fz (o : Ob) (x : GAgent) : fzs (x.cs o) = x.cs .n := by simp only [GAgent.cs, fzs, T.fz, fz_map, GItem.fze, GSpan.fze, fz_ints, fz_bytes, fz_intss]
theorem GAgent.fze (o : Ob) : (fun x => ((GAgent.el o) x).fz) = GAgent.el .n := by funext x; simp only [GAgent.el, T.fz, GAgent.fz]
theorem GAgent.of {ts : List T} (h : HasTy GAgent.ty ts) : ∃ x : GAgent, ts = x.cs .n /\ x.fit := by
 have h := hasTy_st h
 obtain ⟨_, _, rfl, h0, h⟩ := hasTys_cons h
 obtain ⟨_, _, rfl, h1, h⟩ := hasTys_cons h
 obtain ⟨_, _, rfl, h2, h⟩ := hasTys_cons h
 obtain ⟨_, _, rfl, h3, h⟩ := hasTys_cons h
 obtain ⟨_, _, rfl, h4, h⟩ := hasTys_cons h
 obtain ⟨_, _, rfl, h5, h⟩ := hasTys_cons h
 obtain ⟨_, _, rfl, h6, h⟩ := hasTys_cons h
 obtain rfl := hasTys_nil h
 obtain ⟨x0, rfl⟩ := hasTy_i h0
 obtain ⟨x1, rfl⟩ := hasTy_i h1
 obtain ⟨x2, rfl⟩ := hasTy_b h2
 obtain ⟨x3, rfl⟩ := hasTy_i h3
 obtain ⟨x4, rfl, f4⟩ := GItem.ofL h4
 obtain ⟨x5, rfl, f5⟩ := GSpan.ofL h5
 obtain ⟨x6, rfl⟩ := hasTy_i h6
 exact ⟨⟨x0, x1, x2, x3, x4, x5, x6⟩, rfl, ⟨f4, f5⟩⟩
theorem GAgent.ofL {ts : List T} (h : HasTy (.l GAgent.ty) ts) : ∃ l : List GAgent, ts = [GAgent.ls .n l] /\ fits GAgent.fit l := lists_of (el := GAgent.el .n) h fun cs hc => by
 obtain ⟨x, rfl, hx⟩ := GAgent.of hc
 exact ⟨x, rfl, hx⟩
structure GSeat where
 Epoch : Int
 Granted : Int
 Taken : List GSpan
 Merged : Int
 Last : Int
 deriving DecidableEq, Inhabited
def GSeat.cs (o : Ob) (x : GSeat) : List T := [iT x.Epoch, iT x.Granted, GSpan.ls o x.Taken, iT x.Merged, iT x.Last]
def GSeat.el (o : Ob) (x : GSeat) : T := .a (x.cs o)
abbrev GSeat.ls (o : Ob) (l : List GSeat) : T := .l o 5 (l.map (GSeat.el o))
def GSeat.bulk (x : GSeat) : Nat := x.Taken.length
def GSeat.fit (x : GSeat) : Prop := fits GSpan.fit x.Taken
abbrev GSeat.ty : Ty := .st [.i .i64, .i .i64, .l (GSpan.ty), .i .i64, .i .i64]
theorem GSeat.fz (o : Ob) (x : GSeat) : fzs (x.cs o) = x.cs .n := by simp only [GSeat.cs, fzs, T.fz, fz_map, GSpan.fze, fz_ints, fz_bytes, fz_intss]
theorem GSeat.fze (o : Ob) : (fun x => ((GSeat.el o) x).fz) = GSeat.el .n := by funext x; simp only [GSeat.el, T.fz, GSeat.fz]
theorem GSeat.of {ts : List T} (h : HasTy GSeat.ty ts) : ∃ x : GSeat, ts = x.cs .n /\ x.fit := by
 have h := hasTy_st h
 obtain ⟨_, _, rfl, h0, h⟩ := hasTys_cons h
 obtain ⟨_, _, rfl, h1, h⟩ := hasTys_cons h
 obtain ⟨_, _, rfl, h2, h⟩ := hasTys_cons h
 obtain ⟨_, _, rfl, h3, h⟩ := hasTys_cons h
 obtain ⟨_, _, rfl, h4, h⟩ := hasTys_cons h
 obtain rfl := hasTys_nil h
 obtain ⟨x0, rfl⟩ := hasTy_i h0
 obtain ⟨x1, rfl⟩ := hasTy_i h1
 obtain ⟨x2, rfl, f2⟩ := GSpan.ofL h2
 obtain ⟨x3, rfl⟩ := hasTy_i h3
 obtain ⟨x4, rfl⟩ := hasTy_i h4
 exact ⟨⟨x0, x1, x2, x3, x4⟩, rfl, f2⟩
theorem GSeat.ofL {ts : List T} (h : HasTy (.l GSeat.ty) ts) : ∃ l : List GSeat, ts = [GSeat.ls .n l] /\ fits GSeat.fit l := lists_of (el := GSeat.el .n) h fun cs hc => by
 obtain ⟨x, rfl, hx⟩ := GSeat.of hc
 exact ⟨x, rfl, hx⟩
structure GRow where
 Lst : List GEntry
 deriving DecidableEq, Inhabited
def GRow.cs (o : Ob) (x : GRow) : List T := [GEntry.ls o x.Lst]
def GRow.el (o : Ob) (x : GRow) : T := .a (x.cs o)
abbrev GRow.ls (o : Ob) (l : List GRow) : T := .l o 1 (l.map (GRow.el o))
abbrev GRow.lss (o : Ob) (l : List (List GRow)) : T := .l o 1 (l.map (GRow.ls o))
def GRow.bulk (x : GRow) : Nat := bulks GEntry.bulk x.Lst
def GRow.fit (x : GRow) : Prop := fits GEntry.fit x.Lst
abbrev GRow.ty : Ty := .st [.l (GEntry.ty)]
theorem GRow.fz (o : Ob) (x : GRow) : fzs (x.cs o) = x.cs .n := by simp only [GRow.cs, fzs, T.fz, fz_map, GEntry.fze, fz_ints, fz_bytes, fz_intss]
theorem GRow.fze (o : Ob) : (fun x => ((GRow.el o) x).fz) = GRow.el .n := by funext x; simp only [GRow.el, T.fz, GRow.fz]
theorem GRow.fzl (o : Ob) : (fun l => ((GRow.ls o) l).fz) = GRow.ls .n := by funext x; simp only [GRow.ls, T.fz, fz_map, GRow.fze]
theorem GRow.of {ts : List T} (h : HasTy GRow.ty ts) : ∃ x : GRow, ts = x.cs .n /\ x.fit := by
 have h := hasTy_st h
 obtain ⟨_, _, rfl, h0, h⟩ := hasTys_cons h
 obtain rfl := hasTys_nil h
 obtain ⟨x0, rfl, f0⟩ := GEntry.ofL h0
 exact ⟨⟨x0⟩, rfl, f0⟩
theorem GRow.ofL {ts : List T} (h : HasTy (.l GRow.ty) ts) : ∃ l : List GRow, ts = [GRow.ls .n l] /\ fits GRow.fit l := lists_of (el := GRow.el .n) h fun cs hc => by
 obtain ⟨x, rfl, hx⟩ := GRow.of hc
 exact ⟨x, rfl, hx⟩
theorem GRow.ofLL {ts : List T} (h : HasTy (.l (.l GRow.ty)) ts) : ∃ l : List (List GRow), ts = [GRow.lss .n l] /\ fits (fits GRow.fit) l := lists_of (el := GRow.ls .n) h fun cs hc => by
 obtain ⟨x, rfl, hx⟩ := GRow.ofL hc
 exact ⟨x, rfl, hx⟩
structure GTurn where
 At : Int
 Fresh : Bool
 Left : List Int
 deriving DecidableEq, Inhabited
def GTurn.cs (o : Ob) (x : GTurn) : List T := [iT x.At, .b x.Fresh, ints o x.Left]
def GTurn.el (o : Ob) (x : GTurn) : T := .a (x.cs o)
abbrev GTurn.ls (o : Ob) (l : List GTurn) : T := .l o 3 (l.map (GTurn.el o))
def GTurn.bulk (x : GTurn) : Nat := x.Left.length
def GTurn.fit (x : GTurn) : Prop := x.Left.length <= maxLen
abbrev GTurn.ty : Ty := .st [.i .i64, .b, .l (.i .i64)]
theorem GTurn.fz (o : Ob) (x : GTurn) : fzs (x.cs o) = x.cs .n := by simp only [GTurn.cs, fzs, T.fz, fz_map, fz_ints, fz_bytes, fz_intss]
theorem GTurn.fze (o : Ob) : (fun x => ((GTurn.el o) x).fz) = GTurn.el .n := by funext x; simp only [GTurn.el, T.fz, GTurn.fz]
theorem GTurn.of {ts : List T} (h : HasTy GTurn.ty ts) : ∃ x : GTurn, ts = x.cs .n /\ x.fit := by
 have h := hasTy_st h
 obtain ⟨_, _, rfl, h0, h⟩ := hasTys_cons h
 obtain ⟨_, _, rfl, h1, h⟩ := hasTys_cons h
 obtain ⟨_, _, rfl, h2, h⟩ := hasTys_cons h
 obtain rfl := hasTys_nil h
 obtain ⟨x0, rfl⟩ := hasTy_i h0
 obtain ⟨x1, rfl⟩ := hasTy_b h1
 obtain ⟨x2, rfl, f2⟩ := ints_of h2
 exact ⟨⟨x0, x1, x2⟩, rfl, f2⟩
theorem GTurn.ofL {ts : List T} (h : HasTy (.l GTurn.ty) ts) : ∃ l : List GTurn, ts = [GTurn.ls .n l] /\ fits GTurn.fit l := lists_of (el := GTurn.el .n) h fun cs hc => by
 obtain ⟨x, rfl, hx⟩ := GTurn.of hc
 exact ⟨x, rfl, hx⟩
structure GConf where
 Per : Int
 Quantum : Int
 Quota : Int
 Weights : List Int
 Join : Int
 Long : Int
 Grace : Int
 Still : Int
 deriving DecidableEq, Inhabited
def GConf.cs (o : Ob) (x : GConf) : List T := [iT x.Per, iT x.Quantum, iT x.Quota, ints o x.Weights, iT x.Join, iT x.Long, iT x.Grace, iT x.Still]
def GConf.el (o : Ob) (x : GConf) : T := .a (x.cs o)
abbrev GConf.ls (o : Ob) (l : List GConf) : T := .l o 8 (l.map (GConf.el o))
def GConf.bulk (x : GConf) : Nat := x.Weights.length
def GConf.fit (x : GConf) : Prop := x.Weights.length <= maxLen
abbrev GConf.ty : Ty := .st [.i .i64, .i .i64, .i .i64, .l (.i .i64), .i .i64, .i .i64, .i .i64, .i .i64]
theorem GConf.fz (o : Ob) (x : GConf) : fzs (x.cs o) = x.cs .n := by simp only [GConf.cs, fzs, T.fz, fz_map, fz_ints, fz_bytes, fz_intss]
theorem GConf.fze (o : Ob) : (fun x => ((GConf.el o) x).fz) = GConf.el .n := by funext x; simp only [GConf.el, T.fz, GConf.fz]
theorem GConf.of {ts : List T} (h : HasTy GConf.ty ts) : ∃ x : GConf, ts = x.cs .n /\ x.fit := by
 have h := hasTy_st h
 obtain ⟨_, _, rfl, h0, h⟩ := hasTys_cons h
 obtain ⟨_, _, rfl, h1, h⟩ := hasTys_cons h
 obtain ⟨_, _, rfl, h2, h⟩ := hasTys_cons h
 obtain ⟨_, _, rfl, h3, h⟩ := hasTys_cons h
 obtain ⟨_, _, rfl, h4, h⟩ := hasTys_cons h
 obtain ⟨_, _, rfl, h5, h⟩ := hasTys_cons h
 obtain ⟨_, _, rfl, h6, h⟩ := hasTys_cons h
 obtain ⟨_, _, rfl, h7, h⟩ := hasTys_cons h
 obtain rfl := hasTys_nil h
 obtain ⟨x0, rfl⟩ := hasTy_i h0
 obtain ⟨x1, rfl⟩ := hasTy_i h1
 obtain ⟨x2, rfl⟩ := hasTy_i h2
 obtain ⟨x3, rfl, f3⟩ := ints_of h3
 obtain ⟨x4, rfl⟩ := hasTy_i h4
 obtain ⟨x5, rfl⟩ := hasTy_i h5
 obtain ⟨x6, rfl⟩ := hasTy_i h6
 obtain ⟨x7, rfl⟩ := hasTy_i h7
 exact ⟨⟨x0, x1, x2, x3, x4, x5, x6, x7⟩, rfl, f3⟩
theorem GConf.ofL {ts : List T} (h : HasTy (.l GConf.ty) ts) : ∃ l : List GConf, ts = [GConf.ls .n l] /\ fits GConf.fit l := lists_of (el := GConf.el .n) h fun cs hc => by
 obtain ⟨x, rfl, hx⟩ := GConf.of hc
 exact ⟨x, rfl, hx⟩
structure GOut where
 Gen : Int
 Entry : GEntry
 deriving DecidableEq, Inhabited
def GOut.cs (o : Ob) (x : GOut) : List T := [iT x.Gen, iT x.Entry.Key, iT x.Entry.Window, GSpan.ls o x.Entry.Ids, iT x.Entry.Sketch.Count, iT x.Entry.Sketch.Sum, iT x.Entry.Sketch.Min, iT x.Entry.Sketch.Max, ints o x.Entry.Sketch.Hist, ints o x.Entry.Sketch.Regs, GInt.lss o x.Entry.Sketch.Rows]
def GOut.el (o : Ob) (x : GOut) : T := .a (x.cs o)
abbrev GOut.ls (o : Ob) (l : List GOut) : T := .l o 11 (l.map (GOut.el o))
def GOut.bulk (x : GOut) : Nat := x.Entry.bulk
def GOut.fit (x : GOut) : Prop := x.Entry.fit
abbrev GOut.ty : Ty := .st [.i .i64, GEntry.ty]
theorem GOut.fz (o : Ob) (x : GOut) : fzs (x.cs o) = x.cs .n := by simp only [GOut.cs, fzs, T.fz, fz_map, GSpan.fze, fz_ints, fz_bytes, fz_intss]
theorem GOut.fze (o : Ob) : (fun x => ((GOut.el o) x).fz) = GOut.el .n := by funext x; simp only [GOut.el, T.fz, GOut.fz]
theorem GOut.of {ts : List T} (h : HasTy GOut.ty ts) : ∃ x : GOut, ts = x.cs .n /\ x.fit := by
 have h := hasTy_st h
 obtain ⟨_, _, rfl, h0, h⟩ := hasTys_cons h
 obtain ⟨_, _, rfl, h1, h⟩ := hasTys_cons h
 obtain rfl := hasTys_nil h
 obtain ⟨x0, rfl⟩ := hasTy_i h0
 obtain ⟨x1, rfl, f1⟩ := GEntry.of h1
 exact ⟨⟨x0, x1⟩, rfl, f1⟩
theorem GOut.ofL {ts : List T} (h : HasTy (.l GOut.ty) ts) : ∃ l : List GOut, ts = [GOut.ls .n l] /\ fits GOut.fit l := lists_of (el := GOut.el .n) h fun cs hc => by
 obtain ⟨x, rfl, hx⟩ := GOut.of hc
 exact ⟨x, rfl, hx⟩
structure GHouse where
 Conf : GConf
 Clock : Int
 Closed : Bool
 Seats : List GSeat
 Rows : List (List GRow)
 Turns : List GTurn
 Since : Int
 Root : List GEntry
 Outs : List GOut
 deriving DecidableEq, Inhabited
def GHouse.cs (o : Ob) (x : GHouse) : List T := [iT x.Conf.Per, iT x.Conf.Quantum, iT x.Conf.Quota, ints o x.Conf.Weights, iT x.Conf.Join, iT x.Conf.Long, iT x.Conf.Grace, iT x.Conf.Still, iT x.Clock, .b x.Closed, GSeat.ls o x.Seats, GRow.lss o x.Rows, GTurn.ls o x.Turns, iT x.Since, GEntry.ls o x.Root, GOut.ls o x.Outs]
def GHouse.el (o : Ob) (x : GHouse) : T := .a (x.cs o)
abbrev GHouse.ls (o : Ob) (l : List GHouse) : T := .l o 16 (l.map (GHouse.el o))
def GHouse.bulk (x : GHouse) : Nat := x.Conf.bulk + bulks GSeat.bulk x.Seats + bulks (bulks GRow.bulk) x.Rows + bulks GTurn.bulk x.Turns + bulks GEntry.bulk x.Root + bulks GOut.bulk x.Outs
def GHouse.fit (x : GHouse) : Prop := x.Conf.fit /\ fits GSeat.fit x.Seats /\ fits (fits GRow.fit) x.Rows /\ fits GTurn.fit x.Turns /\ fits GEntry.fit x.Root /\ fits GOut.fit x.Outs
abbrev GHouse.ty : Ty := .st [GConf.ty, .i .i64, .b, .l (GSeat.ty), .l (.l (GRow.ty)), .l (GTurn.ty), .i .i64, .l (GEntry.ty), .l (GOut.ty)]
theorem GHouse.fz (o : Ob) (x : GHouse) : fzs (x.cs o) = x.cs .n := by simp only [GHouse.cs, fzs, T.fz, fz_map, GEntry.fze, GOut.fze, GRow.fze, GSeat.fze, GTurn.fze, fz_ints, fz_bytes, fz_intss]
theorem GHouse.fze (o : Ob) : (fun x => ((GHouse.el o) x).fz) = GHouse.el .n := by funext x; simp only [GHouse.el, T.fz, GHouse.fz]
theorem GHouse.of {ts : List T} (h : HasTy GHouse.ty ts) : ∃ x : GHouse, ts = x.cs .n /\ x.fit := by
 have h := hasTy_st h
 obtain ⟨_, _, rfl, h0, h⟩ := hasTys_cons h
 obtain ⟨_, _, rfl, h1, h⟩ := hasTys_cons h
 obtain ⟨_, _, rfl, h2, h⟩ := hasTys_cons h
 obtain ⟨_, _, rfl, h3, h⟩ := hasTys_cons h
 obtain ⟨_, _, rfl, h4, h⟩ := hasTys_cons h
 obtain ⟨_, _, rfl, h5, h⟩ := hasTys_cons h
 obtain ⟨_, _, rfl, h6, h⟩ := hasTys_cons h
 obtain ⟨_, _, rfl, h7, h⟩ := hasTys_cons h
 obtain ⟨_, _, rfl, h8, h⟩ := hasTys_cons h
 obtain rfl := hasTys_nil h
 obtain ⟨x0, rfl, f0⟩ := GConf.of h0
 obtain ⟨x1, rfl⟩ := hasTy_i h1
 obtain ⟨x2, rfl⟩ := hasTy_b h2
 obtain ⟨x3, rfl, f3⟩ := GSeat.ofL h3
 obtain ⟨x4, rfl, f4⟩ := GRow.ofLL h4
 obtain ⟨x5, rfl, f5⟩ := GTurn.ofL h5
 obtain ⟨x6, rfl⟩ := hasTy_i h6
 obtain ⟨x7, rfl, f7⟩ := GEntry.ofL h7
 obtain ⟨x8, rfl, f8⟩ := GOut.ofL h8
 exact ⟨⟨x0, x1, x2, x3, x4, x5, x6, x7, x8⟩, rfl, ⟨f0, f3, f4, f5, f7, f8⟩⟩
theorem GHouse.ofL {ts : List T} (h : HasTy (.l GHouse.ty) ts) : ∃ l : List GHouse, ts = [GHouse.ls .n l] /\ fits GHouse.fit l := lists_of (el := GHouse.el .n) h fun cs hc => by
 obtain ⟨x, rfl, hx⟩ := GHouse.of hc
 exact ⟨x, rfl, hx⟩
structure GPack where
 To : Int
 Bytes : List UInt8
 Spoilt : Bool
 deriving DecidableEq, Inhabited
def GPack.cs (o : Ob) (x : GPack) : List T := [iT x.To, bytes o x.Bytes, .b x.Spoilt]
def GPack.el (o : Ob) (x : GPack) : T := .a (x.cs o)
abbrev GPack.ls (o : Ob) (l : List GPack) : T := .l o 3 (l.map (GPack.el o))
def GPack.bulk (x : GPack) : Nat := x.Bytes.length
def GPack.fit (x : GPack) : Prop := x.Bytes.length <= maxLen
abbrev GPack.ty : Ty := .st [.i .i64, .l (.i .u8), .b]
theorem GPack.fz (o : Ob) (x : GPack) : fzs (x.cs o) = x.cs .n := by simp only [GPack.cs, fzs, T.fz, fz_map, fz_ints, fz_bytes, fz_intss]
theorem GPack.fze (o : Ob) : (fun x => ((GPack.el o) x).fz) = GPack.el .n := by funext x; simp only [GPack.el, T.fz, GPack.fz]
theorem GPack.of {ts : List T} (h : HasTy GPack.ty ts) : ∃ x : GPack, ts = x.cs .n /\ x.fit := by
 have h := hasTy_st h
 obtain ⟨_, _, rfl, h0, h⟩ := hasTys_cons h
 obtain ⟨_, _, rfl, h1, h⟩ := hasTys_cons h
 obtain ⟨_, _, rfl, h2, h⟩ := hasTys_cons h
 obtain rfl := hasTys_nil h
 obtain ⟨x0, rfl⟩ := hasTy_i h0
 obtain ⟨x1, rfl, f1⟩ := bytes_of h1
 obtain ⟨x2, rfl⟩ := hasTy_b h2
 exact ⟨⟨x0, x1, x2⟩, rfl, f1⟩
theorem GPack.ofL {ts : List T} (h : HasTy (.l GPack.ty) ts) : ∃ l : List GPack, ts = [GPack.ls .n l] /\ fits GPack.fit l := lists_of (el := GPack.el .n) h fun cs hc => by
 obtain ⟨x, rfl, hx⟩ := GPack.of hc
 exact ⟨x, rfl, hx⟩
structure GWorld where
 Agents : List GAgent
 House : GHouse
 Net : List GPack
 deriving DecidableEq, Inhabited
def GWorld.cs (o : Ob) (x : GWorld) : List T := [GAgent.ls o x.Agents, iT x.House.Conf.Per, iT x.House.Conf.Quantum, iT x.House.Conf.Quota, ints o x.House.Conf.Weights, iT x.House.Conf.Join, iT x.House.Conf.Long, iT x.House.Conf.Grace, iT x.House.Conf.Still, iT x.House.Clock, .b x.House.Closed, GSeat.ls o x.House.Seats, GRow.lss o x.House.Rows, GTurn.ls o x.House.Turns, iT x.House.Since, GEntry.ls o x.House.Root, GOut.ls o x.House.Outs, GPack.ls o x.Net]
def GWorld.el (o : Ob) (x : GWorld) : T := .a (x.cs o)
abbrev GWorld.ls (o : Ob) (l : List GWorld) : T := .l o 18 (l.map (GWorld.el o))
def GWorld.bulk (x : GWorld) : Nat := bulks GAgent.bulk x.Agents + x.House.bulk + bulks GPack.bulk x.Net
def GWorld.fit (x : GWorld) : Prop := fits GAgent.fit x.Agents /\ x.House.fit /\ fits GPack.fit x.Net
abbrev GWorld.ty : Ty := .st [.l (GAgent.ty), GHouse.ty, .l (GPack.ty)]
theorem GWorld.fz (o : Ob) (x : GWorld) : fzs (x.cs o) = x.cs .n := by simp only [GWorld.cs, fzs, T.fz, fz_map, GAgent.fze, GEntry.fze, GOut.fze, GPack.fze, GRow.fze, GSeat.fze, GTurn.fze, fz_ints, fz_bytes, fz_intss]
theorem GWorld.fze (o : Ob) : (fun x => ((GWorld.el o) x).fz) = GWorld.el .n := by funext x; simp only [GWorld.el, T.fz, GWorld.fz]
theorem GWorld.of {ts : List T} (h : HasTy GWorld.ty ts) : ∃ x : GWorld, ts = x.cs .n /\ x.fit := by
 have h := hasTy_st h
 obtain ⟨_, _, rfl, h0, h⟩ := hasTys_cons h
 obtain ⟨_, _, rfl, h1, h⟩ := hasTys_cons h
 obtain ⟨_, _, rfl, h2, h⟩ := hasTys_cons h
 obtain rfl := hasTys_nil h
 obtain ⟨x0, rfl, f0⟩ := GAgent.ofL h0
 obtain ⟨x1, rfl, f1⟩ := GHouse.of h1
 obtain ⟨x2, rfl, f2⟩ := GPack.ofL h2
 exact ⟨⟨x0, x1, x2⟩, rfl, ⟨f0, f1, f2⟩⟩
theorem GWorld.ofL {ts : List T} (h : HasTy (.l GWorld.ty) ts) : ∃ l : List GWorld, ts = [GWorld.ls .n l] /\ fits GWorld.fit l := lists_of (el := GWorld.el .n) h fun cs hc => by
 obtain ⟨x, rfl, hx⟩ := GWorld.of hc
 exact ⟨x, rfl, hx⟩
structure GDeed where
 Kind : Int
 A : Int
 B : Int
 C : Int
 D : Int
 Lst : List Int
 deriving DecidableEq, Inhabited
def GDeed.cs (o : Ob) (x : GDeed) : List T := [iT x.Kind, iT x.A, iT x.B, iT x.C, iT x.D, ints o x.Lst]
def GDeed.el (o : Ob) (x : GDeed) : T := .a (x.cs o)
abbrev GDeed.ls (o : Ob) (l : List GDeed) : T := .l o 6 (l.map (GDeed.el o))
def GDeed.bulk (x : GDeed) : Nat := x.Lst.length
def GDeed.fit (x : GDeed) : Prop := x.Lst.length <= maxLen
abbrev GDeed.ty : Ty := .st [.i .i64, .i .i64, .i .i64, .i .i64, .i .i64, .l (.i .i64)]
theorem GDeed.fz (o : Ob) (x : GDeed) : fzs (x.cs o) = x.cs .n := by simp only [GDeed.cs, fzs, T.fz, fz_map, fz_ints, fz_bytes, fz_intss]
theorem GDeed.fze (o : Ob) : (fun x => ((GDeed.el o) x).fz) = GDeed.el .n := by funext x; simp only [GDeed.el, T.fz, GDeed.fz]
theorem GDeed.of {ts : List T} (h : HasTy GDeed.ty ts) : ∃ x : GDeed, ts = x.cs .n /\ x.fit := by
 have h := hasTy_st h
 obtain ⟨_, _, rfl, h0, h⟩ := hasTys_cons h
 obtain ⟨_, _, rfl, h1, h⟩ := hasTys_cons h
 obtain ⟨_, _, rfl, h2, h⟩ := hasTys_cons h
 obtain ⟨_, _, rfl, h3, h⟩ := hasTys_cons h
 obtain ⟨_, _, rfl, h4, h⟩ := hasTys_cons h
 obtain ⟨_, _, rfl, h5, h⟩ := hasTys_cons h
 obtain rfl := hasTys_nil h
 obtain ⟨x0, rfl⟩ := hasTy_i h0
 obtain ⟨x1, rfl⟩ := hasTy_i h1
 obtain ⟨x2, rfl⟩ := hasTy_i h2
 obtain ⟨x3, rfl⟩ := hasTy_i h3
 obtain ⟨x4, rfl⟩ := hasTy_i h4
 obtain ⟨x5, rfl, f5⟩ := ints_of h5
 exact ⟨⟨x0, x1, x2, x3, x4, x5⟩, rfl, f5⟩
theorem GDeed.ofL {ts : List T} (h : HasTy (.l GDeed.ty) ts) : ∃ l : List GDeed, ts = [GDeed.ls .n l] /\ fits GDeed.fit l := lists_of (el := GDeed.el .n) h fun cs hc => by
 obtain ⟨x, rfl, hx⟩ := GDeed.of hc
 exact ⟨x, rfl, hx⟩
end Go.Wr
namespace Go.Wr
theorem w64 {n : Int} (h : -9223372036854775808 <= n /\ n <= 9223372036854775807) : IntKind.i64.wrap n = n := by rw [IntKind.wrap_i64]; omega
theorem w64s {i : Nat} (h : i < 9223372036854775807) : IntKind.i64.wrap (↑i + 1) = ((i + 1 : Nat) : Int) := by rw [w64 (by omega)]; omega
theorem sub_full {α β : Type} (l : List α) (f : α -> β) : sub (l.map f) 0 (l.map f).length = l.map f := by simp [sub, List.take_of_length_le]
theorem sub_all (l : List T) : sub l 0 l.length = l := by simp [sub]
theorem map_at {α : Type} {l : List α} {f : α -> T} {i : Nat} {x : α} (h : l[i]? = some x) : (l.map f)[((i : Nat) : Int).toNat]? = some (f x) := by simp [h]
def inB (x lo hi : Int) : Bool := decide (lo <= x) && decide (x <= hi)
def left (n : Int) (b : Nat) : Int := if n < b then -1 else n - b
def Rng (n : Int) : Prop := -1 <= n /\ n <= 1048576
theorem left_rng {n : Int} {b : Nat} (h : Rng n) : Rng (left n b) := by unfold Rng left at *; split <;> omega
theorem left_fail {n : Int} {b c : Nat} (hn : Rng n) (h : decide (left n b < 0) = true) (hc : b <= c) : left n c = -1 := by
 simp only [decide_eq_true_eq] at h
 unfold left at *
 unfold Rng at hn
 split at h
 ·rw [if_pos (by omega)]
 ·omega
theorem left_ok {n : Int} {b : Nat} (hn : Rng n) (h : decide (left n b < 0) = false) : left n b = n - b /\ (b : Int) <= n := by
 simp only [decide_eq_false_iff_not] at h
 unfold left at *
 split at h
 ·omega
 ·rename_i h1; rw [if_neg h1]; exact ⟨rfl, by omega⟩
theorem wrap_len {α : Type} {l : List α} {f : α -> T} {n : Int} (hn : Rng n) (hl : l.length <= maxLen) : IntKind.i64.wrap (n - (l.map f).length) = n - l.length := by
 unfold Rng at hn
 rw [List.length_map, w64 (by unfold maxLen at hl; omega)]
def pre {α : Type} (f : α -> Nat) (l : List α) (i : Nat) : Nat := ((l.take i).map f).sum
theorem pre_zero {α : Type} (f : α -> Nat) (l : List α) : pre f l 0 = 0 := by simp [pre]
theorem pre_succ {α : Type} {f : α -> Nat} {l : List α} {i : Nat} {x : α} (h : l[i]? = some x) : pre f l (i + 1) = pre f l i + f x := by
 unfold pre
 rw [List.take_add_one, h]
 simp
theorem pre_end {α : Type} {f : α -> Nat} {l : List α} {i : Nat} (h : l.length <= i) : l.length + pre f l i = bulks f l := by
 unfold pre bulks
 rw [List.take_of_length_le h]
theorem pre_le {α : Type} {f : α -> Nat} {l : List α} {i : Nat} : l.length + pre f l i <= bulks f l := by
 unfold pre bulks
 have : ∀ (l : List Nat) (i : Nat), (l.take i).sum <= l.sum := by
  intro l
  induction l with
  | nil => intro i; simp
  | cons a l ih => intro i; cases i with
   | zero => simp
   | succ i => have := ih i; simp; omega
 have := this (l.map f) i
 rw [List.map_take]; omega
theorem eq_step {α : Type} {a b : List α} {i : Nat} {x : α} (h : a.take i = b.take i) (hx : a[i]? = some x) (hy : b[i]? = some x) : a.take (i + 1) = b.take (i + 1) := by
 rw [List.take_add_one, List.take_add_one, h, hx, hy]
theorem ne_at {α : Type} {a b : List α} {i : Nat} {x y : α} (hx : a[i]? = some x) (hy : b[i]? = some y) (h : x ≠ y) : a ≠ b := by
 intro e; subst e; rw [hx] at hy; cases hy; exact h rfl
theorem ne_len {α β : Type} {a b : List α} {f g : α -> β} (h : (((a.map f).length : Int) != (b.map g).length) = true) : a ≠ b := by
 intro e; subst e; simp at h
theorem eq_len {α β : Type} {a b : List α} {f g : α -> β} (h : (((a.map f).length : Int) != (b.map g).length) = false) : a.length = b.length := by
 simp at h; omega
theorem eq_end {α : Type} {a b : List α} {i : Nat} (h : a.take i = b.take i) (hl : a.length = b.length) (hi : a.length <= i) : a = b := by
 rwa [List.take_of_length_le hi, List.take_of_length_le (by omega)] at h
theorem iB_eq (x y : UInt8) : ((x.toNat : Int) = y.toNat) = (x = y) := by
 rw [eq_iff_iff]
 constructor
 ·intro h; exact UInt8.toNat_inj.1 (by omega)
 ·rintro rfl; rfl
theorem fzl0 : (∀ sz es, T.lz (.l .y sz es) = .l .n sz (fzs es)) /\ (∀ sz es, T.lz (.l .n sz es) = .l .n sz es) /\ (∀ k n, T.lz (.i k n) = .i k n) /\ (∀ x, T.lz (.b x) = .b x) /\ (∀ x, T.lz (.s x) = .s x) /\ (∀ g env, T.lz (.f g env) = .f g env) /\ (∀ k n, T.fz (.i k n) = .i k n) /\ (∀ x, T.fz (.b x) = .b x) /\ (∀ x, T.fz (.s x) = .s x) /\ (∀ cs, T.fz (.a cs) = .a (fzs cs)) /\ (∀ o sz es, T.fz (.l o sz es) = .l .n sz (fzs es)) /\ (∀ g env, T.fz (.f g env) = .f g env) /\ (∀ t, T.fz (.p t) = .p t) /\ (T.fz .u = .u) /\ (fzs [] = []) /\ (∀ t ts, fzs (t :: ts) = t.fz :: fzs ts) /\ (∀ o, (fun x => (GSketch.el o x).fz) = GSketch.el .n) /\ (∀ o x, fzs (GSketch.cs o x) = GSketch.cs .n x) /\ (∀ o, (fun x => (GSpan.el o x).fz) = GSpan.el .n) /\ (∀ o x, fzs (GSpan.cs o x) = GSpan.cs .n x) /\ (∀ o, (fun x => (GItem.el o x).fz) = GItem.el .n) /\ (∀ o x, fzs (GItem.cs o x) = GItem.cs .n x) /\ (∀ o, (fun x => (GEntry.el o x).fz) = GEntry.el .n) /\ (∀ o x, fzs (GEntry.cs o x) = GEntry.cs .n x) /\ (∀ o, (fun x => (GFrame.el o x).fz) = GFrame.el .n) /\ (∀ o x, fzs (GFrame.cs o x) = GFrame.cs .n x) /\ (∀ o, (fun x => (GAgent.el o x).fz) = GAgent.el .n) /\ (∀ o x, fzs (GAgent.cs o x) = GAgent.cs .n x) /\ (∀ o, (fun x => (GSeat.el o x).fz) = GSeat.el .n) /\ (∀ o x, fzs (GSeat.cs o x) = GSeat.cs .n x) /\ (∀ o, (fun x => (GRow.el o x).fz) = GRow.el .n) /\ (∀ o x, fzs (GRow.cs o x) = GRow.cs .n x) /\ (∀ o, (fun x => (GTurn.el o x).fz) = GTurn.el .n) /\ (∀ o x, fzs (GTurn.cs o x) = GTurn.cs .n x) /\ (∀ o, (fun x => (GConf.el o x).fz) = GConf.el .n) /\ (∀ o x, fzs (GConf.cs o x) = GConf.cs .n x) /\ (∀ o, (fun x => (GOut.el o x).fz) = GOut.el .n) /\ (∀ o x, fzs (GOut.cs o x) = GOut.cs .n x) /\ (∀ o, (fun x => (GHouse.el o x).fz) = GHouse.el .n) /\ (∀ o x, fzs (GHouse.cs o x) = GHouse.cs .n x) /\ (∀ o, (fun x => (GPack.el o x).fz) = GPack.el .n) /\ (∀ o x, fzs (GPack.cs o x) = GPack.cs .n x) /\ (∀ o, (fun x => (GWorld.el o x).fz) = GWorld.el .n) /\ (∀ o x, fzs (GWorld.cs o x) = GWorld.cs .n x) /\ (∀ o, (fun x => (GDeed.el o x).fz) = GDeed.el .n) /\ (∀ o x, fzs (GDeed.cs o x) = GDeed.cs .n x) := ⟨fun _ _ => rfl, fun _ _ => rfl, fun _ _ => rfl, fun _ => rfl, fun _ => rfl, fun _ _ => rfl, fun _ _ => rfl, fun _ => rfl, fun _ => rfl, fun _ => rfl, fun _ _ _ => rfl, fun _ _ => rfl, fun _ => rfl, rfl, rfl, fun _ _ => rfl, GSketch.fze, GSketch.fz, GSpan.fze, GSpan.fz, GItem.fze, GItem.fz, GEntry.fze, GEntry.fz, GFrame.fze, GFrame.fz, GAgent.fze, GAgent.fz, GSeat.fze, GSeat.fz, GRow.fze, GRow.fz, GTurn.fze, GTurn.fz, GConf.fze, GConf.fz, GOut.fze, GOut.fz, GHouse.fze, GHouse.fz, GPack.fze, GPack.fz, GWorld.fze, GWorld.fz, GDeed.fze, GDeed.fz⟩
theorem fzl : (∀ {α : Type} (f : α -> T) (l : List α), fzs (l.map f) = l.map fun x => (f x).fz) /\ (∀ {α β : Type} (l : List α) (f : α -> β), sub (l.map f) 0 (l.map f).length = l.map f) /\ ((∀ sz es, T.lz (.l .y sz es) = .l .n sz (fzs es)) /\ (∀ sz es, T.lz (.l .n sz es) = .l .n sz es) /\ (∀ k n, T.lz (.i k n) = .i k n) /\ (∀ x, T.lz (.b x) = .b x) /\ (∀ x, T.lz (.s x) = .s x) /\ (∀ g env, T.lz (.f g env) = .f g env) /\ (∀ k n, T.fz (.i k n) = .i k n) /\ (∀ x, T.fz (.b x) = .b x) /\ (∀ x, T.fz (.s x) = .s x) /\ (∀ cs, T.fz (.a cs) = .a (fzs cs)) /\ (∀ o sz es, T.fz (.l o sz es) = .l .n sz (fzs es)) /\ (∀ g env, T.fz (.f g env) = .f g env) /\ (∀ t, T.fz (.p t) = .p t) /\ (T.fz .u = .u) /\ (fzs [] = []) /\ (∀ t ts, fzs (t :: ts) = t.fz :: fzs ts) /\ (∀ o, (fun x => (GSketch.el o x).fz) = GSketch.el .n) /\ (∀ o x, fzs (GSketch.cs o x) = GSketch.cs .n x) /\ (∀ o, (fun x => (GSpan.el o x).fz) = GSpan.el .n) /\ (∀ o x, fzs (GSpan.cs o x) = GSpan.cs .n x) /\ (∀ o, (fun x => (GItem.el o x).fz) = GItem.el .n) /\ (∀ o x, fzs (GItem.cs o x) = GItem.cs .n x) /\ (∀ o, (fun x => (GEntry.el o x).fz) = GEntry.el .n) /\ (∀ o x, fzs (GEntry.cs o x) = GEntry.cs .n x) /\ (∀ o, (fun x => (GFrame.el o x).fz) = GFrame.el .n) /\ (∀ o x, fzs (GFrame.cs o x) = GFrame.cs .n x) /\ (∀ o, (fun x => (GAgent.el o x).fz) = GAgent.el .n) /\ (∀ o x, fzs (GAgent.cs o x) = GAgent.cs .n x) /\ (∀ o, (fun x => (GSeat.el o x).fz) = GSeat.el .n) /\ (∀ o x, fzs (GSeat.cs o x) = GSeat.cs .n x) /\ (∀ o, (fun x => (GRow.el o x).fz) = GRow.el .n) /\ (∀ o x, fzs (GRow.cs o x) = GRow.cs .n x) /\ (∀ o, (fun x => (GTurn.el o x).fz) = GTurn.el .n) /\ (∀ o x, fzs (GTurn.cs o x) = GTurn.cs .n x) /\ (∀ o, (fun x => (GConf.el o x).fz) = GConf.el .n) /\ (∀ o x, fzs (GConf.cs o x) = GConf.cs .n x) /\ (∀ o, (fun x => (GOut.el o x).fz) = GOut.el .n) /\ (∀ o x, fzs (GOut.cs o x) = GOut.cs .n x) /\ (∀ o, (fun x => (GHouse.el o x).fz) = GHouse.el .n) /\ (∀ o x, fzs (GHouse.cs o x) = GHouse.cs .n x) /\ (∀ o, (fun x => (GPack.el o x).fz) = GPack.el .n) /\ (∀ o x, fzs (GPack.cs o x) = GPack.cs .n x) /\ (∀ o, (fun x => (GWorld.el o x).fz) = GWorld.el .n) /\ (∀ o x, fzs (GWorld.cs o x) = GWorld.cs .n x) /\ (∀ o, (fun x => (GDeed.el o x).fz) = GDeed.el .n) /\ (∀ o x, fzs (GDeed.cs o x) = GDeed.cs .n x)) := ⟨@fz_map, @sub_full, fzl0⟩
end Go.Wr
namespace Go.Wr
def allIx (n : Nat) (p : Nat -> Bool) : Bool := (List.range n).all p
theorem allIx_of {n : Nat} {p : Nat -> Bool} (h : ∀ j, j < n -> p j = true) : allIx n p = true := by
 unfold allIx
 rw [List.all_eq_true]
 intro j hj
 exact h j (List.mem_range.1 hj)
theorem allIx_not {n i : Nat} {p : Nat -> Bool} (hi : i < n) (h : p i = false) : allIx n p = false := by
 rw [Bool.eq_false_iff]
 intro h2
 have := List.all_eq_true.1 h2 i (List.mem_range.2 hi)
 rw [h] at this; cases this
theorem allIx_iff {n : Nat} {p : Nat -> Bool} : allIx n p = true <-> ∀ j, j < n -> p j = true := by
 constructor
 ·intro h j hj
  exact List.all_eq_true.1 h j (List.mem_range.2 hj)
 ·exact allIx_of
theorem upto_succ {p : Nat -> Bool} {i : Nat} (h : ∀ j, j < i -> p j = true) (hi : p i = true) : ∀ j, j < i + 1 -> p j = true := fun j hj => by
 rcases Nat.lt_succ_iff_lt_or_eq.1 hj with h1 | h1
 ·exact h j h1
 ·exact h1 ▸ hi
theorem allIx_congr {n : Nat} {p q : Nat -> Bool} (h : ∀ j, j < n -> p j = q j) : allIx n p = allIx n q := by
 rw [Bool.eq_iff_iff, allIx_iff, allIx_iff]
 exact ⟨fun h2 j hj => h j hj ▸ h2 j hj, fun h2 j hj => (h j hj).symm ▸ h2 j hj⟩
theorem take_all {α : Type} {l : List α} {p : α -> Bool} {i : Nat} {x : α} (h : (l.take i).all p = true) (hx : l[i]? = some x) (hp : p x = true) : (l.take (i + 1)).all p = true := by
 rw [List.take_succ_eq_append_getElem (List.getElem?_eq_some_iff.1 hx).1, List.all_append, h]
 obtain ⟨hl, rfl⟩ := List.getElem?_eq_some_iff.1 hx
 simp [hp]
theorem not_all {α : Type} {l : List α} {p : α -> Bool} {i : Nat} {x : α} (hx : l[i]? = some x) (hp : p x = false) : l.all p = false := by
 rw [Bool.eq_false_iff]
 intro h
 have := List.all_eq_true.1 h x (List.mem_of_getElem? hx)
 rw [hp] at this; cases this
theorem take_end {α : Type} {l : List α} {p : α -> Bool} (h : (l.take l.length).all p = true) : l.all p = true := by
 rwa [List.take_length] at h
def numsOk (l : List Int) (lo hi : Int) : Bool := decide (l.length = 3) && l.all (inB · lo hi)
def GConf.ok (c : GConf) : Bool := inB c.Per 1 8 && inB c.Quantum 1 60 && inB c.Quota 1 10 && numsOk c.Weights 1 4 && inB c.Join 1 100 && inB c.Long 1 20 && inB c.Grace 0 20 && inB c.Still 1 50
def idOf (a s : Int) : Int := if inB a 0 2 && inB s 1 60 then 100 * a + s else -1
def okAt (s : List GSpan) (i : Nat) : Bool := match s[i]? with
 | none => false
 | some x => inB x.Lo 0 9999 && inB x.Hi x.Lo 9999 && (match i with
  | 0 => true
  | k + 1 => match s[k]? with
   | some p => !decide (x.Lo <= p.Hi + 1)
   | none => false)
def setOk (s : List GSpan) : Bool := allIx s.length (okAt s)
def setHas (s : List GSpan) (n : Int) : Bool := s.any fun x => inB n x.Lo x.Hi
def spanApart (x y : GSpan) : Bool := !(decide (x.Lo <= y.Hi) && decide (y.Lo <= x.Hi))
def setApart (a b : List GSpan) : Bool := setOk a && setOk b && a.all fun x => b.all fun y => spanApart x y
def sumSpan (s : List GSpan) : Int := (s.map fun x => x.Hi - x.Lo + 1).sum
def setSize (s : List GSpan) : Int := if setOk s then sumSpan s else 0
def allIn (s : List GSpan) (lo hi : Int) : Bool := setOk s && s.all fun x => decide (lo <= x.Lo) && decide (x.Hi <= hi)
structure SetR (s : List GSpan) : Prop where
 lo : ∀ x ∈ s, 0 <= x.Lo /\ x.Lo <= x.Hi /\ x.Hi <= 9999
 ord : s.Pairwise fun x y => x.Hi + 1 < y.Lo
theorem setOk_iff (s : List GSpan) : setOk s = true <-> SetR s := by
 unfold setOk
 rw [allIx_iff]
 constructor
 ·intro h
  have hb : ∀ (i : Nat) x, s[i]? = some x -> 0 <= x.Lo /\ x.Lo <= x.Hi /\ x.Hi <= 9999 := fun i x hx => by
   have := h i (List.getElem?_eq_some_iff.1 hx).1
   simp only [okAt, hx, inB, Bool.and_eq_true, decide_eq_true_eq] at this
   omega
  have hstep : ∀ (i : Nat) x y, s[i]? = some x -> s[i + 1]? = some y -> x.Hi + 1 < y.Lo := fun i x y hx hy => by
   have := h (i + 1) (List.getElem?_eq_some_iff.1 hy).1
   simp only [okAt, hx, hy, inB, Bool.and_eq_true, decide_eq_true_eq, Bool.not_eq_true', decide_eq_false_iff_not] at this
   omega
  refine ⟨fun x hx => ?_, ?_⟩
  ·obtain ⟨i, hi⟩ := List.mem_iff_getElem?.1 hx
   exact hb i x hi
  ·rw [List.pairwise_iff_getElem]
   intro i j hi hj hij
   obtain ⟨d, rfl⟩ : ∃ d, j = i + 1 + d := ⟨j - i - 1, by omega⟩
   induction d with
   | zero => exact hstep i _ _ (List.getElem?_eq_getElem hi) (List.getElem?_eq_getElem hj)
   | succ d ih =>
    have h1 := ih (by omega) (by omega)
    have h2 := hstep (i + 1 + d) _ _ (List.getElem?_eq_getElem (by omega)) (List.getElem?_eq_getElem hj)
    have h3 := hb (i + 1 + d) _ (List.getElem?_eq_getElem (by omega))
    omega
 ·intro h j hj
  have hx := List.getElem?_eq_getElem hj
  have h1 := h.lo _ (List.mem_of_getElem? hx)
  simp only [okAt, hx, inB, Bool.and_eq_true, decide_eq_true_eq]
  refine ⟨⟨⟨by omega, by omega⟩, by omega, by omega⟩, ?_⟩
  cases j with
  | zero => rfl
  | succ k =>
   have hk : k < s.length := by omega
   have h2 := List.pairwise_iff_getElem.1 h.ord k (k + 1) hk hj (by omega)
   simp only [List.getElem?_eq_getElem hk, Bool.not_eq_true', decide_eq_false_iff_not]
   omega
def lstOk (l : List Int) (n : Nat) (most : Int) (z : Bool) : Bool := decide (l.length = n) && l.all fun x => inB x 0 most && !(z && x != 0)
def GSketch.ok (x : GSketch) : Bool :=
 inB x.Count 0 1000000000 && inB x.Sum 0 1000000000 && inB x.Min 0 1000000 && inB x.Max 0 1000000 && decide (x.Min <= x.Max) && decide (x.Rows.length = 2) &&
 !(x.Count == 0 && (x.Sum != 0 || x.Max != 0)) && lstOk x.Hist 8 1000000000 (x.Count == 0) && lstOk x.Regs 8 17 (x.Count == 0) && x.Rows.all fun r => lstOk r 4 1000000000 (x.Count == 0)
def GEntry.ok (e : GEntry) : Bool := inB e.Key 0 4 && inB e.Window 0 20 && setOk e.Ids && decide (e.Ids ≠ []) && e.Sketch.ok
def apartAt (l : List GEntry) (i : Nat) : Bool := match l[i]? with
 | none => false
 | some e => e.ok && (l.take i).all fun o => setApart e.Ids o.Ids
def entsApart (l : List GEntry) : Bool := allIx l.length (apartAt l)
def GRow.ok (r : GRow) : Bool := decide (r.Lst.length <= 24) && entsApart r.Lst
def aheadE (a b : GEntry) : Bool := decide (a.Key < b.Key) || (a.Key == b.Key && decide (a.Window < b.Window))
def toldN (l : List GOut) (key window : Int) : Nat := l.countP fun o => o.Entry.Key == key && o.Entry.Window == window
def putLast (out : List GSpan) (x : GSpan) : List GSpan := match out.getLast? with
 | some p => if x.Lo <= p.Hi + 1 then out.dropLast ++ [⟨p.Lo, max p.Hi x.Hi⟩] else out ++ [x]
 | none => [x]
def sortG (l : List GSpan) : List GSpan := (sortR (l.map fun x => (x.Lo, x.Hi))).map fun p => ⟨p.1, p.2⟩
def unionG (l : List GSpan) : List GSpan := (sortG l).foldl putLast []
def idsOf (l : List GEntry) : List GSpan := unionG (l.flatMap GEntry.Ids)
structure PutS where
 out : List GSpan
 done : Bool
 x : GSpan
def putStep (p : PutS) (y : GSpan) : PutS :=
 if y.Hi + 1 < p.x.Lo then { p with out := p.out ++ [y] }
 else if y.Lo > p.x.Hi + 1 then (if p.done then { p with out := p.out ++ [y] } else { p with out := p.out ++ [p.x, y], done := true })
 else { p with x := ⟨min p.x.Lo y.Lo, max p.x.Hi y.Hi⟩ }
def putG (s : List GSpan) (x : GSpan) : List GSpan := let p := s.foldl putStep ⟨[], false, x⟩; if p.done then p.out else p.out ++ [p.x]
def joinG (a b : List GSpan) : List GSpan := b.foldl putG a
def GSeat.ok (s : GSeat) (per : Int) : Bool := inB per 1 8 && inB s.Epoch 0 1000 && inB s.Granted 0 60 && allIn s.Taken 1 s.Granted && inB s.Merged 0 (setSize s.Taken) && decide (s.Granted <= s.Merged + per) && inB s.Last 0 1000000
def GTurn.ok (t : GTurn) : Bool := inB t.At 0 2 && numsOk t.Left 0 1000
def ofAgent (ids : List GSpan) (a : Int) : Int := (ids.map fun x => max (min x.Hi (100 * a + 60) - max x.Lo (100 * a + 1) + 1) 0).sum
def rowEnts (h : GHouse) : List GEntry := (h.Rows.map fun rs => (rs.map GRow.Lst).flatten).flatten
def addedE (h : GHouse) : List GEntry := h.Root ++ h.Outs.map GOut.Entry
theorem flats_map {α : Type} {f : α -> T} (h : ∀ x, (f x).flat = true) (l : List α) : flats (l.map f) = true := by
 induction l with
 | nil => rfl
 | cons x l ih => simp [flats, h x, ih]
theorem okAt_zero {s : List GSpan} {x : GSpan} (hx : s[0]? = some x) : okAt s 0 = (inB x.Lo 0 9999 && inB x.Hi x.Lo 9999) := by simp [okAt, hx]
theorem okAt_succ {s : List GSpan} {k : Nat} {x p : GSpan} (hx : s[k + 1]? = some x) (hp : s[k]? = some p) : okAt s (k + 1) = (inB x.Lo 0 9999 && inB x.Hi x.Lo 9999 && !decide (x.Lo <= p.Hi + 1)) := by simp [okAt, hx, hp]
theorem okAt_hi {s : List GSpan} {k : Nat} {p : GSpan} (hp : s[k]? = some p) (h : okAt s k = true) : 0 <= p.Lo /\ p.Lo <= p.Hi /\ p.Hi <= 9999 := by
 simp only [okAt, hp, inB, Bool.and_eq_true, decide_eq_true_eq] at h
 omega
theorem wrap_pred {k : Nat} (h : k <= 4194304) : IntKind.i64.wrap (((k + 1 : Nat) : Int) - 1) = k := by rw [w64 (by omega)]; omega
theorem setOk_bnd {s : List GSpan} (h : setOk s = true) {x : GSpan} (hx : x ∈ s) : 0 <= x.Lo /\ x.Lo <= x.Hi /\ x.Hi <= 9999 := ((setOk_iff s).1 h).lo x hx
theorem app_len {α : Type} {f : α -> T} {l : List α} (hl : l.length <= 4194304) : ([] : List T).length + (l.map f).length < lenMax := by simp [lenMax]; omega
theorem outB {a b : Bool} (h : a = b) : (⟨[.one (.b a)], []⟩ : Out) = ⟨[.one (.b b)], []⟩ := by rw [h]
theorem outI {a b : Int} (h : a = b) : (⟨[.one (iT a)], []⟩ : Out) = ⟨[.one (iT b)], []⟩ := by rw [h]
theorem iN4 (n : Nat) : decide ((n : Int) = 4) = decide (n = 4) := by rw [Bool.eq_iff_iff]; simp; omega
theorem iN8 (n : Nat) : decide ((n : Int) = 8) = decide (n = 8) := by rw [Bool.eq_iff_iff]; simp; omega
theorem iN3 (n : Nat) : decide ((n : Int) = 3) = decide (n = 3) := by rw [Bool.eq_iff_iff]; simp; omega
theorem iN : (∀ n : Nat, decide ((n : Int) = 4) = decide (n = 4)) /\ (∀ n : Nat, decide ((n : Int) = 8) = decide (n = 8)) := ⟨iN4, iN8⟩
theorem app_len2 {α β : Type} {f : α -> T} {g : β -> T} {l : List α} {l2 : List β} (hl : l.length + l2.length <= 4194304) : (l.map f).length + (l2.map g).length < lenMax := by simp [lenMax]; omega
theorem app_len3 {α : Type} {f : α -> T} {l : List α} {a b c d : T} (hl : l.length <= 4194304) : (l.map f).length + [a, b, c, d].length < lenMax := by simp [lenMax]; omega
theorem nav_at {o : Ob} {sz : Nat} {l : List T} {i : Nat} {t : T} (h : l[i]? = some t) : (T.l o sz l).nav [0 + Int.toNat (i : Int)] = some t := by
 simp [T.nav, T.kid, h]
theorem own_lt {α : Type} {f : α -> T} {l : List α} {i : Nat} (h : i < l.length) : (i : Int) < ((l.map f).length : Nat) := by rw [List.length_map]; omega
theorem sum_take_succ {l : List Int} {i : Nat} {x : Int} (h : l[i]? = some x) : (l.take (i + 1)).sum = (l.take i).sum + x := by
 rw [List.take_add_one, h]; simp
theorem flat_succ {α β : Type} {f : α -> List β} {l : List α} {i : Nat} {x : α} (h : l[i]? = some x) : ((l.take (i + 1)).map f).flatten = ((l.take i).map f).flatten ++ f x := by
 rw [List.take_add_one, h]; simp
theorem flat_bnd {α β : Type} {f : α -> List β} {l : List α} {i : Nat} {x : α} (h : l[i]? = some x) : ((l.take i).map f).flatten.length + (f x).length <= (l.map f).flatten.length := by
 have h2 : l = l.take i ++ x :: l.drop (i + 1) := by
  obtain ⟨hi, rfl⟩ := List.getElem?_eq_some_iff.1 h
  rw [List.getElem_cons_drop, List.take_append_drop]
 have h3 := congrArg (fun l => (l.map f).flatten.length) h2
 simp only [List.map_append, List.map_cons, List.flatten_append, List.flatten_cons, List.length_append] at h3
 omega
theorem flat_len {α β : Type} {f : α -> List β} {g : α -> Nat} (h : ∀ x, (f x).length <= g x) (l : List α) : (l.map f).flatten.length <= bulks g l := by
 unfold bulks
 induction l with
 | nil => simp
 | cons x l ih => have := h x; simp only [List.map_cons, List.flatten_cons, List.length_append, List.sum_cons, List.length_cons]; omega
def rowsE (rs : List GRow) : List GEntry := (rs.map GRow.Lst).flatten
theorem rowEnts_eq (h : GHouse) : rowEnts h = (h.Rows.map rowsE).flatten := rfl
theorem rowsE_len (rs : List GRow) : (rowsE rs).length <= bulks GRow.bulk rs := flat_len (fun r => bulks_len _ _) rs
theorem rowEnts_len (h : GHouse) : (rowEnts h).length <= bulks (bulks GRow.bulk) h.Rows := flat_len rowsE_len h.Rows
theorem map_succ {α β : Type} {f : α -> β} {l : List α} {i : Nat} {x : α} (h : l[i]? = some x) : (l.take (i + 1)).map f = (l.take i).map f ++ [f x] := by
 rw [List.take_add_one, h]; simp
theorem last_at {ob : Ob} {sz : Nat} {α : Type} {f : α -> T} (o : List α) (p : α) {k : Int} (hk : k = (o.length : Int)) : (T.l ob sz ((o ++ [p]).map f)).nav [0 + k.toNat] = some (f p) := by
 subst hk; simp [T.nav, T.kid]
theorem last_mine {sz : Nat} {α : Type} {f : α -> T} (o : List α) (p : α) {k : Int} (hk : k = (o.length : Int)) : (T.l .y sz ((o ++ [p]).map f)).mine [0 + k.toNat] = true := by
 subst hk; simp [T.mine, Ob.own]
theorem last_put {ob : Ob} {sz : Nat} {α : Type} {f : α -> T} (o : List α) (p q : α) {k : Int} {x : T} (hk : k = (o.length : Int)) (hx : x = f q) : (T.l ob sz ((o ++ [p]).map f)).put [0 + k.toNat] x = T.l ob sz ((o ++ [q]).map f) := by
 subst hk hx; simp [T.put, T.kid, T.setKid]
theorem fold_succ {α β : Type} {f : β -> α -> β} {b : β} {l : List α} {i : Nat} {x : α} (h : l[i]? = some x) : (l.take (i + 1)).foldl f b = f ((l.take i).foldl f b) x := by
 rw [List.take_add_one, h]; simp
theorem putLast_nil (x : GSpan) : putLast [] x = [x] := rfl
theorem putLast_snoc (o : List GSpan) (p x : GSpan) : putLast (o ++ [p]) x = if x.Lo <= p.Hi + 1 then o ++ [⟨p.Lo, max p.Hi x.Hi⟩] else o ++ [p] ++ [x] := by
 simp [putLast]
def HiR (x : GSpan) : Prop := -1 <= x.Hi /\ x.Hi <= 9999
theorem putLast_hi {o : List GSpan} {x : GSpan} (ho : ∀ y ∈ o, HiR y) (hx : HiR x) : ∀ y ∈ putLast o x, HiR y := by
 rcases List.eq_nil_or_concat o with rfl | ⟨o, p, rfl⟩
 ·simpa [putLast_nil] using hx
 ·rw [List.concat_eq_append] at ho ⊢
  rw [putLast_snoc]
  have hp := ho p (by simp)
  split
  ·intro y hy
   rcases List.mem_append.1 hy with h | h
   ·exact ho y (by simp [h])
   ·simp only [List.mem_singleton] at h; subst h
    unfold HiR at *; simp only; omega
  ·intro y hy
   rcases List.mem_append.1 hy with h | h
   ·exact ho y h
   ·simp only [List.mem_singleton] at h; subst h; exact hx
theorem putLast_len (o : List GSpan) (x : GSpan) : (putLast o x).length <= o.length + 1 := by
 rcases List.eq_nil_or_concat o with rfl | ⟨o, p, rfl⟩
 ·simp [putLast_nil]
 ·rw [List.concat_eq_append, putLast_snoc]; split <;> simp
theorem fz_ents (l : List GEntry) : fzs (l.map (GEntry.el .n)) = l.map (GEntry.el .n) := by rw [fz_map, GEntry.fze]
end Go.Wr
namespace Go.Wr
theorem sub_len {α : Type} {f g : α -> T} (l : List α) : sub (l.map f) 0 (l.map g).length = l.map f := by
 unfold sub; rw [List.drop_zero, List.take_of_length_le (by simp)]
section
variable {id i : Nat} {o : MOper} {d : Option Nat} {op : MOp} {os : List MOper} {fs fs' : Fs} {l l1 l2 l3 : LS} {K : LS -> Prop} {s : Nat} {b want : Bool} {kl : List Nat}
theorem yo  (hK : EvX id (i + 1) os fs' l1 K) (h : (fs.hd (o.exec ((id * 1000 + i + 1) * 8))).ev l = some ((), l1) := by exact rfl) (hf : fs.tlK fun f => f = fs' := by exact rfl) : EvX id i (o :: os) fs l K := zo h hf hK
theorem yy  (h : EvX id i (⟨d, op, none, kl⟩ :: os) fs l K) (hr : fs.has s = true := by exact rfl) (hg : l.get s = .x (.b b) := by exact rfl) (ht : b = want := by with_reducible assumption) : EvX id i (⟨d, op, some (s, want), kl⟩ :: os) fs l K := zy hr hg ht h
theorem ym  (h : EvX id (i + 1) os fs' l1 K) (hr : fs.has s = true := by exact rfl) (hg : l.get s = .x (.b b) := by exact rfl) (ht : b = !want := by with_reducible assumption) (h1 : (fs.hd ((setD d (.tup 0)).bind fun _ => forget kl)).ev l = some ((), l1) := by exact rfl) (hf : fs.tlK fun f => f = fs' := by exact rfl) : EvX id i (⟨d, op, some (s, want), kl⟩ :: os) fs l K := zm hr hg ht h1 hf h
theorem yp {c x y : Opd} {v : T} (h : EvX id (i + 1) os fs' l1 K) (hg : (fs.hd (raw ((id * 1000 + i + 1) * 8) c)).ev l = some (.x (.b b), l) := by exact rfl) (ht : b = want := by with_reducible assumption) (hx : (fs.hd (raw ((id * 1000 + i + 1) * 8) (bif want then x else y))).ev l = some (.x v, l) := by exact rfl) (h1 : (fs.hd ((setD d (.x v)).bind fun _ => forget kl)).ev l = some ((), l1) := by exact rfl) (hf : fs.tlK fun f => f = fs' := by exact rfl) : EvX id i (⟨d, .pick c x y, none, kl⟩ :: os) fs l K := zp hg ht hx h1 hf h
theorem yk {F : Fun} {args : List (Pass × Opd)} {hs : List Hand} {ags : List Arg} {q : Out} (g : Nat) (h2 : F ags = some q) (hK : EvX id (i + 1) os fs' l2 K) (h1 : (fs.hd (callPre ((id * 1000 + i + 1) * 8) args [])).ev l = some (hs, l1) := by exact rfl) (ha : hs.map Hand.arg = ags := by exact rfl) (h3 : callOk hs q = true := by exact rfl) (h4 : (fs.hd ((callPost ((id * 1000 + i + 1) * 8) d hs q).bind fun _ => forget kl)).ev l1 = some ((), l2) := by exact rfl) (hf : fs.tlK fun f => f = fs' := by exact rfl) : EvX id i (⟨d, .call g F args, none, kl⟩ :: os) fs l K := zk g h1 ha h2 h3 h4 hf hK
theorem yv {F : Fun} {args : List (Pass × Opd)} {hs : List Hand} {ags : List Arg} {q : Out} (g : Nat) (h2 : F ags = some q) (hK : EvX id (i + 1) os fs' l2 K) (h1 : (fs.hd (callPre ((id * 1000 + i + 1) * 8) args [])).ev l = some (hs, l1) := by exact rfl) (ha : hs.map Hand.arg = ags := by (simp only [List.map, fzl]; exact rfl)) (h3 : callOk hs q = true := by exact rfl) (h4 : (fs.hd ((callPost ((id * 1000 + i + 1) * 8) d hs q).bind fun _ => forget kl)).ev l1 = some ((), l2) := by exact rfl) (hf : fs.tlK fun f => f = fs' := by exact rfl) : EvX id i (⟨d, .call g F args, none, kl⟩ :: os) fs l K := zk g h1 ha h2 h3 h4 hf hK
theorem yw {F : Fun} {args : List (Pass × Opd)} {hs : List Hand} {ags : List Arg} {q : Out} (g : Nat) (h2 : F ags = some q) (h3 : callOk hs q = true) (hK : EvX id (i + 1) os fs' l2 K) (h1 : (fs.hd (callPre ((id * 1000 + i + 1) * 8) args [])).ev l = some (hs, l1) := by exact rfl) (ha : hs.map Hand.arg = ags := by (simp only [List.map, fzl]; exact rfl)) (h4 : (fs.hd ((callPost ((id * 1000 + i + 1) * 8) d hs q).bind fun _ => forget kl)).ev l1 = some ((), l2) := by exact rfl) (hf : fs.tlK fun f => f = fs' := by exact rfl) : EvX id i (⟨d, .call g F args, none, kl⟩ :: os) fs l K := zk g h1 ha h2 h3 h4 hf hK
theorem yd {x : Opd} {cands : List (Nat × Fun)} {g : Nat} {env : List T} {F : Fun} {args : List (Pass × Opd)} {hs : List Hand} {ags : List Arg} {q : Out} (h2 : F ags = some q) (hK : EvX id (i + 1) os fs' l2 K) (h0 : (fs.hd (raw ((id * 1000 + i + 1) * 8) x)).ev l = some (.x (.f g env), l) := by exact rfl) (hc : cands.find? (fun c => c.1 == g) = some (g, F) := by exact rfl) (h1 : (fs.hd (callPre ((id * 1000 + i + 1) * 8) args env)).ev l = some (hs, l1) := by exact rfl) (ha : hs.map Hand.arg = ags := by exact rfl) (h3 : callOk hs q = true := by exact rfl) (h4 : (fs.hd ((callPost ((id * 1000 + i + 1) * 8) d hs q).bind fun _ => forget kl)).ev l1 = some ((), l2) := by exact rfl) (hf : fs.tlK fun f => f = fs' := by exact rfl) : EvX id i (⟨d, .dyn x cands args, none, kl⟩ :: os) fs l K := zd h0 hc h1 ha h2 h3 h4 hf hK
theorem yi {sz : Nat} {x ix : Opd} {k : IntKind} {n : Int} {es : List T} (t : T) (ht : es[n.toNat]? = some t) (h : EvX id (i + 1) os fs' l1 K) (h1 : (fs.hd (raw ((id * 1000 + i + 1) * 8) ix)).ev l = some (.x (.i k n), l) := by exact rfl) (h2 : (fs.hd (look ((id * 1000 + i + 1) * 8) x)).ev l = some (.x (.l .n sz es), l) := by exact rfl) (h0 : 0 <= n := by exact Int.natCast_nonneg _) (h3 : (fs.hd ((setD d (.q t 0)).bind fun _ => forget kl)).ev l = some ((), l1) := by exact rfl) (hf : fs.tlK fun f => f = fs' := by exact rfl) : EvX id i (⟨d, .ia sz x ix, none, kl⟩ :: os) fs l K := zi t h1 h2 h0 ht h3 hf h
theorem yj {sz : Nat} {x ix : Opd} {k : IntKind} {n : Int} {es : List T} (t : T) (h0 : 0 <= n) (ht : es[n.toNat]? = some t) (h : EvX id (i + 1) os fs' l1 K) (h1 : (fs.hd (raw ((id * 1000 + i + 1) * 8) ix)).ev l = some (.x (.i k n), l) := by exact rfl) (h2 : (fs.hd (look ((id * 1000 + i + 1) * 8) x)).ev l = some (.x (.l .n sz es), l) := by exact rfl) (h3 : (fs.hd ((setD d (.q t 0)).bind fun _ => forget kl)).ev l = some ((), l1) := by exact rfl) (hf : fs.tlK fun f => f = fs' := by exact rfl) : EvX id i (⟨d, .ia sz x ix, none, kl⟩ :: os) fs l K := zi t h1 h2 h0 ht h3 hf h
theorem yx {sz : Nat} {x ix : Opd} {k : IntKind} {n : Int} {r' : Nat} {kk : Wr.K} {p : List Nat} {lo m : Nat} (ht : n < m) (h : EvX id (i + 1) os fs' l1 K) (h1 : (fs.hd (raw ((id * 1000 + i + 1) * 8) ix)).ev l = some (.x (.i k n), l) := by exact rfl) (h2 : (fs.hd (look ((id * 1000 + i + 1) * 8) x)).ev l = some (.w r' kk p sz lo m, l) := by exact rfl) (h0 : 0 <= n := by exact Int.natCast_nonneg _) (h3 : (fs.hd ((setD d (.ptr r' kk (p ++ [lo + n.toNat]) 0)).bind fun _ => forget kl)).ev l = some ((), l1) := by exact rfl) (hf : fs.tlK fun f => f = fs' := by exact rfl) : EvX id i (⟨d, .ia sz x ix, none, kl⟩ :: os) fs l K := zw h1 h2 h0 ht h3 hf h
theorem yz {sz : Nat} {x ix : Opd} {k : IntKind} {n : Int} {r' : Nat} {kk : Wr.K} {p : List Nat} {lo m : Nat} (h0 : 0 <= n) (ht : n < m) (h : EvX id (i + 1) os fs' l1 K) (h1 : (fs.hd (raw ((id * 1000 + i + 1) * 8) ix)).ev l = some (.x (.i k n), l) := by exact rfl) (h2 : (fs.hd (look ((id * 1000 + i + 1) * 8) x)).ev l = some (.w r' kk p sz lo m, l) := by exact rfl) (h3 : (fs.hd ((setD d (.ptr r' kk (p ++ [lo + n.toNat]) 0)).bind fun _ => forget kl)).ev l = some ((), l1) := by exact rfl) (hf : fs.tlK fun f => f = fs' := by exact rfl) : EvX id i (⟨d, .ia sz x ix, none, kl⟩ :: os) fs l K := zw h1 h2 h0 ht h3 hf h
theorem yl {x : Opd} {rr : Nat} {k : Wr.K} {p : List Nat} {off : Nat} {c : RC} {t : T} (node : T) (hn : c.t.nav p = some node) (h : EvX id (i + 1) os fs' l1 K) (h1 : (fs.hd (addr ((id * 1000 + i + 1) * 8) x)).ev l = some (.ptr rr k p off, l) := by exact rfl) (h2 : (fs.hd (rootP rr k p)).ev l = some (c, l) := by exact rfl) (ht : node.cells[off]? = some t := by exact rfl) (h3 : (fs.hd ((setD d (seen rr c.k p off node t).av).bind fun _ => forget kl)).ev l = some ((), l1) := by exact rfl) (hf : fs.tlK fun f => f = fs' := by exact rfl) : EvX id i (⟨d, .ld none x, none, kl⟩ :: os) fs l K := zl node h1 h2 hn ht h3 hf h
theorem yL {n : Nat} {x : Opd} {rr : Nat} {k : Wr.K} {p : List Nat} {off : Nat} {c : RC} (cs : List T) (hn : c.t.nav p = some (.a cs)) (h : EvX id (i + 1) os fs' l1 K) (h1 : (fs.hd (addr ((id * 1000 + i + 1) * 8) x)).ev l = some (.ptr rr k p off, l) := by exact rfl) (h2 : (fs.hd (rootP rr k p)).ev l = some (c, l) := by exact rfl) (hl : Nat.ble (off + n) cs.length = true := by exact rfl) (h3 : (fs.hd ((setD d (.st (seenCells rr c.k p (.a cs) off (sub cs off n)))).bind fun _ => forget kl)).ev l = some ((), l1) := by exact rfl) (hf : fs.tlK fun f => f = fs' := by exact rfl) : EvX id i (⟨d, .ld (some n) x, none, kl⟩ :: os) fs l K := zL cs h1 h2 hn hl h3 hf h
theorem yS {n : Nat} {tk : Bool} {x v : Opd} {rr : Nat} {k k' : Wr.K} {p : List Nat} {off : Nat} {c : RC} {new : List T} (node : T) (t : T) (hn : c.t.nav p = some node) (hm : c.t.mine p = true) (ht : c.t.put p (node.ofCells (splice node.cells off new)) = t) (h : EvX id (i + 1) os fs' l2 K) (h0 : (fs.hd (give ((id * 1000 + i + 1) * 8) tk v)).ev l = some (new, l1) := by exact rfl) (hl : new.length = n := by exact rfl) (h1 : (fs.hd (addr ((id * 1000 + i + 1) * 8) x)).ev l1 = some (.ptr rr k p off, l1) := by exact rfl) (h2 : (fs.hd (rootP rr k p)).ev l1 = some (c, l1) := by exact rfl) (hok : putOk c p off node new = true := by exact rfl) (hk : (bif (sub node.cells off new.length).all T.scalar && new.all T.scalar then c.k else bump ((id * 1000 + i + 1) * 8) c p) = k' := by exact rfl) (h3 : (fs.hd ((Pg.wr rr ({ c with k := k', t := t } : RC).av).bind fun _ => forget kl)).ev l1 = some ((), l2) := by exact rfl) (hf : fs.tlK fun f => f = fs' := by exact rfl) : EvX id i (⟨none, .sto n tk x v, none, kl⟩ :: os) fs l K := zS node t h0 hl h1 h2 hn hm hok ht hk h3 hf h
end
section
variable {l : LS} {us : List Nat} {K : Ex -> LS -> List Nat -> Prop}
theorem yc {c : MCode} (h : stepC c l us K) (hs : isStep c = true := by exact rfl) : Ev c l us K := zc hs h
theorem yt {c : Opd} {a b : MCode} {t : Bool} {l l1 : LS} {us : List Nat} {K : Ex -> LS -> List Nat -> Prop} (h1 : t = true -> Ev a l us K) (h2 : t = false -> Ev b l us K) (h : (raw 0 c).ev l = some (.x (.b t), l1) := by exact rfl) : Ev (.cond c a b) l us K := zt h h1 h2
theorem yt1 {c : Opd} {a b : MCode} {t : Bool} {l l1 : LS} {us : List Nat} {K : Ex -> LS -> List Nat -> Prop} (h1 : Ev a l us K) (h : (raw 0 c).ev l = some (.x (.b t), l1) := by exact rfl) (ht : t = true := by with_reducible assumption) : Ev (.cond c a b) l us K := zt1 h ht h1
theorem yt0 {c : Opd} {a b : MCode} {t : Bool} {l l1 : LS} {us : List Nat} {K : Ex -> LS -> List Nat -> Prop} (h1 : Ev b l us K) (h : (raw 0 c).ev l = some (.x (.b t), l1) := by exact rfl) (ht : t = false := by with_reducible assumption) : Ev (.cond c a b) l us K := zt0 h ht h1
end
end Go.Wr

