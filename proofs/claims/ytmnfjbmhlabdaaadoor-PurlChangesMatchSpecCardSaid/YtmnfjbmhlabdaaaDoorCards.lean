/-
  DERIVED. GIVEN WITH THE SEED: THE CARDS: each row of YtmnfjbmhlabdaaaDoorRows.lean that lists a variable, with what it lists TIED to the program's text (the seventh form; the later family's looks); each row that meets fmt, with fmt's text TOLD by the authors' own Lean function (tested against real Go, not proved from fmt's source: count such statements apart). THE CARD IS WHAT COUNTS. Prove the row's statement (the work); the ties are given (YtmnfjbmhlabdaaaDoorTie.lean); close each card by the builder's one call (the guide's Derived/Test/ToyasCard.lean, 'card_holds'). Laid BY PROGRAM, IN A SANDBOX (cutbox-door.mjs). By AI agents, Wed Nov 11 2026. No macro, syntax, notation, axiom, sorry.
-/
import Derived.Test.YtmnfjbmhlabdaaaDoorRows
import GoSem.ClaimSeven
namespace Go.Proofs.YtmnfjbmhlabdaaaDoor
namespace Rows

/-- THE TIED CARD OF 'provenderlaw2.PurlReadMatchesSpec'. -/
def purlReadMatchesSpecCard : Claim7 := { stood := { row := purlReadMatchesSpecRow, standIns := [], harness := (true, "f9709c33a38e29095cabb800f7cfc0ccecfc1485d1cbd7bad67463fc15e51cf3"), looks := false }, kinds := [], alts := [], laidByText := true, laidKinds := [.data, .pinned], laidTests := true, laidLooks := .later }
def PurlReadMatchesSpecCardSaid : Prop := Claim7.holds Tryd.pinned (.plain (OpenSpec.ofChange purlReadMatchesSpecSpec)) purlReadMatchesSpecCard

/-- THE TIED CARD OF 'provenderlaw2.PurlTextsComeBack'. -/
def purlTextsComeBackCard : Claim7 := { stood := { row := purlTextsComeBackRow, standIns := [], harness := (true, "f9709c33a38e29095cabb800f7cfc0ccecfc1485d1cbd7bad67463fc15e51cf3"), looks := false }, kinds := [], alts := [], laidByText := true, laidKinds := [.data, .pinned], laidTests := true, laidLooks := .later }
def PurlTextsComeBackCardSaid : Prop := Claim7.holds Tryd.pinned (.plain (OpenSpec.ofChange purlTextsComeBackSpec)) purlTextsComeBackCard

/-- THE TIED CARD OF 'provenderlaw2.PurlKindsMatchSpec'. -/
def purlKindsMatchSpecCard : Claim7 := { stood := { row := purlKindsMatchSpecRow, standIns := [], harness := (true, "f9709c33a38e29095cabb800f7cfc0ccecfc1485d1cbd7bad67463fc15e51cf3"), looks := false }, kinds := [], alts := [], laidByText := true, laidKinds := [.data, .pinned], laidTests := true, laidLooks := .later }
def PurlKindsMatchSpecCardSaid : Prop := Claim7.holds Tryd.pinned (.plain (OpenSpec.ofChange purlKindsMatchSpecSpec)) purlKindsMatchSpecCard

/-- THE TIED CARD OF 'provenderlaw2.PurlCanonicalMatchesSpec'. -/
def purlCanonicalMatchesSpecCard : Claim7 := { stood := { row := purlCanonicalMatchesSpecRow, standIns := [], harness := (true, "f9709c33a38e29095cabb800f7cfc0ccecfc1485d1cbd7bad67463fc15e51cf3"), looks := false }, kinds := [], alts := [], laidByText := true, laidKinds := [.data, .pinned], laidTests := true, laidLooks := .later }
def PurlCanonicalMatchesSpecCardSaid : Prop := Claim7.holds Tryd.pinned (.plain (OpenSpec.ofChange purlCanonicalMatchesSpecSpec)) purlCanonicalMatchesSpecCard

/-- THE TIED CARD OF 'provenderlaw2.PurlChangesMatchSpec'. -/
def purlChangesMatchSpecCard : Claim7 := { stood := { row := purlChangesMatchSpecRow, standIns := [], harness := (true, "f9709c33a38e29095cabb800f7cfc0ccecfc1485d1cbd7bad67463fc15e51cf3"), looks := false }, kinds := [], alts := [], laidByText := true, laidKinds := [.data, .pinned], laidTests := true, laidLooks := .later }
def PurlChangesMatchSpecCardSaid : Prop := Claim7.holds Tryd.pinned (.plain (OpenSpec.ofChange purlChangesMatchSpecSpec)) purlChangesMatchSpecCard

/-- THE TIED CARD OF 'provenderlaw2.PurlSpellingsMatchAlike'. -/
def purlSpellingsMatchAlikeCard : Claim7 := { stood := { row := purlSpellingsMatchAlikeRow, standIns := [], harness := (true, "f9709c33a38e29095cabb800f7cfc0ccecfc1485d1cbd7bad67463fc15e51cf3"), looks := false }, kinds := [], alts := [], laidByText := true, laidKinds := [.data, .pinned], laidTests := true, laidLooks := .later }
def PurlSpellingsMatchAlikeCardSaid : Prop := Claim7.holds Tryd.pinned (.plain (OpenSpec.ofChange purlSpellingsMatchAlikeSpec)) purlSpellingsMatchAlikeCard

/-- THE TIED CARD OF 'provenderlaw2.PurlDigestsMatchSpec'. -/
def purlDigestsMatchSpecCard : Claim7 := { stood := { row := purlDigestsMatchSpecRow, standIns := [], harness := (true, "f9709c33a38e29095cabb800f7cfc0ccecfc1485d1cbd7bad67463fc15e51cf3"), looks := false }, kinds := [], alts := [], laidByText := true, laidKinds := [.data, .data, .data, .data, .pinned], laidTests := true, laidLooks := .later }
def PurlDigestsMatchSpecCardSaid : Prop := Claim7.holds Tryd.pinned (.plain (OpenSpec.ofChange purlDigestsMatchSpecSpec)) purlDigestsMatchSpecCard

/-- THE SECOND FORM's CARD OF 'provenderlaw2.PurlReadMatchesSpec'. -/
def purlReadMatchesSpecUptoCard : Claim7 := { stood := { row := purlReadMatchesSpecUptoRow, standIns := [], harness := (true, "f9709c33a38e29095cabb800f7cfc0ccecfc1485d1cbd7bad67463fc15e51cf3"), looks := false }, kinds := [], alts := [], laidByText := true, laidKinds := [.data, .pinned], laidTests := true, laidLooks := .later }
def PurlReadMatchesSpecUptoCardSaid : Prop := Claim7.holds Tryd.pinned (.plain (OpenSpec.upto purlReadMatchesSpecSpec)) purlReadMatchesSpecUptoCard

/-- THE SECOND FORM's CARD OF 'provenderlaw2.PurlTextsComeBack'. -/
def purlTextsComeBackUptoCard : Claim7 := { stood := { row := purlTextsComeBackUptoRow, standIns := [], harness := (true, "f9709c33a38e29095cabb800f7cfc0ccecfc1485d1cbd7bad67463fc15e51cf3"), looks := false }, kinds := [], alts := [], laidByText := true, laidKinds := [.data, .pinned], laidTests := true, laidLooks := .later }
def PurlTextsComeBackUptoCardSaid : Prop := Claim7.holds Tryd.pinned (.plain (OpenSpec.upto purlTextsComeBackSpec)) purlTextsComeBackUptoCard

/-- THE SECOND FORM's CARD OF 'provenderlaw2.PurlKindsMatchSpec'. -/
def purlKindsMatchSpecUptoCard : Claim7 := { stood := { row := purlKindsMatchSpecUptoRow, standIns := [], harness := (true, "f9709c33a38e29095cabb800f7cfc0ccecfc1485d1cbd7bad67463fc15e51cf3"), looks := false }, kinds := [], alts := [], laidByText := true, laidKinds := [.data, .pinned], laidTests := true, laidLooks := .later }
def PurlKindsMatchSpecUptoCardSaid : Prop := Claim7.holds Tryd.pinned (.plain (OpenSpec.upto purlKindsMatchSpecSpec)) purlKindsMatchSpecUptoCard

/-- THE SECOND FORM's CARD OF 'provenderlaw2.PurlCanonicalMatchesSpec'. -/
def purlCanonicalMatchesSpecUptoCard : Claim7 := { stood := { row := purlCanonicalMatchesSpecUptoRow, standIns := [], harness := (true, "f9709c33a38e29095cabb800f7cfc0ccecfc1485d1cbd7bad67463fc15e51cf3"), looks := false }, kinds := [], alts := [], laidByText := true, laidKinds := [.data, .pinned], laidTests := true, laidLooks := .later }
def PurlCanonicalMatchesSpecUptoCardSaid : Prop := Claim7.holds Tryd.pinned (.plain (OpenSpec.upto purlCanonicalMatchesSpecSpec)) purlCanonicalMatchesSpecUptoCard

/-- THE SECOND FORM's CARD OF 'provenderlaw2.PurlChangesMatchSpec'. -/
def purlChangesMatchSpecUptoCard : Claim7 := { stood := { row := purlChangesMatchSpecUptoRow, standIns := [], harness := (true, "f9709c33a38e29095cabb800f7cfc0ccecfc1485d1cbd7bad67463fc15e51cf3"), looks := false }, kinds := [], alts := [], laidByText := true, laidKinds := [.data, .pinned], laidTests := true, laidLooks := .later }
def PurlChangesMatchSpecUptoCardSaid : Prop := Claim7.holds Tryd.pinned (.plain (OpenSpec.upto purlChangesMatchSpecSpec)) purlChangesMatchSpecUptoCard

/-- THE SECOND FORM's CARD OF 'provenderlaw2.PurlSpellingsMatchAlike'. -/
def purlSpellingsMatchAlikeUptoCard : Claim7 := { stood := { row := purlSpellingsMatchAlikeUptoRow, standIns := [], harness := (true, "f9709c33a38e29095cabb800f7cfc0ccecfc1485d1cbd7bad67463fc15e51cf3"), looks := false }, kinds := [], alts := [], laidByText := true, laidKinds := [.data, .pinned], laidTests := true, laidLooks := .later }
def PurlSpellingsMatchAlikeUptoCardSaid : Prop := Claim7.holds Tryd.pinned (.plain (OpenSpec.upto purlSpellingsMatchAlikeSpec)) purlSpellingsMatchAlikeUptoCard

/-- THE SECOND FORM's CARD OF 'provenderlaw2.PurlDigestsMatchSpec'. -/
def purlDigestsMatchSpecUptoCard : Claim7 := { stood := { row := purlDigestsMatchSpecUptoRow, standIns := [], harness := (true, "f9709c33a38e29095cabb800f7cfc0ccecfc1485d1cbd7bad67463fc15e51cf3"), looks := false }, kinds := [], alts := [], laidByText := true, laidKinds := [.data, .data, .data, .data, .pinned], laidTests := true, laidLooks := .later }
def PurlDigestsMatchSpecUptoCardSaid : Prop := Claim7.holds Tryd.pinned (.plain (OpenSpec.upto purlDigestsMatchSpecSpec)) purlDigestsMatchSpecUptoCard
end Rows
end Go.Proofs.YtmnfjbmhlabdaaaDoor
