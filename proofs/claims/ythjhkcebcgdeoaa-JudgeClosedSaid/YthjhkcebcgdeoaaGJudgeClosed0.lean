namespace Go.Proofs.Ythjhkcebcgdeoaa.Plain

end Go.Proofs.Ythjhkcebcgdeoaa.Plain
